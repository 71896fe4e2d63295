/- The pure texts of this claim, its functions behind all rounds among them, and small steps. Conditions stand in each theorem. -/
import Derived.Test.YtocmifmelgghdaaPAx9
import Derived.Test.YtocmifmelgghdaaLim
import Derived.Test.YtocmifmelgghdaaPAx0
import Derived.Test.YtocmifmelgghdaaPAx2
import Derived.Test.YtocmifmelgghdaaPAx1
import Derived.Test.YtocmifmelgghdaaPAx7
import Derived.Test.YtocmifmelgghdaaPAx3
import Derived.Test.YtocmifmelgghdaaPAx4
import Derived.Test.YtocmifmelgghdaaPAx6
import Derived.Test.YtocmifmelgghdaaPAx5
import Derived.Test.YtocmifmelgghdaaPAx8
import Derived.Test.YtocmifmelgghdaaPAx10
section
namespace Go.Proofs.Ytocmifmelgghdaa.PA
open Go.RowKit Go.Proofs.YtocmifmelgghdaaW.PrintWords Go.Proofs.YtocmifmelgghdaaW.PrintLast Go.Proofs.YtocmifmelgghdaaW.PrintMore
open Go.Proofs.YtocmifmelgghdaaW.EvKit
set_option linter.unusedVariables false
end Go.Proofs.Ytocmifmelgghdaa.PA
end
section
namespace Go.Proofs.Ytocmifmelgghdaa.PA
open Go.RowKit Go.Proofs.YtocmifmelgghdaaW.PrintWords Go.Proofs.YtocmifmelgghdaaW.PrintLast Go.Proofs.YtocmifmelgghdaaW.PrintMore
open Go.Proofs.YtocmifmelgghdaaW.EvKit
set_option linter.unusedVariables false
noncomputable def choice_Middle.L0 (x0 : List Int) (x4 : Int) (x12 : List Int) (x13 : Int) (x14 : Int) : Option (List Int × Int) := lim (fun k => choice_Middle.l0 k x0 x4 x12 x13 x14)
theorem choice_Middle.L0_is (x0 : List Int) (x4 : Int) (x12 : List Int) (x13 : Int) (x14 : Int) : LimIs (fun k => choice_Middle.l0 k x0 x4 x12 x13 x14) (choice_Middle.L0 x0 x4 x12 x13 x14) := ⟨fun k => (choice_Middle.mono_l k).1 x0 x4 x12 x13 x14, rfl⟩
noncomputable def choice_Middle.L1 (x4 : Int) (x7 : List Int) (x8 : Int) (x31 : List Int) (x32 : Int) (x33 : Int) : Option (List Int × Int) := lim (fun k => choice_Middle.l1 k x4 x7 x8 x31 x32 x33)
theorem choice_Middle.L1_is (x4 : Int) (x7 : List Int) (x8 : Int) (x31 : List Int) (x32 : Int) (x33 : Int) : LimIs (fun k => choice_Middle.l1 k x4 x7 x8 x31 x32 x33) (choice_Middle.L1 x4 x7 x8 x31 x32 x33) := ⟨fun k => (choice_Middle.mono_l k).2 x4 x7 x8 x31 x32 x33, rfl⟩
noncomputable def choice_Middle.F (l0 : List Int) : Option (List Int × Int) := lim (fun k => choice_Middle.f k l0)
theorem choice_Middle.F_is (l0 : List Int) : LimIs (fun k => choice_Middle.f k l0) (choice_Middle.F l0) := ⟨fun k => choice_Middle.mono l0 k, rfl⟩
set_option maxRecDepth 100000 in
theorem choice_Middle.L0_eq (x0 : List Int) (x4 : Int) (x12 : List Int) (x13 : Int) (x14 : Int) : choice_Middle.L0 x0 x4 x12 x13 x14 = if x14 < x13 then (if 0 ≤ x14 then (if x14 < (x12.length : Int) then (if (rd x12 x14) < 0 then (some (([] : List Int), 3)) else (if (rd x12 x14) > 4096 then (some (([] : List Int), 3)) else (choice_Middle.L0 x0 (wrap64 (x4 + (rd x12 x14))) x12 x13 (wrap64 (x14 + 1))))) else (none)) else (none)) else (if (x0.length : Int) > 4096 then (some (([] : List Int), 5)) else (choice_Middle.L1 x4 ([] : List Int) 0 x0 (x0.length : Int) 0)) := by
  refine LimIs.step' (choice_Middle.L0_is x0 x4 x12 x13 x14).1 (b := fun k => if x14 < x13 then (if 0 ≤ x14 then (if x14 < (x12.length : Int) then (if (rd x12 x14) < 0 then (some (([] : List Int), 3)) else (if (rd x12 x14) > 4096 then (some (([] : List Int), 3)) else (choice_Middle.l0 k x0 (wrap64 (x4 + (rd x12 x14))) x12 x13 (wrap64 (x14 + 1))))) else (none)) else (none)) else (if (x0.length : Int) > 4096 then (some (([] : List Int), 5)) else (choice_Middle.l1 k x4 ([] : List Int) 0 x0 (x0.length : Int) 0))) (fun k => by first | rfl | rw [choice_Middle.l0]) ?_
  repeat' first
    | (with_reducible exact choice_Middle.L0_is _ _ _ _ _)
    | (with_reducible exact choice_Middle.L1_is _ _ _ _ _ _)
    | (with_reducible exact LimIs.const _)
    | (with_reducible refine LimIs.ite ?_ ?_)
    | (with_reducible refine LimIs.bind ?_ (fun _ => ?_))
    | exact choice_Middle.L0_is _ _ _ _ _
    | exact choice_Middle.L1_is _ _ _ _ _ _
    | exact LimIs.const _
    | refine LimIs.ite ?_ ?_
    | refine LimIs.bind ?_ (fun _ => ?_)
set_option maxRecDepth 100000 in
theorem choice_Middle.L1_eq (x4 : Int) (x7 : List Int) (x8 : Int) (x31 : List Int) (x32 : Int) (x33 : Int) : choice_Middle.L1 x4 x7 x8 x31 x32 x33 = if x33 < x32 then (if 0 ≤ x33 then (if x33 < (x31.length : Int) then (if x7.length < 17592186044416 then (choice_Middle.L1 x4 (x7 ++ [wrap64 (-(mx 0 (wrap64 ((wrap64 ((mx x8 (wrap64 ((wrap64 (x4 - x8)) - (rd x31 x33)))) - (mn x8 (wrap64 ((wrap64 (x4 - x8)) - (rd x31 x33)))))) - (rd x31 x33)))))]) (wrap64 (x8 + (rd x31 x33))) x31 x32 (wrap64 (x33 + 1))) else (none)) else (none)) else (none)) else (some (x7, 0)) := by
  refine LimIs.step' (choice_Middle.L1_is x4 x7 x8 x31 x32 x33).1 (b := fun k => if x33 < x32 then (if 0 ≤ x33 then (if x33 < (x31.length : Int) then (if x7.length < 17592186044416 then (choice_Middle.l1 k x4 (x7 ++ [wrap64 (-(mx 0 (wrap64 ((wrap64 ((mx x8 (wrap64 ((wrap64 (x4 - x8)) - (rd x31 x33)))) - (mn x8 (wrap64 ((wrap64 (x4 - x8)) - (rd x31 x33)))))) - (rd x31 x33)))))]) (wrap64 (x8 + (rd x31 x33))) x31 x32 (wrap64 (x33 + 1))) else (none)) else (none)) else (none)) else (some (x7, 0))) (fun k => by first | rfl | rw [choice_Middle.l1]) ?_
  repeat' first
    | (with_reducible exact choice_Middle.L1_is _ _ _ _ _ _)
    | (with_reducible exact LimIs.const _)
    | (with_reducible refine LimIs.ite ?_ ?_)
    | (with_reducible refine LimIs.bind ?_ (fun _ => ?_))
    | exact choice_Middle.L1_is _ _ _ _ _ _
    | exact LimIs.const _
    | refine LimIs.ite ?_ ?_
    | refine LimIs.bind ?_ (fun _ => ?_)
set_option maxRecDepth 100000 in
theorem choice_Middle.F_eq (l0 : List Int) : choice_Middle.F l0 = choice_Middle.L0 l0 0 l0 (l0.length : Int) 0 := by
  refine LimIs.out (?_ : LimIs (fun k => choice_Middle.l0 k l0 0 l0 (l0.length : Int) 0) _)
  repeat' first
    | (with_reducible exact choice_Middle.L0_is _ _ _ _ _)
    | (with_reducible exact LimIs.const _)
    | (with_reducible refine LimIs.ite ?_ ?_)
    | (with_reducible refine LimIs.bind ?_ (fun _ => ?_))
    | exact choice_Middle.L0_is _ _ _ _ _
    | exact LimIs.const _
    | refine LimIs.ite ?_ ?_
    | refine LimIs.bind ?_ (fun _ => ?_)
end Go.Proofs.Ytocmifmelgghdaa.PA
end
section
namespace Go.Proofs.Ytocmifmelgghdaa.MidPure
set_option linter.unusedVariables false
set_option linter.unusedSimpArgs false
open Go.RowKit Go.Proofs.Ytocmifmelgghdaa.PA Go.Proofs.YtocmifmelgghdaaW.PrintWords Go.Proofs.YtocmifmelgghdaaW.PrintLast Go.Proofs.YtocmifmelgghdaaW.PrintMore Go.Proofs.YtocmifmelgghdaaW.EvKit
theorem w1 {i : Nat} (h : i < 4611686018427387904) : wrap64 ((i : Int) + 1) = ((i + 1 : Nat) : Int) := by rw [wrap64_of (by omega) (by omega)]; rfl
def pre (xs : List Int) : Nat → Int
  | 0 => 0
  | i + 1 => pre xs i + rd xs (i : Int)
def okAt (xs : List Int) (n : Nat) : Prop := ∀ i : Nat, i < n → 0 ≤ rd xs (i : Int) ∧ rd xs (i : Int) ≤ 4096
theorem pre_bd {xs : List Int} : ∀ (n : Nat), okAt xs n → 0 ≤ pre xs n ∧ pre xs n ≤ 4096 * (n : Int)
  | 0, _ => ⟨Int.le_refl 0, by show (0 : Int) ≤ 4096 * 0; omega⟩
  | n + 1, h => by
    have h1 := pre_bd n (fun i hi => h i (by omega))
    have h2 := h n (by omega)
    rw [pre]
    omega
theorem pre_mono {xs : List Int} {n : Nat} (h : okAt xs n) {i : Nat} : ∀ d, i + d ≤ n → pre xs i ≤ pre xs (i + d)
  | 0, _ => Int.le_refl _
  | d + 1, hd => by
    have h1 := pre_mono h (i := i) d (by omega)
    have h2 := h (i + d) (by omega)
    rw [← Nat.add_assoc, pre]
    omega
def sc (all below n : Int) : Int := -(mx 0 (mx below (all - below - n) - mn below (all - below - n) - n))
def midL (xs : List Int) (n i : Nat) : List Int := (List.range i).map (fun k : Nat => sc (pre xs n) (pre xs k) (rd xs (k : Int)))
theorem midL_succ (xs : List Int) (n i : Nat) : midL xs n (i + 1) = midL xs n i ++ [sc (pre xs n) (pre xs i) (rd xs (i : Int))] := by
  unfold midL; rw [List.range_succ, List.map_append]; rfl
theorem midL_len (xs : List Int) (n i : Nat) : (midL xs n i).length = i := by unfold midL; simp
theorem midL_rd (xs : List Int) {n i k : Nat} (h : k < i) : rd (midL xs n i) (k : Int) = sc (pre xs n) (pre xs k) (rd xs (k : Int)) := by
  unfold midL
  rw [show ∀ l : List Int, rd l (k : Int) = l.getD k 0 from fun l => by unfold rd; rw [Int.toNat_natCast], List.getD_eq_getElem?_getD, List.getElem?_map, List.getElem?_range h]; rfl
theorem sc_w {all below n : Int} (h0 : 0 ≤ below) (h1 : 0 ≤ n) (h2 : below + n ≤ all) (h3 : all ≤ 16777216) :
    wrap64 (-(mx 0 (wrap64 ((wrap64 ((mx below (wrap64 ((wrap64 (all - below)) - n))) - (mn below (wrap64 ((wrap64 (all - below)) - n))))) - n)))) = sc all below n := by
  rw [wrap64_of (x := all - below) (by omega) (by omega), wrap64_of (x := all - below - n) (by omega) (by omega)]
  have hm : 0 ≤ mx below (all - below - n) ∧ mx below (all - below - n) ≤ all := by unfold mx; split <;> omega
  have hn : 0 ≤ mn below (all - below - n) ∧ mn below (all - below - n) ≤ all := by unfold mn; split <;> omega
  unfold sc
  generalize mx below (all - below - n) = a at *
  generalize mn below (all - below - n) = b at *
  rw [wrap64_of (x := a - b) (by omega) (by omega), wrap64_of (x := a - b - n) (by omega) (by omega)]
  have hk : 0 ≤ mx 0 (a - b - n) ∧ mx 0 (a - b - n) ≤ 33554432 := by unfold mx; split <;> omega
  generalize mx 0 (a - b - n) = c at *
  exact wrap64_of (by omega) (by omega)
theorem mid_loop1 (xs : List Int) (hx : okAt xs xs.length) (hl : xs.length ≤ 4096) : ∀ (m i : Nat), i + m = xs.length →
    choice_Middle.L1 (pre xs xs.length) (midL xs xs.length i) (pre xs i) xs (xs.length : Int) (i : Int) = some (midL xs xs.length xs.length, 0) := by
  intro m
  have hb := pre_bd xs.length hx
  induction m with
  | zero =>
    intro i hi
    rw [choice_Middle.L1_eq, if_neg (by omega), show i = xs.length by omega]
  | succ m ih =>
    intro i hi
    have h0 := pre_bd i (fun k hk => hx k (by omega))
    have h1 := hx i (by omega)
    have h2 := pre_mono hx (i := i + 1) (xs.length - (i + 1)) (by omega)
    rw [show i + 1 + (xs.length - (i + 1)) = xs.length by omega, pre] at h2
    have hlen := midL_len xs xs.length i
    have e1 := sc_w h0.1 h1.1 h2 (by omega)
    have e2 : wrap64 (pre xs i + rd xs (i : Int)) = pre xs (i + 1) := by rw [wrap64_of (by omega) (by omega)]; rfl
    rw [choice_Middle.L1_eq, if_pos (by omega), if_pos (by omega), if_pos (by omega), if_pos (by omega), e1, e2, w1 (by omega), ← midL_succ]
    exact ih (i + 1) (by omega)
theorem mid_loop0 (xs : List Int) (hl : xs.length ≤ 1048576) : ∀ (m i : Nat), i + m = xs.length → okAt xs i →
    (∃ e, e ≠ 0 ∧ choice_Middle.L0 xs (pre xs i) xs (xs.length : Int) (i : Int) = some ([], e)) ∨
    (okAt xs xs.length ∧ xs.length ≤ 4096 ∧ choice_Middle.L0 xs (pre xs i) xs (xs.length : Int) (i : Int) = some (midL xs xs.length xs.length, 0)) := by
  intro m
  induction m with
  | zero =>
    intro i hi hok
    obtain rfl : i = xs.length := by omega
    rw [choice_Middle.L0_eq, if_neg (by omega)]
    by_cases c : (xs.length : Int) > 4096
    · rw [if_pos c]; exact .inl ⟨5, by decide, rfl⟩
    · rw [if_neg c]
      exact .inr ⟨hok, by omega, mid_loop1 xs hok (by omega) xs.length 0 (by omega)⟩
  | succ m ih =>
    intro i hi hok
    have hb := pre_bd i hok
    rw [choice_Middle.L0_eq, if_pos (by omega), if_pos (by omega), if_pos (by omega)]
    by_cases c1 : rd xs (i : Int) < 0
    · rw [if_pos c1]; exact .inl ⟨3, by decide, rfl⟩
    · rw [if_neg c1]
      by_cases c2 : rd xs (i : Int) > 4096
      · rw [if_pos c2]; exact .inl ⟨3, by decide, rfl⟩
      · have e2 : wrap64 (pre xs i + rd xs (i : Int)) = pre xs (i + 1) := by rw [wrap64_of (by omega) (by omega)]; rfl
        rw [if_neg c2, e2, w1 (by omega)]
        refine ih (i + 1) (by omega) (fun k hk => ?_)
        rcases Nat.lt_or_ge k i with h | h
        · exact hok k h
        · obtain rfl : k = i := by omega
          omega
theorem middleF (xs : List Int) (hl : xs.length ≤ 1048576) : (∃ e, e ≠ 0 ∧ choice_Middle.F xs = some ([], e)) ∨ (okAt xs xs.length ∧ xs.length ≤ 4096 ∧ choice_Middle.F xs = some (midL xs xs.length xs.length, 0)) := by
  rw [choice_Middle.F_eq]
  exact mid_loop0 xs hl xs.length 0 (by omega) (fun i hi => by omega)
theorem rd_set (xs : List Int) {at_ : Nat} (h : at_ < xs.length) (v : Int) (i : Nat) : rd (xs.set at_ v) (i : Int) = if i = at_ then v else rd xs (i : Int) := by
  unfold rd
  rw [Int.toNat_natCast, List.getD_eq_getElem?_getD, List.getD_eq_getElem?_getD, List.getElem?_set]
  by_cases c : at_ = i
  · rw [if_pos c, if_pos h, if_pos c.symm]; rfl
  · rw [if_neg c, if_neg (fun e => c e.symm)]
theorem pre_set (xs : List Int) {at_ : Nat} (h : at_ < xs.length) : ∀ i, pre (xs.set at_ (rd xs (at_ : Int) + 1)) i = pre xs i + (if at_ < i then 1 else 0)
  | 0 => by rw [if_neg (by omega)]; rfl
  | i + 1 => by
    rw [pre, pre, pre_set xs h i, rd_set xs h]
    by_cases c : i = at_
    · subst c
      rw [if_pos rfl, if_neg (by omega), if_pos (by omega)]; omega
    · rw [if_neg c]
      by_cases c2 : at_ < i
      · rw [if_pos c2, if_pos (by omega)]; omega
      · rw [if_neg c2, if_neg (by omega)]; omega
theorem sc_near {all below n b2 n2 : Int} (h0 : 0 ≤ below) (h1 : 0 ≤ n) (h2 : below + n ≤ all) (h : (b2 = below ∧ n2 = n) ∨ (b2 = below + 1 ∧ n2 = n) ∨ (b2 = below ∧ n2 = n + 1)) :
    sc all below n - sc (all + 1) b2 n2 ≤ 1 ∧ sc (all + 1) b2 n2 - sc all below n ≤ 1 ∧ sc all below n ≤ 0 := by
  unfold sc mx mn
  rcases h with ⟨rfl, rfl⟩ | ⟨rfl, rfl⟩ | ⟨rfl, rfl⟩ <;> (repeat' split) <;> omega
theorem mid_near (xs : List Int) {at_ : Nat} (ha : at_ < xs.length) (hx : okAt xs xs.length) {i : Nat} (hi : i < xs.length) {ys : List Int} (hy : ys = xs.set at_ (rd xs (at_ : Int) + 1)) :
    rd (midL xs xs.length xs.length) (i : Int) - rd (midL ys ys.length ys.length) (i : Int) ≤ 1 ∧ rd (midL ys ys.length ys.length) (i : Int) - rd (midL xs xs.length xs.length) (i : Int) ≤ 1 ∧ rd (midL xs xs.length xs.length) (i : Int) ≤ 0 := by
  have hl : ys.length = xs.length := by rw [hy]; simp
  have h0 := pre_bd i (fun k hk => hx k (by omega))
  have h1 := hx i hi
  have h2 := pre_mono hx (i := i + 1) (xs.length - (i + 1)) (by omega)
  rw [show i + 1 + (xs.length - (i + 1)) = xs.length by omega, pre] at h2
  rw [hl, midL_rd xs hi, midL_rd ys hi]
  have e1 : pre ys xs.length = pre xs xs.length + 1 := by rw [hy, pre_set xs ha, if_pos ha]
  rw [e1, hy, pre_set xs ha, rd_set xs ha]
  refine sc_near h0.1 h1.1 h2 ?_
  by_cases c : i = at_
  · subst c
    rw [if_pos rfl, if_neg (by omega)]; omega
  · rw [if_neg c]
    split <;> omega
theorem mid_bd (xs : List Int) (hx : okAt xs xs.length) (hl : xs.length ≤ 4096) {i : Nat} (hi : i < xs.length) : -33554432 ≤ rd (midL xs xs.length xs.length) (i : Int) ∧ rd (midL xs xs.length xs.length) (i : Int) ≤ 0 := by
  have hb := pre_bd xs.length hx
  have h0 := pre_bd i (fun k hk => hx k (by omega))
  have h1 := hx i hi
  have h2 := pre_mono hx (i := i + 1) (xs.length - (i + 1)) (by omega)
  rw [show i + 1 + (xs.length - (i + 1)) = xs.length by omega, pre] at h2
  rw [midL_rd xs hi]
  unfold sc mx mn
  (repeat' split) <;> omega
end Go.Proofs.Ytocmifmelgghdaa.MidPure
end
section
namespace Go.Proofs.Ytocmifmelgghdaa.PA
open Go.RowKit Go.Proofs.YtocmifmelgghdaaW.PrintWords Go.Proofs.YtocmifmelgghdaaW.PrintLast Go.Proofs.YtocmifmelgghdaaW.PrintMore
open Go.Proofs.YtocmifmelgghdaaW.EvKit
set_option linter.unusedVariables false
noncomputable def ratio_gcd.L0 (x0 : Int) (x1 : Int) : Option (Int) := lim (fun k => ratio_gcd.l0 k x0 x1)
theorem ratio_gcd.L0_is (x0 : Int) (x1 : Int) : LimIs (fun k => ratio_gcd.l0 k x0 x1) (ratio_gcd.L0 x0 x1) := ⟨fun k => (ratio_gcd.mono_l k) x0 x1, rfl⟩
noncomputable def slices_IndexFunc_int_int.L0 (x0 : List Int) (x7 : Int) (x8 : Int) : Option (Int) := lim (fun k => slices_IndexFunc_int_int.l0 k x0 x7 x8)
theorem slices_IndexFunc_int_int.L0_is (x0 : List Int) (x7 : Int) (x8 : Int) : LimIs (fun k => slices_IndexFunc_int_int.l0 k x0 x7 x8) (slices_IndexFunc_int_int.L0 x0 x7 x8) := ⟨fun k => (slices_IndexFunc_int_int.mono_l k) x0 x7 x8, rfl⟩
noncomputable def ratio_gcd.F (a0 : Int) (a1 : Int) : Option (Int) := lim (fun k => ratio_gcd.f k a0 a1)
theorem ratio_gcd.F_is (a0 : Int) (a1 : Int) : LimIs (fun k => ratio_gcd.f k a0 a1) (ratio_gcd.F a0 a1) := ⟨fun k => ratio_gcd.mono a0 a1 k, rfl⟩
noncomputable def ratio_Right.F (a0_0 : Int) (a0_1 : Int) : Option (Bool) := lim (fun k => ratio_Right.f k a0_0 a0_1)
theorem ratio_Right.F_is (a0_0 : Int) (a0_1 : Int) : LimIs (fun k => ratio_Right.f k a0_0 a0_1) (ratio_Right.F a0_0 a0_1) := ⟨fun k => ratio_Right.mono a0_0 a0_1 k, rfl⟩
noncomputable def slices_IndexFunc_int_int.F (l0 : List Int) (a1 : Int) : Option (Int) := lim (fun k => slices_IndexFunc_int_int.f k l0 a1)
theorem slices_IndexFunc_int_int.F_is (l0 : List Int) (a1 : Int) : LimIs (fun k => slices_IndexFunc_int_int.f k l0 a1) (slices_IndexFunc_int_int.F l0 a1) := ⟨fun k => slices_IndexFunc_int_int.mono l0 a1 k, rfl⟩
noncomputable def slices_ContainsFunc_int_int.F (l0 : List Int) (a1 : Int) : Option (Bool) := lim (fun k => slices_ContainsFunc_int_int.f k l0 a1)
theorem slices_ContainsFunc_int_int.F_is (l0 : List Int) (a1 : Int) : LimIs (fun k => slices_ContainsFunc_int_int.f k l0 a1) (slices_ContainsFunc_int_int.F l0 a1) := ⟨fun k => slices_ContainsFunc_int_int.mono l0 a1 k, rfl⟩
set_option maxRecDepth 100000 in
theorem ratio_gcd.L0_eq (x0 : Int) (x1 : Int) : ratio_gcd.L0 x0 x1 = if x1 = 0 then (some x0) else (ratio_gcd.L0 x1 (Int.tmod x0 x1)) := by
  refine LimIs.step' (ratio_gcd.L0_is x0 x1).1 (b := fun k => if x1 = 0 then (some x0) else (ratio_gcd.l0 k x1 (Int.tmod x0 x1))) (fun k => by first | rfl | rw [ratio_gcd.l0]) ?_
  repeat' first
    | (with_reducible exact ratio_gcd.L0_is _ _)
    | (with_reducible exact LimIs.const _)
    | (with_reducible refine LimIs.ite ?_ ?_)
    | (with_reducible refine LimIs.bind ?_ (fun _ => ?_))
    | exact ratio_gcd.L0_is _ _
    | exact LimIs.const _
    | refine LimIs.ite ?_ ?_
    | refine LimIs.bind ?_ (fun _ => ?_)
set_option maxRecDepth 100000 in
theorem slices_IndexFunc_int_int.L0_eq (x0 : List Int) (x7 : Int) (x8 : Int) : slices_IndexFunc_int_int.L0 x0 x7 x8 = if x8 < x7 then (if 0 ≤ x8 then (if x8 < (x0.length : Int) then ((dist_small_1.f (rd x0 x8)).bind fun t104 => (if t104 = true then (some x8) else (slices_IndexFunc_int_int.L0 x0 x7 (wrap64 (x8 + 1))))) else (none)) else (none)) else (some (-1)) := by
  refine LimIs.step' (slices_IndexFunc_int_int.L0_is x0 x7 x8).1 (b := fun k => if x8 < x7 then (if 0 ≤ x8 then (if x8 < (x0.length : Int) then ((dist_small_1.f (rd x0 x8)).bind fun t104 => (if t104 = true then (some x8) else (slices_IndexFunc_int_int.l0 k x0 x7 (wrap64 (x8 + 1))))) else (none)) else (none)) else (some (-1))) (fun k => by first | rfl | rw [slices_IndexFunc_int_int.l0]) ?_
  repeat' first
    | (with_reducible exact slices_IndexFunc_int_int.L0_is _ _ _)
    | (with_reducible exact LimIs.const _)
    | (with_reducible refine LimIs.ite ?_ ?_)
    | (with_reducible refine LimIs.bind ?_ (fun _ => ?_))
    | exact slices_IndexFunc_int_int.L0_is _ _ _
    | exact LimIs.const _
    | refine LimIs.ite ?_ ?_
    | refine LimIs.bind ?_ (fun _ => ?_)
set_option maxRecDepth 100000 in
theorem ratio_gcd.F_eq (a0 : Int) (a1 : Int) : ratio_gcd.F a0 a1 = ratio_gcd.L0 a0 a1 := by
  refine LimIs.out (?_ : LimIs (fun k => ratio_gcd.l0 k a0 a1) _)
  repeat' first
    | (with_reducible exact ratio_gcd.L0_is _ _)
    | (with_reducible exact LimIs.const _)
    | (with_reducible refine LimIs.ite ?_ ?_)
    | (with_reducible refine LimIs.bind ?_ (fun _ => ?_))
    | exact ratio_gcd.L0_is _ _
    | exact LimIs.const _
    | refine LimIs.ite ?_ ?_
    | refine LimIs.bind ?_ (fun _ => ?_)
set_option maxRecDepth 100000 in
theorem ratio_Right.F_eq (a0_0 : Int) (a0_1 : Int) : ratio_Right.F a0_0 a0_1 = if a0_0 ≥ 0 then (if a0_1 ≥ 1 then (if a0_0 ≤ 1073741824 then (if a0_1 ≤ 1073741824 then ((ratio_gcd.F a0_0 a0_1).bind fun t102 => (some (t102 == 1))) else (some false)) else (some false)) else (some false)) else (some false) := by
  refine LimIs.out (?_ : LimIs (fun k => if a0_0 ≥ 0 then (if a0_1 ≥ 1 then (if a0_0 ≤ 1073741824 then (if a0_1 ≤ 1073741824 then ((ratio_gcd.f k a0_0 a0_1).bind fun t102 => (some (t102 == 1))) else (some false)) else (some false)) else (some false)) else (some false)) _)
  repeat' first
    | (with_reducible exact ratio_gcd.F_is _ _)
    | (with_reducible exact LimIs.const _)
    | (with_reducible refine LimIs.ite ?_ ?_)
    | (with_reducible refine LimIs.bind ?_ (fun _ => ?_))
    | exact ratio_gcd.F_is _ _
    | exact LimIs.const _
    | refine LimIs.ite ?_ ?_
    | refine LimIs.bind ?_ (fun _ => ?_)
set_option maxRecDepth 100000 in
theorem slices_IndexFunc_int_int.F_eq (l0 : List Int) (a1 : Int) : slices_IndexFunc_int_int.F l0 a1 = slices_IndexFunc_int_int.L0 l0 (l0.length : Int) 0 := by
  refine LimIs.out (?_ : LimIs (fun k => slices_IndexFunc_int_int.l0 k l0 (l0.length : Int) 0) _)
  repeat' first
    | (with_reducible exact slices_IndexFunc_int_int.L0_is _ _ _)
    | (with_reducible exact LimIs.const _)
    | (with_reducible refine LimIs.ite ?_ ?_)
    | (with_reducible refine LimIs.bind ?_ (fun _ => ?_))
    | exact slices_IndexFunc_int_int.L0_is _ _ _
    | exact LimIs.const _
    | refine LimIs.ite ?_ ?_
    | refine LimIs.bind ?_ (fun _ => ?_)
set_option maxRecDepth 100000 in
theorem slices_ContainsFunc_int_int.F_eq (l0 : List Int) (a1 : Int) : slices_ContainsFunc_int_int.F l0 a1 = (slices_IndexFunc_int_int.F l0 a1).bind fun t105 => (some (decide (t105 ≥ 0))) := by
  refine LimIs.out (?_ : LimIs (fun k => (slices_IndexFunc_int_int.f k l0 a1).bind fun t105 => (some (decide (t105 ≥ 0)))) _)
  repeat' first
    | (with_reducible exact slices_IndexFunc_int_int.F_is _ _)
    | (with_reducible exact LimIs.const _)
    | (with_reducible refine LimIs.ite ?_ ?_)
    | (with_reducible refine LimIs.bind ?_ (fun _ => ?_))
    | exact slices_IndexFunc_int_int.F_is _ _
    | exact LimIs.const _
    | refine LimIs.ite ?_ ?_
    | refine LimIs.bind ?_ (fun _ => ?_)
end Go.Proofs.Ytocmifmelgghdaa.PA
end
section
namespace Go.Proofs.Ytocmifmelgghdaa.PA
open Go.RowKit Go.Proofs.YtocmifmelgghdaaW.PrintWords Go.Proofs.YtocmifmelgghdaaW.PrintLast Go.Proofs.YtocmifmelgghdaaW.PrintMore
open Go.Proofs.YtocmifmelgghdaaW.EvKit
set_option linter.unusedVariables false
noncomputable def slices_IndexFunc_int_int_v44.L0 (x0 : List Int) (x7 : Int) (x8 : Int) : Option (Int) := lim (fun k => slices_IndexFunc_int_int_v44.l0 k x0 x7 x8)
theorem slices_IndexFunc_int_int_v44.L0_is (x0 : List Int) (x7 : Int) (x8 : Int) : LimIs (fun k => slices_IndexFunc_int_int_v44.l0 k x0 x7 x8) (slices_IndexFunc_int_int_v44.L0 x0 x7 x8) := ⟨fun k => (slices_IndexFunc_int_int_v44.mono_l k) x0 x7 x8, rfl⟩
noncomputable def choice_look.J0 (x1 : List Int) (x25 : Bool) : Option (List Int × Int) := lim (fun k => choice_look.j0 k x1 x25)
theorem choice_look.J0_is (x1 : List Int) (x25 : Bool) : LimIs (fun k => choice_look.j0 k x1 x25) (choice_look.J0 x1 x25) := ⟨fun k => (choice_look.mono_l k).1 x1 x25, rfl⟩
noncomputable def choice_look.L0 (x6 : Int) (x7 : List Int) (x30 : List Int) (x31 : Int) (x32 : Int) : Option (List Int × Int) := lim (fun k => choice_look.l0 k x6 x7 x30 x31 x32)
theorem choice_look.L0_is (x6 : Int) (x7 : List Int) (x30 : List Int) (x31 : Int) (x32 : Int) : LimIs (fun k => choice_look.l0 k x6 x7 x30 x31 x32) (choice_look.L0 x6 x7 x30 x31 x32) := ⟨fun k => (choice_look.mono_l k).2 x6 x7 x30 x31 x32, rfl⟩
noncomputable def slices_IndexFunc_int_int_v44.F (l0 : List Int) (a1 : Int) : Option (Int) := lim (fun k => slices_IndexFunc_int_int_v44.f k l0 a1)
theorem slices_IndexFunc_int_int_v44.F_is (l0 : List Int) (a1 : Int) : LimIs (fun k => slices_IndexFunc_int_int_v44.f k l0 a1) (slices_IndexFunc_int_int_v44.F l0 a1) := ⟨fun k => slices_IndexFunc_int_int_v44.mono l0 a1 k, rfl⟩
noncomputable def slices_ContainsFunc_int_int_v44.F (l0 : List Int) (a1 : Int) : Option (Bool) := lim (fun k => slices_ContainsFunc_int_int_v44.f k l0 a1)
theorem slices_ContainsFunc_int_int_v44.F_is (l0 : List Int) (a1 : Int) : LimIs (fun k => slices_ContainsFunc_int_int_v44.f k l0 a1) (slices_ContainsFunc_int_int_v44.F l0 a1) := ⟨fun k => slices_ContainsFunc_int_int_v44.mono l0 a1 k, rfl⟩
noncomputable def choice_look.F (a0_0 : Int) (a0_1 : Int) (l1 : List Int) : Option (List Int × Int) := lim (fun k => choice_look.f k a0_0 a0_1 l1)
theorem choice_look.F_is (a0_0 : Int) (a0_1 : Int) (l1 : List Int) : LimIs (fun k => choice_look.f k a0_0 a0_1 l1) (choice_look.F a0_0 a0_1 l1) := ⟨fun k => choice_look.mono a0_0 a0_1 l1 k, rfl⟩
set_option maxRecDepth 100000 in
theorem slices_IndexFunc_int_int_v44.L0_eq (x0 : List Int) (x7 : Int) (x8 : Int) : slices_IndexFunc_int_int_v44.L0 x0 x7 x8 = if x8 < x7 then (if 0 ≤ x8 then (if x8 < (x0.length : Int) then ((choice_look_1.f (rd x0 x8)).bind fun t104 => (if t104 = true then (some x8) else (slices_IndexFunc_int_int_v44.L0 x0 x7 (wrap64 (x8 + 1))))) else (none)) else (none)) else (some (-1)) := by
  refine LimIs.step' (slices_IndexFunc_int_int_v44.L0_is x0 x7 x8).1 (b := fun k => if x8 < x7 then (if 0 ≤ x8 then (if x8 < (x0.length : Int) then ((choice_look_1.f (rd x0 x8)).bind fun t104 => (if t104 = true then (some x8) else (slices_IndexFunc_int_int_v44.l0 k x0 x7 (wrap64 (x8 + 1))))) else (none)) else (none)) else (some (-1))) (fun k => by first | rfl | rw [slices_IndexFunc_int_int_v44.l0]) ?_
  repeat' first
    | (with_reducible exact slices_IndexFunc_int_int_v44.L0_is _ _ _)
    | (with_reducible exact LimIs.const _)
    | (with_reducible refine LimIs.ite ?_ ?_)
    | (with_reducible refine LimIs.bind ?_ (fun _ => ?_))
    | exact slices_IndexFunc_int_int_v44.L0_is _ _ _
    | exact LimIs.const _
    | refine LimIs.ite ?_ ?_
    | refine LimIs.bind ?_ (fun _ => ?_)
set_option maxRecDepth 100000 in
theorem choice_look.J0_eq (x1 : List Int) (x25 : Bool) : choice_look.J0 x1 x25 = if x25 = true then (some (([] : List Int), 5)) else ((slices_ContainsFunc_int_int_v44.F x1 990000044).bind fun t108 => (if t108 = true then (some (([] : List Int), 3)) else ((slices_Max_int_int.f x1).bind fun t109 => (choice_look.L0 t109 ([] : List Int) x1 (x1.length : Int) 0)))) := by
  refine LimIs.step' (choice_look.J0_is x1 x25).1 (b := fun k => if x25 = true then (some (([] : List Int), 5)) else ((slices_ContainsFunc_int_int_v44.f k x1 990000044).bind fun t108 => (if t108 = true then (some (([] : List Int), 3)) else ((slices_Max_int_int.f x1).bind fun t109 => (choice_look.l0 k t109 ([] : List Int) x1 (x1.length : Int) 0))))) (fun k => by first | rfl | rw [choice_look.j0]) ?_
  repeat' first
    | (with_reducible exact slices_ContainsFunc_int_int_v44.F_is _ _)
    | (with_reducible exact choice_look.L0_is _ _ _ _ _)
    | (with_reducible exact LimIs.const _)
    | (with_reducible refine LimIs.ite ?_ ?_)
    | (with_reducible refine LimIs.bind ?_ (fun _ => ?_))
    | exact slices_ContainsFunc_int_int_v44.F_is _ _
    | exact choice_look.L0_is _ _ _ _ _
    | exact LimIs.const _
    | refine LimIs.ite ?_ ?_
    | refine LimIs.bind ?_ (fun _ => ?_)
set_option maxRecDepth 100000 in
theorem choice_look.L0_eq (x6 : Int) (x7 : List Int) (x30 : List Int) (x31 : Int) (x32 : Int) : choice_look.L0 x6 x7 x30 x31 x32 = if x32 < x31 then (if 0 ≤ x32 then (if x32 < (x30.length : Int) then (if (wrap64 (x6 - (rd x30 x32))) > 64 then (some (([] : List Int), 3)) else (if x7.length < 17592186044416 then (choice_look.L0 x6 (x7 ++ [wrap64 (x6 - (rd x30 x32))]) x30 x31 (wrap64 (x32 + 1))) else (none))) else (none)) else (none)) else (some (x7, 0)) := by
  refine LimIs.step' (choice_look.L0_is x6 x7 x30 x31 x32).1 (b := fun k => if x32 < x31 then (if 0 ≤ x32 then (if x32 < (x30.length : Int) then (if (wrap64 (x6 - (rd x30 x32))) > 64 then (some (([] : List Int), 3)) else (if x7.length < 17592186044416 then (choice_look.l0 k x6 (x7 ++ [wrap64 (x6 - (rd x30 x32))]) x30 x31 (wrap64 (x32 + 1))) else (none))) else (none)) else (none)) else (some (x7, 0))) (fun k => by first | rfl | rw [choice_look.l0]) ?_
  repeat' first
    | (with_reducible exact choice_look.L0_is _ _ _ _ _)
    | (with_reducible exact LimIs.const _)
    | (with_reducible refine LimIs.ite ?_ ?_)
    | (with_reducible refine LimIs.bind ?_ (fun _ => ?_))
    | exact choice_look.L0_is _ _ _ _ _
    | exact LimIs.const _
    | refine LimIs.ite ?_ ?_
    | refine LimIs.bind ?_ (fun _ => ?_)
set_option maxRecDepth 100000 in
theorem slices_IndexFunc_int_int_v44.F_eq (l0 : List Int) (a1 : Int) : slices_IndexFunc_int_int_v44.F l0 a1 = slices_IndexFunc_int_int_v44.L0 l0 (l0.length : Int) 0 := by
  refine LimIs.out (?_ : LimIs (fun k => slices_IndexFunc_int_int_v44.l0 k l0 (l0.length : Int) 0) _)
  repeat' first
    | (with_reducible exact slices_IndexFunc_int_int_v44.L0_is _ _ _)
    | (with_reducible exact LimIs.const _)
    | (with_reducible refine LimIs.ite ?_ ?_)
    | (with_reducible refine LimIs.bind ?_ (fun _ => ?_))
    | exact slices_IndexFunc_int_int_v44.L0_is _ _ _
    | exact LimIs.const _
    | refine LimIs.ite ?_ ?_
    | refine LimIs.bind ?_ (fun _ => ?_)
set_option maxRecDepth 100000 in
theorem slices_ContainsFunc_int_int_v44.F_eq (l0 : List Int) (a1 : Int) : slices_ContainsFunc_int_int_v44.F l0 a1 = (slices_IndexFunc_int_int_v44.F l0 a1).bind fun t105 => (some (decide (t105 ≥ 0))) := by
  refine LimIs.out (?_ : LimIs (fun k => (slices_IndexFunc_int_int_v44.f k l0 a1).bind fun t105 => (some (decide (t105 ≥ 0)))) _)
  repeat' first
    | (with_reducible exact slices_IndexFunc_int_int_v44.F_is _ _)
    | (with_reducible exact LimIs.const _)
    | (with_reducible refine LimIs.ite ?_ ?_)
    | (with_reducible refine LimIs.bind ?_ (fun _ => ?_))
    | exact slices_IndexFunc_int_int_v44.F_is _ _
    | exact LimIs.const _
    | refine LimIs.ite ?_ ?_
    | refine LimIs.bind ?_ (fun _ => ?_)
set_option maxRecDepth 100000 in
theorem choice_look.F_eq (a0_0 : Int) (a0_1 : Int) (l1 : List Int) : choice_look.F a0_0 a0_1 l1 = (ratio_Right.F a0_0 a0_1).bind fun t107 => (if t107 = true then (if a0_0 < a0_1 then (some (([] : List Int), 3)) else (if (l1.length : Int) = 0 then (choice_look.J0 l1 true) else (choice_look.J0 l1 (decide ((l1.length : Int) > 8))))) else (some (([] : List Int), 2))) := by
  refine LimIs.out (?_ : LimIs (fun k => (ratio_Right.f k a0_0 a0_1).bind fun t107 => (if t107 = true then (if a0_0 < a0_1 then (some (([] : List Int), 3)) else (if (l1.length : Int) = 0 then (choice_look.j0 k l1 true) else (choice_look.j0 k l1 (decide ((l1.length : Int) > 8))))) else (some (([] : List Int), 2)))) _)
  repeat' first
    | (with_reducible exact ratio_Right.F_is _ _)
    | (with_reducible exact choice_look.J0_is _ _)
    | (with_reducible exact LimIs.const _)
    | (with_reducible refine LimIs.ite ?_ ?_)
    | (with_reducible refine LimIs.bind ?_ (fun _ => ?_))
    | exact ratio_Right.F_is _ _
    | exact choice_look.J0_is _ _
    | exact LimIs.const _
    | refine LimIs.ite ?_ ?_
    | refine LimIs.bind ?_ (fun _ => ?_)
end Go.Proofs.Ytocmifmelgghdaa.PA
end
section
namespace Go.Proofs.Ytocmifmelgghdaa.PA
open Go.RowKit Go.Proofs.YtocmifmelgghdaaW.PrintWords Go.Proofs.YtocmifmelgghdaaW.PrintLast Go.Proofs.YtocmifmelgghdaaW.PrintMore
open Go.Proofs.YtocmifmelgghdaaW.EvKit
set_option linter.unusedVariables false
noncomputable def choice_times.L0 (x3 : Int) (x6 : List Int) (x7 : Int) (x8 : Int) : Option (Int) := lim (fun k => choice_times.l0 k x3 x6 x7 x8)
theorem choice_times.L0_is (x3 : Int) (x6 : List Int) (x7 : Int) (x8 : Int) : LimIs (fun k => choice_times.l0 k x3 x6 x7 x8) (choice_times.L0 x3 x6 x7 x8) := ⟨fun k => (choice_times.mono_l k) x3 x6 x7 x8, rfl⟩
noncomputable def choice_times.F (l0 : List Int) : Option (Int) := lim (fun k => choice_times.f k l0)
theorem choice_times.F_is (l0 : List Int) : LimIs (fun k => choice_times.f k l0) (choice_times.F l0) := ⟨fun k => choice_times.mono l0 k, rfl⟩
noncomputable def choice_power.F (a0 : Int) (a1 : Int) : Option (Int) := lim (fun k => choice_power.f k a0 a1)
theorem choice_power.F_is (a0 : Int) (a1 : Int) : LimIs (fun k => choice_power.f k a0 a1) (choice_power.F a0 a1) := ⟨fun k => choice_power.mono a0 a1 k, rfl⟩
set_option maxRecDepth 100000 in
theorem choice_times.L0_eq (x3 : Int) (x6 : List Int) (x7 : Int) (x8 : Int) : choice_times.L0 x3 x6 x7 x8 = if x8 < x7 then (if 0 ≤ x8 then (if x8 < (x6.length : Int) then (if (wrap64 (x3 * (rd x6 x8))) > 1073741824 then (some 1073741825) else (choice_times.L0 (wrap64 (x3 * (rd x6 x8))) x6 x7 (wrap64 (x8 + 1)))) else (none)) else (none)) else (some x3) := by
  refine LimIs.step' (choice_times.L0_is x3 x6 x7 x8).1 (b := fun k => if x8 < x7 then (if 0 ≤ x8 then (if x8 < (x6.length : Int) then (if (wrap64 (x3 * (rd x6 x8))) > 1073741824 then (some 1073741825) else (choice_times.l0 k (wrap64 (x3 * (rd x6 x8))) x6 x7 (wrap64 (x8 + 1)))) else (none)) else (none)) else (some x3)) (fun k => by first | rfl | rw [choice_times.l0]) ?_
  repeat' first
    | (with_reducible exact choice_times.L0_is _ _ _ _)
    | (with_reducible exact LimIs.const _)
    | (with_reducible refine LimIs.ite ?_ ?_)
    | (with_reducible refine LimIs.bind ?_ (fun _ => ?_))
    | exact choice_times.L0_is _ _ _ _
    | exact LimIs.const _
    | refine LimIs.ite ?_ ?_
    | refine LimIs.bind ?_ (fun _ => ?_)
set_option maxRecDepth 100000 in
theorem choice_times.F_eq (l0 : List Int) : choice_times.F l0 = choice_times.L0 1 l0 (l0.length : Int) 0 := by
  refine LimIs.out (?_ : LimIs (fun k => choice_times.l0 k 1 l0 (l0.length : Int) 0) _)
  repeat' first
    | (with_reducible exact choice_times.L0_is _ _ _ _)
    | (with_reducible exact LimIs.const _)
    | (with_reducible refine LimIs.ite ?_ ?_)
    | (with_reducible refine LimIs.bind ?_ (fun _ => ?_))
    | exact choice_times.L0_is _ _ _ _
    | exact LimIs.const _
    | refine LimIs.ite ?_ ?_
    | refine LimIs.bind ?_ (fun _ => ?_)
set_option maxRecDepth 100000 in
theorem choice_power.F_eq (a0 : Int) (a1 : Int) : choice_power.F a0 a1 = (slices_Repeat_int_int.f (([a0] : List Int)) a1).bind fun t120 => ((choice_times.F t120).bind fun t123 => (some t123)) := by
  refine LimIs.out (?_ : LimIs (fun k => (slices_Repeat_int_int.f (([a0] : List Int)) a1).bind fun t120 => ((choice_times.f k t120).bind fun t123 => (some t123))) _)
  repeat' first
    | (with_reducible exact choice_times.F_is _)
    | (with_reducible exact LimIs.const _)
    | (with_reducible refine LimIs.ite ?_ ?_)
    | (with_reducible refine LimIs.bind ?_ (fun _ => ?_))
    | exact choice_times.F_is _
    | exact LimIs.const _
    | refine LimIs.ite ?_ ?_
    | refine LimIs.bind ?_ (fun _ => ?_)
end Go.Proofs.Ytocmifmelgghdaa.PA
end
section
namespace Go.Proofs.Ytocmifmelgghdaa.PA
open Go.RowKit Go.Proofs.YtocmifmelgghdaaW.PrintWords Go.Proofs.YtocmifmelgghdaaW.PrintLast Go.Proofs.YtocmifmelgghdaaW.PrintMore
open Go.Proofs.YtocmifmelgghdaaW.EvKit
set_option linter.unusedVariables false
noncomputable def dist_gcd.L0 (x0 : Int) (x1 : Int) : Option (Int) := lim (fun k => dist_gcd.l0 k x0 x1)
theorem dist_gcd.L0_is (x0 : Int) (x1 : Int) : LimIs (fun k => dist_gcd.l0 k x0 x1) (dist_gcd.L0 x0 x1) := ⟨fun k => (dist_gcd.mono_l k) x0 x1, rfl⟩
noncomputable def dist_total.L0 (x3 : Int) (x6 : List (S57)) (x7 : Int) (x8 : Int) : Option (Int) := lim (fun k => dist_total.l0 k x3 x6 x7 x8)
theorem dist_total.L0_is (x3 : Int) (x6 : List (S57)) (x7 : Int) (x8 : Int) : LimIs (fun k => dist_total.l0 k x3 x6 x7 x8) (dist_total.L0 x3 x6 x7 x8) := ⟨fun k => (dist_total.mono_l k) x3 x6 x7 x8, rfl⟩
noncomputable def dist_small.F (l0 : List Int) : Option (Bool) := lim (fun k => dist_small.f k l0)
theorem dist_small.F_is (l0 : List Int) : LimIs (fun k => dist_small.f k l0) (dist_small.F l0) := ⟨fun k => dist_small.mono l0 k, rfl⟩
noncomputable def dist_gcd.F (a0 : Int) (a1 : Int) : Option (Int) := lim (fun k => dist_gcd.f k a0 a1)
theorem dist_gcd.F_is (a0 : Int) (a1 : Int) : LimIs (fun k => dist_gcd.f k a0 a1) (dist_gcd.F a0 a1) := ⟨fun k => dist_gcd.mono a0 a1 k, rfl⟩
noncomputable def dist_total.F (l0 : List (S57)) : Option (Int) := lim (fun k => dist_total.f k l0)
theorem dist_total.F_is (l0 : List (S57)) : LimIs (fun k => dist_total.f k l0) (dist_total.F l0) := ⟨fun k => dist_total.mono l0 k, rfl⟩
set_option maxRecDepth 100000 in
theorem dist_gcd.L0_eq (x0 : Int) (x1 : Int) : dist_gcd.L0 x0 x1 = if x1 = 0 then (some x0) else (dist_gcd.L0 x1 (Int.tmod x0 x1)) := by
  refine LimIs.step' (dist_gcd.L0_is x0 x1).1 (b := fun k => if x1 = 0 then (some x0) else (dist_gcd.l0 k x1 (Int.tmod x0 x1))) (fun k => by first | rfl | rw [dist_gcd.l0]) ?_
  repeat' first
    | (with_reducible exact dist_gcd.L0_is _ _)
    | (with_reducible exact LimIs.const _)
    | (with_reducible refine LimIs.ite ?_ ?_)
    | (with_reducible refine LimIs.bind ?_ (fun _ => ?_))
    | exact dist_gcd.L0_is _ _
    | exact LimIs.const _
    | refine LimIs.ite ?_ ?_
    | refine LimIs.bind ?_ (fun _ => ?_)
set_option maxRecDepth 100000 in
theorem dist_total.L0_eq (x3 : Int) (x6 : List (S57)) (x7 : Int) (x8 : Int) : dist_total.L0 x3 x6 x7 x8 = if x8 < x7 then (if 0 ≤ x8 then (if x8 < (x6.length : Int) then (dist_total.L0 (wrap64 (x3 + ((rd_T57 x6 x8).f1))) x6 x7 (wrap64 (x8 + 1))) else (none)) else (none)) else (some x3) := by
  refine LimIs.step' (dist_total.L0_is x3 x6 x7 x8).1 (b := fun k => if x8 < x7 then (if 0 ≤ x8 then (if x8 < (x6.length : Int) then (dist_total.l0 k (wrap64 (x3 + ((rd_T57 x6 x8).f1))) x6 x7 (wrap64 (x8 + 1))) else (none)) else (none)) else (some x3)) (fun k => by first | rfl | rw [dist_total.l0]) ?_
  repeat' first
    | (with_reducible exact dist_total.L0_is _ _ _ _)
    | (with_reducible exact LimIs.const _)
    | (with_reducible refine LimIs.ite ?_ ?_)
    | (with_reducible refine LimIs.bind ?_ (fun _ => ?_))
    | exact dist_total.L0_is _ _ _ _
    | exact LimIs.const _
    | refine LimIs.ite ?_ ?_
    | refine LimIs.bind ?_ (fun _ => ?_)
set_option maxRecDepth 100000 in
theorem dist_small.F_eq (l0 : List Int) : dist_small.F l0 = if (l0.length : Int) ≤ 16 then ((slices_ContainsFunc_int_int.F l0 990000072).bind fun t124 => (some (!t124))) else (some false) := by
  refine LimIs.out (?_ : LimIs (fun k => if (l0.length : Int) ≤ 16 then ((slices_ContainsFunc_int_int.f k l0 990000072).bind fun t124 => (some (!t124))) else (some false)) _)
  repeat' first
    | (with_reducible exact slices_ContainsFunc_int_int.F_is _ _)
    | (with_reducible exact LimIs.const _)
    | (with_reducible refine LimIs.ite ?_ ?_)
    | (with_reducible refine LimIs.bind ?_ (fun _ => ?_))
    | exact slices_ContainsFunc_int_int.F_is _ _
    | exact LimIs.const _
    | refine LimIs.ite ?_ ?_
    | refine LimIs.bind ?_ (fun _ => ?_)
set_option maxRecDepth 100000 in
theorem dist_gcd.F_eq (a0 : Int) (a1 : Int) : dist_gcd.F a0 a1 = dist_gcd.L0 a0 a1 := by
  refine LimIs.out (?_ : LimIs (fun k => dist_gcd.l0 k a0 a1) _)
  repeat' first
    | (with_reducible exact dist_gcd.L0_is _ _)
    | (with_reducible exact LimIs.const _)
    | (with_reducible refine LimIs.ite ?_ ?_)
    | (with_reducible refine LimIs.bind ?_ (fun _ => ?_))
    | exact dist_gcd.L0_is _ _
    | exact LimIs.const _
    | refine LimIs.ite ?_ ?_
    | refine LimIs.bind ?_ (fun _ => ?_)
set_option maxRecDepth 100000 in
theorem dist_total.F_eq (l0 : List (S57)) : dist_total.F l0 = dist_total.L0 0 l0 (l0.length : Int) 0 := by
  refine LimIs.out (?_ : LimIs (fun k => dist_total.l0 k 0 l0 (l0.length : Int) 0) _)
  repeat' first
    | (with_reducible exact dist_total.L0_is _ _ _ _)
    | (with_reducible exact LimIs.const _)
    | (with_reducible refine LimIs.ite ?_ ?_)
    | (with_reducible refine LimIs.bind ?_ (fun _ => ?_))
    | exact dist_total.L0_is _ _ _ _
    | exact LimIs.const _
    | refine LimIs.ite ?_ ?_
    | refine LimIs.bind ?_ (fun _ => ?_)
end Go.Proofs.Ytocmifmelgghdaa.PA
end
section
namespace Go.Proofs.Ytocmifmelgghdaa.PA
open Go.RowKit Go.Proofs.YtocmifmelgghdaaW.PrintWords Go.Proofs.YtocmifmelgghdaaW.PrintLast Go.Proofs.YtocmifmelgghdaaW.PrintMore
open Go.Proofs.YtocmifmelgghdaaW.EvKit
set_option linter.unusedVariables false
noncomputable def slices_Compare_int_int.L0 (x0 : List Int) (x1 : List Int) (x9 : List Int) (x10 : Int) (x11 : Int) : Option (Int) := lim (fun k => slices_Compare_int_int.l0 k x0 x1 x9 x10 x11)
theorem slices_Compare_int_int.L0_is (x0 : List Int) (x1 : List Int) (x9 : List Int) (x10 : Int) (x11 : Int) : LimIs (fun k => slices_Compare_int_int.l0 k x0 x1 x9 x10 x11) (slices_Compare_int_int.L0 x0 x1 x9 x10 x11) := ⟨fun k => (slices_Compare_int_int.mono_l k) x0 x1 x9 x10 x11, rfl⟩
noncomputable def slices_Equal_int_int.L0 (x0 : List Int) (x1 : List Int) (x12 : Int) (x13 : Int) : Option (Bool) := lim (fun k => slices_Equal_int_int.l0 k x0 x1 x12 x13)
theorem slices_Equal_int_int.L0_is (x0 : List Int) (x1 : List Int) (x12 : Int) (x13 : Int) : LimIs (fun k => slices_Equal_int_int.l0 k x0 x1 x12 x13) (slices_Equal_int_int.L0 x0 x1 x12 x13) := ⟨fun k => (slices_Equal_int_int.mono_l k) x0 x1 x12 x13, rfl⟩
noncomputable def slices_Compare_int_int.F (l0 : List Int) (l1 : List Int) : Option (Int) := lim (fun k => slices_Compare_int_int.f k l0 l1)
theorem slices_Compare_int_int.F_is (l0 : List Int) (l1 : List Int) : LimIs (fun k => slices_Compare_int_int.f k l0 l1) (slices_Compare_int_int.F l0 l1) := ⟨fun k => slices_Compare_int_int.mono l0 l1 k, rfl⟩
noncomputable def slices_Equal_int_int.F (l0 : List Int) (l1 : List Int) : Option (Bool) := lim (fun k => slices_Equal_int_int.f k l0 l1)
theorem slices_Equal_int_int.F_is (l0 : List Int) (l1 : List Int) : LimIs (fun k => slices_Equal_int_int.f k l0 l1) (slices_Equal_int_int.F l0 l1) := ⟨fun k => slices_Equal_int_int.mono l0 l1 k, rfl⟩
set_option maxRecDepth 100000 in
theorem slices_Compare_int_int.L0_eq (x0 : List Int) (x1 : List Int) (x9 : List Int) (x10 : Int) (x11 : Int) : slices_Compare_int_int.L0 x0 x1 x9 x10 x11 = if x11 < x10 then (if 0 ≤ x11 then (if x11 < (x9.length : Int) then (if x11 ≥ (x1.length : Int) then (some 1) else (if x11 < (x1.length : Int) then ((cmp_Compare_int.f (rd x9 x11) (rd x1 x11)).bind fun t131 => (if t131 = 0 then (slices_Compare_int_int.L0 x0 x1 x9 x10 (wrap64 (x11 + 1))) else (some t131))) else (none))) else (none)) else (none)) else (if (x0.length : Int) < (x1.length : Int) then (some (-1)) else (some 0)) := by
  refine LimIs.step' (slices_Compare_int_int.L0_is x0 x1 x9 x10 x11).1 (b := fun k => if x11 < x10 then (if 0 ≤ x11 then (if x11 < (x9.length : Int) then (if x11 ≥ (x1.length : Int) then (some 1) else (if x11 < (x1.length : Int) then ((cmp_Compare_int.f (rd x9 x11) (rd x1 x11)).bind fun t131 => (if t131 = 0 then (slices_Compare_int_int.l0 k x0 x1 x9 x10 (wrap64 (x11 + 1))) else (some t131))) else (none))) else (none)) else (none)) else (if (x0.length : Int) < (x1.length : Int) then (some (-1)) else (some 0))) (fun k => by first | rfl | rw [slices_Compare_int_int.l0]) ?_
  repeat' first
    | (with_reducible exact slices_Compare_int_int.L0_is _ _ _ _ _)
    | (with_reducible exact LimIs.const _)
    | (with_reducible refine LimIs.ite ?_ ?_)
    | (with_reducible refine LimIs.bind ?_ (fun _ => ?_))
    | exact slices_Compare_int_int.L0_is _ _ _ _ _
    | exact LimIs.const _
    | refine LimIs.ite ?_ ?_
    | refine LimIs.bind ?_ (fun _ => ?_)
set_option maxRecDepth 100000 in
theorem slices_Equal_int_int.L0_eq (x0 : List Int) (x1 : List Int) (x12 : Int) (x13 : Int) : slices_Equal_int_int.L0 x0 x1 x12 x13 = if x13 < x12 then (if 0 ≤ x13 then (if x13 < (x0.length : Int) then (if x13 < (x1.length : Int) then (if (rd x0 x13) = (rd x1 x13) then (slices_Equal_int_int.L0 x0 x1 x12 (wrap64 (x13 + 1))) else (some false)) else (none)) else (none)) else (none)) else (some true) := by
  refine LimIs.step' (slices_Equal_int_int.L0_is x0 x1 x12 x13).1 (b := fun k => if x13 < x12 then (if 0 ≤ x13 then (if x13 < (x0.length : Int) then (if x13 < (x1.length : Int) then (if (rd x0 x13) = (rd x1 x13) then (slices_Equal_int_int.l0 k x0 x1 x12 (wrap64 (x13 + 1))) else (some false)) else (none)) else (none)) else (none)) else (some true)) (fun k => by first | rfl | rw [slices_Equal_int_int.l0]) ?_
  repeat' first
    | (with_reducible exact slices_Equal_int_int.L0_is _ _ _ _)
    | (with_reducible exact LimIs.const _)
    | (with_reducible refine LimIs.ite ?_ ?_)
    | (with_reducible refine LimIs.bind ?_ (fun _ => ?_))
    | exact slices_Equal_int_int.L0_is _ _ _ _
    | exact LimIs.const _
    | refine LimIs.ite ?_ ?_
    | refine LimIs.bind ?_ (fun _ => ?_)
set_option maxRecDepth 100000 in
theorem slices_Compare_int_int.F_eq (l0 : List Int) (l1 : List Int) : slices_Compare_int_int.F l0 l1 = slices_Compare_int_int.L0 l0 l1 l0 (l0.length : Int) 0 := by
  refine LimIs.out (?_ : LimIs (fun k => slices_Compare_int_int.l0 k l0 l1 l0 (l0.length : Int) 0) _)
  repeat' first
    | (with_reducible exact slices_Compare_int_int.L0_is _ _ _ _ _)
    | (with_reducible exact LimIs.const _)
    | (with_reducible refine LimIs.ite ?_ ?_)
    | (with_reducible refine LimIs.bind ?_ (fun _ => ?_))
    | exact slices_Compare_int_int.L0_is _ _ _ _ _
    | exact LimIs.const _
    | refine LimIs.ite ?_ ?_
    | refine LimIs.bind ?_ (fun _ => ?_)
set_option maxRecDepth 100000 in
theorem slices_Equal_int_int.F_eq (l0 : List Int) (l1 : List Int) : slices_Equal_int_int.F l0 l1 = if (l0.length : Int) = (l1.length : Int) then (slices_Equal_int_int.L0 l0 l1 (l0.length : Int) 0) else (some false) := by
  refine LimIs.out (?_ : LimIs (fun k => if (l0.length : Int) = (l1.length : Int) then (slices_Equal_int_int.l0 k l0 l1 (l0.length : Int) 0) else (some false)) _)
  repeat' first
    | (with_reducible exact slices_Equal_int_int.L0_is _ _ _ _)
    | (with_reducible exact LimIs.const _)
    | (with_reducible refine LimIs.ite ?_ ?_)
    | (with_reducible refine LimIs.bind ?_ (fun _ => ?_))
    | exact slices_Equal_int_int.L0_is _ _ _ _
    | exact LimIs.const _
    | refine LimIs.ite ?_ ?_
    | refine LimIs.bind ?_ (fun _ => ?_)
end Go.Proofs.Ytocmifmelgghdaa.PA
end
section
namespace Go.Proofs.Ytocmifmelgghdaa.PA
open Go.RowKit Go.Proofs.YtocmifmelgghdaaW.PrintWords Go.Proofs.YtocmifmelgghdaaW.PrintLast Go.Proofs.YtocmifmelgghdaaW.PrintMore
open Go.Proofs.YtocmifmelgghdaaW.EvKit
set_option linter.unusedVariables false
noncomputable def dist_tidy.F (l0 : List S57) : Option (List S57 × Int) := lim (fun k => dist_tidy.f k l0)
theorem dist_tidy.F_is (l0 : List S57) : LimIs (fun k => dist_tidy.f k l0) (dist_tidy.F l0) := ⟨fun k => dist_tidy.mono l0 k, rfl⟩
set_option maxRecDepth 100000 in
theorem dist_tidy.F_eq (l0 : List S57) : dist_tidy.F l0 = if tGuard l0 = true then some (tDone (tMerge (sortP l0))) else none := by
  refine LimIs.out (?_ : LimIs (fun k => if tGuard l0 = true then some (tDone (tMerge (sortP l0))) else none) _)
  repeat' first
    | (with_reducible exact LimIs.const _)
    | (with_reducible refine LimIs.ite ?_ ?_)
    | (with_reducible refine LimIs.bind ?_ (fun _ => ?_))
    | exact LimIs.const _
    | refine LimIs.ite ?_ ?_
    | refine LimIs.bind ?_ (fun _ => ?_)
end Go.Proofs.Ytocmifmelgghdaa.PA
end
section
namespace Go.Proofs.Ytocmifmelgghdaa.PA
open Go.RowKit Go.Proofs.YtocmifmelgghdaaW.PrintWords Go.Proofs.YtocmifmelgghdaaW.PrintLast Go.Proofs.YtocmifmelgghdaaW.PrintMore
open Go.Proofs.YtocmifmelgghdaaW.EvKit
set_option linter.unusedVariables false
noncomputable def dist_Make.L0 (x4 : List (S57)) (x7 : List (S57)) (x8 : Int) (x9 : Int) : Option ((List (S57)) × Int) := lim (fun k => dist_Make.l0 k x4 x7 x8 x9)
theorem dist_Make.L0_is (x4 : List (S57)) (x7 : List (S57)) (x8 : Int) (x9 : Int) : LimIs (fun k => dist_Make.l0 k x4 x7 x8 x9) (dist_Make.L0 x4 x7 x8 x9) := ⟨fun k => (dist_Make.mono_l k) x4 x7 x8 x9, rfl⟩
noncomputable def choice_made.L0 (x4 : List (S57)) (x7 : List Int) (x8 : Int) (x9 : Int) : Option ((List (S57)) × Int) := lim (fun k => choice_made.l0 k x4 x7 x8 x9)
theorem choice_made.L0_is (x4 : List (S57)) (x7 : List Int) (x8 : Int) (x9 : Int) : LimIs (fun k => choice_made.l0 k x4 x7 x8 x9) (choice_made.L0 x4 x7 x8 x9) := ⟨fun k => (choice_made.mono_l k) x4 x7 x8 x9, rfl⟩
noncomputable def dist_Make.F (l0 : List (S57)) : Option ((List (S57)) × Int) := lim (fun k => dist_Make.f k l0)
theorem dist_Make.F_is (l0 : List (S57)) : LimIs (fun k => dist_Make.f k l0) (dist_Make.F l0) := ⟨fun k => dist_Make.mono l0 k, rfl⟩
noncomputable def choice_made.F (l0 : List Int) : Option ((List (S57)) × Int) := lim (fun k => choice_made.f k l0)
theorem choice_made.F_is (l0 : List Int) : LimIs (fun k => choice_made.f k l0) (choice_made.F l0) := ⟨fun k => choice_made.mono l0 k, rfl⟩
set_option maxRecDepth 100000 in
theorem dist_Make.L0_eq (x4 : List (S57)) (x7 : List (S57)) (x8 : Int) (x9 : Int) : dist_Make.L0 x4 x7 x8 x9 = if x9 < x8 then (if 0 ≤ x9 then (if x9 < (x7.length : Int) then ((dist_small.F ((rd_T57 x7 x9).f0)).bind fun t140 => (if t140 = true then (if ((rd_T57 x7 x9).f1) < 0 then (some (([] : List (S57)), 3)) else (if ((rd_T57 x7 x9).f1) > 1073741824 then (some (([] : List (S57)), 3)) else ((slices_Clone_int_int.f ((rd_T57 x7 x9).f0)).bind fun t141 => (if x4.length < 4398046511104 then (dist_Make.L0 (x4 ++ [(⟨t141, (rd_T57 x7 x9).f1⟩ : S57)]) x7 x8 (wrap64 (x9 + 1))) else (none))))) else (some (([] : List (S57)), 3)))) else (none)) else (none)) else ((dist_tidy.F x4).bind fun bt134 => (some (bt134.1, bt134.2))) := by
  refine LimIs.step' (dist_Make.L0_is x4 x7 x8 x9).1 (b := fun k => if x9 < x8 then (if 0 ≤ x9 then (if x9 < (x7.length : Int) then ((dist_small.f k ((rd_T57 x7 x9).f0)).bind fun t140 => (if t140 = true then (if ((rd_T57 x7 x9).f1) < 0 then (some (([] : List (S57)), 3)) else (if ((rd_T57 x7 x9).f1) > 1073741824 then (some (([] : List (S57)), 3)) else ((slices_Clone_int_int.f ((rd_T57 x7 x9).f0)).bind fun t141 => (if x4.length < 4398046511104 then (dist_Make.l0 k (x4 ++ [(⟨t141, (rd_T57 x7 x9).f1⟩ : S57)]) x7 x8 (wrap64 (x9 + 1))) else (none))))) else (some (([] : List (S57)), 3)))) else (none)) else (none)) else ((dist_tidy.f k x4).bind fun bt134 => (some (bt134.1, bt134.2)))) (fun k => by first | rfl | rw [dist_Make.l0]) ?_
  repeat' first
    | (with_reducible exact dist_small.F_is _)
    | (with_reducible exact dist_Make.L0_is _ _ _ _)
    | (with_reducible exact dist_tidy.F_is _)
    | (with_reducible exact LimIs.const _)
    | (with_reducible refine LimIs.ite ?_ ?_)
    | (with_reducible refine LimIs.bind ?_ (fun _ => ?_))
    | exact dist_small.F_is _
    | exact dist_Make.L0_is _ _ _ _
    | exact dist_tidy.F_is _
    | exact LimIs.const _
    | refine LimIs.ite ?_ ?_
    | refine LimIs.bind ?_ (fun _ => ?_)
set_option maxRecDepth 100000 in
theorem choice_made.L0_eq (x4 : List (S57)) (x7 : List Int) (x8 : Int) (x9 : Int) : choice_made.L0 x4 x7 x8 x9 = if x9 < x8 then (if 0 ≤ x9 then (if x9 < (x7.length : Int) then (if x4.length < 4398046511104 then (choice_made.L0 (x4 ++ [(⟨(([x9] : List Int)), rd x7 x9⟩ : S57)]) x7 x8 (wrap64 (x9 + 1))) else (none)) else (none)) else (none)) else ((dist_Make.F x4).bind fun bt154 => (some (bt154.1, bt154.2))) := by
  refine LimIs.step' (choice_made.L0_is x4 x7 x8 x9).1 (b := fun k => if x9 < x8 then (if 0 ≤ x9 then (if x9 < (x7.length : Int) then (if x4.length < 4398046511104 then (choice_made.l0 k (x4 ++ [(⟨(([x9] : List Int)), rd x7 x9⟩ : S57)]) x7 x8 (wrap64 (x9 + 1))) else (none)) else (none)) else (none)) else ((dist_Make.f k x4).bind fun bt154 => (some (bt154.1, bt154.2)))) (fun k => by first | rfl | rw [choice_made.l0]) ?_
  repeat' first
    | (with_reducible exact choice_made.L0_is _ _ _ _)
    | (with_reducible exact dist_Make.F_is _)
    | (with_reducible exact LimIs.const _)
    | (with_reducible refine LimIs.ite ?_ ?_)
    | (with_reducible refine LimIs.bind ?_ (fun _ => ?_))
    | exact choice_made.L0_is _ _ _ _
    | exact dist_Make.F_is _
    | exact LimIs.const _
    | refine LimIs.ite ?_ ?_
    | refine LimIs.bind ?_ (fun _ => ?_)
set_option maxRecDepth 100000 in
theorem dist_Make.F_eq (l0 : List (S57)) : dist_Make.F l0 = dist_Make.L0 ([] : List (S57)) l0 (l0.length : Int) 0 := by
  refine LimIs.out (?_ : LimIs (fun k => dist_Make.l0 k ([] : List (S57)) l0 (l0.length : Int) 0) _)
  repeat' first
    | (with_reducible exact dist_Make.L0_is _ _ _ _)
    | (with_reducible exact LimIs.const _)
    | (with_reducible refine LimIs.ite ?_ ?_)
    | (with_reducible refine LimIs.bind ?_ (fun _ => ?_))
    | exact dist_Make.L0_is _ _ _ _
    | exact LimIs.const _
    | refine LimIs.ite ?_ ?_
    | refine LimIs.bind ?_ (fun _ => ?_)
set_option maxRecDepth 100000 in
theorem choice_made.F_eq (l0 : List Int) : choice_made.F l0 = choice_made.L0 ([] : List (S57)) l0 (l0.length : Int) 0 := by
  refine LimIs.out (?_ : LimIs (fun k => choice_made.l0 k ([] : List (S57)) l0 (l0.length : Int) 0) _)
  repeat' first
    | (with_reducible exact choice_made.L0_is _ _ _ _)
    | (with_reducible exact LimIs.const _)
    | (with_reducible refine LimIs.ite ?_ ?_)
    | (with_reducible refine LimIs.bind ?_ (fun _ => ?_))
    | exact choice_made.L0_is _ _ _ _
    | exact LimIs.const _
    | refine LimIs.ite ?_ ?_
    | refine LimIs.bind ?_ (fun _ => ?_)
end Go.Proofs.Ytocmifmelgghdaa.PA
end
section
namespace Go.Proofs.Ytocmifmelgghdaa.DistPure
set_option linter.unusedVariables false
set_option linter.unusedSimpArgs false
open Go.RowKit Go.Proofs.Ytocmifmelgghdaa.PA Go.Proofs.YtocmifmelgghdaaW.PrintWords Go.Proofs.YtocmifmelgghdaaW.PrintLast Go.Proofs.YtocmifmelgghdaaW.PrintMore Go.Proofs.YtocmifmelgghdaaW.EvKit
theorem rdAt {xs : List Int} {i : Nat} (h : i < xs.length) : rd xs (i : Int) = xs[i] := by
  rw [rd_nat, List.getD_eq_getElem?_getD, List.getElem?_eq_getElem h]; rfl
theorem rd32At {xs : List S57} {i : Nat} (h : i < xs.length) : rd_T57 xs (i : Int) = xs[i] := by
  unfold rd_T57
  rw [Int.toNat_natCast, List.getD_eq_getElem?_getD, List.getElem?_eq_getElem h]; rfl
theorem w1 {i : Nat} (h : i < 4611686018427387904) : wrap64 ((i : Int) + 1) = ((i + 1 : Nat) : Int) := by rw [wrap64_of (by omega) (by omega)]; rfl
def okN (n : Int) : Bool := decide (-1073741824 ≤ n) && decide (n ≤ 1073741824)
def smallB (o : List Int) : Bool := decide (o.length ≤ 16) && o.all okN
theorem small1 (n : Int) : dist_small_1.f n = some (!okN n) := by
  unfold dist_small_1.f okN
  by_cases h : n < -1073741824
  · rw [if_pos h]; congr 1; symm; simp; omega
  · rw [if_neg h]; congr 1; rw [Bool.eq_iff_iff]; simp; omega
theorem index_loop (x : List Int) (hx : x.length ≤ 1048576) : ∀ (n i : Nat), i + n = x.length →
    ∃ r, slices_IndexFunc_int_int.L0 x (x.length : Int) (i : Int) = some r ∧ decide (r ≥ 0) = !((x.drop i).all okN) := by
  intro n
  induction n with
  | zero =>
    intro i hi
    refine ⟨-1, ?_, ?_⟩
    · rw [slices_IndexFunc_int_int.L0_eq, if_neg (by omega)]
    · rw [List.drop_of_length_le (show x.length ≤ i by omega)]; rfl
  | succ n ih =>
    intro i hi
    have hxi : i < x.length := by omega
    rw [slices_IndexFunc_int_int.L0_eq, if_pos (by omega), if_pos (by omega), if_pos (by omega), rdAt hxi, small1, Option.bind_some, List.drop_eq_getElem_cons hxi, List.all_cons]
    cases h : okN x[i] with
    | false => exact ⟨i, if_pos rfl, by simp⟩
    | true =>
      obtain ⟨r, h1, h2⟩ := ih (i + 1) (by omega)
      refine ⟨r, ?_, by rw [h2]; rfl⟩
      rw [if_neg (by decide), w1 (by omega)]
      exact h1
theorem smallF (o : List Int) (h : o.length ≤ 1048576) : dist_small.F o = some (smallB o) := by
  rw [dist_small.F_eq]
  unfold smallB
  by_cases c : o.length ≤ 16
  · obtain ⟨r, h1, h2⟩ := index_loop o h o.length 0 (by omega)
    rw [if_pos (by omega), slices_ContainsFunc_int_int.F_eq, slices_IndexFunc_int_int.F_eq]
    rw [show (0 : Int) = ((0 : Nat) : Int) from rfl, h1]
    rw [Option.bind_some, Option.bind_some]
    have h2 : decide (r ≥ ((0 : Nat) : Int)) = !((o.drop 0).all okN) := h2
    rw [h2, List.drop_zero, decide_eq_true c]
    simp
  · rw [if_neg (by omega), decide_eq_false c]; rfl
theorem totOf_cons (p : S57) (l : List S57) : totOf (p :: l) = p.f1 + totOf l := rfl
theorem totOf_nil : totOf [] = 0 := rfl
theorem wOf_le : ∀ {l : List S57}, (∀ p ∈ l, 0 ≤ p.f1) → ∀ o, 0 ≤ wOf l o ∧ wOf l o ≤ totOf l
  | [], _, _ => ⟨Int.le_refl _, Int.le_refl _⟩
  | p :: l, h, o => by
    have := wOf_le (l := l) (fun q hq => h q (by simp [hq])) o
    have := h p (by simp)
    rw [totOf_cons, wOf_cons]
    split <;> omega
theorem tot_bd : ∀ {l : List S57}, (∀ p ∈ l, 0 ≤ p.f1 ∧ p.f1 ≤ 1073741824) → totOf l ≤ 1073741824 * (l.length : Int)
  | [], _ => Int.le_refl _
  | p :: l, h => by
    have := tot_bd (l := l) (fun q hq => h q (by simp [hq]))
    have := h p (by simp)
    rw [totOf_cons, List.length_cons]; omega
theorem mem_at {l : List S57} {i : Nat} (h : i < l.length) : l[i] ∈ l := List.getElem_mem h
end Go.Proofs.Ytocmifmelgghdaa.DistPure
end
section
namespace Go.Proofs.Ytocmifmelgghdaa.DistPure
set_option linter.unusedVariables false
set_option linter.unusedSimpArgs false
open Go.RowKit Go.Proofs.Ytocmifmelgghdaa.PA Go.Proofs.YtocmifmelgghdaaW.PrintWords Go.Proofs.YtocmifmelgghdaaW.PrintLast Go.Proofs.YtocmifmelgghdaaW.PrintMore Go.Proofs.YtocmifmelgghdaaW.EvKit
end Go.Proofs.Ytocmifmelgghdaa.DistPure
end
section
namespace Go.Proofs.Ytocmifmelgghdaa.DistPure
set_option linter.unusedVariables false
set_option linter.unusedSimpArgs false
open Go.RowKit Go.Proofs.Ytocmifmelgghdaa.PA Go.Proofs.YtocmifmelgghdaaW.PrintWords Go.Proofs.YtocmifmelgghdaaW.PrintLast Go.Proofs.YtocmifmelgghdaaW.PrintMore Go.Proofs.YtocmifmelgghdaaW.EvKit
theorem wOf_ge : ∀ {l : List S57}, (∀ p ∈ l, 0 ≤ p.f1) → ∀ {p : S57}, p ∈ l → p.f1 ≤ wOf l p.f0
  | [], _, p, h => by cases h
  | q :: l, h0, p, h => by
    have h1 := h0 q (by simp)
    have h2 : ∀ p ∈ l, 0 ≤ p.f1 := fun x hx => h0 x (by simp [hx])
    rw [wOf_cons]
    rcases List.mem_cons.1 h with e | e
    · subst e
      rw [if_pos rfl]
      have := (wOf_le h2 p.f0).1
      omega
    · have := wOf_ge h2 e
      split <;> omega
def Least (S : List Int → Prop) (o : List Int) (f : Bool) : Prop := (f = true → S o ∧ ∀ x, S x → cmpL o x ≤ 0) ∧ (f = false → ∀ x, ¬ S x)
theorem Least.new {S S' : List Int → Prop} {o v : List Int} (h : Least S o false) (hS : ∀ x, S' x ↔ S x ∨ x = v) : Least S' v true :=
  ⟨fun _ => ⟨(hS v).2 (.inr rfl), fun x hx => by
    rcases (hS x).1 hx with h1 | h1
    · exact absurd h1 (h.2 rfl x)
    · rw [h1, cmpL_self]; exact Int.le_refl 0⟩, fun c => by cases c⟩
theorem Least.lt {S S' : List Int → Prop} {o v : List Int} (h : Least S o true) (c : cmpL v o < 0) (hS : ∀ x, S' x ↔ S x ∨ x = v) : Least S' v true :=
  ⟨fun _ => ⟨(hS v).2 (.inr rfl), fun x hx => by
    rcases (hS x).1 hx with h1 | h1
    · exact cmpL_le_trans _ _ _ (Int.le_of_lt c) ((h.1 rfl).2 x h1)
    · rw [h1, cmpL_self]; exact Int.le_refl 0⟩, fun c => by cases c⟩
theorem Least.same {S S' : List Int → Prop} {o : List Int} {f : Bool} (h : Least S o f) (hS : ∀ x, S' x ↔ S x) : Least S' o f :=
  ⟨fun c => ⟨(hS o).2 (h.1 c).1, fun x hx => (h.1 c).2 x ((hS x).1 hx)⟩, fun c x hx => h.2 c x ((hS x).1 hx)⟩
theorem take_one {l : List S57} {i : Nat} (h : i < l.length) : l.take (i + 1) = l.take i ++ [l[i]] := by
  rw [List.take_add_one, List.getElem?_eq_getElem h]; rfl
theorem one_le {l : List S57} (h0 : ∀ p ∈ l, 0 ≤ p.f1) {p : S57} (h : p ∈ l) : p.f1 ≤ totOf l := by
  have h1 := wOf_ge h0 h
  have h2 := (wOf_le h0 p.f0).2
  omega
end Go.Proofs.Ytocmifmelgghdaa.DistPure
end
section
namespace Go.Proofs.Ytocmifmelgghdaa.DistPure
set_option linter.unusedVariables false
set_option linter.unusedSimpArgs false
open Go.RowKit Go.Proofs.Ytocmifmelgghdaa.PA Go.Proofs.YtocmifmelgghdaaW.PrintWords Go.Proofs.YtocmifmelgghdaaW.PrintLast Go.Proofs.YtocmifmelgghdaaW.PrintMore Go.Proofs.YtocmifmelgghdaaW.EvKit
instance : DecidableEq S57 := fun p q => decidable_of_iff (p.f1 = q.f1 ∧ p.f0 = q.f0) (by cases p; cases q; simp only [S57.mk.injEq]; exact And.comm)
structure Bd (l : List S57) : Prop where
  len : l.length ≤ 1048576
  out : ∀ p ∈ l, p.f0.length ≤ 1048576
def okP (p : S57) : Bool := smallB p.f0 && (decide (0 ≤ p.f1) && decide (p.f1 ≤ 1073741824))
theorem okP_iff {p : S57} : okP p = true ↔ smallB p.f0 = true ∧ 0 ≤ p.f1 ∧ p.f1 ≤ 1073741824 := by simp [okP]
def makeP (l : List S57) : List S57 × Int := if l.all okP = true then tDone (tMerge (sortP l)) else ([], 3)
theorem all_ok {l : List S57} (h : l.all okP = true) : ∀ p ∈ l, 0 ≤ p.f1 ∧ p.f1 ≤ 1073741824 := fun p hp => (okP_iff.1 (List.all_eq_true.1 h p hp)).2
theorem all_tot {l : List S57} (h : l.all okP = true) (hl : l.length ≤ 1048576) : totOf l ≤ 4611686018427387904 := by
  have := tot_bd (all_ok h)
  omega
theorem tidyF (l : List S57) (hl : l.length ≤ 1048576) (h : l.all okP = true) : dist_tidy.F l = some (tDone (tMerge (sortP l))) := by
  rw [dist_tidy.F_eq, if_pos]
  unfold tGuard
  have := all_tot h hl
  simp only [Bool.and_eq_true, decide_eq_true_eq, List.all_eq_true]
  exact ⟨⟨by omega, fun p hp => (all_ok h p hp).1⟩, this⟩
theorem cloneF (o : List Int) (h : o.length ≤ 1048576) : slices_Clone_int_int.f o = some o := by
  unfold slices_Clone_int_int.f
  rw [if_pos (by omega)]
theorem make_loop (l : List S57) (h : Bd l) : ∀ (n i : Nat), i + n = l.length → (l.take i).all okP = true →
    dist_Make.L0 (l.take i) l (l.length : Int) (i : Int) = some (if (l.drop i).all okP = true then tDone (tMerge (sortP l)) else ([], 3)) := by
  have hl := h.len
  intro n
  induction n with
  | zero =>
    intro i hi ha
    rw [List.take_of_length_le (show l.length ≤ i by omega)] at ha ⊢
    rw [dist_Make.L0_eq, if_neg (by omega), tidyF l h.len ha, Option.bind_some, List.drop_of_length_le (show l.length ≤ i by omega)]
    rfl
  | succ n ih =>
    intro i hi ha
    have hxi : i < l.length := by omega
    have ho := h.out _ (mem_at hxi)
    rw [dist_Make.L0_eq, if_pos (by omega), if_pos (by omega), if_pos (by omega), rd32At hxi, smallF _ ho, Option.bind_some, List.drop_eq_getElem_cons hxi, List.all_cons]
    have e : okP l[i] = (smallB l[i].f0 && (decide (0 ≤ l[i].f1) && decide (l[i].f1 ≤ 1073741824))) := rfl
    cases c : smallB l[i].f0 with
    | false =>
      rw [if_neg (by decide), e, c]
      rfl
    | true =>
      rw [if_pos rfl]
      by_cases c1 : l[i].f1 < 0
      · rw [if_pos c1, if_neg]
        rw [e, decide_eq_false (show ¬ 0 ≤ l[i].f1 by omega)]
        simp
      · rw [if_neg c1]
        by_cases c2 : l[i].f1 > 1073741824
        · rw [if_pos c2, if_neg]
          rw [e, decide_eq_false (show ¬ l[i].f1 ≤ 1073741824 by omega)]
          simp
        · have hok : okP l[i] = true := okP_iff.2 ⟨c, by omega, by omega⟩
          rw [if_neg c2, cloneF _ ho, Option.bind_some, if_pos (by rw [List.length_take]; omega), hok, Bool.true_and, w1 (by omega)]
          have e2 : l.take i ++ [(⟨l[i].f0, l[i].f1⟩ : S57)] = l.take (i + 1) := (take_one hxi).symm
          rw [e2]
          exact ih (i + 1) (by omega) (by rw [take_one hxi, List.all_append, ha]; simp [hok])
theorem makeF1 (l : List S57) (h : Bd l) : dist_Make.F l = some (makeP l) := by
  rw [dist_Make.F_eq]
  exact make_loop l h l.length 0 (by omega) (by simp)
def wrongP (d : List S57) : Int := if (makeP d).2 = 0 then (if d = (makeP d).1 then 0 else 2) else (makeP d).2
structure Right (d : List S57) : Prop where
  ok : d.all okP = true
  st : Strict d
  pos : 0 < totOf d
  few : totOf d ≤ 1073741824
  much : d.length ≤ 4096
theorem div_sum (g : Int) (hg : 0 < g) : ∀ (D : List S57), totOf (D.map (fun p => (⟨p.f0, p.f1 / g⟩ : S57))) ≤ totOf D / g
  | [] => by rw [List.map_nil, totOf_nil, Int.zero_ediv]; exact Int.le_refl 0
  | p :: D => by
    have ih := div_sum g hg D
    rw [List.map_cons, totOf_cons, totOf_cons]
    have h1 := Int.ediv_mul_le p.f1 (show g ≠ 0 by omega)
    have h2 := Int.ediv_mul_le (totOf D) (show g ≠ 0 by omega)
    have h3 : p.f1 / g + totOf D / g ≤ (p.f1 + totOf D) / g := by
      rw [Int.le_ediv_iff_mul_le hg, Int.add_mul]
      omega
    show p.f1 / g + _ ≤ _
    omega
end Go.Proofs.Ytocmifmelgghdaa.DistPure
end
section
namespace Go.Proofs.Ytocmifmelgghdaa.DistPure
set_option linter.unusedVariables false
set_option linter.unusedSimpArgs false
open Go.RowKit Go.Proofs.Ytocmifmelgghdaa.PA Go.Proofs.YtocmifmelgghdaaW.PrintWords Go.Proofs.YtocmifmelgghdaaW.PrintLast Go.Proofs.YtocmifmelgghdaaW.PrintMore Go.Proofs.YtocmifmelgghdaaW.EvKit
theorem gOf_dvd_go : ∀ (d : List S57) (g : Nat), d.foldl (fun g p => Nat.gcd p.f1.toNat g) g ∣ g ∧ ∀ p ∈ d, d.foldl (fun g p => Nat.gcd p.f1.toNat g) g ∣ p.f1.toNat
  | [], g => ⟨Nat.dvd_refl _, fun p hp => by cases hp⟩
  | q :: d, g => by
    rw [List.foldl_cons]
    obtain ⟨h1, h2⟩ := gOf_dvd_go d (Nat.gcd q.f1.toNat g)
    refine ⟨Nat.dvd_trans h1 (Nat.gcd_dvd_right _ _), fun p hp => ?_⟩
    rcases List.mem_cons.1 hp with e | e
    · rw [e]; exact Nat.dvd_trans h1 (Nat.gcd_dvd_left _ _)
    · exact h2 p e
theorem gOf_dvd {d : List S57} {p : S57} (h : p ∈ d) : gOf d ∣ p.f1.toNat := (gOf_dvd_go d 0).2 p h
theorem gOf_max_go : ∀ (d : List S57) (g n : Nat), n ∣ g → (∀ p ∈ d, n ∣ p.f1.toNat) → n ∣ d.foldl (fun g p => Nat.gcd p.f1.toNat g) g
  | [], g, n, h, _ => h
  | q :: d, g, n, h, h0 => gOf_max_go d _ n (Nat.dvd_gcd (h0 q (by simp)) h) (fun p hp => h0 p (by simp [hp]))
theorem gOf_max {d : List S57} {n : Nat} (h : ∀ p ∈ d, n ∣ p.f1.toNat) : n ∣ gOf d := gOf_max_go d 0 n (Nat.dvd_zero n) h
theorem div_pos' {p : Int} {g : Nat} (hp : 0 < p) (hg : 0 < g) (hd : g ∣ p.toNat) : ∃ m : Nat, 0 < m ∧ p / (g : Int) = (m : Int) ∧ p.toNat = g * m := by
  obtain ⟨m, hm⟩ := hd
  have e : p = ((g * m : Nat) : Int) := by rw [← hm]; omega
  refine ⟨m, ?_, ?_, hm⟩
  · rcases Nat.eq_zero_or_pos m with h | h
    · rw [h, Nat.mul_zero] at hm; omega
    · exact h
  · rw [e, Int.natCast_mul, Int.mul_ediv_cancel_left _ (by omega)]
theorem canon_self {l : List S57} (hs : Strict l) (hp : ∀ p ∈ l, 0 < p.f1) : tMerge (sortP l) = l :=
  (tidy_canon (fun p h => Int.le_of_lt (hp p h))).uniq (⟨hs, hp, fun _ => rfl⟩ : Canon l l) (fun _ => rfl)
def divG (l : List S57) : List S57 := l.map (fun p => (⟨p.f0, p.f1 / (gOf l : Int)⟩ : S57))
structure Ord (l : List S57) : Prop where
  st : Strict l
  pos : ∀ p ∈ l, 0 < p.f1
  ok : l.all okP = true
  ne : l ≠ []
  few : totOf l ≤ 1073741824
  much : l.length ≤ 4096
theorem Ord.make {l : List S57} (h : Ord l) : makeP l = (divG l, 0) := by
  have hg := gOf_pos h.pos h.ne
  have h0 : 0 ≤ totOf l := by
    cases hl : l with
    | nil => exact absurd hl h.ne
    | cons q D =>
      have h1 := one_le (l := l) (fun p hp => Int.le_of_lt (h.pos p hp)) (p := q) (by rw [hl]; simp)
      have h2 := h.pos q (by rw [hl]; simp)
      rw [← hl]; omega
  have h1 : totOf l / (gOf l : Int) ≤ totOf l := Int.ediv_le_self _ h0
  have h2 := h.few
  have h3 := h.much
  unfold makeP
  rw [if_pos h.ok, canon_self h.st h.pos]
  unfold tDone
  rw [if_neg h.ne, if_neg (by omega)]
  rfl
theorem Ord.mem {l : List S57} (h : Ord l) {q : S57} (hq : q ∈ divG l) : ∃ p ∈ l, ∃ m : Nat, 0 < m ∧ q = ⟨p.f0, (m : Int)⟩ ∧ p.f1 = ((gOf l * m : Nat) : Int) := by
  obtain ⟨p, hp, rfl⟩ := List.mem_map.1 hq
  obtain ⟨m, h1, h2, h3⟩ := div_pos' (h.pos p hp) (gOf_pos h.pos h.ne) (gOf_dvd hp)
  have h4 := h.pos p hp
  exact ⟨p, hp, m, h1, by rw [h2], by omega⟩
theorem wOf_map (g : Nat) (hg : 0 < g) (o : List Int) : ∀ (L : List S57), (∀ p ∈ L, 0 < p.f1 ∧ g ∣ p.f1.toNat) → wOf (L.map (fun p => (⟨p.f0, p.f1 / (g : Int)⟩ : S57))) o * (g : Int) = wOf L o
  | [], _ => by simp [wOf, isum]
  | p :: L, h => by
    have ih := wOf_map g hg o L (fun q hq => h q (by simp [hq]))
    obtain ⟨h1, h2⟩ := h p (by simp)
    obtain ⟨m, _, e, e'⟩ := div_pos' h1 hg h2
    have e2 : p.f1 / (g : Int) * (g : Int) = p.f1 := by
      rw [e, ← Int.natCast_mul, Nat.mul_comm]; omega
    rw [List.map_cons, wOf_cons, wOf_cons, Int.add_mul, ih]
    by_cases c : p.f0 = o
    · rw [if_pos c, if_pos c, e2]
    · rw [if_neg c, if_neg c, Int.zero_mul]
theorem tot_map (g : Nat) (hg : 0 < g) : ∀ (L : List S57), (∀ p ∈ L, 0 < p.f1 ∧ g ∣ p.f1.toNat) → totOf (L.map (fun p => (⟨p.f0, p.f1 / (g : Int)⟩ : S57))) * (g : Int) = totOf L
  | [], _ => by rw [List.map_nil, totOf_nil, Int.zero_mul]
  | p :: L, h => by
    have ih := tot_map g hg L (fun q hq => h q (by simp [hq]))
    obtain ⟨h1, h2⟩ := h p (by simp)
    obtain ⟨m, _, e, e'⟩ := div_pos' h1 hg h2
    have e2 : p.f1 / (g : Int) * (g : Int) = p.f1 := by
      rw [e, ← Int.natCast_mul, Nat.mul_comm]; omega
    rw [List.map_cons, totOf_cons, totOf_cons, Int.add_mul, ih]
    show p.f1 / (g : Int) * (g : Int) + _ = _
    rw [e2]
theorem Ord.all {l : List S57} (h : Ord l) : ∀ p ∈ l, 0 < p.f1 ∧ gOf l ∣ p.f1.toNat := fun p hp => ⟨h.pos p hp, gOf_dvd hp⟩
theorem Ord.w {l : List S57} (h : Ord l) (o : List Int) : wOf (divG l) o * (gOf l : Int) = wOf l o := wOf_map (gOf l) (gOf_pos h.pos h.ne) o l h.all
theorem Ord.t {l : List S57} (h : Ord l) : totOf (divG l) * (gOf l : Int) = totOf l := tot_map (gOf l) (gOf_pos h.pos h.ne) l h.all
theorem Ord.g1 {l : List S57} (h : Ord l) : gOf (divG l) = 1 := by
  have hg := gOf_pos h.pos h.ne
  have h1 : gOf l * gOf (divG l) ∣ gOf l := gOf_max (fun q hq => by
    obtain ⟨m, _, h2, h3⟩ := div_pos' (h.pos q hq) hg (gOf_dvd hq)
    have h4 := gOf_dvd (List.mem_map.2 ⟨q, hq, rfl⟩ : (⟨q.f0, q.f1 / (gOf l : Int)⟩ : S57) ∈ divG l)
    rw [h3]
    refine Nat.mul_dvd_mul_left _ ?_
    have h5 : (q.f1 / (gOf l : Int)).toNat = m := by rw [h2]; omega
    rw [← h5]
    exact h4)
  have h2 := Nat.le_of_dvd hg h1
  have h3 : 0 < gOf (divG l) := by
    refine gOf_pos (fun p hp => ?_) (by unfold divG; simpa using h.ne)
    obtain ⟨_, _, m, h1, rfl, _⟩ := h.mem hp
    show (0 : Int) < m
    omega
  generalize gOf (divG l) = x at *
  rcases Nat.lt_or_ge 1 x with c | c
  · have := Nat.mul_lt_mul_of_pos_left c hg
    omega
  · omega
theorem Ord.div {l : List S57} (h : Ord l) : Ord (divG l) := by
  have hg := gOf_pos h.pos h.ne
  refine ⟨?_, ?_, ?_, by unfold divG; simpa using h.ne, ?_, by unfold divG; rw [List.length_map]; exact h.much⟩
  · unfold Strict divG
    rw [List.pairwise_map]
    exact h.st
  · intro p hp
    obtain ⟨_, _, m, h1, rfl, _⟩ := h.mem hp
    show (0 : Int) < m
    omega
  · rw [List.all_eq_true]
    intro q hq
    obtain ⟨p, hp, m, h1, rfl, e⟩ := h.mem hq
    obtain ⟨k1, k2, k3⟩ := okP_iff.1 (List.all_eq_true.1 h.ok p hp)
    have : m ≤ gOf l * m := Nat.le_mul_of_pos_left m hg
    refine okP_iff.2 ⟨k1, ?_, ?_⟩
    · show (0 : Int) ≤ m
      omega
    · show (m : Int) ≤ 1073741824
      omega
  · have := div_sum (gOf l : Int) (by omega) l
    have h2 := h.few
    have h1 : totOf l / (gOf l : Int) ≤ totOf l := by
      refine Int.ediv_le_self _ ?_
      cases hl : l with
      | nil => exact absurd hl h.ne
      | cons q D =>
        have h1 := one_le (l := l) (fun p hp => Int.le_of_lt (h.pos p hp)) (p := q) (by rw [hl]; simp)
        have h2 := h.pos q (by rw [hl]; simp)
        rw [← hl]; omega
    unfold divG
    omega
theorem Ord.wrong {l : List S57} (h : Ord l) : wrongP (divG l) = 0 := by
  have e : divG (divG l) = divG l := by
    have h1 := h.g1
    have e2 : divG (divG l) = (divG l).map (fun p => (⟨p.f0, p.f1 / (gOf (divG l) : Int)⟩ : S57)) := rfl
    rw [e2, h1]
    have e3 : ∀ L : List S57, L.map (fun p => (⟨p.f0, p.f1 / ((1 : Nat) : Int)⟩ : S57)) = L := fun L => by
      induction L with
      | nil => rfl
      | cons p L ih =>
        rw [List.map_cons, ih]
        congr 1
        have : p.f1 / ((1 : Nat) : Int) = p.f1 := by rw [Int.natCast_one, Int.ediv_one]
        rw [this]
    exact e3 _
  unfold wrongP
  rw [h.div.make, e]
  simp
end Go.Proofs.Ytocmifmelgghdaa.DistPure
end
section
namespace Go.Proofs.Ytocmifmelgghdaa.DistPure
set_option linter.unusedVariables false
set_option linter.unusedSimpArgs false
open Go.RowKit Go.Proofs.Ytocmifmelgghdaa.PA Go.Proofs.YtocmifmelgghdaaW.PrintWords Go.Proofs.YtocmifmelgghdaaW.PrintLast Go.Proofs.YtocmifmelgghdaaW.PrintMore Go.Proofs.YtocmifmelgghdaaW.EvKit
def numL (low : Int) (f : Nat → Nat) (n : Nat) : List S57 := (List.range n).map (fun (z : Nat) => (⟨[low + (z : Int)], ((f z : Nat) : Int)⟩ : S57))
theorem numL_succ (low : Int) (f : Nat → Nat) (n : Nat) : numL low f (n + 1) = numL low f n ++ [⟨[low + (n : Int)], ((f n : Nat) : Int)⟩] := by
  unfold numL; rw [List.range_succ, List.map_append]; rfl
theorem numL_len (low : Int) (f : Nat → Nat) (n : Nat) : (numL low f n).length = n := by unfold numL; simp
theorem numL_mem {low : Int} {f : Nat → Nat} {n : Nat} {p : S57} (h : p ∈ numL low f n) : ∃ z, z < n ∧ p = ⟨[low + (z : Int)], ((f z : Nat) : Int)⟩ := by
  obtain ⟨z, hz, rfl⟩ := List.mem_map.1 h
  exact ⟨z, List.mem_range.1 hz, rfl⟩
def sumN (f : Nat → Nat) : Nat → Nat
  | 0 => 0
  | n + 1 => sumN f n + f n
theorem numL_tot (low : Int) (f : Nat → Nat) : ∀ n, totOf (numL low f n) = ((sumN f n : Nat) : Int)
  | 0 => rfl
  | n + 1 => by
    have ih := numL_tot low f n
    rw [numL_succ]
    unfold totOf at *
    rw [List.map_append, isum_app, ih, sumN]
    simp [isum]
theorem numL_strict (low : Int) (f : Nat → Nat) (n : Nat) : Strict (numL low f n) := by
  unfold Strict numL
  rw [List.pairwise_map]
  refine List.pairwise_lt_range.imp (fun {a b} h => ?_)
  show cmpL [low + (a : Int)] [low + (b : Int)] < 0
  rw [cmpL, if_pos (by omega)]
  decide
theorem numL_ord {low : Int} {f : Nat → Nat} {n : Nat} (h0 : -1073741824 ≤ low) (h1 : low + (n : Int) ≤ 1073741825) (hn : 1 ≤ n) (hn2 : n ≤ 4096) (hf : ∀ z, z < n → 1 ≤ f z ∧ f z ≤ 1073741824) (ht : sumN f n ≤ 1073741824) : Ord (numL low f n) := by
  refine ⟨numL_strict low f n, ?_, ?_, ?_, by rw [numL_tot]; omega, by rw [numL_len]; omega⟩
  · intro p hp
    obtain ⟨z, hz, rfl⟩ := numL_mem hp
    have := hf z hz
    show (0 : Int) < (f z : Int)
    omega
  · rw [List.all_eq_true]
    intro p hp
    obtain ⟨z, hz, rfl⟩ := numL_mem hp
    have := hf z hz
    refine okP_iff.2 ⟨?_, ?_, ?_⟩
    · unfold smallB
      simp only [okN, List.length_cons, List.length_nil, List.all_cons, List.all_nil, Bool.and_true, Bool.and_eq_true, decide_eq_true_eq]
      omega
    · show (0 : Int) ≤ (f z : Int)
      omega
    · show (f z : Int) ≤ 1073741824
      omega
  · intro e
    have := congrArg List.length e
    rw [numL_len] at this
    simp at this
    omega
theorem numL_bd (low : Int) (f : Nat → Nat) (n : Nat) (hn : n ≤ 1048576) : Bd (numL low f n) := by
  refine ⟨by rw [numL_len]; exact hn, fun p hp => ?_⟩
  obtain ⟨z, _, rfl⟩ := numL_mem hp
  simp
end Go.Proofs.Ytocmifmelgghdaa.DistPure
end
section
namespace Go.Proofs.Ytocmifmelgghdaa.PA
open Go.RowKit Go.Proofs.YtocmifmelgghdaaW.PrintWords Go.Proofs.YtocmifmelgghdaaW.PrintLast Go.Proofs.YtocmifmelgghdaaW.PrintMore
open Go.Proofs.YtocmifmelgghdaaW.EvKit
set_option linter.unusedVariables false
noncomputable def choice_Weigh.L0 (x8 : Int) (x9 : List Int) (x10 : Int) (x25 : List Int) (x26 : Int) (x27 : Int) (x159000 : Int) (x159001 : Int) : Option ((List (S57)) × Int) := lim (fun k => choice_Weigh.l0 k x8 x9 x10 x25 x26 x27 x159000 x159001)
theorem choice_Weigh.L0_is (x8 : Int) (x9 : List Int) (x10 : Int) (x25 : List Int) (x26 : Int) (x27 : Int) (x159000 : Int) (x159001 : Int) : LimIs (fun k => choice_Weigh.l0 k x8 x9 x10 x25 x26 x27 x159000 x159001) (choice_Weigh.L0 x8 x9 x10 x25 x26 x27 x159000 x159001) := ⟨fun k => (choice_Weigh.mono_l k) x8 x9 x10 x25 x26 x27 x159000 x159001, rfl⟩
noncomputable def choice_Weigh.F (a0_0 : Int) (a0_1 : Int) (l1 : List Int) : Option ((List (S57)) × Int) := lim (fun k => choice_Weigh.f k a0_0 a0_1 l1)
theorem choice_Weigh.F_is (a0_0 : Int) (a0_1 : Int) (l1 : List Int) : LimIs (fun k => choice_Weigh.f k a0_0 a0_1 l1) (choice_Weigh.F a0_0 a0_1 l1) := ⟨fun k => choice_Weigh.mono a0_0 a0_1 l1 k, rfl⟩
noncomputable def hushlaw7_alive.F : Option (Bool) := lim (fun k => hushlaw7_alive.f k)
theorem hushlaw7_alive.F_is : LimIs (fun k => hushlaw7_alive.f k) (hushlaw7_alive.F) := ⟨fun k => hushlaw7_alive.mono k, rfl⟩
set_option maxRecDepth 100000 in
theorem choice_Weigh.L0_eq (x8 : Int) (x9 : List Int) (x10 : Int) (x25 : List Int) (x26 : Int) (x27 : Int) (x159000 : Int) (x159001 : Int) : choice_Weigh.L0 x8 x9 x10 x25 x26 x27 x159000 x159001 = if x27 < x26 then (if 0 ≤ x27 then (if x27 < (x25.length : Int) then ((choice_power.F x159000 (wrap64 (x8 - (rd x25 x27)))).bind fun t165 => ((choice_power.F x159001 (rd x25 x27)).bind fun t166 => ((choice_times.F (([t165, t166] : List Int))).bind fun t170 => (if x9.length < 17592186044416 then (choice_Weigh.L0 x8 (x9 ++ [t170]) (wrap64 (x10 + t170)) x25 x26 (wrap64 (x27 + 1)) x159000 x159001) else (none))))) else (none)) else (none)) else (if x10 > 1073741824 then (some (([] : List (S57)), 4)) else ((choice_made.F x9).bind fun bt174 => (some (bt174.1, bt174.2)))) := by
  refine LimIs.step' (choice_Weigh.L0_is x8 x9 x10 x25 x26 x27 x159000 x159001).1 (b := fun k => if x27 < x26 then (if 0 ≤ x27 then (if x27 < (x25.length : Int) then ((choice_power.f k x159000 (wrap64 (x8 - (rd x25 x27)))).bind fun t165 => ((choice_power.f k x159001 (rd x25 x27)).bind fun t166 => ((choice_times.f k (([t165, t166] : List Int))).bind fun t170 => (if x9.length < 17592186044416 then (choice_Weigh.l0 k x8 (x9 ++ [t170]) (wrap64 (x10 + t170)) x25 x26 (wrap64 (x27 + 1)) x159000 x159001) else (none))))) else (none)) else (none)) else (if x10 > 1073741824 then (some (([] : List (S57)), 4)) else ((choice_made.f k x9).bind fun bt174 => (some (bt174.1, bt174.2))))) (fun k => by first | rfl | rw [choice_Weigh.l0]) ?_
  repeat' first
    | (with_reducible exact choice_power.F_is _ _)
    | (with_reducible exact choice_times.F_is _)
    | (with_reducible exact choice_Weigh.L0_is _ _ _ _ _ _ _ _)
    | (with_reducible exact choice_made.F_is _)
    | (with_reducible exact LimIs.const _)
    | (with_reducible refine LimIs.ite ?_ ?_)
    | (with_reducible refine LimIs.bind ?_ (fun _ => ?_))
    | exact choice_power.F_is _ _
    | exact choice_times.F_is _
    | exact choice_Weigh.L0_is _ _ _ _ _ _ _ _
    | exact choice_made.F_is _
    | exact LimIs.const _
    | refine LimIs.ite ?_ ?_
    | refine LimIs.bind ?_ (fun _ => ?_)
set_option maxRecDepth 100000 in
theorem choice_Weigh.F_eq (a0_0 : Int) (a0_1 : Int) (l1 : List Int) : choice_Weigh.F a0_0 a0_1 l1 = (choice_look.F a0_0 a0_1 l1).bind fun bt159 => (if bt159.2 = 0 then ((choice_scores_int.f bt159.1).bind fun t163 => (choice_Weigh.L0 t163 ([] : List Int) 0 bt159.1 (bt159.1.length : Int) 0 a0_0 a0_1)) else (some (([] : List (S57)), bt159.2))) := by
  refine LimIs.out (?_ : LimIs (fun k => (choice_look.f k a0_0 a0_1 l1).bind fun bt159 => (if bt159.2 = 0 then ((choice_scores_int.f bt159.1).bind fun t163 => (choice_Weigh.l0 k t163 ([] : List Int) 0 bt159.1 (bt159.1.length : Int) 0 a0_0 a0_1)) else (some (([] : List (S57)), bt159.2)))) _)
  repeat' first
    | (with_reducible exact choice_look.F_is _ _ _)
    | (with_reducible exact choice_Weigh.L0_is _ _ _ _ _ _ _ _)
    | (with_reducible exact LimIs.const _)
    | (with_reducible refine LimIs.ite ?_ ?_)
    | (with_reducible refine LimIs.bind ?_ (fun _ => ?_))
    | exact choice_look.F_is _ _ _
    | exact choice_Weigh.L0_is _ _ _ _ _ _ _ _
    | exact LimIs.const _
    | refine LimIs.ite ?_ ?_
    | refine LimIs.bind ?_ (fun _ => ?_)
set_option maxRecDepth 100000 in
theorem hushlaw7_alive.F_eq : hushlaw7_alive.F = (choice_Weigh.F 2 1 (([1, 0] : List Int))).bind fun bt181 => (if bt181.2 = 0 then (some ((bt181.1.length : Int) == 2)) else (some false)) := by
  refine LimIs.out (?_ : LimIs (fun k => (choice_Weigh.f k 2 1 (([1, 0] : List Int))).bind fun bt181 => (if bt181.2 = 0 then (some ((bt181.1.length : Int) == 2)) else (some false))) _)
  repeat' first
    | (with_reducible exact choice_Weigh.F_is _ _ _)
    | (with_reducible exact LimIs.const _)
    | (with_reducible refine LimIs.ite ?_ ?_)
    | (with_reducible refine LimIs.bind ?_ (fun _ => ?_))
    | exact choice_Weigh.F_is _ _ _
    | exact LimIs.const _
    | refine LimIs.ite ?_ ?_
    | refine LimIs.bind ?_ (fun _ => ?_)
end Go.Proofs.Ytocmifmelgghdaa.PA
end
section
namespace Go.Proofs.Ytocmifmelgghdaa.DistPure
set_option linter.unusedVariables false
set_option linter.unusedSimpArgs false
open Go.RowKit Go.Proofs.Ytocmifmelgghdaa.PA Go.Proofs.YtocmifmelgghdaaW.PrintWords Go.Proofs.YtocmifmelgghdaaW.PrintLast Go.Proofs.YtocmifmelgghdaaW.PrintMore Go.Proofs.YtocmifmelgghdaaW.EvKit
def aliveW (z : Nat) : Nat := if z = 0 then 2 else 1
theorem alive_choice : hushlaw7_alive.F = some true := by
  have e1 : choice_look.F 2 1 ([1, 0] : List Int) = some ([0, 1], 0) := ((choice_look.F_is _ _ _).iff _).2 ⟨30, by decide +kernel⟩
  have e2 : choice_scores_int.f ([0, 1] : List Int) = some 1 := by decide +kernel
  have p1 : choice_power.F 2 1 = some 2 := ((choice_power.F_is _ _).iff _).2 ⟨30, by decide +kernel⟩
  have p2 : choice_power.F 1 0 = some 1 := ((choice_power.F_is _ _).iff _).2 ⟨30, by decide +kernel⟩
  have p3 : choice_power.F 2 0 = some 1 := ((choice_power.F_is _ _).iff _).2 ⟨30, by decide +kernel⟩
  have p4 : choice_power.F 1 1 = some 1 := ((choice_power.F_is _ _).iff _).2 ⟨30, by decide +kernel⟩
  have t1 : choice_times.F ([2, 1] : List Int) = some 2 := ((choice_times.F_is _).iff _).2 ⟨30, by decide +kernel⟩
  have t2 : choice_times.F ([1, 1] : List Int) = some 1 := ((choice_times.F_is _).iff _).2 ⟨30, by decide +kernel⟩
  have a0 : wrap64 (1 - rd ([0, 1] : List Int) 0) = 1 := by decide +kernel
  have a1 : rd ([0, 1] : List Int) 0 = 0 := by decide +kernel
  have a2 : wrap64 (1 - rd ([0, 1] : List Int) 1) = 0 := by decide +kernel
  have a3 : rd ([0, 1] : List Int) 1 = 1 := by decide +kernel
  have b0 : wrap64 (0 + 1) = 1 := by decide +kernel
  have b1 : wrap64 (1 + 1) = 2 := by decide +kernel
  have b2 : wrap64 (0 + 2) = 2 := by decide +kernel
  have b3 : wrap64 (2 + 1) = 3 := by decide +kernel
  have ho : Ord (numL 0 aliveW 2) := numL_ord (by omega) (by omega) (by omega) (by omega) (fun z hz => by unfold aliveW; split <;> omega) (by decide)
  have hb := numL_bd 0 aliveW 2 (by omega)
  have m1 : choice_made.F ([2, 1] : List Int) = some (makeP (numL 0 aliveW 2)) := by
    have c0 : rd ([2, 1] : List Int) 0 = 2 := by decide +kernel
    have c1 : rd ([2, 1] : List Int) 1 = 1 := by decide +kernel
    have hm := makeF1 _ hb
    rw [choice_made.F_eq, choice_made.L0_eq, if_pos (by decide), if_pos (by decide), if_pos (by decide), if_pos (by decide), c0, b0, choice_made.L0_eq, if_pos (by decide), if_pos (by decide), if_pos (by decide), if_pos (by decide), c1, b1, choice_made.L0_eq, if_neg (by decide)]
    show (dist_Make.F (numL 0 aliveW 2)).bind _ = _
    rw [hm, Option.bind_some]
  have wg : choice_Weigh.F 2 1 ([1, 0] : List Int) = some (makeP (numL 0 aliveW 2)) := by
    rw [choice_Weigh.F_eq, e1, Option.bind_some, if_pos rfl, e2, Option.bind_some]
    show choice_Weigh.L0 1 [] 0 [0, 1] 2 0 2 1 = _
    rw [choice_Weigh.L0_eq, if_pos (by decide), if_pos (by decide), if_pos (by decide), a0, a1, p1, p2, Option.bind_some, Option.bind_some, t1, Option.bind_some, if_pos (by decide), b2, b0]
    rw [choice_Weigh.L0_eq, if_pos (by decide), if_pos (by decide), if_pos (by decide), a2, a3, p3, p4, Option.bind_some, Option.bind_some, t2, Option.bind_some, if_pos (by decide), b3, b1]
    rw [choice_Weigh.L0_eq, if_neg (by decide), if_neg (by decide)]
    show (choice_made.F ([2, 1] : List Int)).bind _ = _
    rw [m1, Option.bind_some]
  have hl : (divG (numL 0 aliveW 2)).length = 2 := by unfold divG; rw [List.length_map, numL_len]
  rw [hushlaw7_alive.F_eq, wg, Option.bind_some, ho.make, if_pos rfl]
  show some (((divG (numL 0 aliveW 2)).length : Int) == 2) = some true
  rw [hl]
  rfl
end Go.Proofs.Ytocmifmelgghdaa.DistPure
end
section
namespace Go.Proofs.Ytocmifmelgghdaa.PA
open Go.RowKit Go.Proofs.YtocmifmelgghdaaW.PrintWords Go.Proofs.YtocmifmelgghdaaW.PrintLast Go.Proofs.YtocmifmelgghdaaW.PrintMore
open Go.Proofs.YtocmifmelgghdaaW.EvKit
set_option linter.unusedVariables false
noncomputable def hushlaw7_ChoiceMiddle.J0 (x0 : List Int) (x1 : Int) (x20 : Bool) : Option (Bool) := lim (fun k => hushlaw7_ChoiceMiddle.j0 k x0 x1 x20)
theorem hushlaw7_ChoiceMiddle.J0_is (x0 : List Int) (x1 : Int) (x20 : Bool) : LimIs (fun k => hushlaw7_ChoiceMiddle.j0 k x0 x1 x20) (hushlaw7_ChoiceMiddle.J0 x0 x1 x20) := ⟨fun k => (hushlaw7_ChoiceMiddle.mono_l k).1 x0 x1 x20, rfl⟩
noncomputable def hushlaw7_ChoiceMiddle.J1 (x0 : List Int) (x6 : List Int) (x8 : List Int) (x47 : Bool) : Option (Bool) := lim (fun k => hushlaw7_ChoiceMiddle.j1 k x0 x6 x8 x47)
theorem hushlaw7_ChoiceMiddle.J1_is (x0 : List Int) (x6 : List Int) (x8 : List Int) (x47 : Bool) : LimIs (fun k => hushlaw7_ChoiceMiddle.j1 k x0 x6 x8 x47) (hushlaw7_ChoiceMiddle.J1 x0 x6 x8 x47) := ⟨fun k => (hushlaw7_ChoiceMiddle.mono_l k).2.1 x0 x6 x8 x47, rfl⟩
noncomputable def hushlaw7_ChoiceMiddle.J2 (x6 : List Int) (x8 : List Int) (x59 : Bool) : Option (Bool) := lim (fun k => hushlaw7_ChoiceMiddle.j2 k x6 x8 x59)
theorem hushlaw7_ChoiceMiddle.J2_is (x6 : List Int) (x8 : List Int) (x59 : Bool) : LimIs (fun k => hushlaw7_ChoiceMiddle.j2 k x6 x8 x59) (hushlaw7_ChoiceMiddle.J2 x6 x8 x59) := ⟨fun k => (hushlaw7_ChoiceMiddle.mono_l k).2.2.1 x6 x8 x59, rfl⟩
noncomputable def hushlaw7_ChoiceMiddle.L0 (x6 : List Int) (x8 : List Int) (x61 : Int) (x62 : Int) : Option (Bool) := lim (fun k => hushlaw7_ChoiceMiddle.l0 k x6 x8 x61 x62)
theorem hushlaw7_ChoiceMiddle.L0_is (x6 : List Int) (x8 : List Int) (x61 : Int) (x62 : Int) : LimIs (fun k => hushlaw7_ChoiceMiddle.l0 k x6 x8 x61 x62) (hushlaw7_ChoiceMiddle.L0 x6 x8 x61 x62) := ⟨fun k => (hushlaw7_ChoiceMiddle.mono_l k).2.2.2 x6 x8 x61 x62, rfl⟩
noncomputable def hushlaw7_ChoiceMiddle.F (l0 : List Int) (a1 : Int) : Option (Bool) := lim (fun k => hushlaw7_ChoiceMiddle.f k l0 a1)
theorem hushlaw7_ChoiceMiddle.F_is (l0 : List Int) (a1 : Int) : LimIs (fun k => hushlaw7_ChoiceMiddle.f k l0 a1) (hushlaw7_ChoiceMiddle.F l0 a1) := ⟨fun k => hushlaw7_ChoiceMiddle.mono l0 a1 k, rfl⟩
set_option maxRecDepth 100000 in
theorem hushlaw7_ChoiceMiddle.J0_eq (x0 : List Int) (x1 : Int) (x20 : Bool) : hushlaw7_ChoiceMiddle.J0 x0 x1 x20 = if x20 = true then (some true) else ((some (([] : List Int) : List Int)).bind fun y191 => (if y191.length + x0.length < 17592186044416 then ((some (y191 ++ x0 : List Int)).bind fun y194 => (if 0 ≤ x1 then (if x1 < (y194.length : Int) then ((choice_Middle.F x0).bind fun bt199 => ((choice_Middle.F (y194.set (x1 : Int).toNat (wrap64 ((rd y194 x1) + 1)))).bind fun bt203 => (if bt199.2 = 0 then (hushlaw7_ChoiceMiddle.J1 x0 bt199.1 bt203.1 (bt203.2 != 0)) else (hushlaw7_ChoiceMiddle.J1 x0 bt199.1 bt203.1 true)))) else (none)) else (none))) else (none))) := by
  refine LimIs.step' (hushlaw7_ChoiceMiddle.J0_is x0 x1 x20).1 (b := fun k => if x20 = true then (some true) else ((some (([] : List Int) : List Int)).bind fun y191 => (if y191.length + x0.length < 17592186044416 then ((some (y191 ++ x0 : List Int)).bind fun y194 => (if 0 ≤ x1 then (if x1 < (y194.length : Int) then ((choice_Middle.f k x0).bind fun bt199 => ((choice_Middle.f k (y194.set (x1 : Int).toNat (wrap64 ((rd y194 x1) + 1)))).bind fun bt203 => (if bt199.2 = 0 then (hushlaw7_ChoiceMiddle.j1 k x0 bt199.1 bt203.1 (bt203.2 != 0)) else (hushlaw7_ChoiceMiddle.j1 k x0 bt199.1 bt203.1 true)))) else (none)) else (none))) else (none)))) (fun k => by first | rfl | rw [hushlaw7_ChoiceMiddle.j0]) ?_
  repeat' first
    | (with_reducible exact choice_Middle.F_is _)
    | (with_reducible exact hushlaw7_ChoiceMiddle.J1_is _ _ _ _)
    | (with_reducible exact LimIs.const _)
    | (with_reducible refine LimIs.ite ?_ ?_)
    | (with_reducible refine LimIs.bind ?_ (fun _ => ?_))
    | exact choice_Middle.F_is _
    | exact hushlaw7_ChoiceMiddle.J1_is _ _ _ _
    | exact LimIs.const _
    | refine LimIs.ite ?_ ?_
    | refine LimIs.bind ?_ (fun _ => ?_)
set_option maxRecDepth 100000 in
theorem hushlaw7_ChoiceMiddle.J1_eq (x0 : List Int) (x6 : List Int) (x8 : List Int) (x47 : Bool) : hushlaw7_ChoiceMiddle.J1 x0 x6 x8 x47 = if x47 = true then (some true) else (if (x6.length : Int) = (x0.length : Int) then (hushlaw7_ChoiceMiddle.J2 x6 x8 ((x8.length : Int) != (x0.length : Int))) else (hushlaw7_ChoiceMiddle.J2 x6 x8 true)) := by
  refine LimIs.step' (hushlaw7_ChoiceMiddle.J1_is x0 x6 x8 x47).1 (b := fun k => if x47 = true then (some true) else (if (x6.length : Int) = (x0.length : Int) then (hushlaw7_ChoiceMiddle.j2 k x6 x8 ((x8.length : Int) != (x0.length : Int))) else (hushlaw7_ChoiceMiddle.j2 k x6 x8 true))) (fun k => by first | rfl | rw [hushlaw7_ChoiceMiddle.j1]) ?_
  repeat' first
    | (with_reducible exact hushlaw7_ChoiceMiddle.J2_is _ _ _)
    | (with_reducible exact LimIs.const _)
    | (with_reducible refine LimIs.ite ?_ ?_)
    | (with_reducible refine LimIs.bind ?_ (fun _ => ?_))
    | exact hushlaw7_ChoiceMiddle.J2_is _ _ _
    | exact LimIs.const _
    | refine LimIs.ite ?_ ?_
    | refine LimIs.bind ?_ (fun _ => ?_)
set_option maxRecDepth 100000 in
theorem hushlaw7_ChoiceMiddle.J2_eq (x6 : List Int) (x8 : List Int) (x59 : Bool) : hushlaw7_ChoiceMiddle.J2 x6 x8 x59 = if x59 = true then (some false) else (hushlaw7_ChoiceMiddle.L0 x6 x8 (x6.length : Int) 0) := by
  refine LimIs.step' (hushlaw7_ChoiceMiddle.J2_is x6 x8 x59).1 (b := fun k => if x59 = true then (some false) else (hushlaw7_ChoiceMiddle.l0 k x6 x8 (x6.length : Int) 0)) (fun k => by first | rfl | rw [hushlaw7_ChoiceMiddle.j2]) ?_
  repeat' first
    | (with_reducible exact hushlaw7_ChoiceMiddle.L0_is _ _ _ _)
    | (with_reducible exact LimIs.const _)
    | (with_reducible refine LimIs.ite ?_ ?_)
    | (with_reducible refine LimIs.bind ?_ (fun _ => ?_))
    | exact hushlaw7_ChoiceMiddle.L0_is _ _ _ _
    | exact LimIs.const _
    | refine LimIs.ite ?_ ?_
    | refine LimIs.bind ?_ (fun _ => ?_)
set_option maxRecDepth 100000 in
theorem hushlaw7_ChoiceMiddle.L0_eq (x6 : List Int) (x8 : List Int) (x61 : Int) (x62 : Int) : hushlaw7_ChoiceMiddle.L0 x6 x8 x61 x62 = if x62 < x61 then (if 0 ≤ x62 then (if x62 < (x6.length : Int) then (if x62 < (x8.length : Int) then (if (wrap64 ((rd x6 x62) - (rd x8 x62))) > 1 then (some false) else (if (wrap64 ((rd x8 x62) - (rd x6 x62))) > 1 then (some false) else (if (rd x6 x62) > 0 then (some false) else (hushlaw7_ChoiceMiddle.L0 x6 x8 x61 (wrap64 (x62 + 1)))))) else (none)) else (none)) else (none)) else (some true) := by
  refine LimIs.step' (hushlaw7_ChoiceMiddle.L0_is x6 x8 x61 x62).1 (b := fun k => if x62 < x61 then (if 0 ≤ x62 then (if x62 < (x6.length : Int) then (if x62 < (x8.length : Int) then (if (wrap64 ((rd x6 x62) - (rd x8 x62))) > 1 then (some false) else (if (wrap64 ((rd x8 x62) - (rd x6 x62))) > 1 then (some false) else (if (rd x6 x62) > 0 then (some false) else (hushlaw7_ChoiceMiddle.l0 k x6 x8 x61 (wrap64 (x62 + 1)))))) else (none)) else (none)) else (none)) else (some true)) (fun k => by first | rfl | rw [hushlaw7_ChoiceMiddle.l0]) ?_
  repeat' first
    | (with_reducible exact hushlaw7_ChoiceMiddle.L0_is _ _ _ _)
    | (with_reducible exact LimIs.const _)
    | (with_reducible refine LimIs.ite ?_ ?_)
    | (with_reducible refine LimIs.bind ?_ (fun _ => ?_))
    | exact hushlaw7_ChoiceMiddle.L0_is _ _ _ _
    | exact LimIs.const _
    | refine LimIs.ite ?_ ?_
    | refine LimIs.bind ?_ (fun _ => ?_)
set_option maxRecDepth 100000 in
theorem hushlaw7_ChoiceMiddle.F_eq (l0 : List Int) (a1 : Int) : hushlaw7_ChoiceMiddle.F l0 a1 = (hushlaw7_alive.F).bind fun t190 => (if t190 = true then (if a1 < 0 then (hushlaw7_ChoiceMiddle.J0 l0 a1 true) else (hushlaw7_ChoiceMiddle.J0 l0 a1 (decide (a1 ≥ (l0.length : Int))))) else (some false)) := by
  refine LimIs.out (?_ : LimIs (fun k => (hushlaw7_alive.f k).bind fun t190 => (if t190 = true then (if a1 < 0 then (hushlaw7_ChoiceMiddle.j0 k l0 a1 true) else (hushlaw7_ChoiceMiddle.j0 k l0 a1 (decide (a1 ≥ (l0.length : Int))))) else (some false))) _)
  repeat' first
    | (with_reducible exact hushlaw7_alive.F_is)
    | (with_reducible exact hushlaw7_ChoiceMiddle.J0_is _ _ _)
    | (with_reducible exact LimIs.const _)
    | (with_reducible refine LimIs.ite ?_ ?_)
    | (with_reducible refine LimIs.bind ?_ (fun _ => ?_))
    | exact hushlaw7_alive.F_is
    | exact hushlaw7_ChoiceMiddle.J0_is _ _ _
    | exact LimIs.const _
    | refine LimIs.ite ?_ ?_
    | refine LimIs.bind ?_ (fun _ => ?_)
end Go.Proofs.Ytocmifmelgghdaa.PA
end
section
namespace Go.Proofs.Ytocmifmelgghdaa.MidPure
set_option linter.unusedVariables false
set_option linter.unusedSimpArgs false
open Go.RowKit Go.Proofs.Ytocmifmelgghdaa.PA Go.Proofs.YtocmifmelgghdaaW.PrintWords Go.Proofs.YtocmifmelgghdaaW.PrintLast Go.Proofs.YtocmifmelgghdaaW.PrintMore Go.Proofs.YtocmifmelgghdaaW.EvKit
theorem cm_loop (xs ys : List Int) {at_ : Nat} (ha : at_ < xs.length) (hx : okAt xs xs.length) (hl : xs.length ≤ 4096) (hy : ys = xs.set at_ (rd xs (at_ : Int) + 1)) (hyo : okAt ys ys.length) : ∀ (m i : Nat), i + m = xs.length →
    hushlaw7_ChoiceMiddle.L0 (midL xs xs.length xs.length) (midL ys ys.length ys.length) (xs.length : Int) (i : Int) = some true := by
  have hyl : ys.length = xs.length := by rw [hy]; simp
  intro m
  induction m with
  | zero =>
    intro i hi
    rw [hushlaw7_ChoiceMiddle.L0_eq, if_neg (by omega)]
  | succ m ih =>
    intro i hi
    have l1 := midL_len xs xs.length xs.length
    have l2 := midL_len ys ys.length ys.length
    obtain ⟨n1, n2, n3⟩ := mid_near xs ha hx (i := i) (by omega) hy
    have b1 := mid_bd xs hx hl (i := i) (by omega)
    have b2 := mid_bd ys hyo (by omega) (i := i) (by omega)
    rw [hushlaw7_ChoiceMiddle.L0_eq, if_pos (by omega), if_pos (by omega), if_pos (by omega), if_pos (by omega)]
    generalize rd (midL xs xs.length xs.length) (i : Int) = a at *
    generalize rd (midL ys ys.length ys.length) (i : Int) = b at *
    rw [wrap64_of (x := a - b) (by omega) (by omega), wrap64_of (x := b - a) (by omega) (by omega), if_neg (by omega), if_neg (by omega), if_neg (by omega), w1 (by omega)]
    exact ih (i + 1) (by omega)
end Go.Proofs.Ytocmifmelgghdaa.MidPure
namespace Go.Proofs.Ytocmifmelgghdaa.Pure
open Go.RowKit Go.Proofs.Ytocmifmelgghdaa.PA Go.Proofs.YtocmifmelgghdaaW.PrintWords Go.Proofs.YtocmifmelgghdaaW.PrintLast Go.Proofs.YtocmifmelgghdaaW.PrintMore Go.Proofs.YtocmifmelgghdaaW.EvKit Go.Proofs.Ytocmifmelgghdaa.MidPure
theorem ones_mid (l : List Int) : (l.map (fun _ => 1)).sum = l.length := by
  induction l with
  | nil => rfl
  | cons a l ih => rw [List.map_cons, List.sum_cons, ih, List.length_cons]; omega
theorem ChoiceMiddle : hushlaw7_ChoiceMiddle.Pure := by
  intro xs a h0 h1 hb
  have b3 := ones_mid xs
  have hn : xs.length ≤ 1048576 := by omega
  clear hb b3
  refine (hushlaw7_ChoiceMiddle.F_is xs a).rounds ?_
  have yes : hushlaw7_ChoiceMiddle.J0 xs a true = some true := by rw [hushlaw7_ChoiceMiddle.J0_eq, if_pos rfl]
  rw [hushlaw7_ChoiceMiddle.F_eq, DistPure.alive_choice, Option.bind_some, if_pos rfl]
  by_cases c1 : a < 0
  · rw [if_pos c1, yes]
  by_cases c2 : a ≥ (xs.length : Int)
  · rw [if_neg c1, decide_eq_true c2, yes]
  obtain ⟨k, rfl⟩ := Int.eq_ofNat_of_zero_le (show 0 ≤ a by omega)
  have hk : k < xs.length := by omega
  rw [if_neg c1, decide_eq_false c2, hushlaw7_ChoiceMiddle.J0_eq, if_neg (by decide), Option.bind_some, List.length_nil, if_pos (by omega), List.nil_append, Option.bind_some, if_pos (by omega), if_pos (by omega), Int.toNat_natCast]
  have no : ∀ (p q : List Int) (b : Bool), b = true → hushlaw7_ChoiceMiddle.J1 xs p q b = some true := fun p q b h => by rw [hushlaw7_ChoiceMiddle.J1_eq, if_pos h]
  rcases middleF xs hn with ⟨e, he, e1⟩ | ⟨hx, hl, e1⟩
  · rw [e1, Option.bind_some]
    rcases middleF (xs.set k (wrap64 (rd xs (k : Int) + 1))) (by rw [List.length_set]; exact hn) with ⟨e', he', e2⟩ | ⟨hy, _, e2⟩
    · rw [e2, Option.bind_some, if_neg he, no _ _ _ rfl]
    · rw [e2, Option.bind_some, if_neg he, no _ _ _ rfl]
  · have hr := hx k hk
    have ew : wrap64 (rd xs (k : Int) + 1) = rd xs (k : Int) + 1 := wrap64_of (by omega) (by omega)
    rw [ew, e1, Option.bind_some]
    rcases middleF (xs.set k (rd xs (k : Int) + 1)) (by rw [List.length_set]; exact hn) with ⟨e', he', e2⟩ | ⟨hy, _, e2⟩
    · rw [e2, Option.bind_some, if_pos rfl, no _ _ _ (bne_iff_ne.2 he')]
    · have l1 := midL_len xs xs.length xs.length
      have l2 := midL_len (xs.set k (rd xs (k : Int) + 1)) (xs.set k (rd xs (k : Int) + 1)).length (xs.set k (rd xs (k : Int) + 1)).length
      have l3 : (xs.set k (rd xs (k : Int) + 1)).length = xs.length := by simp
      rw [e2, Option.bind_some, if_pos rfl, hushlaw7_ChoiceMiddle.J1_eq, if_neg (by simp), if_pos (by rw [l1]), l2, l3, hushlaw7_ChoiceMiddle.J2_eq, if_neg (by simp), l1]
      have h := cm_loop xs _ hk hx hl rfl hy xs.length 0 (by omega)
      rw [l3] at h
      exact h
end Go.Proofs.Ytocmifmelgghdaa.Pure
end

/- Functions of the translated program as Lean functions, and what their calls come to: written by this session's own program (wip/xprint.py) over the kit's print. Conditions stand in each theorem. -/
import Derived.Test.YtfoolbcfpedhmaaPAx0
import Derived.Test.YtfoolbcfpedhmaaPAx2
import Derived.Test.YtfoolbcfpedhmaaPAx3
import Derived.Test.YtfoolbcfpedhmaaPAx4
import Derived.Test.YtfoolbcfpedhmaaPAx12
namespace Go.Proofs.Ytfoolbcfpedhmaa.PA
open Go.RowKit Go.Proofs.YtfoolbcfpedhmaaW.PrintWords Go.Proofs.YtfoolbcfpedhmaaW.PrintLast Go.Proofs.YtfoolbcfpedhmaaW.PrintMore
attribute [local go_sem] max2_int min2_int max_two min_two max_three min_three max_four min_four   -- for this text's walks alone
set_option linter.unusedVariables false
set_option linter.unusedSimpArgs false

/-! ### dist_Far: function 15 -/
section FarText
open Go.Shelf Go.Proofs Go.Proofs.YtfoolbcfpedhmaaW.EvKit
section
theorem Oper.wpIn_toRound {F : Fence} {n : Nat} {P : Program} {Q : Exit → Act → World → Prop} (l : Nat) {o : Oper} {a : Act} {w : World} {K K' : Act → World → Prop} (hro : F.round = none) (hd : ∀ c, o.op ≠ .defer c) (h : ∀ a w, K a w → K' a w)
    (hh : o.wpIn F n P a w K Q) : o.wpIn (F.inRound l) n P a w K' Q := by
  unfold Oper.wpIn at *
  refine ⟨hh.1, ?_⟩
  have hh := hh.2
  rw [Oper.semAt_plain _ _ _ hd] at hh ⊢
  generalize (execOp a.eval o).run P w = r at *
  cases r with
  | ok x w' =>
    cases x <;> simp only [Oper.uponIn] at hh ⊢ <;>
      first
        | exact h _ _ hh
        | exact ⟨hh.1, CallsIn.inRound l (CallsIn.mono hh.2 (fun e w'' he => by cases e <;> first | exact h _ _ he | exact he))⟩
        | exact ⟨hh.1, RowsIn.mono hh.2 (fun _ _ he => h _ _ he)⟩
        | exact ⟨hh.1, RoundIn.mono hh.2 (fun e w'' he => by cases e <;> first | exact h _ _ he | exact he)⟩
  | halt x w' => cases x <;> simp only [Oper.uponIn] at hh ⊢ <;> exact hh
theorem wpOpIn_toRound {F : Fence} {n : Nat} {P : Program} {ops : Array Oper} {Q : Exit → Act → World → Prop} (l : Nat) {i : Nat} {a : Act} {w : World} {K K' : Act → World → Prop} (hro : F.round = none) (hd : ∀ (i : Nat) o, ops[i]? = some o → ∀ c, o.op ≠ .defer c) (h : ∀ a w, K a w → K' a w)
    (hh : wpOpIn F n P ops Q i K a w) : wpOpIn (F.inRound l) n P ops Q i K' a w := by
  unfold wpOpIn at *
  split
  · exact h _ _ (by simpa [*] using hh)
  · rename_i o ho
    simp only [ho] at hh
    split
    · rename_i hw; simp only [hw, if_true] at hh; exact Oper.wpIn_toRound l hro (hd i o ho) h hh
    · rename_i hw; simp only [hw] at hh; exact ⟨hh.1, h _ _ hh.2⟩
theorem wpAnyIn_toRound {F : Fence} {n : Nat} {P : Program} {ops : Array Oper} {Q : Exit → Act → World → Prop} {md : Region.Mode} (l : Nat) (hro : F.round = none) (hd : ∀ (i : Nat) o, ops[i]? = some o → ∀ c, o.op ≠ .defer c) : ∀ (k : Nat) (listed : Array Bool) (a : Act) (w : World),
    wpAnyIn F n P md ops Q k listed a w → wpAnyIn (F.inRound l) n P md ops Q k listed a w
  | 0, _, _, _, h => h
  | k + 1, listed, a, w, h => ⟨h.1, fun i hi => wpOpIn_toRound l hro hd (fun a w h => wpAnyIn_toRound l hro hd k _ a w h) (h.2 i hi)⟩
/-- A region that draws its order, in a round: one walk of the order of the text. -/
theorem wpIn_region_quiet_round {F : Fence} {n : Nat} {P : Program} {id : Nat} {Q : Exit → Act → World → Prop} {a : Act} {w : World} {ls : List Oper} (l : Nat) (hro : F.round = none) (hm : P.follows .mixedOrders = true) (hB : Region.lexB .any ls.toArray = true) (hd : ls.all (fun o => match o.op with | .defer _ => false | _ => true) = true)
    (h : wpQuietIn F n P ls.toArray (fun w' => ∃ n, w' = w.drewN n) (fun a' => ∀ w', (∃ n, w' = w.drewN n) → Q .normal a' w') ls a) : (Code.region id ls.toArray true).wpIn (F.inRound l) n P Q a w := by
  have hB' := hB
  simp only [Region.lexB, Bool.and_eq_true] at hB'
  refine wpIn_region_any (F := F.inRound l) hm (wpAnyIn_toRound l hro ?_ _ _ _ _ (wpAnyIn_of_quiet (C := fun w' => ∃ n, w' = w.drewN n) (Q := fun a' => ∀ w', (∃ n, w' = w.drewN n) → Q .normal a' w') hro (fun _ w' hw' h => h w' hw') _ _ _ _ ⟨1, rfl⟩ ?_))
  · intro i o ho c hc
    have hm' : o ∈ ls := by
      have := List.mem_of_getElem? (l := ls) (i := i) (a := o) (by simpa using ho)
      exact this
    have := List.all_eq_true.1 hd o hm'
    rw [hc] at this
    cases this
  · have := wpAnyQIn_lex (F := F) (n := n) (P := P) (C := fun w' => ∃ n, w' = w.drewN n) (md := .any) (Q := fun a' => ∀ w', (∃ n, w' = w.drewN n) → Q .normal a' w') (ops := ls.toArray) hB'.1 ls 0 (Array.replicate ls.toArray.size false) a (by simp) (by simpa using hB'.2) h
    simpa using this
end
section
/-- What comes of two distributions, side by side: the weights in both. -/
def pairsL : List S38 → List S38 → List (Int × Int)
  | [], [] => []
  | [], q :: b => (0, q.f1) :: pairsL [] b
  | p :: a, [] => (p.f1, 0) :: pairsL a []
  | p :: a, q :: b => if cmpL p.f0 q.f0 < 0 then (p.f1, 0) :: pairsL a (q :: b) else if cmpL p.f0 q.f0 > 0 then (0, q.f1) :: pairsL (p :: a) b else (p.f1, q.f1) :: pairsL a b
termination_by a b => a.length + b.length
theorem pairs_nil : pairsL [] [] = [] := by rw [pairsL]
theorem pairs_r (q : S38) (b : List S38) : pairsL [] (q :: b) = (0, q.f1) :: pairsL [] b := by rw [pairsL]
theorem pairs_l (p : S38) (a : List S38) : pairsL (p :: a) [] = (p.f1, 0) :: pairsL a [] := by rw [pairsL]
theorem pairs_lt {p q : S38} (a b : List S38) (h : cmpL p.f0 q.f0 < 0) : pairsL (p :: a) (q :: b) = (p.f1, 0) :: pairsL a (q :: b) := by rw [pairsL, if_pos h]
theorem pairs_gt {p q : S38} (a b : List S38) (h : cmpL p.f0 q.f0 > 0) : pairsL (p :: a) (q :: b) = (0, q.f1) :: pairsL (p :: a) b := by rw [pairsL, if_neg (by omega), if_pos h]
theorem pairs_eq {p q : S38} (a b : List S38) (h : cmpL p.f0 q.f0 = 0) : pairsL (p :: a) (q :: b) = (p.f1, q.f1) :: pairsL a b := by rw [pairsL, if_neg (by omega), if_neg (by omega)]
theorem pairs_len : ∀ (n : Nat) (a b : List S38), a.length + b.length ≤ n → (pairsL a b).length ≤ n
  | n, [], [], _ => by rw [pairs_nil]; exact Nat.zero_le _
  | 0, _ :: _, _, h => by simp at h
  | 0, [], _ :: _, h => by simp at h
  | n + 1, [], q :: b, h => by
    have := pairs_len n [] b (by simp at h ⊢; omega)
    rw [pairs_r, List.length_cons]; omega
  | n + 1, p :: a, [], h => by
    have := pairs_len n a [] (by simp at h ⊢; omega)
    rw [pairs_l, List.length_cons]; omega
  | n + 1, p :: a, q :: b, h => by
    by_cases h1 : cmpL p.f0 q.f0 < 0
    · have := pairs_len n a (q :: b) (by simp at h ⊢; omega)
      rw [pairs_lt _ _ h1, List.length_cons]; omega
    · by_cases h2 : cmpL p.f0 q.f0 > 0
      · have := pairs_len n (p :: a) b (by simp at h ⊢; omega)
        rw [pairs_gt _ _ h2, List.length_cons]; omega
      · have := pairs_len n a b (by simp at h ⊢; omega)
        rw [pairs_eq _ _ (by omega), List.length_cons]; omega
theorem atP {xs : List S38} {i : Nat} (h : i < xs.length) : rd_T38 xs (i : Int) = xs[i] := by
  unfold rd_T38
  rw [Int.toNat_natCast, List.getD_eq_getElem?_getD, List.getElem?_eq_getElem h]; rfl
end
section
theorem two_C {w : World} {g : Nat} {A0 A1 : Option Addr} {c0 c1 : Nat} {la lb : List S38} (h0 : w.cell? ⟨g, 0, none⟩ = some (.slice A0 la.length c0)) (h1 : w.cell? ⟨g, 1, none⟩ = some (.slice A1 lb.length c1)) (hc0 : la.length ≤ c0) (hc1 : lb.length ≤ c1) (hr0 : Kd.C k38 w A0 la.length la) (hr1 : Kd.C k38 w A1 lb.length lb) : Kd.C (Kd.slice 38 k38) w (some ⟨g, 0, none⟩) 2 [la, lb] := by
  refine ⟨rfl, by decide, fun _ => ⟨_, rfl, fun j p hj => ?_⟩⟩
  match j, hj with
  | 0, hj =>
    obtain rfl : la = p := by simpa using hj
    refine ⟨[.slice A0 la.length c0], rfl, ⟨A0, c0, rfl, hc0, hr0⟩, fun i u hu => ?_⟩
    match i, hu with
    | 0, hu =>
      obtain rfl : Value.slice A0 la.length c0 = u := by simpa using hu
      exact h0
    | i + 1, hu => simp at hu
  | 1, hj =>
    obtain rfl : lb = p := by simpa using hj
    refine ⟨[.slice A1 lb.length c1], rfl, ⟨A1, c1, rfl, hc1, hr1⟩, fun i u hu => ?_⟩
    match i, hu with
    | 0, hu =>
      obtain rfl : Value.slice A1 lb.length c1 = u := by simpa using hu
      exact h1
    | i + 1, hu => simp at hu
  | j + 2, hj => simp at hj

theorem alloc_blk {V : World} {g : Nat} {o : Obj} (o' : Obj) (x : Option Nat) (h : V.heap[g]? = some o) : (V.alloc o').heap[g]? = some o := ((World.grownBy_alloc V o' none).block _ (Array.getElem?_eq_some_iff.1 h).1 (by simp)).trans h
end
section
theorem quotN {u : Nat} (v : Nat) (h : u ≤ 4611686018427387904) : wrap64 (Int.tdiv (u : Int) (v : Int)) = ((u / v : Nat) : Int) := by
  have h1 : u / v ≤ u := Nat.div_le_self _ _
  show wrap64 ((u / v : Nat) : Int) = _
  generalize u / v = q at h1 ⊢
  rw [wrap64_of (by omega) (by omega)]
theorem more_gt {u v x y : Nat} (hv : 0 < v) (hy : 0 < y) (h : x / y < u / v) : x * v < u * y := by
  have h1 : x < u / v * y := (Nat.div_lt_iff_lt_mul hy).1 h
  have h2 : u / v * v ≤ u := Nat.div_mul_le_self u v
  calc x * v < u / v * y * v := Nat.mul_lt_mul_of_pos_right h1 hv
    _ = u / v * v * y := by rw [Nat.mul_assoc, Nat.mul_comm y v, ← Nat.mul_assoc]
    _ ≤ u * y := Nat.mul_le_mul_right y h2
theorem more_eq {u v x y : Nat} (h : u / v = x / y) : (x * v < u * y ↔ x % y * v < u % v * y) := by
  have h1 : u * y = u / v * v * y + u % v * y := by rw [← Nat.add_mul, Nat.div_add_mod' u v]
  have h2 : x * v = u / v * v * y + x % y * v := by
    rw [h, Nat.mul_assoc, Nat.mul_comm v y, ← Nat.mul_assoc, ← Nat.add_mul, Nat.div_add_mod' x y]
  rw [h1, h2]
  omega
theorem more_loop : ∀ (n u v x y : Nat), v + y ≤ n → 0 < v → 0 < y → u ≤ 4611686018427387904 → v ≤ 4611686018427387904 → x ≤ 4611686018427387904 → y ≤ 4611686018427387904 →
    ∃ k, dist_more.l0 k (u : Int) (v : Int) (x : Int) (y : Int) = some (decide (x * v < u * y)) := by
  intro n
  induction n with
  | zero => intro u v x y h hv; omega
  | succ n ih =>
    intro u v x y h hv hy b1 b2 b3 b4
    have e1 : wrap64 (Int.tdiv (u : Int) (v : Int)) = ((u / v : Nat) : Int) := quotN v b1
    have e2 : wrap64 (Int.tdiv (x : Int) (y : Int)) = ((x / y : Nat) : Int) := quotN y b3
    have e3 : Int.tmod (u : Int) (v : Int) = ((u % v : Nat) : Int) := rfl
    have e4 : Int.tmod (x : Int) (y : Int) = ((x % y : Nat) : Int) := rfl
    have hu := Nat.mod_lt u hv
    have hx := Nat.mod_lt x hy
    by_cases c : u / v = x / y
    · have hm := more_eq c
      by_cases c1 : u % v = 0
      · refine ⟨1, ?_⟩
        rw [dist_more.l0, if_neg (by omega), if_neg (by omega), e1, e2, e3, e4, if_pos (by omega), if_pos (by omega)]
        congr 1
        rw [decide_eq_decide, hm, c1]
        omega
      · by_cases c2 : x % y = 0
        · refine ⟨1, ?_⟩
          rw [dist_more.l0, if_neg (by omega), if_neg (by omega), e1, e2, e3, e4, if_pos (by omega), if_neg (by omega), if_pos (by omega)]
          congr 1
          rw [decide_eq_decide, hm, c2, Nat.zero_mul]
          have := Nat.mul_pos (show 0 < u % v by omega) hy
          exact ⟨fun _ => this, fun _ => by omega⟩
        · obtain ⟨k, hk⟩ := ih y (x % y) v (u % v) (by omega) (by omega) (by omega) b4 (by omega) b2 (by omega)
          refine ⟨k + 1, ?_⟩
          rw [dist_more.l0, if_neg (by omega), if_neg (by omega), e1, e2, e3, e4, if_pos (by omega), if_neg (by omega), if_neg (by omega), hk]
          congr 1
          rw [decide_eq_decide, hm, Nat.mul_comm v, Nat.mul_comm y]
    · refine ⟨1, ?_⟩
      rw [dist_more.l0, if_neg (by omega), if_neg (by omega), e1, e2, if_neg (by omega)]
      congr 1
      rw [decide_eq_decide]
      rcases Nat.lt_or_ge (x / y) (u / v) with c1 | c1
      · exact ⟨fun _ => more_gt hv hy c1, fun _ => by omega⟩
      · have := more_gt hy hv (show u / v < x / y by omega)
        constructor
        · intro h; omega
        · intro h; omega
end
section
def fHi (ta tb : Nat) (x : Int × Int) : Nat := max (x.1.toNat * tb) (x.2.toNat * ta)
def fLo (ta tb : Nat) (x : Int × Int) : Nat := min (x.1.toNat * tb) (x.2.toNat * ta)
def fG (ta tb : Nat) (x : Int × Int) : Nat := Nat.gcd (fLo ta tb x) (fHi ta tb x)
def fU (ta tb : Nat) (x : Int × Int) : Nat := fHi ta tb x / fG ta tb x
def fV (ta tb : Nat) (x : Int × Int) : Nat := fLo ta tb x / fG ta tb x
def fB (ta tb : Nat) (s : Nat × Nat) (x : Int × Int) : Bool := decide (s.1 * fV ta tb x < fU ta tb x * s.2)
def fStep (ta tb : Nat) (s : Nat × Nat) (x : Int × Int) : Nat × Nat := if fB ta tb s x = true then (fU ta tb x, fV ta tb x) else s
def fFold (ta tb : Nat) (L : List (Int × Int)) : Nat × Nat := L.foldl (fStep ta tb) (1, 1)
theorem fFold_snoc (ta tb : Nat) (L : List (Int × Int)) (x : Int × Int) : fFold ta tb (L ++ [x]) = fStep ta tb (fFold ta tb L) x := by unfold fFold; rw [List.foldl_append]; rfl
/-- A pair of weights that is good; one without a nought. -/
def pOk (x : Int × Int) : Prop := 0 ≤ x.1 ∧ x.1 ≤ 1073741824 ∧ 0 ≤ x.2 ∧ x.2 ≤ 1073741824
def pNo (x : Int × Int) : Prop := ¬ x.1 = 0 ∧ ¬ x.2 = 0
def sOk (s : Nat × Nat) : Prop := 1 ≤ s.1 ∧ s.1 ≤ 1152921504606846976 ∧ 1 ≤ s.2 ∧ s.2 ≤ 1152921504606846976
theorem p_mul {a t : Nat} (h1 : 1 ≤ a) (h2 : a ≤ 1073741824) (h3 : 1 ≤ t) (h4 : t ≤ 1073741824) : 1 ≤ a * t ∧ a * t ≤ 1152921504606846976 :=
  ⟨Nat.mul_pos h1 h3, Nat.mul_le_mul h2 h4⟩
theorem f_bd {ta tb : Nat} (ha : 1 ≤ ta) (ha' : ta ≤ 1073741824) (hb : 1 ≤ tb) (hb' : tb ≤ 1073741824) {x : Int × Int} (h : pOk x) (h0 : pNo x) :
    1 ≤ fLo ta tb x ∧ fLo ta tb x ≤ fHi ta tb x ∧ fHi ta tb x ≤ 1152921504606846976 ∧ 1 ≤ fG ta tb x ∧ fG ta tb x ≤ 1152921504606846976 ∧ sOk (fU ta tb x, fV ta tb x) := by
  obtain ⟨h1, h2, h3, h4⟩ := h
  obtain ⟨n1, n2⟩ := h0
  have m1 := p_mul (a := x.1.toNat) (t := tb) (by omega) (by omega) hb hb'
  have m2 := p_mul (a := x.2.toNat) (t := ta) (by omega) (by omega) ha ha'
  have e1 : 1 ≤ fLo ta tb x := by unfold fLo; omega
  have e2 : fLo ta tb x ≤ fHi ta tb x := by unfold fLo fHi; omega
  have e3 : fHi ta tb x ≤ 1152921504606846976 := by unfold fHi; omega
  have g1 : 1 ≤ fG ta tb x := Nat.gcd_pos_of_pos_left _ e1
  have g2 : fG ta tb x ≤ fLo ta tb x := Nat.gcd_le_left _ e1
  have g3 : fG ta tb x ≤ fHi ta tb x := Nat.le_trans g2 e2
  refine ⟨e1, e2, e3, g1, by omega, ?_, ?_, ?_, ?_⟩
  · exact (Nat.one_le_div_iff g1).2 g3
  · exact Nat.le_trans (Nat.div_le_self _ _) e3
  · exact (Nat.one_le_div_iff g1).2 g2
  · exact Nat.le_trans (Nat.div_le_self _ _) (by omega)
theorem fStep_ok {ta tb : Nat} (ha : 1 ≤ ta) (ha' : ta ≤ 1073741824) (hb : 1 ≤ tb) (hb' : tb ≤ 1073741824) {x : Int × Int} (h : pOk x) (h0 : pNo x) {s : Nat × Nat} (hs : sOk s) : sOk (fStep ta tb s x) := by
  unfold fStep
  split
  · exact (f_bd ha ha' hb hb' h h0).2.2.2.2.2
  · exact hs
theorem fold_ok {ta tb : Nat} (ha : 1 ≤ ta) (ha' : ta ≤ 1073741824) (hb : 1 ≤ tb) (hb' : tb ≤ 1073741824) : ∀ (L : List (Int × Int)) (s : Nat × Nat), sOk s → (∀ x ∈ L, pOk x ∧ pNo x) → sOk (L.foldl (fStep ta tb) s)
  | [], s, hs, _ => hs
  | x :: L, s, hs, h => fold_ok ha ha' hb hb' L _ (fStep_ok ha ha' hb hb' (h x (by simp)).1 (h x (by simp)).2 hs) (fun y hy => h y (by simp [hy]))
theorem fFold_ok {ta tb : Nat} (ha : 1 ≤ ta) (ha' : ta ≤ 1073741824) (hb : 1 ≤ tb) (hb' : tb ≤ 1073741824) (L : List (Int × Int)) (h : ∀ x ∈ L, pOk x ∧ pNo x) : sOk (fFold ta tb L) :=
  fold_ok ha ha' hb hb' L _ (by unfold sOk; omega) h
/-- What Far tells. -/
def farOut (s : Nat × Nat) : Int × Int × Int := if s.1 > 1073741824 ∨ s.2 > 1073741824 then (0, 0, 4) else ((s.1 : Int), (s.2 : Int), 0)
/-- What happens to one pair: the numbers that the code reckons with. -/
theorem f_facts {ta tb : Nat} (ha : 1 ≤ ta) (ha' : ta ≤ 1073741824) (hb : 1 ≤ tb) (hb' : tb ≤ 1073741824) {x : Int × Int} (h : pOk x) (h0 : pNo x) {s : Nat × Nat} (hs : sOk s) :
    ∃ u v hi lo g U V : Nat, ∃ (b : Bool) (kg km : Nat), IntKind.i64.wrap (x.1 * (tb : Int)) = (u : Int) ∧ IntKind.i64.wrap (x.2 * (ta : Int)) = (v : Int) ∧ (u < v → hi = v ∧ lo = u) ∧ (¬ u < v → hi = u ∧ lo = v) ∧ 1 ≤ g ∧
      dist_gcd.f kg (hi : Int) (lo : Int) = some (g : Int) ∧ IntKind.i64.wrap ((hi : Int) / (g : Int)) = (U : Int) ∧ IntKind.i64.wrap ((lo : Int) / (g : Int)) = (V : Int) ∧ dist_more.f km (U : Int) (V : Int) ((s.1 : Nat) : Int) ((s.2 : Nat) : Int) = some b ∧
      fStep ta tb s x = if b = true then (U, V) else s := by
  obtain ⟨b1, b2, b3, b4, b5, c1, c2, c3, c4⟩ := f_bd ha ha' hb hb' h h0
  obtain ⟨h1, h2, h3, h4⟩ := h
  obtain ⟨n1, n2⟩ := h0
  have m1 := p_mul (a := x.1.toNat) (t := tb) (by omega) (by omega) hb hb'
  have m2 := p_mul (a := x.2.toNat) (t := ta) (by omega) (by omega) ha ha'
  obtain ⟨km, hk⟩ := more_loop _ (fU ta tb x) (fV ta tb x) s.1 s.2 (Nat.le_refl _) c3 hs.2.2.1 (Nat.le_trans c2 (by decide)) (Nat.le_trans c4 (by decide)) (Nat.le_trans hs.2.1 (by decide)) (Nat.le_trans hs.2.2.2 (by decide))
  obtain ⟨kg, hg⟩ := gcd_is (fHi ta tb x) (fLo ta tb x)
  have q1 : wrap64 (Int.tdiv ((fHi ta tb x : Nat) : Int) ((fG ta tb x : Nat) : Int)) = ((fU ta tb x : Nat) : Int) := quotN _ (Nat.le_trans b3 (by decide))
  have q2 : wrap64 (Int.tdiv ((fLo ta tb x : Nat) : Int) ((fG ta tb x : Nat) : Int)) = ((fV ta tb x : Nat) : Int) := quotN _ (Nat.le_trans b2 (Nat.le_trans b3 (by decide)))
  refine ⟨x.1.toNat * tb, x.2.toNat * ta, fHi ta tb x, fLo ta tb x, fG ta tb x, fU ta tb x, fV ta tb x, fB ta tb s x, kg, km, ?_, ?_, ?_, ?_, b4, hg, by rw [IntWalk.i64_left]; exact q1, by rw [IntWalk.i64_left]; exact q2, hk, rfl⟩
  · have e : x.1 * (tb : Int) = ((x.1.toNat * tb : Nat) : Int) := by rw [Int.natCast_mul, Int.toNat_of_nonneg h1]
    rw [IntWalk.i64_left, e, wrap64_of (by omega) (by omega)]
  · have e : x.2 * (ta : Int) = ((x.2.toNat * ta : Nat) : Int) := by rw [Int.natCast_mul, Int.toNat_of_nonneg h3]
    rw [IntWalk.i64_left, e, wrap64_of (by omega) (by omega)]
  · intro c; unfold fHi fLo; omega
  · intro c; unfold fHi fLo; omega
end
section
attribute [local go_sem] Oper.semAt_some

set_option maxHeartbeats 1000000 in
theorem pairs_in (n : Nat) (A0 A1 : Option Addr) (n0 c0 n1 c1 : Nat) (w : World) :
    CallsIn Fence.wide n Try.prog 30 #[.slice A0 n0 c0, .slice A1 n1 c1] w fun e w' => e = .returned (.func (.func 46) #[] #[.pointer (some ⟨w.heap.size, 0, none⟩), .pointer (some ⟨w.heap.size + 1, 0, none⟩)]) ∧ w' = (w.alloc (.cells #[.slice A0 n0 c0] 27)).alloc (.cells #[.slice A1 n1 c1] 27) := by
  refine callsIn_of_wp Try.func30 rfl trivial ?_ rfl
  simp only [Try.ntmps30, List.size_toArray, List.length_cons, List.length_nil, Nat.reduceAdd, Nat.reduceSub, Array.replicate_succ, Array.replicate_zero, List.push_toArray, List.append_toArray, List.nil_append, List.cons_append]
  gi_wp2
  go_ret
  exact ⟨rfl, rfl⟩
/-- What a round keeps. -/
def KpP (n₀ Ba : Nat) (va : Value) (Bb : Nat) (vb : Value) (W W' : World) : Prop := Below n₀ W W' ∧ (Boxed W Ba 27 va → Boxed W' Ba 27 va) ∧ (Boxed W Bb 27 vb → Boxed W' Bb 27 vb)
theorem KpP.refl {n₀ Ba Bb : Nat} {va vb : Value} (W : World) : KpP n₀ Ba va Bb vb W W := ⟨Below.refl _ _, fun h => h, fun h => h⟩
theorem KpP.trans {n₀ Ba Bb : Nat} {va vb : Value} {A B C : World} (h : KpP n₀ Ba va Bb vb A B) (k : KpP n₀ Ba va Bb vb B C) : KpP n₀ Ba va Bb vb A C := ⟨h.1.trans k.1, fun x => k.2.1 (h.2.1 x), fun x => k.2.2 (h.2.2 x)⟩
theorem KpP.drewN {n₀ Ba Bb : Nat} {va vb : Value} {A B : World} (h : KpP n₀ Ba va Bb vb A B) (m : Nat) : KpP n₀ Ba va Bb vb A (B.drewN m) := h.trans ⟨⟨rfl, rfl, rfl, Nat.le_refl _, fun _ _ => rfl⟩, fun x => x, fun x => x⟩

set_option maxRecDepth 100000 in
set_option maxHeartbeats 8000000 in
theorem pairs1_in (m : Nat) (hm : 1 ≤ m) (l Ba Bb : Nat) (w0 : World) (A0 : Option Addr) (c0 : Nat) (la : List S38) (A1 : Option Addr) (c1 : Nat) (lb : List S38) (hr0 : Kd.C k38 w0 A0 la.length la) (hc0 : la.length ≤ c0) (hr1 : Kd.C k38 w0 A1 lb.length lb) (hc1 : lb.length ≤ c1)
    (hla : la.length ≤ 4611686018427387904) (hlb : lb.length ≤ 4611686018427387904) (hoa : ∀ p ∈ la, p.f0.length ≤ 4611686018427387904) (hob : ∀ p ∈ lb, p.f0.length ≤ 4611686018427387904)
    (J Jx : List (Int × Int) → World → Prop) (W : World) (hJ : AbidesFrom W.heap.size J)
    (hY : ∀ pre x W1, J pre W1 → pre.length < la.length + lb.length → x ∈ pairsL la lb → YieldAt Fence.wide (m - 1) Try.prog l #[.int .i64 x.1, .int .i64 x.2] W1 fun e W' =>
      (e = .returned (.bool true) ∧ J (pre ++ [x]) W' ∧ KpP w0.heap.size Ba (.slice A0 la.length c0) Bb (.slice A1 lb.length c1) W1 W') ∨ (e = .returned (.bool false) ∧ Jx (pre ++ [x]) W'))
    (hW : Below w0.heap.size w0 W) (hba : Boxed W Ba 27 (.slice A0 la.length c0)) (hbb : Boxed W Bb 27 (.slice A1 lb.length c1)) (h0 : J [] W) :
    CallsIn Fence.wide m Try.prog 46 #[.func (.yield l) #[] #[], .pointer (some ⟨Ba, 0, none⟩), .pointer (some ⟨Bb, 0, none⟩)] W fun e W' => (∃ v, e = .returned v) ∧
      ((∃ ys, ys = pairsL la lb ∧ J ys W') ∨ (∃ pre, pre <+: pairsL la lb ∧ Jx pre W')) := by
  have hut32 := Try.underlying38
  refine callsIn_of_wp Try.func46 rfl trivial ?_ rfl
  simp only [Try.ntmps46, List.size_toArray, List.length_cons, List.length_nil, Nat.reduceAdd, Nat.reduceSub, Array.replicate_succ, Array.replicate_zero, List.push_toArray, List.append_toArray, List.nil_append, List.cons_append]
  gi_wp2
  gi_loopw [4, 5] (fun v4 v5 wr => ∃ (i j : Nat) (pre : List (Int × Int)), v4 = .int .i64 i ∧ v5 = .int .i64 j ∧ i ≤ la.length ∧ j ≤ lb.length ∧ pre ++ pairsL (la.drop i) (lb.drop j) = pairsL la lb ∧ pre.length ≤ i + j ∧ J pre wr ∧ KpP w0.heap.size Ba (.slice A0 la.length c0) Bb (.slice A1 lb.length c1) W wr)
    (fun v4 v5 _ => la.length + lb.length - (intOf v4).toNat - (intOf v5).toNat)
  case atStart => exact ⟨0, 0, [], rfl, rfl, Nat.zero_le _, Nat.zero_le _, rfl, Nat.le_refl _, h0, KpP.refl _⟩
  case round =>
    obtain ⟨i, j, pre, rfl, rfl, hi, hj, he, hpl, hJs, hKs⟩ := hrel
    have hB : Below w0.heap.size w0 wr := hW.trans hKs.1
    have ca := (hKs.2.1 hba).cell
    have cb := (hKs.2.2 hbb).cell
    by_cases ei : i < la.length
    · obtain ⟨ad, Ao, co, eA, hx0, hx1, hlo, hio⟩ := at_T38 hr0 (i : Int) (by omega) (by omega)
      cases eA
      rw [Int.toNat_natCast, atP ei] at hx0 hx1
      rw [atP ei] at hlo hio
      replace hx0 := (hB.cell (World.block_lt_of_cell? w0 _ hx0)).trans hx0
      replace hx1 := (hB.cell (World.block_lt_of_cell? w0 _ hx1)).trans hx1
      have p1 : (i : Int) < (la.length : Int) := by omega
      have p2 : ¬ (i : Int) = (la.length : Int) := by omega
      by_cases ej : j < lb.length
      · obtain ⟨bd, Bo, do_, eB, hy0, hy1, hmo, hjo⟩ := at_T38 hr1 (j : Int) (by omega) (by omega)
        cases eB
        rw [Int.toNat_natCast, atP ej] at hy0 hy1
        rw [atP ej] at hmo hjo
        replace hy0 := (hB.cell (World.block_lt_of_cell? w0 _ hy0)).trans hy0
        replace hy1 := (hB.cell (World.block_lt_of_cell? w0 _ hy1)).trans hy1
        have q1 : (j : Int) < (lb.length : Int) := by omega
        have q2 : ¬ (j : Int) = (lb.length : Int) := by omega
        obtain ⟨kc, hkc⟩ := cmp_is la[i].f0 lb[j].f0 (by have := hoa _ (List.getElem_mem ei); omega) (by have := hob _ (List.getElem_mem ej); omega)
        obtain ⟨c, hcA⟩ : ∃ c, Aside0 (cmpL la[i].f0 lb[j].f0 = c) := ⟨_, ⟨rfl⟩⟩
        rw [hcA.out] at hkc
        replace hkc := Aside0.mk hkc
        have hmx : Try.prog.follows .mixedOrders = true := by kernel_rfl
        gi_wp2
        gi_region_with_o (refine ⟨trivial, ?_⟩; refine (callsIn_wide.2 (slices_Compare_int_int.calls kc Ao co la[i].f0 Bo do_ lb[j].f0 c _ (Kd.C_drew (Kd.C_below hio hB)) hlo (Kd.C_drew (Kd.C_below hjo hB)) hmo hkc.out)).mono ?_; rintro e w' ⟨rfl, ⟨nd, rfl⟩⟩)
        all_goals
          obtain ⟨W1, hJn, hkd, hx0, hx1, hy0, hy1, ca, cb, hW1⟩ : ∃ W1, J pre W1 ∧ KpP w0.heap.size Ba (.slice (some ad) la.length c0) Bb (.slice (some bd) lb.length c1) wr W1 ∧ W1.cell? (ad.add (i * 2)) = some (.slice Ao la[i].f0.length co) ∧ W1.cell? ⟨(ad.add (i * 2)).block, (ad.add (i * 2)).off + 1, none⟩ = some (.int .i64 la[i].f1) ∧ W1.cell? (bd.add (j * 2)) = some (.slice Bo lb[j].f0.length do_) ∧ W1.cell? ⟨(bd.add (j * 2)).block, (bd.add (j * 2)).off + 1, none⟩ = some (.int .i64 lb[j].f1) ∧ W1.cell? ⟨Ba, 0, none⟩ = some (.slice (some ad) la.length c0) ∧ W1.cell? ⟨Bb, 0, none⟩ = some (.slice (some bd) lb.length c1) ∧ wr.drewN (1 + nd) = W1 :=
            ⟨wr.drewN (1 + nd), hJ _ _ _ none hJs ⟨rfl, rfl, rfl, Nat.le_refl _, fun _ _ _ => rfl⟩ (fun r e => by cases e), (KpP.refl wr).drewN (1 + nd), hx0, hx1, hy0, hy1, ca, cb, rfl⟩
          rw [hW1]
          clear hW1
          rcases Int.lt_trichotomy c 0 with hs | hs | hs
          · have k1 : c ≤ 0 := by omega
            have k2 : ¬ 0 ≤ c := by omega
            obtain ⟨fn, tmps, assign, body, hy, hR⟩ := hY pre (la[i].f1, 0) W1 hJn (by omega) (by rw [← he, List.drop_eq_getElem_cons ei, List.drop_eq_getElem_cons ej, pairs_lt _ _ (by rw [hcA.out]; exact hs)]; simp)
            dsimp only at hy
            gi_wp2
            refine hR.mono ?_
            rintro e W3 (⟨rfl, hJ3, hk3⟩ | ⟨rfl, hJx3⟩)
            · gi_wp2
              go_roundw
              case rel =>
                refine ⟨i + 1, j, pre ++ [(la[i].f1, 0)], rfl, rfl, by omega, by omega, ?_, by simp; omega, hJ3, (hKs.trans hkd).trans hk3⟩
                rw [← he, List.append_assoc, List.drop_eq_getElem_cons ei, List.drop_eq_getElem_cons ej, pairs_lt _ _ (by rw [hcA.out]; exact hs)]
                rfl
              case measure =>
                simp [intOf]; omega
            · gi_wp2
              refine bodyPost_ret (results_none rfl _ _ _) rfl ?_
              refine ⟨⟨_, rfl⟩, .inr ⟨_, ?_, hJx3⟩⟩
              rw [← he, List.drop_eq_getElem_cons ei, List.drop_eq_getElem_cons ej, pairs_lt _ _ (by rw [hcA.out]; exact hs)]
              exact ⟨_, by rw [List.append_assoc]; rfl⟩
          · have k1 : c ≤ 0 := by omega
            have k2 : 0 ≤ c := by omega
            obtain ⟨fn, tmps, assign, body, hy, hR⟩ := hY pre (la[i].f1, lb[j].f1) W1 hJn (by omega) (by rw [← he, List.drop_eq_getElem_cons ei, List.drop_eq_getElem_cons ej, pairs_eq _ _ (by rw [hcA.out]; exact hs)]; simp)
            dsimp only at hy
            gi_wp2
            refine hR.mono ?_
            rintro e W3 (⟨rfl, hJ3, hk3⟩ | ⟨rfl, hJx3⟩)
            · gi_wp2
              go_roundw
              case rel =>
                refine ⟨i + 1, j + 1, pre ++ [(la[i].f1, lb[j].f1)], rfl, rfl, by omega, by omega, ?_, by simp; omega, hJ3, (hKs.trans hkd).trans hk3⟩
                rw [← he, List.append_assoc, List.drop_eq_getElem_cons ei, List.drop_eq_getElem_cons ej, pairs_eq _ _ (by rw [hcA.out]; exact hs)]
                rfl
              case measure =>
                simp [intOf]; omega
            · gi_wp2
              refine bodyPost_ret (results_none rfl _ _ _) rfl ?_
              refine ⟨⟨_, rfl⟩, .inr ⟨_, ?_, hJx3⟩⟩
              rw [← he, List.drop_eq_getElem_cons ei, List.drop_eq_getElem_cons ej, pairs_eq _ _ (by rw [hcA.out]; exact hs)]
              exact ⟨_, by rw [List.append_assoc]; rfl⟩
          · have k1 : ¬ c ≤ 0 := by omega
            have k2 : 0 ≤ c := by omega
            obtain ⟨fn, tmps, assign, body, hy, hR⟩ := hY pre (0, lb[j].f1) W1 hJn (by omega) (by rw [← he, List.drop_eq_getElem_cons ei, List.drop_eq_getElem_cons ej, pairs_gt _ _ (by rw [hcA.out]; exact hs)]; simp)
            dsimp only at hy
            gi_wp2
            refine hR.mono ?_
            rintro e W3 (⟨rfl, hJ3, hk3⟩ | ⟨rfl, hJx3⟩)
            · gi_wp2
              go_roundw
              case rel =>
                refine ⟨i, j + 1, pre ++ [(0, lb[j].f1)], rfl, rfl, by omega, by omega, ?_, by simp; omega, hJ3, (hKs.trans hkd).trans hk3⟩
                rw [← he, List.append_assoc, List.drop_eq_getElem_cons ei, List.drop_eq_getElem_cons ej, pairs_gt _ _ (by rw [hcA.out]; exact hs)]
                rfl
              case measure =>
                simp [intOf]; omega
            · gi_wp2
              refine bodyPost_ret (results_none rfl _ _ _) rfl ?_
              refine ⟨⟨_, rfl⟩, .inr ⟨_, ?_, hJx3⟩⟩
              rw [← he, List.drop_eq_getElem_cons ei, List.drop_eq_getElem_cons ej, pairs_gt _ _ (by rw [hcA.out]; exact hs)]
              exact ⟨_, by rw [List.append_assoc]; rfl⟩
      · obtain rfl : j = lb.length := by omega
        obtain ⟨fn, tmps, assign, body, hy, hR⟩ := hY pre (la[i].f1, 0) wr hJs (by omega) (by rw [← he, List.drop_eq_getElem_cons ei, List.drop_length, pairs_l]; simp)
        dsimp only at hy
        gi_wp2
        refine hR.mono ?_
        rintro e W3 (⟨rfl, hJ3, hk3⟩ | ⟨rfl, hJx3⟩)
        · gi_wp2
          go_roundw
          case rel =>
            refine ⟨i + 1, lb.length, pre ++ [(la[i].f1, 0)], ?_, rfl, by omega, by omega, ?_, by simp; omega, hJ3, hKs.trans hk3⟩
            · rfl
            · rw [← he, List.append_assoc, List.drop_eq_getElem_cons ei, List.drop_length, pairs_l]
              rfl
          case measure =>
            simp [intOf]; omega
        · gi_wp2
          refine bodyPost_ret (results_none rfl _ _ _) rfl ?_
          refine ⟨⟨_, rfl⟩, .inr ⟨_, ?_, hJx3⟩⟩
          rw [← he, List.drop_eq_getElem_cons ei, List.drop_length, pairs_l]
          exact ⟨_, by rw [List.append_assoc]; rfl⟩
    · obtain rfl : i = la.length := by omega
      by_cases ej : j < lb.length
      · obtain ⟨bd, Bo, do_, eB, hy0, hy1, hmo, hjo⟩ := at_T38 hr1 (j : Int) (by omega) (by omega)
        cases eB
        rw [Int.toNat_natCast, atP ej] at hy0 hy1
        rw [atP ej] at hmo hjo
        replace hy0 := (hB.cell (World.block_lt_of_cell? w0 _ hy0)).trans hy0
        replace hy1 := (hB.cell (World.block_lt_of_cell? w0 _ hy1)).trans hy1
        have q1 : (j : Int) < (lb.length : Int) := by omega
        have q2 : ¬ (j : Int) = (lb.length : Int) := by omega
        obtain ⟨fn, tmps, assign, body, hy, hR⟩ := hY pre (0, lb[j].f1) wr hJs (by omega) (by rw [← he, List.drop_eq_getElem_cons ej, List.drop_length, pairs_r]; simp)
        dsimp only at hy
        gi_wp2
        refine hR.mono ?_
        rintro e W3 (⟨rfl, hJ3, hk3⟩ | ⟨rfl, hJx3⟩)
        · gi_wp2
          go_roundw
          case rel =>
            refine ⟨la.length, j + 1, pre ++ [(0, lb[j].f1)], rfl, ?_, by omega, by omega, ?_, by simp; omega, hJ3, hKs.trans hk3⟩
            · rfl
            · rw [← he, List.append_assoc, List.drop_eq_getElem_cons ej, List.drop_length, pairs_r]
              rfl
          case measure =>
            simp [intOf]; omega
        · gi_wp2
          refine bodyPost_ret (results_none rfl _ _ _) rfl ?_
          refine ⟨⟨_, rfl⟩, .inr ⟨_, ?_, hJx3⟩⟩
          rw [← he, List.drop_eq_getElem_cons ej, List.drop_length, pairs_r]
          exact ⟨_, by rw [List.append_assoc]; rfl⟩
      · obtain rfl : j = lb.length := by omega
        gi_wp2
        go_end0
        refine ⟨⟨_, rfl⟩, .inl ⟨_, ?_, hJs⟩⟩
        rw [List.drop_length, List.drop_length, pairs_nil, List.append_nil] at he
        exact he
/-- The two weights of something, if they are good. -/
abbrev PX (P : Int × Int → Prop) := { x : Int × Int // P x }
theorem pairs_stops {P : Int × Int → Prop} (m : Nat) (hm : 1 ≤ m) (Ba Bb : Nat) (w0 w : World) (A0 : Option Addr) (c0 : Nat) (la : List S38) (A1 : Option Addr) (c1 : Nat) (lb : List S38) (hr0 : Kd.C k38 w0 A0 la.length la) (hc0 : la.length ≤ c0) (hr1 : Kd.C k38 w0 A1 lb.length lb) (hc1 : lb.length ≤ c1)
    (hla : la.length ≤ 4611686018427387904) (hlb : lb.length ≤ 4611686018427387904) (hoa : ∀ p ∈ la, p.f0.length ≤ 4611686018427387904) (hob : ∀ p ∈ lb, p.f0.length ≤ 4611686018427387904)
    (hP : ∀ x ∈ pairsL la lb, P x) (hw : Below w0.heap.size w0 w) (hba : Boxed w Ba 27 (.slice A0 la.length c0)) (hbb : Boxed w Bb 27 (.slice A1 lb.length c1)) :
    SeqStopsK Fence.wide m Try.prog 46 #[.pointer (some ⟨Ba, 0, none⟩), .pointer (some ⟨Bb, 0, none⟩)] (fun x : PX P => #[Value.int .i64 x.1.1, Value.int .i64 x.1.2]) (KpP w0.heap.size Ba (.slice A0 la.length c0) Bb (.slice A1 lb.length c1)) (fun ys => ys.map (·.1) = pairsL la lb) (fun pre => pre.map (·.1) <+: pairsL la lb) (la.length + lb.length) w := fun l J Jx W hW hJ hJx hY h0 => by
  have hba' : Boxed W Ba 27 (.slice A0 la.length c0) := (hW.block Ba hba.lt).trans hba
  have hbb' : Boxed W Bb 27 (.slice A1 lb.length c1) := (hW.block Bb hbb.lt).trans hbb
  refine (pairs1_in m hm l Ba Bb w0 A0 c0 la A1 c1 lb hr0 hc0 hr1 hc1 hla hlb hoa hob (fun pre W => ∃ q : List (PX P), q.map (·.1) = pre ∧ J q W) (fun pre W => ∃ q : List (PX P), q.map (·.1) = pre ∧ Jx q W) W ?_ ?_ (hw.trans (hW.mono hw.size)) hba' hbb' ⟨[], rfl, h0⟩).mono ?_
  · rintro s A B row ⟨q, e, hq⟩ hg hr
    exact ⟨q, e, hJ _ _ _ _ hq hg hr⟩
  · rintro pre x W1 ⟨q, rfl, hq⟩ hlen hx
    obtain ⟨fn, tmps, assign, body, hy, hR⟩ := hY q ⟨x, hP x hx⟩ W1 hq (by rw [List.length_map] at hlen; exact hlen)
    refine ⟨fn, tmps, assign, body, hy, hR.mono ?_⟩
    rintro e W' (⟨e1, h2, h3⟩ | ⟨e1, h2⟩)
    · exact .inl ⟨e1, ⟨q ++ [⟨x, hP x hx⟩], by rw [List.map_append]; rfl, h2⟩, h3⟩
    · exact .inr ⟨e1, ⟨q ++ [⟨x, hP x hx⟩], by rw [List.map_append]; rfl, h2⟩⟩
  · rintro e W' ⟨he, ⟨ys, rfl, q, e1, e2⟩ | ⟨pre, hp, q, rfl, e2⟩⟩
    · exact ⟨he, .inl ⟨q, e1, e2⟩⟩
    · exact ⟨he, .inr ⟨q, hp, e2⟩⟩
end
section
attribute [local go_sem] Oper.semAt_some
def FrPost (w : World) (o : Int × Int × Int) (e : Ending) (W' : World) : Prop := e = .returned (.tuple #[.agg #[.int .i64 o.1, .int .i64 o.2.1], .int .i64 o.2.2]) ∧ Below w.heap.size w W'

theorem set_blk {W : World} {g b : Nat} {o : Obj} (v : Value) (hne : g ≠ b) (h : W.heap[g]? = some o) : (W.setCell ⟨b, 0, none⟩ v).heap[g]? = some o :=
  ((grownBy_setCell' W b v).block _ (Array.getElem?_eq_some_iff.1 h).1 (fun e => by injection e with e; omega)).trans h
theorem three_cells {V : World} {g : Nat} {a b c : Value} (x y z : Value) (v5 : V.cell? ⟨g, 0, none⟩ = some a) (v6 : V.cell? ⟨g, 1, none⟩ = some b) (v7 : V.cell? ⟨g + 1, 0, none⟩ = some c) :
    (((V.setCell ⟨g, 0, none⟩ x).setCell ⟨g, 1, none⟩ y).setCell ⟨g + 1, 0, none⟩ z).cell? ⟨g, 0, none⟩ = some x ∧ (((V.setCell ⟨g, 0, none⟩ x).setCell ⟨g, 1, none⟩ y).setCell ⟨g + 1, 0, none⟩ z).cell? ⟨g, 1, none⟩ = some y ∧
      (((V.setCell ⟨g, 0, none⟩ x).setCell ⟨g, 1, none⟩ y).setCell ⟨g + 1, 0, none⟩ z).cell? ⟨g + 1, 0, none⟩ = some z ∧ KeepsOthers V (((V.setCell ⟨g, 0, none⟩ x).setCell ⟨g, 1, none⟩ y).setCell ⟨g + 1, 0, none⟩ z) := by
  have g6 : (V.setCell ⟨g, 0, none⟩ x).cell? ⟨g, 1, none⟩ = some b := (World.cell?_setCell_other V ⟨g, 0, none⟩ ⟨g, 1, none⟩ _ (fun h => by cases h)).trans v6
  have g7 : ((V.setCell ⟨g, 0, none⟩ x).setCell ⟨g, 1, none⟩ y).cell? ⟨g + 1, 0, none⟩ = some c := (World.cell?_setCell_other _ ⟨g, 1, none⟩ ⟨g + 1, 0, none⟩ _ (fun h => by injection h with h; omega)).trans ((World.cell?_setCell_other V ⟨g, 0, none⟩ ⟨g + 1, 0, none⟩ _ (fun h => by injection h with h; omega)).trans v7)
  refine ⟨?_, ?_, ?_, ((KeepsOthers.setCell _ _ _).trans (KeepsOthers.setCell _ _ _)).trans (KeepsOthers.setCell _ _ _)⟩
  · exact (World.cell?_setCell_other _ ⟨g + 1, 0, none⟩ ⟨g, 0, none⟩ _ (fun h => by injection h with h; omega)).trans ((World.cell?_setCell_other _ ⟨g, 1, none⟩ ⟨g, 0, none⟩ _ (fun h => by cases h)).trans (World.cell?_setCell_same' V _ _ (by rw [v5]; rfl)))
  · exact (World.cell?_setCell_other _ ⟨g + 1, 0, none⟩ ⟨g, 1, none⟩ _ (fun h => by injection h with h; omega)).trans (World.cell?_setCell_same' _ _ _ (by rw [g6]; rfl))
  · exact World.cell?_setCell_same' _ _ _ (by rw [g7]; rfl)
/-- What stands between two rounds. -/
def FarI (g s : Nat) (ta tb : Nat) (w : World) (pre : List (PX pOk)) (W : World) : Prop :=
  (Boxed W s 3 (.int .i64 ta) ∧ Boxed W (s + 1) 3 (.int .i64 tb) ∧ Boxed W (s + 1 + 1) 3 (.int .i64 ((fFold ta tb (pre.map (·.1))).1 : Int)) ∧ Boxed W (s + 1 + 1 + 1) 3 (.int .i64 ((fFold ta tb (pre.map (·.1))).2 : Int)) ∧
    (∀ x ∈ pre, pNo x.1) ∧ W.heap[g]? = some (.cells #[.int .i64 0, .int .i64 0] 23 (0, 0)) ∧ W.heap[g + 1]? = some (.cells #[.int .i64 0] 28 (0, 0))) ∧ Below w.heap.size w W
/-- What stands where a round has ended the whole. -/
def FarX (g : Nat) (w : World) (c : Code) (pre : List (PX pOk)) (W : World) : Prop :=
  c = .ret ∧ (∃ x ∈ pre, ¬ pNo x.1) ∧ W.cell? ⟨g, 0, none⟩ = some (.int .i64 0) ∧ W.cell? ⟨g, 1, none⟩ = some (.int .i64 0) ∧ W.cell? ⟨g + 1, 0, none⟩ = some (.int .i64 6) ∧ Below w.heap.size w W
theorem blk_own {α : Type} (g : Nat) (o : Obj) (ho : o.isCells = true) (s : α) (A B : World) (row : Option Nat) (h : A.heap[g]? = some o) (hg : A.grownBy B row) (hr : ∀ r, row = some r → ∃ o, A.heap[r]? = some o ∧ o.isCells = false) : B.heap[g]? = some o :=
  (hg.block _ (Array.getElem?_eq_some_iff.1 h).1 (fun e => by obtain ⟨o', ho', hc⟩ := hr _ e.symm; rw [h] at ho'; cases ho'; rw [ho] at hc; cases hc)).trans h
theorem farI_own {g s ta tb : Nat} {w : World} {n : Nat} (hn : w.heap.size ≤ n) : OwnFrom n (FarI g s ta tb w) :=
  OwnFrom.and (Own.from (fun p A B row hs hg hr => ⟨boxed_own _ _ (fun _ : Unit => _) () A B row hs.1 hg hr, boxed_own _ _ (fun _ : Unit => _) () A B row hs.2.1 hg hr, boxed_own _ _ (fun _ : Unit => _) () A B row hs.2.2.1 hg hr, boxed_own _ _ (fun _ : Unit => _) () A B row hs.2.2.2.1 hg hr, hs.2.2.2.2.1, blk_own g _ rfl () A B row hs.2.2.2.2.2.1 hg hr, blk_own (g + 1) _ rfl () A B row hs.2.2.2.2.2.2 hg hr⟩) _) (ownFrom_below (Nat.le_refl _) hn)
theorem farX_own {g : Nat} {w : World} {n : Nat} (hn : w.heap.size ≤ n) (c : Code) : OwnFrom n (FarX g w c) := fun p A B row hs hg hr => by
  obtain ⟨h1, h2, h3, h4, h6, h5⟩ := hs
  have hr' : ∀ r, row = some r → ∃ o, A.heap[r]? = some o ∧ o.isCells = false := fun r e => (hr r e).2
  exact ⟨h1, h2, cell_kept h3 hg hr', cell_kept h4 hg hr', cell_kept h6 hg hr', ownFrom_below (β := Unit) (Nat.le_refl _) hn () A B row h5 hg hr⟩

set_option maxRecDepth 100000 in
set_option maxHeartbeats 8000000 in
theorem far_walk (m : Nat) (hm : 4 ≤ m) (A0 : Option Addr) (c0 : Nat) (la : List S38) (A1 : Option Addr) (c1 : Nat) (lb : List S38) (w : World) (hr0 : Kd.C k38 w A0 la.length la) (hc0 : la.length ≤ c0) (hr1 : Kd.C k38 w A1 lb.length lb) (hc1 : lb.length ≤ c1)
    (hla : la.length ≤ 4611686018427387904) (hlb : lb.length ≤ 4611686018427387904) (hoa : ∀ p ∈ la, p.f0.length ≤ 4611686018427387904) (hob : ∀ p ∈ lb, p.f0.length ≤ 4611686018427387904)
    (hWr : ∀ (A : Option Addr) (w' : World), Kd.C (Kd.slice 38 k38) w' A 2 [la, lb] → Calls Try.prog 28 #[.slice A 2 2] w' fun e w2 => e = .returned (.int .i64 0) ∧ Below w'.heap.size w' w2)
    (ta tb : Nat) (kta ktb : Nat) (hta : dist_total.f kta la = some (ta : Int)) (htb : dist_total.f ktb lb = some (tb : Int)) (ha : 1 ≤ ta) (ha' : ta ≤ 1073741824) (hb : 1 ≤ tb) (hb' : tb ≤ 1073741824)
    (hP : ∀ x ∈ pairsL la lb, pOk x) (o : Int × Int × Int)
    (ho1 : (∃ x ∈ pairsL la lb, ¬ pNo x) → o = (0, 0, 6)) (ho2 : (∀ x ∈ pairsL la lb, pNo x) → o = farOut (fFold ta tb (pairsL la lb))) :
    CallsIn Fence.wide m Try.prog 15 #[.slice A0 la.length c0, .slice A1 lb.length c1] w (FrPost w o) := by
  have h1 : 1 ≤ m := by omega
  have hut32 := Try.underlying38
  have hut34 := Try.underlying23
  have HO1 := Aside0.mk ho1
  have HO2 := Aside0.mk ho2
  have HPx := Aside0.mk hP
  clear ho1 ho2 hP
  refine callsIn_of_wp_marks Try.func15 rfl trivial ?_ rfl
  simp only [Try.ntmps15, List.size_toArray, List.length_cons, List.length_nil, Nat.reduceAdd, Nat.reduceSub, Array.replicate_succ, Array.replicate_zero, List.push_toArray, List.append_toArray, List.nil_append, List.cons_append]
  gi_wp2
  refine ⟨trivial, ?_⟩
  have hB1 : Below w.heap.size w (((w.alloc (.cells #[.int .i64 0, .int .i64 0] 23)).alloc (.cells #[.int .i64 0] 28)).alloc (.cells #[.slice A0 la.length c0, .slice A1 lb.length c1] 27)) := (((Below.refl _ w).alloc (Nat.le_refl _) _).alloc (by simp) _).alloc (by simp; omega) _
  have bR1 : (((w.alloc (.cells #[.int .i64 0, .int .i64 0] 23)).alloc (.cells #[.int .i64 0] 28)).alloc (.cells #[.slice A0 la.length c0, .slice A1 lb.length c1] 27)).heap[w.heap.size]? = some (.cells #[.int .i64 0, .int .i64 0] 23 (0, 0)) := alloc_blk _ none (alloc_blk _ none (World.alloc_heap_new w _))
  have bE1 : (((w.alloc (.cells #[.int .i64 0, .int .i64 0] 23)).alloc (.cells #[.int .i64 0] 28)).alloc (.cells #[.slice A0 la.length c0, .slice A1 lb.length c1] 27)).heap[w.heap.size + 1]? = some (.cells #[.int .i64 0] 28 (0, 0)) := alloc_blk _ none (by have := World.alloc_heap_new (w.alloc (.cells #[.int .i64 0, .int .i64 0] 23)) (.cells #[.int .i64 0] 28); rwa [World.size_alloc] at this)
  have hsz : (((w.alloc (.cells #[.int .i64 0, .int .i64 0] 23)).alloc (.cells #[.int .i64 0] 28)).alloc (.cells #[.slice A0 la.length c0, .slice A1 lb.length c1] 27)).heap.size = w.heap.size + 3 := by simp
  have bS : (((w.alloc (.cells #[.int .i64 0, .int .i64 0] 23)).alloc (.cells #[.int .i64 0] 28)).alloc (.cells #[.slice A0 la.length c0, .slice A1 lb.length c1] 27)).heap[w.heap.size + 1 + 1]? = some (.cells #[.slice A0 la.length c0, .slice A1 lb.length c1] 27 (0, 0)) := by have := World.alloc_heap_new ((w.alloc (.cells #[.int .i64 0, .int .i64 0] 23)).alloc (.cells #[.int .i64 0] 28)) (.cells #[.slice A0 la.length c0, .slice A1 lb.length c1] 27); rwa [World.size_alloc, World.size_alloc] at this
  have hC := two_C (w := ((w.alloc (.cells #[.int .i64 0, .int .i64 0] 23)).alloc (.cells #[.int .i64 0] 28)).alloc (.cells #[.slice A0 la.length c0, .slice A1 lb.length c1] 27)) (g := w.heap.size + 1 + 1) (A0 := A0) (A1 := A1) (c0 := c0) (c1 := c1) (la := la) (lb := lb) ((blk_cell bS 0).trans rfl) ((blk_cell bS 1).trans rfl) hc0 hc1 (Kd.C_below hr0 hB1) (Kd.C_below hr1 hB1)
  refine (callsIn_wide.2 (hWr _ _ hC)).mono ?_
  rintro e w2 ⟨rfl, hb2⟩
  have hB2 : Below w.heap.size w w2 := hB1.trans (hb2.mono (by rw [hsz]; omega))
  have hs2 : w.heap.size + 3 ≤ w2.heap.size := by rw [← hsz]; exact hb2.size
  have bR2 : w2.heap[w.heap.size]? = some (.cells #[.int .i64 0, .int .i64 0] 23 (0, 0)) := (hb2.block _ (by rw [hsz]; omega)).trans bR1
  have bE2 : w2.heap[w.heap.size + 1]? = some (.cells #[.int .i64 0] 28 (0, 0)) := (hb2.block _ (by rw [hsz]; omega)).trans bE1
  clear hb2 bR1 bE1 bS hC hsz hB1
  gi_wp2
  refine ⟨trivial, ?_⟩
  refine (callsIn_wide.2 (dist_total.calls kta A0 c0 la ta _ (Kd.C_below hr0 hB2) hc0 hta)).mono ?_
  rintro e w3 ⟨rfl, hb3⟩
  have hB3 : Below w.heap.size w w3 := hB2.trans (hb3.mono hB2.size)
  have hs3 : w.heap.size + 3 ≤ w3.heap.size := Nat.le_trans hs2 hb3.size
  have bR3 : w3.heap[w.heap.size]? = some (.cells #[.int .i64 0, .int .i64 0] 23 (0, 0)) := (hb3.block _ (by omega)).trans bR2
  have bE3 : w3.heap[w.heap.size + 1]? = some (.cells #[.int .i64 0] 28 (0, 0)) := (hb3.block _ (by omega)).trans bE2
  clear hb3 bR2 bE2 hs2 hB2
  gi_wp2
  refine ⟨trivial, ?_⟩
  refine (callsIn_wide.2 (dist_total.calls ktb A1 c1 lb tb _ (Kd.C_below hr1 hB3) hc1 htb)).mono ?_
  rintro e w4 ⟨rfl, hb4⟩
  have hB4 : Below w.heap.size w w4 := hB3.trans (hb4.mono hB3.size)
  have hs4 : w.heap.size + 3 ≤ w4.heap.size := Nat.le_trans hs3 hb4.size
  have bR4 : w4.heap[w.heap.size]? = some (.cells #[.int .i64 0, .int .i64 0] 23 (0, 0)) := (hb4.block _ (by omega)).trans bR3
  have bE4 : w4.heap[w.heap.size + 1]? = some (.cells #[.int .i64 0] 28 (0, 0)) := (hb4.block _ (by omega)).trans bE3
  clear hb4 bR3 bE3 hs3 hB3
  gi_wp2
  refine ⟨trivial, ?_⟩
  refine (pairs_in (m - 1) A0 A1 la.length c0 lb.length c1 _).mono ?_
  rintro e w5 ⟨rfl, rfl⟩
  gi_wp2
  have bT := Boxed.new w4 3 (.int .i64 ta)
  have bU := Boxed.new (w4.alloc (.cells #[.int .i64 ta] 3)) 3 (.int .i64 tb)
  have bM := Boxed.new ((w4.alloc (.cells #[.int .i64 ta] 3)).alloc (.cells #[.int .i64 tb] 3)) 3 (.int .i64 1)
  have bN := Boxed.new (((w4.alloc (.cells #[.int .i64 ta] 3)).alloc (.cells #[.int .i64 tb] 3)).alloc (.cells #[.int .i64 1] 3)) 3 (.int .i64 1)
  have bA := Boxed.new ((((w4.alloc (.cells #[.int .i64 ta] 3)).alloc (.cells #[.int .i64 tb] 3)).alloc (.cells #[.int .i64 1] 3)).alloc (.cells #[.int .i64 1] 3)) 27 (.slice A0 la.length c0)
  have bB := Boxed.new (((((w4.alloc (.cells #[.int .i64 ta] 3)).alloc (.cells #[.int .i64 tb] 3)).alloc (.cells #[.int .i64 1] 3)).alloc (.cells #[.int .i64 1] 3)).alloc (.cells #[.slice A0 la.length c0] 27)) 27 (.slice A1 lb.length c1)
  simp only [World.size_alloc] at bU bM bN bA bB
  have hB5 : Below w.heap.size w ((((((w4.alloc (.cells #[.int .i64 ta] 3)).alloc (.cells #[.int .i64 tb] 3)).alloc (.cells #[.int .i64 1] 3)).alloc (.cells #[.int .i64 1] 3)).alloc (.cells #[.slice A0 la.length c0] 27)).alloc (.cells #[.slice A1 lb.length c1] 27)) := (((((hB4.alloc (by omega) _).alloc (by simp; omega) _).alloc (by simp; omega) _).alloc (by simp; omega) _).alloc (by simp; omega) _).alloc (by simp; omega) _
  obtain ⟨W0, e0, bT, bU, bM, bN, bA, bB, hB0, bR0, bE0, hs0⟩ : ∃ W0, ((((((w4.alloc (.cells #[.int .i64 ta] 3)).alloc (.cells #[.int .i64 tb] 3)).alloc (.cells #[.int .i64 1] 3)).alloc (.cells #[.int .i64 1] 3)).alloc (.cells #[.slice A0 la.length c0] 27)).alloc (.cells #[.slice A1 lb.length c1] 27)) = W0 ∧ Boxed W0 w4.heap.size 3 (.int .i64 ta) ∧ Boxed W0 (w4.heap.size + 1) 3 (.int .i64 tb) ∧ Boxed W0 (w4.heap.size + 1 + 1) 3 (.int .i64 1) ∧ Boxed W0 (w4.heap.size + 1 + 1 + 1) 3 (.int .i64 1) ∧ Boxed W0 (w4.heap.size + 1 + 1 + 1 + 1) 27 (.slice A0 la.length c0) ∧ Boxed W0 (w4.heap.size + 1 + 1 + 1 + 1 + 1) 27 (.slice A1 lb.length c1) ∧ Below w.heap.size w W0 ∧ W0.heap[w.heap.size]? = some (.cells #[.int .i64 0, .int .i64 0] 23 (0, 0)) ∧ W0.heap[w.heap.size + 1]? = some (.cells #[.int .i64 0] 28 (0, 0)) ∧ W0.heap.size = w4.heap.size + 6 :=
    ⟨_, rfl, ((((bT.alloc _).alloc _).alloc _).alloc _).alloc _, (((bU.alloc _).alloc _).alloc _).alloc _, ((bM.alloc _).alloc _).alloc _, (bN.alloc _).alloc _, bA.alloc _, bB, hB5, alloc_blk _ none (alloc_blk _ none (alloc_blk _ none (alloc_blk _ none (alloc_blk _ none (alloc_blk _ none bR4))))), alloc_blk _ none (alloc_blk _ none (alloc_blk _ none (alloc_blk _ none (alloc_blk _ none (alloc_blk _ none bE4))))), by simp⟩
  rw [e0]
  clear e0 hB5
  refine wpIn_rangeFunc_ownF rfl h1 (gf := 46) (lb := #[.pointer (some ⟨w4.heap.size + 1 + 1 + 1 + 1, 0, none⟩), .pointer (some ⟨w4.heap.size + 1 + 1 + 1 + 1 + 1, 0, none⟩)]) rfl trivial (enters_of Try.func46 (by kernel_rfl) rfl)
    (pairs_stops (P := pOk) (m - 1) (by omega) (w4.heap.size + 1 + 1 + 1 + 1) (w4.heap.size + 1 + 1 + 1 + 1 + 1) w W0 A0 c0 la A1 c1 lb hr0 hc0 hr1 hc1 hla hlb hoa hob HPx.out hB0 bA bB)
    (fun h k => h.trans k) (fun W l o o' hl h hc hw => ⟨belowK_b (w := W0) (by omega) W l o o' hl h hc hw, fun hb => hb.kept (grownBy_putObj' W l o') (fun e => by cases e; omega), fun hb => hb.kept (grownBy_putObj' W l o') (fun e => by cases e; omega)⟩)
    (Below.refl _ _) (fun _ => rfl)
    (FarI w.heap.size w4.heap.size ta tb w) (FarX w.heap.size w)
    (farI_own (by omega)) (farX_own (by omega))
    ⟨⟨bT, bU, bM, bN, fun _ h => by simp at h, bR0, bE0⟩, hB0⟩
    (fun x => { tmps := #[.slice A0 la.length c0, .slice A1 lb.length c1, undef, undef, .pointer (some ⟨w.heap.size, 0, none⟩), .pointer (some ⟨w.heap.size + 1, 0, none⟩), .int .i64 0, .pointer (some ⟨w4.heap.size, 0, none⟩), .pointer (some ⟨w4.heap.size + 1, 0, none⟩), .pointer (some ⟨w4.heap.size + 1 + 1, 0, none⟩), .pointer (some ⟨w4.heap.size + 1 + 1 + 1, 0, none⟩), .int .i64 x.1.1, .int .i64 x.1.2, undef, undef, undef, .slice A0 la.length c0, .slice A1 lb.length c1, .slice (some ⟨w.heap.size + 1 + 1, 0, none⟩) 2 2, .int .i64 0, .int .i64 0, .bool false, undef, undef, .slice A0 la.length c0, .int .i64 ta, .slice A1 lb.length c1, .int .i64 tb, .slice A0 la.length c0, .slice A1 lb.length c1, .func (.func 46) #[] #[.pointer (some ⟨w4.heap.size + 1 + 1 + 1 + 1, 0, none⟩), .pointer (some ⟨w4.heap.size + 1 + 1 + 1 + 1 + 1, 0, none⟩)], .int .i64 x.1.1, .int .i64 x.1.2, undef, undef, undef, undef, undef, undef, undef, undef, undef, undef, undef, undef, undef, undef, undef, undef, undef, undef, undef, undef, undef, undef, undef, undef, undef, undef, undef, undef, undef, undef, undef, undef, undef, undef, undef, undef, undef, undef, undef, undef, undef, undef, undef, undef], defers := [] }) ?assign ?body ?done ?stop
  case assign =>
    intro l x W K hK
    gi_wp2
    exact hK
  case body =>
    rintro l pre x W ⟨⟨bT, bU, bM, bN, hno, bR, bE⟩, hB⟩ _
    have sOK : sOk (fFold ta tb (pre.map (·.1))) := fFold_ok ha ha' hb hb' _ (fun y hy => by obtain ⟨z, hz, rfl⟩ := List.mem_map.1 hy; exact ⟨z.2, hno z hz⟩)
    have xP : pOk x.1 := x.2
    obtain ⟨s, hsA⟩ : ∃ s, Aside0 (fFold ta tb (pre.map (·.1)) = s) := ⟨_, ⟨rfl⟩⟩
    rw [hsA.out] at sOK bM bN
    obtain ⟨s1, s2⟩ := s
    dsimp only at bM bN
    have k1 := bT.cell
    have k2 := bU.cell
    have k3 := bM.cell
    have k4 := bN.cell
    have k5 := bM.frozen
    have k6 := bN.frozen
    have r5 : W.cell? ⟨w.heap.size, 0, none⟩ = some (.int .i64 0) := by simp [World.cell?, bR]
    have r6 : W.cell? ⟨w.heap.size, 1, none⟩ = some (.int .i64 0) := by simp [World.cell?, bR]
    have r7 : W.cell? ⟨w.heap.size + 1, 0, none⟩ = some (.int .i64 0) := by simp [World.cell?, bE]
    have f5 : W.frozen? ⟨w.heap.size, 0, none⟩ = false := by simp [World.frozen?, bR]
    have f6 : W.frozen? ⟨w.heap.size, 1, none⟩ = false := by simp [World.frozen?, bR]
    have f7 : W.frozen? ⟨w.heap.size + 1, 0, none⟩ = false := by simp [World.frozen?, bE]
    have hret : ∀ a : Act, ¬ pNo x.1 → ownPostK (KpP w.heap.size (w4.heap.size + 1 + 1 + 1 + 1) (.slice A0 la.length c0) (w4.heap.size + 1 + 1 + 1 + 1 + 1) (.slice A1 lb.length c1)) (FarI w.heap.size w4.heap.size ta tb w) (FarX w.heap.size w) (pre ++ [x]) W .ret a (((W.setCell ⟨w.heap.size, 0, none⟩ (.int .i64 0)).setCell ⟨w.heap.size, 1, none⟩ (.int .i64 0)).setCell ⟨w.heap.size + 1, 0, none⟩ (.int .i64 6)) := by
      intro a hx
      have g6 : (W.setCell ⟨w.heap.size, 0, none⟩ (.int .i64 0)).cell? ⟨w.heap.size, 1, none⟩ = some (.int .i64 0) := (World.cell?_setCell_other W ⟨w.heap.size, 0, none⟩ ⟨w.heap.size, 1, none⟩ _ (fun h => by cases h)).trans r6
      have g7 : ((W.setCell ⟨w.heap.size, 0, none⟩ (.int .i64 0)).setCell ⟨w.heap.size, 1, none⟩ (.int .i64 0)).cell? ⟨w.heap.size + 1, 0, none⟩ = some (.int .i64 0) := (World.cell?_setCell_other _ ⟨w.heap.size, 1, none⟩ ⟨w.heap.size + 1, 0, none⟩ _ (fun h => by injection h with h; omega)).trans ((World.cell?_setCell_other W ⟨w.heap.size, 0, none⟩ ⟨w.heap.size + 1, 0, none⟩ _ (fun h => by injection h with h; omega)).trans r7)
      refine ⟨((KeepsOthers.setCell _ _ _).trans (KeepsOthers.setCell _ _ _)).trans (KeepsOthers.setCell _ _ _), rfl, ⟨x, by simp, hx⟩, ?_, ?_, ?_, ?_⟩
      · exact (World.cell?_setCell_other _ ⟨w.heap.size + 1, 0, none⟩ ⟨w.heap.size, 0, none⟩ _ (fun h => by injection h with h; omega)).trans ((World.cell?_setCell_other _ ⟨w.heap.size, 1, none⟩ ⟨w.heap.size, 0, none⟩ _ (fun h => by cases h)).trans (World.cell?_setCell_same' W _ _ (by rw [r5]; rfl)))
      · exact (World.cell?_setCell_other _ ⟨w.heap.size + 1, 0, none⟩ ⟨w.heap.size, 1, none⟩ _ (fun h => by injection h with h; omega)).trans (World.cell?_setCell_same' _ _ _ (by rw [g6]; rfl))
      · exact World.cell?_setCell_same' _ _ _ (by rw [g7]; rfl)
      · exact ((hB.setCell (p := ⟨w.heap.size, 0, none⟩) (Nat.le_refl _) _).setCell (p := ⟨w.heap.size, 1, none⟩) (Nat.le_refl _) _).setCell (p := ⟨w.heap.size + 1, 0, none⟩) (by simp) _
    have HRET := Aside0.mk hret
    clear hret
    gi_wp2
    · exact HRET.out _ (fun h => h.1 (by assumption))
    · rename_i hh
      exact HRET.out _ (fun h => by rcases hh with hh | hh; exact h.1 (by simpa using hh); exact h.2 (by simpa using hh))
    have xN : pNo x.1 := by
      have hh : (x.val.fst == 0) = false ∧ (x.val.snd == 0) = false := by assumption
      exact ⟨by simpa using hh.1, by simpa using hh.2⟩
    obtain ⟨u, v, hi, lo, g, U, V, b, kg, km, e1, e2, e3, e4, hg1, hg, e5, e6, hkm, e7⟩ := f_facts ha ha' hb hb' xP xN sOK
    have E3 := Aside0.mk e3
    have E4 := Aside0.mk e4
    have E5 := Aside0.mk e5
    have E6 := Aside0.mk e6
    have E7 := Aside0.mk e7
    have HG := Aside0.mk hg
    have HM := Aside0.mk hkm
    clear e3 e4 e5 e6 e7 hg hkm
    refine wpIn_region_quiet_round l rfl (by kernel_rfl) (by kernel_rfl) (by rfl) ?_
    repeat (quiet_step_in (fail))
    refine wpQuietIn_nil ?_
    intro _ hw'
    obtain ⟨nq, hw''⟩ := hw'
    subst hw''
    clear e1 e2
    have hg0 : ¬ g = 0 := by omega
    by_cases huv : u < v
    · obtain ⟨rfl, rfl⟩ := E3.out huv
      clear E3 E4
      gi_wp2
      refine ⟨trivial, fun h => (by cases h), (CallsIn.inRound l (callsIn_wide.2 (dist_gcd.calls kg _ _ g _ HG.out))).mono ?_⟩
      rintro e w6 ⟨rfl, ⟨nd, rfl⟩⟩
      dsimp only
      have e5 := E5.out
      have e6 := E6.out
      gi_wp2
      refine wpIn_region_quiet_round l rfl (by kernel_rfl) (by kernel_rfl) (by rfl) ?_
      repeat (quiet_step_in (fail))
      refine wpQuietIn_nil ?_
      intro _ hw'
      obtain ⟨nq', hw''⟩ := hw'
      subst hw''
      clear e5 e6
      obtain ⟨nV, hnV⟩ : ∃ nV, nq + nd + nq' = nV := ⟨_, rfl⟩
      have k3' : (W.drewN nV).cell? ⟨w4.heap.size + 1 + 1, 0, none⟩ = some (.int .i64 s1) := k3
      have k4' : (W.drewN nV).cell? ⟨w4.heap.size + 1 + 1 + 1, 0, none⟩ = some (.int .i64 s2) := k4
      gi_wp2
      refine ⟨trivial, fun h => (by cases h), (CallsIn.inRound l (callsIn_wide.2 (dist_more.calls km _ _ _ _ b _ HM.out))).mono ?_⟩
      rintro e w6 ⟨rfl, ⟨nm, rfl⟩⟩
      dsimp only
      obtain ⟨Z, hZ, zT, zU, zM, zN, zR, zE, zK, zP, zB⟩ : ∃ Z, (W.drewN nV).drewN nm = Z ∧ Boxed Z w4.heap.size 3 (.int .i64 ta) ∧ Boxed Z (w4.heap.size + 1) 3 (.int .i64 tb) ∧ Boxed Z (w4.heap.size + 1 + 1) 3 (.int .i64 (s1 : Int)) ∧ Boxed Z (w4.heap.size + 1 + 1 + 1) 3 (.int .i64 (s2 : Int)) ∧ Z.heap[w.heap.size]? = some (.cells #[.int .i64 0, .int .i64 0] 23 (0, 0)) ∧ Z.heap[w.heap.size + 1]? = some (.cells #[.int .i64 0] 28 (0, 0)) ∧ KeepsOthers W Z ∧ KpP w.heap.size (w4.heap.size + 1 + 1 + 1 + 1) (.slice A0 la.length c0) (w4.heap.size + 1 + 1 + 1 + 1 + 1) (.slice A1 lb.length c1) W Z ∧ Below w.heap.size w Z :=
        ⟨_, rfl, bT, bU, bM, bN, bR, bE, ⟨Nat.le_refl _, fun _ _ h _ => h⟩, ((KpP.refl W).drewN nV).drewN nm, hB.trans ⟨rfl, rfl, rfl, Nat.le_refl _, fun _ _ => rfl⟩⟩
      rw [hZ]
      clear hZ bT bU bM bN bR bE hB k1 k2 k3 k4 k5 k6 r5 r6 r7 f5 f6 f7 k3' k4' HRET hnV
      have k3 := zM.cell
      have k4 := zN.cell
      have k5 := zM.frozen
      have k6 := zN.frozen
      cases b with
      | false =>
        gi_wp2
        refine ⟨zK, zP, ⟨zT, zU, ?_, ?_, ?_, zR, zE⟩, zB⟩
        · rw [List.map_append, List.map_cons, List.map_nil, fFold_snoc, hsA.out, E7.out]; exact zM
        · rw [List.map_append, List.map_cons, List.map_nil, fFold_snoc, hsA.out, E7.out]; exact zN
        · intro y hy
          rcases List.mem_append.1 hy with hy | hy
          · exact hno y hy
          · rw [List.mem_singleton.1 hy]; exact xN
      | true =>
        have k4' : (Z.setCell ⟨w4.heap.size + 1 + 1, 0, none⟩ (.int .i64 (U : Int))).cell? ⟨w4.heap.size + 1 + 1 + 1, 0, none⟩ = some (.int .i64 (s2 : Int)) := (World.cell?_setCell_other Z _ _ _ (fun h => by injection h with h; omega)).trans k4
        gi_wp2
        refine ⟨(zK.trans (KeepsOthers.setCell _ _ _)).trans (KeepsOthers.setCell _ _ _), (zP.trans ⟨(Below.refl w.heap.size Z).setCell (p := ⟨w4.heap.size + 1 + 1, 0, none⟩) (by simp; omega) _, fun h => h.other (by omega) _, fun h => h.other (by omega) _⟩).trans ⟨(Below.refl w.heap.size _).setCell (p := ⟨w4.heap.size + 1 + 1 + 1, 0, none⟩) (by simp; omega) _, fun h => h.other (by omega) _, fun h => h.other (by omega) _⟩, ⟨(zT.other (by omega) _).other (by omega) _, (zU.other (by omega) _).other (by omega) _, ?_, ?_, ?_, ?_, ?_⟩, (zB.setCell (p := ⟨w4.heap.size + 1 + 1, 0, none⟩) (by simp; omega) _).setCell (p := ⟨w4.heap.size + 1 + 1 + 1, 0, none⟩) (by simp; omega) _⟩
        · rw [List.map_append, List.map_cons, List.map_nil, fFold_snoc, hsA.out, E7.out]; exact (zM.set _).other (by omega) _
        · rw [List.map_append, List.map_cons, List.map_nil, fFold_snoc, hsA.out, E7.out]; exact (zN.other (by omega) _).set _
        · intro y hy
          rcases List.mem_append.1 hy with hy | hy
          · exact hno y hy
          · rw [List.mem_singleton.1 hy]; exact xN
        · exact set_blk _ (by omega) (set_blk _ (by omega) zR)
        · exact set_blk _ (by omega) (set_blk _ (by omega) zE)
    · obtain ⟨rfl, rfl⟩ := E4.out huv
      clear E3 E4
      gi_wp2
      refine ⟨trivial, fun h => (by cases h), (CallsIn.inRound l (callsIn_wide.2 (dist_gcd.calls kg _ _ g _ HG.out))).mono ?_⟩
      rintro e w6 ⟨rfl, ⟨nd, rfl⟩⟩
      dsimp only
      have e5 := E5.out
      have e6 := E6.out
      gi_wp2
      refine wpIn_region_quiet_round l rfl (by kernel_rfl) (by kernel_rfl) (by rfl) ?_
      repeat (quiet_step_in (fail))
      refine wpQuietIn_nil ?_
      intro _ hw'
      obtain ⟨nq', hw''⟩ := hw'
      subst hw''
      clear e5 e6
      obtain ⟨nV, hnV⟩ : ∃ nV, nq + nd + nq' = nV := ⟨_, rfl⟩
      have k3' : (W.drewN nV).cell? ⟨w4.heap.size + 1 + 1, 0, none⟩ = some (.int .i64 s1) := k3
      have k4' : (W.drewN nV).cell? ⟨w4.heap.size + 1 + 1 + 1, 0, none⟩ = some (.int .i64 s2) := k4
      gi_wp2
      refine ⟨trivial, fun h => (by cases h), (CallsIn.inRound l (callsIn_wide.2 (dist_more.calls km _ _ _ _ b _ HM.out))).mono ?_⟩
      rintro e w6 ⟨rfl, ⟨nm, rfl⟩⟩
      dsimp only
      obtain ⟨Z, hZ, zT, zU, zM, zN, zR, zE, zK, zP, zB⟩ : ∃ Z, (W.drewN nV).drewN nm = Z ∧ Boxed Z w4.heap.size 3 (.int .i64 ta) ∧ Boxed Z (w4.heap.size + 1) 3 (.int .i64 tb) ∧ Boxed Z (w4.heap.size + 1 + 1) 3 (.int .i64 (s1 : Int)) ∧ Boxed Z (w4.heap.size + 1 + 1 + 1) 3 (.int .i64 (s2 : Int)) ∧ Z.heap[w.heap.size]? = some (.cells #[.int .i64 0, .int .i64 0] 23 (0, 0)) ∧ Z.heap[w.heap.size + 1]? = some (.cells #[.int .i64 0] 28 (0, 0)) ∧ KeepsOthers W Z ∧ KpP w.heap.size (w4.heap.size + 1 + 1 + 1 + 1) (.slice A0 la.length c0) (w4.heap.size + 1 + 1 + 1 + 1 + 1) (.slice A1 lb.length c1) W Z ∧ Below w.heap.size w Z :=
        ⟨_, rfl, bT, bU, bM, bN, bR, bE, ⟨Nat.le_refl _, fun _ _ h _ => h⟩, ((KpP.refl W).drewN nV).drewN nm, hB.trans ⟨rfl, rfl, rfl, Nat.le_refl _, fun _ _ => rfl⟩⟩
      rw [hZ]
      clear hZ bT bU bM bN bR bE hB k1 k2 k3 k4 k5 k6 r5 r6 r7 f5 f6 f7 k3' k4' HRET hnV
      have k3 := zM.cell
      have k4 := zN.cell
      have k5 := zM.frozen
      have k6 := zN.frozen
      cases b with
      | false =>
        gi_wp2
        refine ⟨zK, zP, ⟨zT, zU, ?_, ?_, ?_, zR, zE⟩, zB⟩
        · rw [List.map_append, List.map_cons, List.map_nil, fFold_snoc, hsA.out, E7.out]; exact zM
        · rw [List.map_append, List.map_cons, List.map_nil, fFold_snoc, hsA.out, E7.out]; exact zN
        · intro y hy
          rcases List.mem_append.1 hy with hy | hy
          · exact hno y hy
          · rw [List.mem_singleton.1 hy]; exact xN
      | true =>
        have k4' : (Z.setCell ⟨w4.heap.size + 1 + 1, 0, none⟩ (.int .i64 (U : Int))).cell? ⟨w4.heap.size + 1 + 1 + 1, 0, none⟩ = some (.int .i64 (s2 : Int)) := (World.cell?_setCell_other Z _ _ _ (fun h => by injection h with h; omega)).trans k4
        gi_wp2
        refine ⟨(zK.trans (KeepsOthers.setCell _ _ _)).trans (KeepsOthers.setCell _ _ _), (zP.trans ⟨(Below.refl w.heap.size Z).setCell (p := ⟨w4.heap.size + 1 + 1, 0, none⟩) (by simp; omega) _, fun h => h.other (by omega) _, fun h => h.other (by omega) _⟩).trans ⟨(Below.refl w.heap.size _).setCell (p := ⟨w4.heap.size + 1 + 1 + 1, 0, none⟩) (by simp; omega) _, fun h => h.other (by omega) _, fun h => h.other (by omega) _⟩, ⟨(zT.other (by omega) _).other (by omega) _, (zU.other (by omega) _).other (by omega) _, ?_, ?_, ?_, ?_, ?_⟩, (zB.setCell (p := ⟨w4.heap.size + 1 + 1, 0, none⟩) (by simp; omega) _).setCell (p := ⟨w4.heap.size + 1 + 1 + 1, 0, none⟩) (by simp; omega) _⟩
        · rw [List.map_append, List.map_cons, List.map_nil, fFold_snoc, hsA.out, E7.out]; exact (zM.set _).other (by omega) _
        · rw [List.map_append, List.map_cons, List.map_nil, fFold_snoc, hsA.out, E7.out]; exact (zN.other (by omega) _).set _
        · intro y hy
          rcases List.mem_append.1 hy with hy | hy
          · exact hno y hy
          · rw [List.mem_singleton.1 hy]; exact xN
        · exact set_blk _ (by omega) (set_blk _ (by omega) zR)
        · exact set_blk _ (by omega) (set_blk _ (by omega) zE)
  case done =>
    rintro D ys W hD hys ⟨⟨bT, bU, bM, bN, hno, bR, bE⟩, hB⟩ hK
    rw [hys] at bM bN
    have hoN := HO2.out (fun x hx => by rw [← hys] at hx; obtain ⟨z, hz, rfl⟩ := List.mem_map.1 hx; exact hno z hz)
    obtain ⟨s, hsA⟩ : ∃ s, Aside0 (fFold ta tb (pairsL la lb) = s) := ⟨_, ⟨rfl⟩⟩
    rw [hsA.out] at bM bN hoN
    obtain ⟨s1, s2⟩ := s
    dsimp only at bM bN
    clear HO1 HO2 HPx hno hys bT bU hsA
    subst hoN
    obtain ⟨up, hup⟩ : ∃ up : Int, Aside0 ((s1 : Int) = up) := ⟨_, ⟨rfl⟩⟩
    obtain ⟨dn, hdn⟩ : ∃ dn : Int, Aside0 ((s2 : Int) = dn) := ⟨_, ⟨rfl⟩⟩
    rw [hup.out] at bM
    rw [hdn.out] at bN
    have k3 := bM.cell
    have k4 := bN.cell
    have v5 : W.cell? ⟨w.heap.size, 0, none⟩ = some (.int .i64 0) := by simp [World.cell?, bR]
    have v6 : W.cell? ⟨w.heap.size, 1, none⟩ = some (.int .i64 0) := by simp [World.cell?, bR]
    have v7 : W.cell? ⟨w.heap.size + 1, 0, none⟩ = some (.int .i64 0) := by simp [World.cell?, bE]
    have f5 : W.frozen? ⟨w.heap.size, 0, none⟩ = false := by simp [World.frozen?, bR]
    have f6 : W.frozen? ⟨w.heap.size, 1, none⟩ = false := by simp [World.frozen?, bR]
    have f7 : W.frozen? ⟨w.heap.size + 1, 0, none⟩ = false := by simp [World.frozen?, bE]
    have hend : ∀ x y z : Int, (x, y, z) = farOut (s1, s2) → ∀ tmps : Array Value, tmps[4]?.getD undef = .pointer (some ⟨w.heap.size, 0, none⟩) → tmps[5]?.getD undef = .pointer (some ⟨w.heap.size + 1, 0, none⟩) →
        LeavesInM Fence.wide m Try.prog Try.f15 tmps (FrPost w (farOut (s1, s2))) [{ target := .collected D, args := #[] }] .returning (((W.setCell ⟨w.heap.size, 0, none⟩ (.int .i64 x)).setCell ⟨w.heap.size, 1, none⟩ (.int .i64 y)).setCell ⟨w.heap.size + 1, 0, none⟩ (.int .i64 z)) := by
      intro x y z hxyz tmps h4 h5
      obtain ⟨q5, q6, q7, qK⟩ := three_cells (.int .i64 x) (.int .i64 y) (.int .i64 z) v5 v6 v7
      have hK' := qK.same D _ hK rfl
      refine ⟨by simp, .inl ⟨_, _, rfl, run_takeDeferred hK', ?_⟩⟩
      have hc5 := cell_kept q5 (grownBy_putObj' _ D (.deferred none)) (fun r e => by cases e; exact ⟨_, hK', rfl⟩)
      have hc6 := cell_kept q6 (grownBy_putObj' _ D (.deferred none)) (fun r e => by cases e; exact ⟨_, hK', rfl⟩)
      have hc7 := cell_kept q7 (grownBy_putObj' _ D (.deferred none)) (fun r e => by cases e; exact ⟨_, hK', rfl⟩)
      refine ⟨.tuple #[.agg #[.int .i64 x, .int .i64 y], .int .i64 z], ?_, ?_⟩
      · simp [results, Try.f15, go_sem, hc5, hc6, hc7, h4, h5]
      · rw [← hxyz]
        exact ⟨rfl, (((hB.setCell (p := ⟨w.heap.size, 0, none⟩) (Nat.le_refl _) _).setCell (p := ⟨w.heap.size, 1, none⟩) (Nat.le_refl _) _).setCell (p := ⟨w.heap.size + 1, 0, none⟩) (by simp) _).trans (belowK_b (w := w) (Nat.le_refl _) _ D _ _ (by omega) hK' rfl rfl)⟩
    have HEND := Aside0.mk hend
    clear hend bM bN bR bE hB hK
    by_cases cu : up > 1073741824
    · gi_wp2
      exact HEND.out 0 0 4 (by unfold farOut; rw [if_pos (.inl (by have := hup.out; omega))]) _ rfl rfl
    · by_cases cd : dn > 1073741824
      · gi_wp2
        exact HEND.out 0 0 4 (by unfold farOut; rw [if_pos (.inr (by have := hdn.out; omega))]) _ rfl rfl
      · gi_wp2
        exact HEND.out up dn 0 (by unfold farOut; rw [if_neg (by have := hup.out; have := hdn.out; omega), hup.out, hdn.out]) _ rfl rfl
  case stop =>
    rintro D c pre W hD hSp ⟨rfl, hex, c5, c6, c7, hB⟩ hK
    have hoN := HO1.out (by
      obtain ⟨x, hx, hn⟩ := hex
      exact ⟨x.1, hSp.subset (List.mem_map.2 ⟨x, hx, rfl⟩), hn⟩)
    clear HO1 HO2
    subst hoN
    gi_wp2
    refine ⟨by simp, .inl ⟨_, _, rfl, run_takeDeferred hK, ?_⟩⟩
    have hc5 := cell_kept c5 (grownBy_putObj' _ D (.deferred none)) (fun r e => by cases e; exact ⟨_, hK, rfl⟩)
    have hc6 := cell_kept c6 (grownBy_putObj' _ D (.deferred none)) (fun r e => by cases e; exact ⟨_, hK, rfl⟩)
    have hc7 := cell_kept c7 (grownBy_putObj' _ D (.deferred none)) (fun r e => by cases e; exact ⟨_, hK, rfl⟩)
    refine ⟨.tuple #[.agg #[.int .i64 0, .int .i64 0], .int .i64 6], ?_, ?_⟩
    · simp [results, Try.f15, go_sem, hc5, hc6, hc7]
    · exact ⟨rfl, hB.trans (belowK_b (w := w) (Nat.le_refl _) _ D _ _ (by omega) hK rfl rfl)⟩
end
section
attribute [local go_sem] Oper.semAt_some
set_option maxRecDepth 100000 in
set_option maxHeartbeats 4000000 in
theorem far_bad (m : Nat) (hm : 4 ≤ m) (A0 : Option Addr) (c0 : Nat) (la : List S38) (A1 : Option Addr) (c1 : Nat) (lb : List S38) (w : World) (hr0 : Kd.C k38 w A0 la.length la) (hc0 : la.length ≤ c0) (hr1 : Kd.C k38 w A1 lb.length lb) (hc1 : lb.length ≤ c1)
    (er : Int) (hne : ¬ er = 0)
    (hWr : ∀ (A : Option Addr) (w' : World), Kd.C (Kd.slice 38 k38) w' A 2 [la, lb] → Calls Try.prog 28 #[.slice A 2 2] w' fun e w2 => e = .returned (.int .i64 er) ∧ Below w'.heap.size w' w2) :
    CallsIn Fence.wide m Try.prog 15 #[.slice A0 la.length c0, .slice A1 lb.length c1] w (FrPost w (0, 0, er)) := by
  have h1 : 1 ≤ m := by omega
  have hut32 := Try.underlying38
  have hut34 := Try.underlying23
  refine callsIn_of_wp_marks Try.func15 rfl trivial ?_ rfl
  simp only [Try.ntmps15, List.size_toArray, List.length_cons, List.length_nil, Nat.reduceAdd, Nat.reduceSub, Array.replicate_succ, Array.replicate_zero, List.push_toArray, List.append_toArray, List.nil_append, List.cons_append]
  gi_wp2
  refine ⟨trivial, ?_⟩
  have hB1 : Below w.heap.size w (((w.alloc (.cells #[.int .i64 0, .int .i64 0] 23)).alloc (.cells #[.int .i64 0] 28)).alloc (.cells #[.slice A0 la.length c0, .slice A1 lb.length c1] 27)) := (((Below.refl _ w).alloc (Nat.le_refl _) _).alloc (by simp) _).alloc (by simp; omega) _
  have bR1 : (((w.alloc (.cells #[.int .i64 0, .int .i64 0] 23)).alloc (.cells #[.int .i64 0] 28)).alloc (.cells #[.slice A0 la.length c0, .slice A1 lb.length c1] 27)).heap[w.heap.size]? = some (.cells #[.int .i64 0, .int .i64 0] 23 (0, 0)) := alloc_blk _ none (alloc_blk _ none (World.alloc_heap_new w _))
  have bE1 : (((w.alloc (.cells #[.int .i64 0, .int .i64 0] 23)).alloc (.cells #[.int .i64 0] 28)).alloc (.cells #[.slice A0 la.length c0, .slice A1 lb.length c1] 27)).heap[w.heap.size + 1]? = some (.cells #[.int .i64 0] 28 (0, 0)) := alloc_blk _ none (by have := World.alloc_heap_new (w.alloc (.cells #[.int .i64 0, .int .i64 0] 23)) (.cells #[.int .i64 0] 28); rwa [World.size_alloc] at this)
  have hsz : (((w.alloc (.cells #[.int .i64 0, .int .i64 0] 23)).alloc (.cells #[.int .i64 0] 28)).alloc (.cells #[.slice A0 la.length c0, .slice A1 lb.length c1] 27)).heap.size = w.heap.size + 3 := by simp
  have bS : (((w.alloc (.cells #[.int .i64 0, .int .i64 0] 23)).alloc (.cells #[.int .i64 0] 28)).alloc (.cells #[.slice A0 la.length c0, .slice A1 lb.length c1] 27)).heap[w.heap.size + 1 + 1]? = some (.cells #[.slice A0 la.length c0, .slice A1 lb.length c1] 27 (0, 0)) := by have := World.alloc_heap_new ((w.alloc (.cells #[.int .i64 0, .int .i64 0] 23)).alloc (.cells #[.int .i64 0] 28)) (.cells #[.slice A0 la.length c0, .slice A1 lb.length c1] 27); rwa [World.size_alloc, World.size_alloc] at this
  have hC := two_C (w := ((w.alloc (.cells #[.int .i64 0, .int .i64 0] 23)).alloc (.cells #[.int .i64 0] 28)).alloc (.cells #[.slice A0 la.length c0, .slice A1 lb.length c1] 27)) (g := w.heap.size + 1 + 1) (A0 := A0) (A1 := A1) (c0 := c0) (c1 := c1) (la := la) (lb := lb) ((blk_cell bS 0).trans rfl) ((blk_cell bS 1).trans rfl) hc0 hc1 (Kd.C_below hr0 hB1) (Kd.C_below hr1 hB1)
  refine (callsIn_wide.2 (hWr _ _ hC)).mono ?_
  rintro e V ⟨rfl, hb2⟩
  have vB : Below w.heap.size w V := hB1.trans (hb2.mono (by rw [hsz]; omega))
  have vR : V.heap[w.heap.size]? = some (.cells #[.int .i64 0, .int .i64 0] 23 (0, 0)) := (hb2.block _ (by rw [hsz]; omega)).trans bR1
  have vE : V.heap[w.heap.size + 1]? = some (.cells #[.int .i64 0] 28 (0, 0)) := (hb2.block _ (by rw [hsz]; omega)).trans bE1
  clear hb2 bR1 bE1 bS hC hsz hB1
  have v5 : V.cell? ⟨w.heap.size, 0, none⟩ = some (.int .i64 0) := by simp [World.cell?, vR]
  have v6 : V.cell? ⟨w.heap.size, 1, none⟩ = some (.int .i64 0) := by simp [World.cell?, vR]
  have v7 : V.cell? ⟨w.heap.size + 1, 0, none⟩ = some (.int .i64 0) := by simp [World.cell?, vE]
  have f5 : V.frozen? ⟨w.heap.size, 0, none⟩ = false := by simp [World.frozen?, vR]
  have f6 : V.frozen? ⟨w.heap.size, 1, none⟩ = false := by simp [World.frozen?, vR]
  have f7 : V.frozen? ⟨w.heap.size + 1, 0, none⟩ = false := by simp [World.frozen?, vE]
  gi_wp2
  obtain ⟨q5, q6, q7, qK⟩ := three_cells (.int .i64 0) (.int .i64 0) (.int .i64 er) v5 v6 v7
  refine ⟨.tuple #[.agg #[.int .i64 0, .int .i64 0], .int .i64 er], ?_, ?_⟩
  · simp [results, Try.f15, go_sem, q5, q6, q7]
  · exact ⟨rfl, ((vB.setCell (p := ⟨w.heap.size, 0, none⟩) (Nat.le_refl _) _).setCell (p := ⟨w.heap.size, 1, none⟩) (Nat.le_refl _) _).setCell (p := ⟨w.heap.size + 1, 0, none⟩) (by simp) _⟩
end
section
/-- What is asked of two distributions ahead of going through both. -/
def dSize (l : List S38) : Bool := decide (l.length ≤ 4611686018427387904) && l.all fun p => decide (p.f0.length ≤ 4611686018427387904)
def tIn (t : Int) : Bool := decide (1 ≤ t) && decide (t ≤ 1073741824)
def xIn (x : Int × Int) : Bool := decide (0 ≤ x.1) && decide (x.1 ≤ 1073741824) && decide (0 ≤ x.2) && decide (x.2 ≤ 1073741824)
def xNo (x : Int × Int) : Bool := decide (¬ x.1 = 0) && decide (¬ x.2 = 0)
def farVal (ta tb : Int) (L : List (Int × Int)) : Int × Int × Int := if L.all xNo = true then farOut (fFold ta.toNat tb.toNat L) else (0, 0, 6)
def dGuard (l0 l1 : List S38) (ta tb : Int) : Bool := dSize l0 && dSize l1 && tIn ta && tIn tb && (pairsL l0 l1).all xIn
def dist_Far.f (k : Nat) (l0 l1 : List S38) : Option (Int × Int × Int) := (dist_wrongs.f k [l0, l1]).bind fun e => if e = 0 then ((dist_total.f k l0).bind fun ta => (dist_total.f k l1).bind fun tb => if dGuard l0 l1 ta tb = true then some (farVal ta tb (pairsL l0 l1)) else none) else some (0, 0, e)
theorem dist_Far.mono : ∀ a0 a1 k, LeO (dist_Far.f k a0 a1) (dist_Far.f (k + 1) a0 a1) := by
  intro a0 a1 k
  unfold dist_Far.f
  repeat' first
      | (with_reducible exact dist_wrongs.mono _ _)
      | (with_reducible exact dist_total.mono _ _)
      | (with_reducible exact LeO.refl _)
      | (with_reducible exact LeO.none _)
      | (with_reducible refine LeO.ite ?_ ?_)
      | (with_reducible refine LeO.bind ?_ (fun _ => ?_))
theorem dSize_out {l : List S38} (h : dSize l = true) : l.length ≤ 4611686018427387904 ∧ ∀ p ∈ l, p.f0.length ≤ 4611686018427387904 := by
  unfold dSize at h
  rw [Bool.and_eq_true, decide_eq_true_eq, List.all_eq_true] at h
  exact ⟨h.1, fun p hp => of_decide_eq_true (h.2 p hp)⟩
theorem tIn_out {t : Int} (h : tIn t = true) : 1 ≤ t ∧ t ≤ 1073741824 := by
  unfold tIn at h
  rw [Bool.and_eq_true, decide_eq_true_eq, decide_eq_true_eq] at h
  exact h
theorem xIn_out {x : Int × Int} (h : xIn x = true) : pOk x := by
  unfold xIn at h
  rw [Bool.and_eq_true, Bool.and_eq_true, Bool.and_eq_true, decide_eq_true_eq, decide_eq_true_eq, decide_eq_true_eq, decide_eq_true_eq] at h
  exact ⟨h.1.1.1, h.1.1.2, h.1.2, h.2⟩
theorem xNo_iff {x : Int × Int} : xNo x = true ↔ pNo x := by
  unfold xNo
  rw [Bool.and_eq_true, decide_eq_true_eq, decide_eq_true_eq]
  exact Iff.rfl
theorem farVal_no {ta tb : Int} {L : List (Int × Int)} (h : ∃ x ∈ L, ¬ pNo x) : farVal ta tb L = (0, 0, 6) := by
  obtain ⟨x, hx, hn⟩ := h
  unfold farVal
  rw [if_neg (fun e => hn (xNo_iff.1 (List.all_eq_true.1 e x hx)))]
theorem farVal_yes {ta tb : Int} {L : List (Int × Int)} (h : ∀ x ∈ L, pNo x) : farVal ta tb L = farOut (fFold ta.toNat tb.toNat L) := by
  unfold farVal
  rw [if_pos (List.all_eq_true.2 (fun x hx => xNo_iff.2 (h x hx)))]
theorem dist_Far.calls (k : Nat) (A0 : Option Addr) (c0 : Nat) (l0 : List S38) (A1 : Option Addr) (c1 : Nat) (l1 : List S38) (r1 : Int) (r2 : Int) (r3 : Int) (w : World) (hr0 : Kd.C k38 w A0 l0.length l0) (hc0 : l0.length ≤ c0) (hr1 : Kd.C k38 w A1 l1.length l1) (hc1 : l1.length ≤ c1) (h : dist_Far.f k l0 l1 = some (r1, r2, r3)) :
    Calls Try.prog 15 #[.slice A0 l0.length c0, .slice A1 l1.length c1] w fun e w' => e = .returned (.tuple #[.agg #[.int .i64 r1, .int .i64 r2], .int .i64 r3]) ∧ Below w.heap.size w w' := by
  unfold dist_Far.f at h
  obtain ⟨er, hw, h⟩ := Option.bind_eq_some_iff.1 h
  have hWr : ∀ (A : Option Addr) (w' : World), Kd.C (Kd.slice 38 k38) w' A 2 [l0, l1] → Calls Try.prog 28 #[.slice A 2 2] w' fun e w2 => e = .returned (.int .i64 er) ∧ Below w'.heap.size w' w2 :=
    fun A w' hC => dist_wrongs.calls k A 2 [l0, l1] er w' hC (Nat.le_refl _) hw
  by_cases he : er = 0
  · rw [if_pos he] at h
    subst he
    obtain ⟨ta, hta, h⟩ := Option.bind_eq_some_iff.1 h
    obtain ⟨tb, htb, h⟩ := Option.bind_eq_some_iff.1 h
    by_cases hg : dGuard l0 l1 ta tb = true
    · rw [if_pos hg] at h
      injection h with h
      unfold dGuard at hg
      rw [Bool.and_eq_true, Bool.and_eq_true, Bool.and_eq_true, Bool.and_eq_true] at hg
      obtain ⟨⟨⟨⟨g1, g2⟩, g3⟩, g4⟩, g5⟩ := hg
      obtain ⟨s1, s2⟩ := dSize_out g1
      obtain ⟨s3, s4⟩ := dSize_out g2
      obtain ⟨t1, t2⟩ := tIn_out g3
      obtain ⟨t3, t4⟩ := tIn_out g4
      have e1 : ((ta.toNat : Nat) : Int) = ta := Int.toNat_of_nonneg (by omega)
      have e2 : ((tb.toNat : Nat) : Int) = tb := Int.toNat_of_nonneg (by omega)
      refine callsIn_wide.1 ((far_walk 4 (Nat.le_refl _) A0 c0 l0 A1 c1 l1 w hr0 hc0 hr1 hc1 s1 s3 s2 s4 hWr ta.toNat tb.toNat k k (by rw [e1]; exact hta) (by rw [e2]; exact htb) (by omega) (by omega) (by omega) (by omega) (fun x hx => xIn_out (List.all_eq_true.1 g5 x hx)) (r1, r2, r3) (fun h' => by rw [← h]; exact farVal_no h') (fun h' => by rw [← h]; exact farVal_yes h')))
    · rw [if_neg hg] at h
      cases h
  · rw [if_neg he] at h
    injection h with h
    injection h with h1 h
    injection h with h2 h3
    subst h1 h2 h3
    exact callsIn_wide.1 (far_bad 4 (Nat.le_refl _) A0 c0 l0 A1 c1 l1 w hr0 hc0 hr1 hc1 er he hWr)
end
end FarText


end Go.Proofs.Ytfoolbcfpedhmaa.PA

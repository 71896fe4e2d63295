/- wire's Unpack reads the code. Conditions: in each theorem. -/
import Derived.Test.YtdfeidpkdbleaaaFCx16
import Derived.Test.YtdfeidpkdbleaaaWireSpec
import Derived.Test.YtdfeidpkdbleaaaWireB
namespace Go.Proofs.Ytdfeidpkdbleaaa.Pure
set_option linter.unusedVariables false
set_option linter.unusedSimpArgs false
open Go.RowKit Go.Proofs.Ytdfeidpkdbleaaa.PC Go.Proofs.YtdfeidpkdbleaaaW.PrintWords Go.Proofs.YtdfeidpkdbleaaaW.PrintLast Go.Proofs.YtdfeidpkdbleaaaW.PrintMore Go.Proofs.YtdfeidpkdbleaaaW.EvKit

theorem byte_nil (d : Bool) : wire_unpacker_byte.f (B []) d = some (0, B [], true) := by
  unfold wire_unpacker_byte.f
  rw [B_toList, if_pos rfl]
theorem byte_cons (c : UInt8) (l : List UInt8) (d : Bool) : wire_unpacker_byte.f (B (c :: l)) d = some ((c.toNat : Int), B l, d) := by
  unfold wire_unpacker_byte.f
  rw [B_toList, if_neg (by simp), B_size, if_pos (by simp only [List.length_cons]; omega), if_pos (by simp only [List.length_cons]; omega), B_bt, B_extract]
  simp

/-- A reader, behind what is bad: it stays bad. -/
def Bad {α : Type} (F : ByteArray → Bool → Option (α × ByteArray × Bool)) : Prop := ∀ l, ∃ x l', F (B l) true = some (x, B l', true)
/-- A reader, of what is good: P tells. -/
def Good {α : Type} (F : ByteArray → Bool → Option (α × ByteArray × Bool)) (P : List UInt8 → Option (α × List UInt8)) : Prop :=
  ∀ l, (∀ x r, P l = some (x, r) → F (B l) false = some (x, B r, false)) ∧ (P l = none → ∃ x l', F (B l) false = some (x, B l', true))

theorem count_bad : Bad wire_unpacker_count.F := by
  intro l
  cases l with
  | nil => exact ⟨0, [], by rw [wire_unpacker_count.F_eq, wire_unpacker_count.L0_eq, byte_nil, Option.bind_some, if_pos rfl, wire_unpacker_count.J1_eq, if_pos rfl]⟩
  | cons c l => exact ⟨0, l, by rw [wire_unpacker_count.F_eq, wire_unpacker_count.L0_eq, byte_cons, Option.bind_some, if_pos rfl, wire_unpacker_count.J1_eq, if_pos rfl]⟩

set_option maxRecDepth 100000 in
theorem count_step : ∀ (g i : Nat) (l : List UInt8) (acc : Nat), i + g = 9 → acc < 2 ^ (7 * i) →
    (∀ n r, cnt (decide (i = 0)) g l = some (n, r) → wire_unpacker_count.L0 (acc : Int) (7 * (i : Int)) (B l) false = some (((acc + n * 2 ^ (7 * i) : Nat) : Int), B r, false)) ∧
    (cnt (decide (i = 0)) g l = none → ∃ x l', wire_unpacker_count.L0 (acc : Int) (7 * (i : Int)) (B l) false = some (x, B l', true) ∧ 0 ≤ x ∧ x < 18446744073709551616)
  | g, i, [], acc, hg, ha => by
    have e : cnt (decide (i = 0)) g [] = none := by cases g <;> rfl
    refine ⟨fun n r h => (by rw [e] at h; cases h), fun _ => ⟨0, [], ?_, by omega, by omega⟩⟩
    rw [wire_unpacker_count.L0_eq, byte_nil, Option.bind_some, if_pos rfl, wire_unpacker_count.J1_eq, if_pos rfl]
  | 0, i, c :: l, acc, hg, ha => by
    have hi : i = 9 := by omega
    subst hi
    have hc := c.toNat_lt
    have e0 : wire_unpacker_count.L0 (acc : Int) (7 * ((9 : Nat) : Int)) (B (c :: l)) false = wire_unpacker_count.J1 (acc : Int) (7 * ((9 : Nat) : Int)) (c.toNat : Int) (decide ((c.toNat : Int) > 1)) (B l) false := by
      rw [wire_unpacker_count.L0_eq, byte_cons, Option.bind_some]
      dsimp only
      rw [if_neg (by decide), if_pos (by omega)]
    rw [e0, cnt]
    by_cases h1 : c.toNat = 1
    · rw [if_pos h1]
      refine ⟨fun n r h => ?_, fun h => (by cases h)⟩
      injection h with h
      injection h with h2 h3
      subst h2
      subst h3
      have ed : decide ((c.toNat : Int) > 1) = false := decide_eq_false (by omega)
      rw [ed, wire_unpacker_count.J1_eq, if_neg (by decide), if_pos (by omega), if_pos (by omega), if_neg (by decide), if_neg (by omega), and127, h1, or_part 9 (by omega) acc ha 1 (by decide)]
    · rw [if_neg h1]
      refine ⟨fun n r h => (by cases h), fun _ => ?_⟩
      by_cases h2 : 1 < c.toNat
      · have ed : decide ((c.toNat : Int) > 1) = true := decide_eq_true (by omega)
        exact ⟨0, l, by rw [ed, wire_unpacker_count.J1_eq, if_pos rfl], by omega, by omega⟩
      · have h0 : c.toNat = 0 := by omega
        have ed : decide ((c.toNat : Int) > 1) = false := decide_eq_false (by omega)
        refine ⟨((acc + 0 * 2 ^ (7 * 9) : Nat) : Int), l, ?_, by omega, by omega⟩
        rw [ed, wire_unpacker_count.J1_eq, if_neg (by decide), if_pos (by omega), if_pos (by omega), if_neg (by decide), if_pos (by omega), and127, h0, or_part 9 (by omega) acc ha 0 (by decide)]
        have e9 : decide (7 * ((9 : Nat) : Int) > 0) = true := by decide
        rw [e9]
  | g + 1, i, c :: l, acc, hg, ha => by
    have hc := c.toNat_lt
    have hi : i ≤ 8 := by omega
    have e0 : wire_unpacker_count.L0 (acc : Int) (7 * (i : Int)) (B (c :: l)) false = wire_unpacker_count.J1 (acc : Int) (7 * (i : Int)) (c.toNat : Int) false (B l) false := by
      rw [wire_unpacker_count.L0_eq, byte_cons, Option.bind_some]
      dsimp only
      rw [if_neg (by decide), if_neg (by omega)]
    have hP : 2 ^ (7 * i) ≤ 2 ^ 56 := Nat.pow_le_pow_right (by decide) (by omega)
    have hT : c.toNat % 128 * 2 ^ (7 * i) ≤ 127 * 2 ^ 56 := Nat.mul_le_mul (by omega) hP
    have hor := or_part i (by omega) acc ha (c.toNat % 128) (by have : c.toNat % 128 * 2 ^ (7 * i) ≤ 127 * 2 ^ 56 := Nat.mul_le_mul (by omega) hP; omega)
    rw [e0, wire_unpacker_count.J1_eq, if_neg (by decide), if_pos (by omega), and127, hor, cnt]
    by_cases hlt : c.toNat < 128
    · have hm : c.toNat % 128 = c.toNat := by omega
      by_cases h0 : c.toNat = 0
      · by_cases hi0 : i = 0
        · have ed : decide (i = 0) = true := decide_eq_true hi0
          rw [ed, if_neg (by rintro ⟨_, h⟩; cases h), if_pos hlt]
          refine ⟨fun n r h => ?_, fun h => (by cases h)⟩
          injection h with h
          injection h with h2 h3
          subst h2
          subst h3
          rw [if_pos (by omega), if_neg (by decide), if_pos (by omega), hm]
          have ei : decide (7 * (i : Int) > 0) = false := decide_eq_false (by omega)
          rw [ei]
        · have ed : decide (i = 0) = false := decide_eq_false hi0
          rw [ed, if_pos ⟨h0, rfl⟩]
          refine ⟨fun n r h => (by cases h), fun _ => ⟨((acc + c.toNat % 128 * 2 ^ (7 * i) : Nat) : Int), l, ?_, by omega, by omega⟩⟩
          rw [if_pos (by omega), if_neg (by decide), if_pos (by omega)]
          have ei : decide (7 * (i : Int) > 0) = true := decide_eq_true (by omega)
          rw [ei]
      · rw [if_neg (by rintro ⟨h, _⟩; exact h0 h), if_pos hlt]
        refine ⟨fun n r h => ?_, fun h => (by cases h)⟩
        injection h with h
        injection h with h2 h3
        subst h2
        subst h3
        rw [if_pos (by omega), if_neg (by decide), if_neg (by omega), hm]
    · rw [if_neg (by rintro ⟨h, _⟩; omega), if_neg hlt, if_neg (by omega)]
      have hm : c.toNat % 128 = c.toNat - 128 := by omega
      have hs : 2 ^ (7 * (i + 1)) = 128 * 2 ^ (7 * i) := by rw [Nat.mul_add, Nat.pow_add]; omega
      have hacc : acc + c.toNat % 128 * 2 ^ (7 * i) < 2 ^ (7 * (i + 1)) := by
        have : c.toNat % 128 * 2 ^ (7 * i) ≤ 127 * 2 ^ (7 * i) := Nat.mul_le_mul (by omega) (Nat.le_refl _)
        rw [hs]
        omega
      obtain ⟨k1, k2⟩ := count_step g (i + 1) l (acc + c.toNat % 128 * 2 ^ (7 * i)) (by omega) hacc
      have ew : wrap64 (7 * (i : Int) + 7) = 7 * ((i + 1 : Nat) : Int) := by unfold wrap64; omega
      have ed : decide (i + 1 = 0) = false := rfl
      rw [ed] at k1 k2
      rw [ew]
      constructor
      · intro n r h
        obtain ⟨⟨m, r'⟩, hm', h⟩ := Option.bind_eq_some_iff.mp h
        injection h with h
        injection h with h2 h3
        dsimp only at h2 h3
        subst h2
        subst h3
        rw [k1 m r' hm']
        congr 2
        rw [hs, hm]
        have : (c.toNat - 128 + 128 * m) * 2 ^ (7 * i) = (c.toNat - 128) * 2 ^ (7 * i) + m * (128 * 2 ^ (7 * i)) := by rw [Nat.add_mul]; congr 1; rw [Nat.mul_comm 128 m, Nat.mul_assoc]
        omega
      · intro h
        refine k2 ?_
        cases hc' : cnt false g l with
        | none => rfl
        | some q => rw [hc'] at h; cases h

theorem count_val (l : List UInt8) : (∀ n r, cnt true 9 l = some (n, r) → wire_unpacker_count.F (B l) false = some ((n : Int), B r, false)) ∧ (cnt true 9 l = none → ∃ x l', wire_unpacker_count.F (B l) false = some (x, B l', true) ∧ 0 ≤ x ∧ x < 18446744073709551616) := by
  obtain ⟨h1, h2⟩ := count_step 9 0 l 0 rfl (by decide)
  have ed : decide ((0 : Nat) = 0) = true := rfl
  rw [ed] at h1 h2
  have e : wire_unpacker_count.F (B l) false = wire_unpacker_count.L0 ((0 : Nat) : Int) (7 * ((0 : Nat) : Int)) (B l) false := by rw [wire_unpacker_count.F_eq]; rfl
  rw [e]
  refine ⟨fun n r h => ?_, h2⟩
  rw [h1 n r h]
  simp
theorem q_rng {q : Nat} (h : q < 18446744073709551616) : 0 ≤ (q : Int) ∧ (q : Int) < 18446744073709551616 := ⟨by omega, by omega⟩
def cntI (l : List UInt8) : Option (Int × List UInt8) := (cnt true 9 l).bind fun q => some ((q.1 : Int), q.2)
theorem count_good : Good wire_unpacker_count.F cntI := by
  intro l
  obtain ⟨h1, h2⟩ := count_step 9 0 l 0 rfl (by decide)
  have e : wire_unpacker_count.F (B l) false = wire_unpacker_count.L0 ((0 : Nat) : Int) (7 * ((0 : Nat) : Int)) (B l) false := by rw [wire_unpacker_count.F_eq]; rfl
  rw [e]
  constructor
  · intro x r h
    obtain ⟨⟨n, r'⟩, hn, h⟩ := Option.bind_eq_some_iff.mp h
    injection h with h
    injection h with h3 h4
    dsimp only at h3 h4
    subst h3
    subst h4
    rw [h1 n r' hn]
    simp
  · intro h
    have hc : cnt true 9 l = none := by
      cases hc : cnt true 9 l with
      | none => rfl
      | some q => rw [cntI, hc] at h; cases h
    obtain ⟨x, l', hx, _⟩ := h2 hc
    exact ⟨x, l', hx⟩

theorem number_bad : Bad wire_unpacker_number.F := by
  intro l
  obtain ⟨x, l', h⟩ := count_bad l
  exact ⟨_, l', by rw [wire_unpacker_number.F_eq, h, Option.bind_some]⟩
theorem number_good : Good wire_unpacker_number.F num := by
  intro l
  obtain ⟨h1, h2⟩ := count_good l
  constructor
  · intro x r h
    obtain ⟨⟨n, r'⟩, hn, h⟩ := Option.bind_eq_some_iff.mp h
    injection h with h
    injection h with h3 h4
    dsimp only at h3 h4
    subst h3
    subst h4
    have hlt := (cnt_inv10 hn).2
    rw [wire_unpacker_number.F_eq, h1 (n : Int) r' (by rw [cntI, hn]; rfl), Option.bind_some]
    dsimp only
    rw [and1 n hlt, xor_zz n hlt]
    rfl
  · intro h
    obtain ⟨x, l', hx⟩ := h2 (by cases hc : cnt true 9 l with | none => rw [cntI, hc]; rfl | some q => rw [num, hc] at h; cases h)
    exact ⟨_, l', by rw [wire_unpacker_number.F_eq, hx, Option.bind_some]⟩

theorem text_bad : Bad wire_unpacker_text.F := by
  intro l
  obtain ⟨x, l', h⟩ := count_bad l
  exact ⟨_, l', by rw [wire_unpacker_text.F_eq, h, Option.bind_some, if_pos rfl]⟩
/-- Of a text that is not too long. -/
def GoodTo {α : Type} (M : Nat) (F : ByteArray → Bool → Option (α × ByteArray × Bool)) (P : List UInt8 → Option (α × List UInt8)) : Prop :=
  ∀ l, l.length ≤ M → (∀ x r, P l = some (x, r) → F (B l) false = some (x, B r, false) ∧ r.length ≤ M) ∧ (P l = none → ∃ x l', F (B l) false = some (x, B l', true))
theorem text_good : GoodTo 65536 wire_unpacker_text.F txt := by
  intro l hl
  obtain ⟨h1, h2⟩ := count_good l
  have hshort : ∀ n r, cnt true 9 l = some (n, r) → r.length < l.length := fun n r h => cnt_short _ _ _ _ _ h
  constructor
  · intro x r h
    obtain ⟨⟨n, r'⟩, hn, h⟩ := Option.bind_eq_some_iff.mp h
    have hs := hshort n r' hn
    split at h
    · rename_i hle
      injection h with h
      injection h with h3 h4
      dsimp only at h3 h4 hle
      subst h3
      subst h4
      refine ⟨?_, by rw [List.length_drop]; omega⟩
      rw [wire_unpacker_text.F_eq, h1 (n : Int) r' (by rw [cntI, hn]; rfl), Option.bind_some]
      dsimp only
      rw [if_neg (by decide), B_size, u64_of (by omega) (by omega), if_neg (by omega), if_pos (by omega), if_pos (by omega), Int.toNat_natCast, B_extract, B_extract]
      have e1 : List.take (r'.length - n) (List.drop n r') = List.drop n r' := List.take_of_length_le (by rw [List.length_drop]; omega)
      rw [e1, Nat.sub_zero, List.drop_zero]
      rfl
    · cases h
  · intro h
    cases hc : cnt true 9 l with
    | none =>
      obtain ⟨x, l', hx⟩ := h2 (by rw [cntI, hc]; rfl)
      exact ⟨_, l', by rw [wire_unpacker_text.F_eq, hx, Option.bind_some, if_pos rfl]⟩
    | some q =>
      obtain ⟨n, r'⟩ := q
      have hs := hshort n r' hc
      rw [txt, hc, Option.bind_some] at h
      dsimp only at h
      split at h
      · cases h
      · rename_i hle
        refine ⟨⟨#[]⟩, r', ?_⟩
        rw [wire_unpacker_text.F_eq, h1 (n : Int) r' (by rw [cntI, hc]; rfl), Option.bind_some]
        dsimp only
        rw [if_neg (by decide), B_size, u64_of (by omega) (by omega), if_pos (by omega)]
theorem GoodTo.of {α : Type} {M : Nat} {F : ByteArray → Bool → Option (α × ByteArray × Bool)} {P : List UInt8 → Option (α × List UInt8)} (h : Good F P) (hs : ∀ l x r, P l = some (x, r) → r.length ≤ l.length) : GoodTo M F P :=
  fun l hl => ⟨fun x r hx => ⟨(h l).1 x r hx, Nat.le_trans (hs l x r hx) hl⟩, (h l).2⟩
theorem number_goodTo : GoodTo 65536 wire_unpacker_number.F num := GoodTo.of number_good (fun l x r h => Nat.le_of_lt (num_short h))
theorem count_goodTo : GoodTo 65536 wire_unpacker_count.F cntI := GoodTo.of count_good (fun l x r h => by
  obtain ⟨⟨n, r'⟩, hn, h⟩ := Option.bind_eq_some_iff.mp h
  injection h with h
  injection h with h3 h4
  dsimp only at h4
  subst h4
  exact Nat.le_of_lt (cnt_short _ _ _ _ _ hn))

/-- What comes behind: told by Q of a good state, 'no 2' of a bad one. -/
def Ends (G : ByteArray → Bool → Option UnM) (Q : List UInt8 → Option UnM) : Prop :=
  (∀ l, G (B l) true = some (wire_Unpack.no 2)) ∧ (∀ l, l.length ≤ 65536 → G (B l) false = some ((Q l).getD (wire_Unpack.no 2)))
theorem ends_bind {α : Type} {F : ByteArray → Bool → Option (α × ByteArray × Bool)} {P : List UInt8 → Option (α × List UInt8)} {G : α × ByteArray × Bool → Option UnM} {Q : α × List UInt8 → Option UnM}
    (hb : Bad F) (hg : GoodTo 65536 F P) (h : ∀ x, Ends (fun b d => G (x, b, d)) (fun l => Q (x, l))) : Ends (fun b d => (F b d).bind G) (fun l => (P l).bind Q) := by
  constructor
  · intro l
    obtain ⟨x, l', hx⟩ := hb l
    simp only [hx, Option.bind_some]
    exact (h x).1 l'
  · intro l hl
    obtain ⟨h1, h2⟩ := hg l hl
    cases hp : P l with
    | none =>
      obtain ⟨x, l', hx⟩ := h2 hp
      simp only [hx, hp, Option.bind_some, Option.bind_none, Option.getD_none]
      exact (h x).1 l'
    | some z =>
      obtain ⟨x, r⟩ := z
      obtain ⟨hx, hr⟩ := h1 x r hp
      simp only [hx, hp, Option.bind_some]
      exact (h x).2 r hr
def finQ (m : UnM) (l : List UInt8) : Option UnM := if l = [] then some m else none
theorem ends_fin (m : UnM) : Ends (fun b d => wire_Unpack.fin b d m) (finQ m) := by
  constructor
  · intro l
    show wire_Unpack.fin (B l) true m = _
    rw [wire_Unpack.fin, if_pos rfl]
  · intro l _
    show wire_Unpack.fin (B l) false m = _
    rw [wire_Unpack.fin, if_neg (by decide), B_toList, finQ]
    by_cases h : l = []
    · rw [if_pos h, if_pos h]; rfl
    · rw [if_neg h, if_neg h]; rfl
theorem ends_ratio {G : Int × Int × ByteArray × Bool → Option UnM} {Q : Int → Int × List UInt8 → Option UnM} (h : ∀ x y, Ends (fun b d => G (x, y, b, d)) (fun l => Q x (y, l))) :
    Ends (fun b d => (wire_unpacker_ratio.F b d).bind G) (fun l => (num l).bind fun z => (num z.2).bind (Q z.1)) := by
  have e : (fun b d => (wire_unpacker_ratio.F b d).bind G) = (fun b d => (wire_unpacker_number.F b d).bind fun z => (wire_unpacker_number.F z.2.1 z.2.2).bind fun y => G (z.1, y.1, y.2.1, y.2.2)) := by
    funext b d
    rw [wire_unpacker_ratio.F_eq, Option.bind_assoc]
    congr 1
    funext z
    rw [Option.bind_assoc]
    congr 1
  rw [e]
  refine ends_bind number_bad number_goodTo fun x => ?_
  dsimp only
  refine ends_bind number_bad number_goodTo fun y => ?_
  dsimp only
  exact h x y
theorem loop_bad (n : Int) (l : List UInt8) (acc : List Int) : wire_Unpack.L0 n (B l) true acc = some (acc, B l, true) := by
  rw [wire_Unpack.L0_eq]
  split
  · rw [if_pos rfl]
  · rfl
theorem loop_good : ∀ (n : Nat) (l : List UInt8) (acc : List Int), l.length + acc.length ≤ 1048576 →
    (∀ vs r, vals n l = some (vs, r) → wire_Unpack.L0 (n : Int) (B l) false acc = some (acc ++ vs, B r, false) ∧ r.length ≤ l.length) ∧ (vals n l = none → ∃ x l', wire_Unpack.L0 (n : Int) (B l) false acc = some (x, B l', true))
  | 0, l, acc, hl => by
    refine ⟨fun vs r h => ?_, fun h => (by cases h)⟩
    injection h with h
    injection h with h1 h2
    subst h1
    subst h2
    rw [wire_Unpack.L0_eq, if_neg (by omega), List.append_nil]
    exact ⟨rfl, Nat.le_refl _⟩
  | n + 1, l, acc, hl => by
    obtain ⟨h1, h2⟩ := number_good l
    have e : wire_Unpack.L0 ((n + 1 : Nat) : Int) (B l) false acc = (wire_unpacker_number.F (B l) false).bind fun z => if acc.length < 17592186044416 then wire_Unpack.L0 (n : Int) z.2.1 z.2.2 (acc ++ [z.1]) else none := by
      rw [wire_Unpack.L0_eq, if_pos (by omega), if_neg (by decide)]
      have : ((n + 1 : Nat) : Int) - 1 = (n : Int) := by omega
      rw [this]
    rw [e]
    cases hn : num l with
    | none =>
      obtain ⟨x, l', hx⟩ := h2 hn
      refine ⟨fun vs r h => (by rw [vals, hn] at h; cases h), fun _ => ⟨acc ++ [x], l', ?_⟩⟩
      rw [hx, Option.bind_some, if_pos (by omega)]
      exact loop_bad _ _ _
    | some q =>
      obtain ⟨v, r1⟩ := q
      have hs := num_short hn
      obtain ⟨k1, k2⟩ := loop_good n r1 (acc ++ [v]) (by rw [List.length_append]; simp; omega)
      rw [h1 v r1 hn, Option.bind_some, if_pos (by omega)]
      constructor
      · intro vs r h
        rw [vals, hn, Option.bind_some] at h
        obtain ⟨⟨ws, r2⟩, hw, h⟩ := Option.bind_eq_some_iff.mp h
        injection h with h
        injection h with h3 h4
        dsimp only at h3 h4 hw
        subst h3
        subst h4
        obtain ⟨k3, k4⟩ := k1 ws r2 hw
        exact ⟨by dsimp only; rw [k3, List.append_assoc]; rfl, by omega⟩
      · intro h
        refine k2 ?_
        rw [vals, hn, Option.bind_some] at h
        cases hv : vals n r1 with
        | none => rfl
        | some p => rw [hv] at h; cases h

/-- What stands behind the kind. -/
def bodyQ (c : Int) (l : List UInt8) : Option UnM :=
  (txt l).bind fun s => (num s.2).bind fun n =>
    if c = 1 then (txt n.2).bind fun p => (txt p.2).bind fun t => (num t.2).bind fun u => (num u.2).bind fun w => (num w.2).bind fun lo => (num lo.2).bind fun hi => finQ (c, s.1, n.1, p.1, t.1, u.1, w.1, lo.1, hi.1, 0, [], 0, 0, 0) hi.2
    else if c = 2 then (num n.2).bind fun e => (cnt true 9 e.2).bind fun q => (vals q.1 q.2).bind fun v => (num v.2).bind fun u => (num u.2).bind fun w => finQ (c, s.1, n.1, ⟨#[]⟩, ⟨#[]⟩, 0, 0, 0, 0, e.1, v.1, u.1, w.1, 0) w.2
    else none
def upk : List UInt8 → Option UnM
  | [] => none
  | c :: l => bodyQ (c.toNat : Int) l

set_option maxRecDepth 100000 in
theorem ends_body (c : Int) : Ends (fun b d => (wire_unpacker_text.F b d).bind fun s => (wire_unpacker_number.F s.2.1 s.2.2).bind fun n => if c = 1 then (wire_unpacker_text.F n.2.1 n.2.2).bind fun p => (wire_unpacker_text.F p.2.1 p.2.2).bind fun t => (wire_unpacker_ratio.F t.2.1 t.2.2).bind fun r => (wire_unpacker_number.F r.2.2.1 r.2.2.2).bind fun lo => (wire_unpacker_number.F lo.2.1 lo.2.2).bind fun hi => wire_Unpack.fin hi.2.1 hi.2.2 (c, s.1, n.1, p.1, t.1, r.1, r.2.1, lo.1, hi.1, 0, [], 0, 0, 0) else if c = 2 then (wire_unpacker_number.F n.2.1 n.2.2).bind fun e => (wire_unpacker_count.F e.2.1 e.2.2).bind fun q => if 0 ≤ q.1 ∧ q.1 < 18446744073709551616 then (wire_Unpack.L0 q.1 q.2.1 q.2.2 []).bind fun v => (wire_unpacker_ratio.F v.2.1 v.2.2).bind fun r => wire_Unpack.fin r.2.2.1 r.2.2.2 (c, s.1, n.1, ⟨#[]⟩, ⟨#[]⟩, 0, 0, 0, 0, e.1, v.1, r.1, r.2.1, 0) else none else wire_Unpack.fin n.2.1 true (wire_Unpack.no 0)) (bodyQ c) := by
  unfold bodyQ
  refine ends_bind text_bad text_good fun s => ?_
  dsimp only
  refine ends_bind number_bad number_goodTo fun n => ?_
  dsimp only
  by_cases h1 : c = 1
  · simp only [if_pos h1]
    refine ends_bind text_bad text_good fun p => ?_
    dsimp only
    refine ends_bind text_bad text_good fun t => ?_
    dsimp only
    refine ends_ratio (Q := fun u z => (num z.2).bind fun lo => (num lo.2).bind fun hi => finQ (c, s, n, p, t, u, z.1, lo.1, hi.1, 0, [], 0, 0, 0) hi.2) fun u w => ?_
    dsimp only
    refine ends_bind number_bad number_goodTo fun lo => ?_
    dsimp only
    refine ends_bind number_bad number_goodTo fun hi => ?_
    dsimp only
    exact ends_fin _
  · simp only [if_neg h1]
    by_cases h2 : c = 2
    · simp only [if_pos h2]
      refine ends_bind number_bad number_goodTo fun e => ?_
      dsimp only
      have hr : ∀ vs : List Int, Ends (fun b d => (wire_unpacker_ratio.F b d).bind fun r => wire_Unpack.fin r.2.2.1 r.2.2.2 (c, s, n, ⟨#[]⟩, ⟨#[]⟩, 0, 0, 0, 0, e, vs, r.1, r.2.1, 0)) (fun l => (num l).bind fun u => (num u.2).bind fun w => finQ (c, s, n, ⟨#[]⟩, ⟨#[]⟩, 0, 0, 0, 0, e, vs, u.1, w.1, 0) w.2) :=
        fun vs => ends_ratio (Q := fun u w => finQ (c, s, n, ⟨#[]⟩, ⟨#[]⟩, 0, 0, 0, 0, e, vs, u, w.1, 0) w.2) fun u w => by dsimp only; exact ends_fin _
      constructor
      · intro l
        obtain ⟨x, l', hx⟩ := count_bad l
        have hx0 : x = 0 := by
          cases l with
          | nil => rw [wire_unpacker_count.F_eq, wire_unpacker_count.L0_eq, byte_nil, Option.bind_some, if_pos rfl, wire_unpacker_count.J1_eq, if_pos rfl] at hx; injection hx with hx; injection hx with hx _; exact hx.symm
          | cons c l => rw [wire_unpacker_count.F_eq, wire_unpacker_count.L0_eq, byte_cons, Option.bind_some, if_pos rfl, wire_unpacker_count.J1_eq, if_pos rfl] at hx; injection hx with hx; injection hx with hx _; exact hx.symm
        subst hx0
        simp only [hx, Option.bind_some]
        rw [if_pos (by omega), loop_bad, Option.bind_some]
        exact (hr []).1 l'
      · intro l hl
        obtain ⟨k1, k2⟩ := count_val l
        cases hc : cnt true 9 l with
        | none =>
          obtain ⟨x, l', hx, x0, x1⟩ := k2 hc
          simp only [hx, hc, Option.bind_some, Option.bind_none, Option.getD_none]
          rw [if_pos ⟨x0, x1⟩, loop_bad, Option.bind_some]
          exact (hr []).1 l'
        | some q =>
          obtain ⟨q, r⟩ := q
          obtain ⟨i1, i2⟩ := cnt_inv10 hc
          have hs := cnt_short _ _ _ _ _ hc
          have hq := k1 q r hc
          show (wire_unpacker_count.F (B l) false).bind _ = some (((cnt true 9 l).bind _).getD _)
          rw [hq, hc, Option.bind_some, Option.bind_some, if_pos (q_rng i2)]
          dsimp only
          obtain ⟨j1, j2⟩ := loop_good q r [] (by simp; omega)
          cases hv : vals q r with
          | none =>
            obtain ⟨x, l', hx⟩ := j2 hv
            simp only [hx, hv, Option.bind_some, Option.bind_none, Option.getD_none]
            exact (hr x).1 l'
          | some p =>
            obtain ⟨vs, r2⟩ := p
            obtain ⟨hx, hr2⟩ := j1 vs r2 hv
            simp only [hx, hv, Option.bind_some, List.nil_append]
            exact (hr vs).2 r2 (by omega)
    · simp only [if_neg h2]
      exact ⟨fun l => rfl, fun l _ => rfl⟩
theorem unpack_wire (a : ByteArray) : wire_Unpack.F a = some (if a.size > 65536 then wire_Unpack.no 4 else (upk a.data.toList).getD (wire_Unpack.no 2)) := by
  rw [wire_Unpack.F_eq]
  by_cases h : (a.size : Int) > 65536
  · rw [if_pos h, if_pos (by omega)]
  · rw [if_neg h, if_neg (by omega)]
    have ea : a = B a.data.toList := rfl
    have hl : a.data.toList.length ≤ 65536 := by have : a.size = a.data.toList.length := rfl; omega
    generalize a.data.toList = l at ea hl
    subst ea
    cases l with
    | nil =>
      rw [byte_nil, Option.bind_some]
      exact (ends_body 0).1 []
    | cons c l =>
      rw [byte_cons, Option.bind_some]
      exact (ends_body (c.toNat : Int)).2 l (by simp at hl; omega)
end Go.Proofs.Ytdfeidpkdbleaaa.Pure

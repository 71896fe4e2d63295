/- The code of numbers, texts and messages, as lists of bytes. Conditions: in each theorem. -/
import Derived.Test.YtdfeidpkdbleaaaPCx10
namespace Go.Proofs.Ytdfeidpkdbleaaa.Pure
set_option linter.unusedVariables false
set_option linter.unusedSimpArgs false
open Go.Proofs.Ytdfeidpkdbleaaa.PC

/-- A number out of bytes: z: may the first be 0? g: how many bytes may still come behind it. -/
def cnt (z : Bool) : Nat → List UInt8 → Option (Nat × List UInt8)
  | _, [] => none
  | 0, c :: l => if c.toNat = 1 then some (1, l) else none
  | g + 1, c :: l => if c.toNat = 0 ∧ z = false then none else if c.toNat < 128 then some (c.toNat, l) else (cnt false g l).bind fun q => some (c.toNat - 128 + 128 * q.1, q.2)

theorem cnt_uv : ∀ (g f n : Nat) (z : Bool) (r : List UInt8), n < 2 * 128 ^ g → n < 128 ^ (f + 1) → (n ≠ 0 ∨ (z = true ∧ 0 < g)) → cnt z g (uv f n ++ r) = some (n, r)
  | 0, f, n, z, r, h1, h2, h3 => by
    have hn : n = 1 := by rcases h3 with h3 | h3 <;> omega
    subst hn
    have e : uv f 1 = [1] := by cases f <;> rfl
    rw [e]
    rfl
  | g + 1, f, n, z, r, h1, h2, h3 => by
    by_cases hn : n < 128
    · have e : uv f n = [UInt8.ofNat n] := by cases f with | zero => rfl | succ f => rw [uv, if_pos hn]
      have ht : (UInt8.ofNat n).toNat = n := by rw [UInt8.toNat_ofNat']; omega
      rw [e, List.singleton_append, cnt, ht, if_neg (by rintro ⟨a, b⟩; rcases h3 with h3 | h3; exact h3 a; rw [h3.1] at b; cases b), if_pos hn]
    · cases f with
      | zero => exact absurd h2 (by omega)
      | succ f =>
        have ht : (UInt8.ofNat (n % 128 + 128)).toNat = n % 128 + 128 := by rw [UInt8.toNat_ofNat']; omega
        rw [uv, if_neg hn, List.cons_append, cnt, ht, if_neg (by omega), if_neg (by omega), cnt_uv g f (n / 128) false r (by rw [Nat.pow_succ] at h1; omega) (by rw [Nat.pow_succ] at h2; omega) (.inl (by omega))]
        simp only [Option.bind_some, Option.some.injEq, Prod.mk.injEq, and_true]
        omega

theorem cnt_inv : ∀ (g f : Nat) (z : Bool) (l : List UInt8) (n : Nat) (r : List UInt8), cnt z g l = some (n, r) → g ≤ f → l = uv f n ++ r ∧ n < 2 * 128 ^ g ∧ (n ≠ 0 ∨ z = true)
  | _, _, _, [], _, _, h, _ => by simp [cnt] at h
  | 0, f, z, c :: l, n, r, h, hg => by
    rw [cnt] at h
    split at h
    · rename_i hc
      injection h with h
      injection h with h1 h2
      subst h1
      subst h2
      have e : uv f 1 = [1] := by cases f <;> rfl
      have ec : c = 1 := UInt8.toNat_inj.mp hc
      rw [e, ec]
      exact ⟨rfl, by omega, .inl (by omega)⟩
    · cases h
  | g + 1, f, z, c :: l, n, r, h, hg => by
    have hc256 := c.toNat_lt
    rw [cnt] at h
    split at h
    · cases h
    · rename_i hz
      split at h
      · rename_i hc
        injection h with h
        injection h with h1 h2
        subst h2
        have e : uv f n = [UInt8.ofNat n] := by cases f with | zero => rfl | succ f => rw [uv, if_pos (by omega)]
        have ec : UInt8.ofNat n = c := UInt8.toNat_inj.mp (by rw [UInt8.toNat_ofNat']; omega)
        rw [e, ec]
        refine ⟨rfl, ?_, ?_⟩
        · have : 0 < 128 ^ g := Nat.pos_of_neZero _
          rw [Nat.pow_succ]; omega
        · cases z with
          | true => exact .inr rfl
          | false => exact .inl (fun h0 => hz ⟨by omega, rfl⟩)
      · rename_i hc
        obtain ⟨⟨m, r'⟩, hm, h⟩ := Option.bind_eq_some_iff.mp h
        injection h with h
        injection h with h1 h2
        dsimp only at h1 h2
        subst h2
        cases f with
        | zero => omega
        | succ f =>
          obtain ⟨i1, i2, i3⟩ := cnt_inv g f false l m r' hm (by omega)
          have hm0 : m ≠ 0 := by rcases i3 with i3 | i3; exact i3; cases i3
          have e1 : n % 128 + 128 = c.toNat := by omega
          have e2 : n / 128 = m := by omega
          refine ⟨?_, by rw [Nat.pow_succ]; omega, .inl (by omega)⟩
          rw [uv, if_neg (by omega), e1, e2, List.cons_append, ← i1]
          congr 1
          exact UInt8.toNat_inj.mp (by rw [UInt8.toNat_ofNat']; omega)

theorem cnt_short : ∀ (g : Nat) (z : Bool) (l : List UInt8) (n : Nat) (r : List UInt8), cnt z g l = some (n, r) → r.length < l.length := by
  intro g z l n r h
  obtain ⟨h1, _⟩ := cnt_inv g g z l n r h (Nat.le_refl _)
  rw [h1, List.length_append]
  have : 0 < (uv g n).length := by cases g with | zero => simp [uv] | succ g => rw [uv]; split <;> simp
  omega

def unzz (n : Nat) : Int := if n % 2 = 0 then ((n / 2 : Nat) : Int) else -((n / 2 : Nat) : Int) - 1
theorem unzz_zz (a : Int) : unzz (zz a) = a := by
  unfold unzz zz
  split <;> split <;> omega
theorem zz_unzz (n : Nat) : zz (unzz n) = n := by
  unfold unzz zz
  split <;> split <;> omega
theorem unzz_rng {n : Nat} (h : n < 18446744073709551616) : -9223372036854775808 ≤ unzz n ∧ unzz n ≤ 9223372036854775807 := by
  unfold unzz
  split <;> omega

def num (l : List UInt8) : Option (Int × List UInt8) := (cnt true 9 l).bind fun q => some (unzz q.1, q.2)
def txt (l : List UInt8) : Option (ByteArray × List UInt8) := (cnt true 9 l).bind fun q => if q.1 ≤ q.2.length then some (⟨(q.2.take q.1).toArray⟩, q.2.drop q.1) else none

theorem cnt_uv10 (n : Nat) (r : List UInt8) (h : n < 18446744073709551616) : cnt true 9 (uv 10 n ++ r) = some (n, r) := cnt_uv 9 10 n true r (by omega) (by omega) (.inr ⟨rfl, by omega⟩)
theorem cnt_inv10 {l : List UInt8} {n : Nat} {r : List UInt8} (h : cnt true 9 l = some (n, r)) : l = uv 10 n ++ r ∧ n < 18446744073709551616 := by
  obtain ⟨h1, h2, _⟩ := cnt_inv 9 10 true l n r h (by omega)
  exact ⟨h1, by omega⟩
theorem num_pk (a : Int) (r : List UInt8) (h : -9223372036854775808 ≤ a ∧ a ≤ 9223372036854775807) : num (pk_num_ a ++ r) = some (a, r) := by
  rw [num, pk_num_, cnt_uv10 _ _ (zz_lt h), Option.bind_some, unzz_zz]
theorem num_inv {l : List UInt8} {a : Int} {r : List UInt8} (h : num l = some (a, r)) : l = pk_num_ a ++ r ∧ -9223372036854775808 ≤ a ∧ a ≤ 9223372036854775807 := by
  obtain ⟨⟨n, r'⟩, hn, h⟩ := Option.bind_eq_some_iff.mp h
  injection h with h
  injection h with h1 h2
  dsimp only at h1 h2
  subst h1
  subst h2
  obtain ⟨i1, i2⟩ := cnt_inv10 hn
  rw [pk_num_, zz_unzz]
  exact ⟨i1, unzz_rng i2⟩
theorem num_short {l : List UInt8} {a : Int} {r : List UInt8} (h : num l = some (a, r)) : r.length < l.length := by
  obtain ⟨⟨n, r'⟩, hn, h⟩ := Option.bind_eq_some_iff.mp h
  injection h with h
  injection h with h1 h2
  dsimp only at h2
  subst h2
  exact cnt_short _ _ _ _ _ hn
theorem txt_pk (s : ByteArray) (r : List UInt8) (h : s.size < 18446744073709551616) : txt (pk_text_ s ++ r) = some (s, r) := by
  have e : s.size = s.data.toList.length := rfl
  rw [txt, pk_text_, List.append_assoc, cnt_uv10 _ _ h, Option.bind_some]
  dsimp only
  rw [if_pos (by rw [List.length_append]; omega), e, List.take_left, List.drop_left]
theorem txt_inv {l : List UInt8} {s : ByteArray} {r : List UInt8} (h : txt l = some (s, r)) : l = pk_text_ s ++ r ∧ s.size < 18446744073709551616 := by
  obtain ⟨⟨n, r'⟩, hn, h⟩ := Option.bind_eq_some_iff.mp h
  split at h
  · rename_i hle
    injection h with h
    injection h with h1 h2
    dsimp only at h1 h2 hle
    subst h1
    subst h2
    obtain ⟨i1, i2⟩ := cnt_inv10 hn
    have e : (⟨(List.take n r').toArray⟩ : ByteArray).size = n := by show (List.take n r').toArray.size = n; rw [List.size_toArray, List.length_take]; omega
    rw [pk_text_, e, List.append_assoc]
    refine ⟨?_, i2⟩
    rw [i1]
    congr 1
    exact (List.take_append_drop n r').symm
  · cases h

def vals : Nat → List UInt8 → Option (List Int × List UInt8)
  | 0, l => some ([], l)
  | n + 1, l => (num l).bind fun q => (vals n q.2).bind fun p => some (q.1 :: p.1, p.2)
theorem vals_pk : ∀ (vs : List Int) (r : List UInt8), (∀ v ∈ vs, -9223372036854775808 ≤ v ∧ v ≤ 9223372036854775807) → vals vs.length (vs.flatMap pk_num_ ++ r) = some (vs, r)
  | [], r, _ => rfl
  | v :: vs, r, h => by
    rw [List.length_cons, vals, List.flatMap_cons, List.append_assoc, num_pk v _ (h v (by simp)), Option.bind_some]
    dsimp only
    rw [vals_pk vs r (fun x hx => h x (by simp [hx])), Option.bind_some]
theorem vals_inv : ∀ (n : Nat) (l : List UInt8) (vs : List Int) (r : List UInt8), vals n l = some (vs, r) → l = vs.flatMap pk_num_ ++ r ∧ vs.length = n ∧ (∀ v ∈ vs, -9223372036854775808 ≤ v ∧ v ≤ 9223372036854775807)
  | 0, l, vs, r, h => by
    injection h with h
    injection h with h1 h2
    subst h1
    subst h2
    exact ⟨rfl, rfl, by simp⟩
  | n + 1, l, vs, r, h => by
    obtain ⟨⟨a, r1⟩, ha, h⟩ := Option.bind_eq_some_iff.mp h
    obtain ⟨⟨ws, r2⟩, hw, h⟩ := Option.bind_eq_some_iff.mp h
    injection h with h
    injection h with h1 h2
    dsimp only at h1 h2 hw
    subst h1
    subst h2
    obtain ⟨i1, i2⟩ := num_inv ha
    obtain ⟨j1, j2, j3⟩ := vals_inv n r1 ws r2 hw
    refine ⟨by rw [i1, j1, List.flatMap_cons, List.append_assoc], by simp [j2], ?_⟩
    intro v hv
    rcases List.mem_cons.mp hv with h | h
    · rw [h]; exact i2
    · exact j3 v h
end Go.Proofs.Ytdfeidpkdbleaaa.Pure

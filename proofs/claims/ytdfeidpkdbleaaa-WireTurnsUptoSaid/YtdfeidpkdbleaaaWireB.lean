/- Texts as lists of bytes. Conditions: in each theorem. -/
import Derived.Test.YtdfeidpkdbleaaaPCx10
import Derived.Laws.Strings
import Derived.Laws.BitsLemmas
import Derived.Lib.Strings
namespace Go.Proofs.Ytdfeidpkdbleaaa.Pure
set_option linter.unusedVariables false
set_option linter.unusedSimpArgs false
open Go.RowKit Go.Proofs.Ytdfeidpkdbleaaa.PC Go.Proofs.YtdfeidpkdbleaaaW.PrintWords Go.Proofs.YtdfeidpkdbleaaaW.PrintLast Go.Proofs.YtdfeidpkdbleaaaW.PrintMore

def B (l : List UInt8) : ByteArray := ⟨l.toArray⟩
theorem B_size (l : List UInt8) : (B l).size = l.length := rfl
theorem B_data (l : List UInt8) : (B l).data.toList = l := rfl
theorem B_self (s : ByteArray) : B s.data.toList = s := rfl
theorem B_toList (l : List UInt8) : (B l).toList = l := ByteArray.toList_eq _
theorem B_inj {a b : List UInt8} (h : B a = B b) : a = b := by have := congrArg (fun s => s.data.toList) h; exact this
theorem B_app (a b : List UInt8) : B a ++ B b = B (a ++ b) := by
  apply ByteArray.ext
  show (B a ++ B b).data = _
  rw [ByteArray.data_append]
  exact (List.append_toArray a b)
theorem B_nums (xs : List Int) : strOfNums xs = B (xs.map fun n => UInt8.ofNat n.toNat) := rfl
theorem B_of_data {s : ByteArray} {l : List UInt8} (h : s.data.toList = l) : s = B l := by rw [← h]; rfl
theorem B_extract (l : List UInt8) (i j : Nat) : (B l).extract i j = B ((l.drop i).take (j - i)) := by
  apply B_of_data
  have h := Lib.extract_toList (B l) i j
  rw [ByteArray.toList_eq, B_data] at h
  exact h
theorem B_bt (c : UInt8) (l : List UInt8) : bt (B (c :: l)) 0 = (c.toNat : Int) := rfl
theorem B_bt_at (l : List UInt8) (i : Nat) (c : UInt8) (r : List UInt8) (h : l.drop i = c :: r) : bt (B l) (i : Int) = (c.toNat : Int) ∧ i < l.length := by
  have hi : i < l.length := by
    rcases Nat.lt_or_ge i l.length with hi | hi
    · exact hi
    · rw [List.drop_eq_nil_of_le hi] at h; cases h
  refine ⟨?_, hi⟩
  rw [List.drop_eq_getElem_cons hi] at h
  injection h with h1 h2
  unfold bt
  rw [Int.toNat_natCast, dif_pos (show i < (B l).size from hi)]
  rw [← h1]
  rfl
theorem u64_of {x : Int} (h0 : 0 ≤ x) (h1 : x < 18446744073709551616) : IntKind.u64.wrap x = x := by rw [pk_wrap_u64]; omega
theorem wraps_u64 (n : Int) (h0 : 0 ≤ n) (h1 : n < 2 ^ 64) : IntKind.u64.wrap n = n := u64_of h0 (by omega)
theorem and127 (c : UInt8) : Go.bits .and .u8 (c.toNat : Int) 127 = ((c.toNat % 128 : Nat) : Int) := by
  have h := bits_mask .u8 8 (by decide) wraps_u8 7 (by decide) (c.toNat : Int) (by omega) (by have := c.toNat_lt; omega)
  have e : ((2 : Int) ^ 7 - 1) = 127 := by decide
  rw [e] at h
  rw [h]
  omega
theorem and1 (n : Nat) (hn : n < 18446744073709551616) : Go.bits .and .u64 (n : Int) 1 = ((n % 2 : Nat) : Int) := by
  have h := bits_mask .u64 64 (by decide) wraps_u64 1 (by decide) (n : Int) (by omega) (by omega)
  have e : ((2 : Int) ^ 1 - 1) = 1 := by decide
  rw [e] at h
  rw [h]
  omega
/-- One more part of a number. -/
theorem or_part (i : Nat) (hi : i ≤ 9) (acc : Nat) (ha : acc < 2 ^ (7 * i)) (x : Nat) (hx : x * 2 ^ (7 * i) < 18446744073709551616) :
    Go.bits .or .u64 (acc : Int) (shl .u64 (IntKind.u64.wrap (x : Int)) (7 * (i : Int))) = ((acc + x * 2 ^ (7 * i) : Nat) : Int) := by
  have hp : 0 < 2 ^ (7 * i) := Nat.two_pow_pos _
  have hx1 : x < 18446744073709551616 := Nat.lt_of_le_of_lt (Nat.le_mul_of_pos_right x hp) hx
  have e1 : IntKind.u64.wrap (x : Int) = x := u64_of (by omega) (by omega)
  have e2 : (7 * (i : Int)).toNat = 7 * i := by omega
  have e3 : min (7 * i) IntKind.u64.bits = 7 * i := by show min (7 * i) 64 = 7 * i; omega
  have e4 : shl .u64 (x : Int) (7 * (i : Int)) = ((x * 2 ^ (7 * i) : Nat) : Int) := by
    unfold shl
    rw [e2, e3]
    have e5 : (x : Int) * 2 ^ (7 * i) = ((x * 2 ^ (7 * i) : Nat) : Int) := by push_cast; rfl
    rw [e5]
    exact u64_of (by omega) (by omega)
  rw [e1, e4]
  have hc : Go.bits .or .u64 (acc : Int) ((x * 2 ^ (7 * i) : Nat) : Int) = Go.bits .or .u64 ((x * 2 ^ (7 * i) : Nat) : Int) (acc : Int) := by
    unfold Go.bits
    simp only [BitVec.or_comm]
  have ha64 : acc < 18446744073709551616 := by
    have : 2 ^ (7 * i) ≤ 2 ^ 63 := Nat.pow_le_pow_right (by decide) (by omega)
    omega
  have hm : ((x * 2 ^ (7 * i) : Nat) : Int) % 2 ^ (7 * i) = 0 := by
    have e5 : ((2 : Int) ^ (7 * i)) = ((2 ^ (7 * i) : Nat) : Int) := by push_cast; rfl
    rw [e5, ← Int.natCast_emod, Nat.mul_mod_left]
    rfl
  have hlt : (acc : Int) < 2 ^ (7 * i) := by
    have e5 : ((2 : Int) ^ (7 * i)) = ((2 ^ (7 * i) : Nat) : Int) := by push_cast; rfl
    rw [e5]
    omega
  rw [hc, bits_join .u64 64 (by decide) wraps_u64 (7 * i) _ _ (by omega) hm (by omega) (by omega) hlt (by omega)]
  omega
/-- What was twice, or twice what is missing, less 1. -/
theorem xor_zz (n : Nat) (hn : n < 18446744073709551616) : Go.bits .xor .i64 (wrap64 ((n : Int) / 2)) (wrap64 (-(wrap64 ((n % 2 : Nat) : Int)))) = if n % 2 = 0 then ((n / 2 : Nat) : Int) else -((n / 2 : Nat) : Int) - 1 := by
  have e1 : wrap64 ((n : Int) / 2) = ((n / 2 : Nat) : Int) := by unfold wrap64; omega
  have hl : n / 2 < 9223372036854775808 := by omega
  rw [e1]
  generalize n / 2 = a at hl ⊢
  rcases Nat.mod_two_eq_zero_or_one n with h | h
  · rw [h, if_pos rfl]
    have e2 : wrap64 (-(wrap64 ((0 : Nat) : Int))) = 0 := by decide +kernel
    rw [e2]
    unfold Go.bits
    have : (BitVec.ofInt IntKind.i64.bits (a : Int) ^^^ BitVec.ofInt IntKind.i64.bits 0).toNat = a := by
      show (BitVec.ofInt 64 (a : Int) ^^^ BitVec.ofInt 64 0).toNat = a
      rw [show BitVec.ofInt 64 0 = 0#64 from by decide, BitVec.xor_zero, BitVec.ofInt_natCast, BitVec.toNat_ofNat]
      omega
    simp only []
    rw [this, IntKind.wrap_i64]
    omega
  · rw [h, if_neg (by decide)]
    have e2 : wrap64 (-(wrap64 ((1 : Nat) : Int))) = -1 := by decide +kernel
    rw [e2]
    unfold Go.bits
    have : (BitVec.ofInt IntKind.i64.bits (a : Int) ^^^ BitVec.ofInt IntKind.i64.bits (-1)).toNat = 18446744073709551615 - a := by
      show (BitVec.ofInt 64 (a : Int) ^^^ BitVec.ofInt 64 (-1)).toNat = _
      rw [show BitVec.ofInt 64 (-1) = BitVec.allOnes 64 from by decide, BitVec.xor_allOnes, BitVec.toNat_not, BitVec.ofInt_natCast, BitVec.toNat_ofNat]
      omega
    simp only []
    rw [this, IntKind.wrap_i64]
    omega
end Go.Proofs.Ytdfeidpkdbleaaa.Pure

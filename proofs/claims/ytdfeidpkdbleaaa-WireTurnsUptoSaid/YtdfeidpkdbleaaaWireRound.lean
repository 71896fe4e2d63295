/- A message has one code. Conditions: in each theorem. -/
import Derived.Test.YtdfeidpkdbleaaaWireUnW
import Derived.Test.YtdfeidpkdbleaaaWirePackW
namespace Go.Proofs.Ytdfeidpkdbleaaa.Pure
set_option linter.unusedVariables false
set_option linter.unusedSimpArgs false
open Go.RowKit Go.Proofs.Ytdfeidpkdbleaaa.PC Go.Proofs.YtdfeidpkdbleaaaW.PrintWords Go.Proofs.YtdfeidpkdbleaaaW.PrintLast Go.Proofs.YtdfeidpkdbleaaaW.PrintMore Go.Proofs.YtdfeidpkdbleaaaW.EvKit
variable {a0 : Int} {a1 : ByteArray} {a2 : Int} {a3 a4 : ByteArray} {a5 a6 a7 a8 a9 : Int} {l10 : List Int} {a11 a12 : Int}

theorem empty_of {s : ByteArray} (h : s.toList = ([] : List UInt8)) : s = ⟨#[]⟩ := by
  rw [ByteArray.toList_eq] at h
  exact B_of_data h
theorem clean_ask (h : wire_clean.f 1 a1 a2 a3 a4 a5 a6 a7 a8 a9 l10 a11 a12 = some true) : a9 = 0 ∧ l10 = [] ∧ a11 = 0 ∧ a12 = 0 := by
  unfold wire_clean.f at h
  rw [if_pos rfl] at h
  split at h
  · rename_i h9
    split at h
    · rename_i hl
      injection h with h
      rw [Bool.and_eq_true, beq_iff_eq, beq_iff_eq] at h
      exact ⟨h9, List.length_eq_zero_iff.mp (by omega), h.1, h.2⟩
    · cases h
  · cases h
theorem clean_reply (h : wire_clean.f 2 a1 a2 a3 a4 a5 a6 a7 a8 a9 l10 a11 a12 = some true) : a3 = ⟨#[]⟩ ∧ a4 = ⟨#[]⟩ ∧ a5 = 0 ∧ a6 = 0 ∧ a7 = 0 ∧ a8 = 0 := by
  unfold wire_clean.f at h
  rw [if_neg (by decide), if_pos rfl] at h
  split at h
  · rename_i h3
    split at h
    · rename_i h4
      split at h
      · rename_i h5
        split at h
        · rename_i h7
          injection h with h
          rw [beq_iff_eq] at h
          rw [Bool.and_eq_true, beq_iff_eq, beq_iff_eq] at h5
          exact ⟨empty_of h3, empty_of h4, h5.1, h5.2, h7, h⟩
        · cases h
      · cases h
    · cases h
  · cases h

theorem clean_reply_true : wire_clean.f 2 a1 a2 ⟨#[]⟩ ⟨#[]⟩ 0 0 0 0 a9 l10 a11 a12 = some true := by
  have e : (⟨#[]⟩ : ByteArray).toList = ([] : List UInt8) := B_toList []
  unfold wire_clean.f
  rw [if_neg (by decide), if_pos rfl, if_pos e, if_pos e, if_pos (by decide), if_pos rfl]
  rfl
theorem upk_pk (hf : Fits a0 a1 a2 a3 a4 a5 a6 a7 a8 a9 l10 a11 a12) (h : wire_clean.f a0 a1 a2 a3 a4 a5 a6 a7 a8 a9 l10 a11 a12 = some true) :
    upk (pk_list a0 a1 a2 a3 a4 a5 a6 a7 a8 a9 l10 a11 a12) = some (a0, a1, a2, a3, a4, a5, a6, a7, a8, a9, l10, a11, a12, 0) := by
  have h1 := hf.s1
  have h3 := hf.s3
  have h4 := hf.s4
  have hl := hf.sl
  rcases pk_clean_kind h with rfl | rfl
  · obtain ⟨rfl, rfl, rfl, rfl⟩ := clean_ask h
    have e : pk_list 1 a1 a2 a3 a4 a5 a6 a7 a8 0 [] 0 0 = (1 : UInt8) :: (pk_text_ a1 ++ (pk_num_ a2 ++ (pk_text_ a3 ++ (pk_text_ a4 ++ (pk_num_ a5 ++ (pk_num_ a6 ++ (pk_num_ a7 ++ (pk_num_ a8 ++ [])))))))) := by
      rw [pk_list, if_pos rfl]
      simp only [List.append_assoc, List.append_nil]
      rfl
    have et : ((1 : UInt8).toNat : Int) = 1 := rfl
    rw [e, upk, et, bodyQ, txt_pk _ _ (by omega), Option.bind_some]
    dsimp only
    rw [num_pk _ _ hf.r2, Option.bind_some, if_pos rfl]
    dsimp only
    rw [txt_pk _ _ (by omega), Option.bind_some]
    dsimp only
    rw [txt_pk _ _ (by omega), Option.bind_some]
    dsimp only
    rw [num_pk _ _ hf.r5, Option.bind_some]
    dsimp only
    rw [num_pk _ _ hf.r6, Option.bind_some]
    dsimp only
    rw [num_pk _ _ hf.r7, Option.bind_some]
    dsimp only
    rw [num_pk _ _ hf.r8, Option.bind_some]
    dsimp only
    rw [finQ, if_pos rfl]
  · obtain ⟨rfl, rfl, rfl, rfl, rfl, rfl⟩ := clean_reply h
    have e : pk_list 2 a1 a2 ⟨#[]⟩ ⟨#[]⟩ 0 0 0 0 a9 l10 a11 a12 = (2 : UInt8) :: (pk_text_ a1 ++ (pk_num_ a2 ++ (pk_num_ a9 ++ (uv 10 l10.length ++ (l10.flatMap pk_num_ ++ (pk_num_ a11 ++ (pk_num_ a12 ++ []))))))) := by
      rw [pk_list, if_neg (by decide)]
      simp only [List.append_assoc, List.append_nil]
      rfl
    have et : ((2 : UInt8).toNat : Int) = 2 := rfl
    rw [e, upk, et, bodyQ, txt_pk _ _ (by omega), Option.bind_some]
    dsimp only
    rw [num_pk _ _ hf.r2, Option.bind_some, if_neg (by decide), if_pos rfl]
    dsimp only
    rw [num_pk _ _ hf.r9, Option.bind_some]
    dsimp only
    rw [cnt_uv10 _ _ (by omega), Option.bind_some]
    dsimp only
    rw [vals_pk _ _ hf.rv, Option.bind_some]
    dsimp only
    rw [num_pk _ _ hf.r11, Option.bind_some]
    dsimp only
    rw [num_pk _ _ hf.r12, Option.bind_some]
    dsimp only
    rw [finQ, if_pos rfl]

theorem fin_inv {m m' : UnM} {l : List UInt8} (h : finQ m l = some m') : m = m' ∧ l = [] := by
  unfold finQ at h
  split at h
  · rename_i hl
    exact ⟨Option.some.inj h, hl⟩
  · cases h
theorem num_pos (v : Int) : 1 ≤ (pk_num_ v).length := by
  unfold pk_num_
  rw [uv]
  split <;> simp
theorem flat_len : ∀ l : List Int, l.length ≤ (l.flatMap pk_num_).length
  | [] => by simp
  | v :: l => by
    have := flat_len l
    have := num_pos v
    rw [List.flatMap_cons, List.length_append, List.length_cons]
    omega
theorem text_size (s : ByteArray) : s.size ≤ (pk_text_ s).length := by
  unfold pk_text_
  have e : s.data.toList.length = s.size := rfl
  rw [List.length_append]
  omega

theorem R64_0 : R64 0 := ⟨by omega, by omega⟩
theorem upk_inv (l : List UInt8) (hlen : l.length ≤ 65536) (m : UnM) (h : upk l = some m) :
    m.2.2.2.2.2.2.2.2.2.2.2.2.2 = 0 ∧ l = pk_list m.1 m.2.1 m.2.2.1 m.2.2.2.1 m.2.2.2.2.1 m.2.2.2.2.2.1 m.2.2.2.2.2.2.1 m.2.2.2.2.2.2.2.1 m.2.2.2.2.2.2.2.2.1 m.2.2.2.2.2.2.2.2.2.1 m.2.2.2.2.2.2.2.2.2.2.1 m.2.2.2.2.2.2.2.2.2.2.2.1 m.2.2.2.2.2.2.2.2.2.2.2.2.1
    ∧ wire_clean.f m.1 m.2.1 m.2.2.1 m.2.2.2.1 m.2.2.2.2.1 m.2.2.2.2.2.1 m.2.2.2.2.2.2.1 m.2.2.2.2.2.2.2.1 m.2.2.2.2.2.2.2.2.1 m.2.2.2.2.2.2.2.2.2.1 m.2.2.2.2.2.2.2.2.2.2.1 m.2.2.2.2.2.2.2.2.2.2.2.1 m.2.2.2.2.2.2.2.2.2.2.2.2.1 = some true
    ∧ Fits m.1 m.2.1 m.2.2.1 m.2.2.2.1 m.2.2.2.2.1 m.2.2.2.2.2.1 m.2.2.2.2.2.2.1 m.2.2.2.2.2.2.2.1 m.2.2.2.2.2.2.2.2.1 m.2.2.2.2.2.2.2.2.2.1 m.2.2.2.2.2.2.2.2.2.2.1 m.2.2.2.2.2.2.2.2.2.2.2.1 m.2.2.2.2.2.2.2.2.2.2.2.2.1 := by
  cases l with
  | nil => cases h
  | cons c l =>
    rw [upk] at h
    unfold bodyQ at h
    obtain ⟨⟨s, l1⟩, h1, h⟩ := Option.bind_eq_some_iff.mp h
    obtain ⟨⟨n, l2⟩, h2, h⟩ := Option.bind_eq_some_iff.mp h
    dsimp only at h1 h2 h
    obtain ⟨i1, _⟩ := txt_inv h1
    obtain ⟨i2, r2⟩ := num_inv h2
    by_cases hc1 : (c.toNat : Int) = 1
    · rw [if_pos hc1] at h
      obtain ⟨⟨p, l3⟩, h3, h⟩ := Option.bind_eq_some_iff.mp h
      obtain ⟨⟨t, l4⟩, h4, h⟩ := Option.bind_eq_some_iff.mp h
      obtain ⟨⟨u, l5⟩, h5, h⟩ := Option.bind_eq_some_iff.mp h
      obtain ⟨⟨w, l6⟩, h6, h⟩ := Option.bind_eq_some_iff.mp h
      obtain ⟨⟨lo, l7⟩, h7, h⟩ := Option.bind_eq_some_iff.mp h
      obtain ⟨⟨hi, l8⟩, h8, h⟩ := Option.bind_eq_some_iff.mp h
      dsimp only at h3 h4 h5 h6 h7 h8 h
      obtain ⟨rfl, rfl⟩ := fin_inv h
      obtain ⟨i3, _⟩ := txt_inv h3
      obtain ⟨i4, _⟩ := txt_inv h4
      obtain ⟨i5, r5⟩ := num_inv h5
      obtain ⟨i6, r6⟩ := num_inv h6
      obtain ⟨i7, r7⟩ := num_inv h7
      obtain ⟨i8, r8⟩ := num_inv h8
      have ec : c = 1 := UInt8.toNat_inj.mp (by show c.toNat = 1; omega)
      dsimp only
      subst ec
      subst i1 i2 i3 i4 i5 i6 i7 i8
      have t1 := text_size s
      have t3 := text_size p
      have t4 := text_size t
      simp only [List.length_cons, List.length_append] at hlen
      refine ⟨rfl, ?_, rfl, ⟨by omega, by omega, by omega, by simp, r2, r5, r6, r7, r8, R64_0, R64_0, R64_0, by simp⟩⟩
      rw [hc1, pk_list, if_pos rfl]
      simp only [List.append_assoc, List.append_nil]
      rfl
    · rw [if_neg hc1] at h
      by_cases hc2 : (c.toNat : Int) = 2
      · rw [if_pos hc2] at h
        obtain ⟨⟨e, l3⟩, h3, h⟩ := Option.bind_eq_some_iff.mp h
        obtain ⟨⟨q, l4⟩, h4, h⟩ := Option.bind_eq_some_iff.mp h
        obtain ⟨⟨vs, l5⟩, h5, h⟩ := Option.bind_eq_some_iff.mp h
        obtain ⟨⟨u, l6⟩, h6, h⟩ := Option.bind_eq_some_iff.mp h
        obtain ⟨⟨w, l7⟩, h7, h⟩ := Option.bind_eq_some_iff.mp h
        dsimp only at h3 h4 h5 h6 h7 h
        obtain ⟨rfl, rfl⟩ := fin_inv h
        obtain ⟨i3, r3⟩ := num_inv h3
        obtain ⟨i4, _⟩ := cnt_inv10 h4
        obtain ⟨i5, j5, r5⟩ := vals_inv q l4 vs l5 h5
        obtain ⟨i6, r6⟩ := num_inv h6
        obtain ⟨i7, r7⟩ := num_inv h7
        have ec : c = 2 := UInt8.toNat_inj.mp (by show c.toNat = 2; omega)
        dsimp only
        subst ec
        subst j5
        subst i1 i2 i3 i4 i5 i6 i7
        have t1 := text_size s
        have tv := flat_len vs
        simp only [List.length_cons, List.length_append] at hlen
        have e0 : (⟨#[]⟩ : ByteArray).size = 0 := rfl
        refine ⟨rfl, ?_, by rw [hc2]; exact clean_reply_true, ⟨by omega, by omega, by omega, by omega, r2, R64_0, R64_0, R64_0, R64_0, r3, r6, r7, r5⟩⟩
        rw [hc2, pk_list, if_neg (by decide)]
        simp only [List.append_assoc, List.append_nil]
        rfl
      · rw [if_neg hc2] at h
        cases h
end Go.Proofs.Ytdfeidpkdbleaaa.Pure

/- WireFeeds' pure statement: crumb by crumb the stream tells what the reference tells. Conditions: the crumbs are of bulk at most 1048576. -/
import Derived.Test.YtdfeidpkdbleaaaPAx6
import Derived.Test.YtdfeidpkdbleaaaWireSame
import Derived.Test.YtdfeidpkdbleaaaWireFeedBoth
namespace Go.Proofs.Ytdfeidpkdbleaaa.Pure
open Go.RowKit Go.Proofs.Ytdfeidpkdbleaaa.PA Go.Proofs.YtdfeidpkdbleaaaW.PrintWords Go.Proofs.YtdfeidpkdbleaaaW.PrintLast Go.Proofs.YtdfeidpkdbleaaaW.PrintMore Go.Proofs.YtdfeidpkdbleaaaW.EvKit
open Go.Proofs.Ytdfeidpkdbleaaa.FeedBoth (feed_both)

/-- The letters of texts, all together, and one for each. -/
def letters (l : List ByteArray) : Nat := (l.map fun z => z.size + 1).sum

theorem letters_cons (b : ByteArray) (l : List ByteArray) : letters (b :: l) = b.size + 1 + letters l := by simp [letters]

theorem append_size (a b : ByteArray) : (a ++ b).size = a.size + b.size := ByteArray.size_append

theorem rdOf_get (l : List ByteArray) (i : Nat) (b : ByteArray) (rest : List ByteArray) (h : l.drop i = b :: rest) : rdOf ByteArray.empty l (i : Int) = b := by
  unfold rdOf
  rw [Int.toNat_natCast]
  exact (getD_drop l _ i b rest h).1

theorem crumbs_both (l : List ByteArray) (hn : l.length ≤ 1048576) : ∀ (rest : List ByteArray) (i : Nat) (held : ByteArray) (brk : Bool) (acc : List S27),
    l.drop i = rest → i + rest.length = l.length → (brk = true → held = ⟨#[]⟩) → held.size + letters rest ≤ 1048576 → acc.length = i →
    ∃ outs : List S27, outs.length = rest.length ∧ Ev (fun k => plain_Crumbs.l0 k acc l (l.length : Int) (i : Int) held brk) (acc ++ outs) ∧
      ∀ t : List S27, t.length = l.length → t.drop i = outs → Ev (fun k => hushlaw16_WireFeeds.l0 k t held brk l (l.length : Int) (i : Int)) true := by
  intro rest
  induction rest with
  | nil =>
    intro i held brk acc hd hi hb hs ha
    simp at hi
    refine ⟨[], rfl, ?_, ?_⟩
    · refine Ev.step (fun k => plain_Crumbs.l0.eq_2 _ _ _ _ _ _ k) (Ev.neg (by omega) ?_)
      rw [List.append_nil]
      exact Ev.ret _
    · intro t ht _
      exact Ev.step (fun k => hushlaw16_WireFeeds.l0.eq_2 _ _ _ _ _ _ k) (Ev.neg (by omega) (Ev.ret _))
  | cons b rest ih =>
    intro i held brk acc hd hi hb hs ha
    simp only [List.length_cons] at hi
    rw [letters_cons] at hs
    have hrd := rdOf_get l i b rest hd
    have hd1 := (getD_drop l ByteArray.empty i b rest hd).2.2
    have hw : wrap64 ((i : Int) + 1) = ((i + 1 : Nat) : Int) := by rw [wrap64_of (by omega) (by omega)]; omega
    cases brk with
    | true =>
      obtain ⟨outs, h1, h2, h3⟩ := ih (i + 1) held true (acc ++ [⟨[], 9⟩]) hd1 (by omega) hb (by omega) (by simp [ha])
      refine ⟨⟨[], 9⟩ :: outs, by simp [h1], ?_, ?_⟩
      · refine Ev.step (fun k => plain_Crumbs.l0.eq_2 _ _ _ _ _ _ k) (Ev.pos (by omega) (Ev.pos (by omega) (Ev.pos (by omega) ?_)))
        refine Ev.bind (a := ([], 9, held, true)) (Ev.pos rfl (Ev.ret _)) (Ev.pos (by omega) ?_)
        simp only [hw]
        simpa using h2
      · intro t ht htd
        obtain ⟨e1, e2, e3⟩ := getD_drop t z27 i _ _ htd
        have hrt : rd_T27 t (i : Int) = ⟨[], 9⟩ := by unfold rd_T27; rw [Int.toNat_natCast]; exact e1
        refine Ev.step (fun k => hushlaw16_WireFeeds.l0.eq_2 _ _ _ _ _ _ k) (Ev.pos (by omega) (Ev.pos (by omega) (Ev.pos (by omega) (Ev.pos rfl (Ev.pos (by omega) (Ev.pos (by rw [hrt]; rfl) (Ev.pos (by rw [hrt]) ?_)))))))
        simp only [hw]
        exact h3 t ht e3
    | false =>
      obtain ⟨fr, held', brk', hA, hB, hr, hle, hol⟩ := feed_both (held ++ b).size (held ++ b) [] (Nat.le_refl _) (by rw [append_size]; omega) (by rw [append_size]; simp; omega)
      rw [append_size] at hle hol
      obtain ⟨outs, h1, h2, h3⟩ := ih (i + 1) held' brk' (acc ++ [⟨fr, if brk' = true then 2 else 0⟩]) hd1 (by omega) hr (by omega) (by simp [ha])
      refine ⟨⟨fr, if brk' = true then 2 else 0⟩ :: outs, by simp [h1], ?_, ?_⟩
      · refine Ev.step (fun k => plain_Crumbs.l0.eq_2 _ _ _ _ _ _ k) (Ev.pos (by omega) (Ev.pos (by omega) (Ev.pos (by omega) ?_)))
        refine Ev.bind (a := (fr, (if brk' = true then 2 else 0), held', brk')) ?_ (Ev.pos (by omega) ?_)
        · simp only [hrd]
          exact Ev.neg (by simp) (Ev.pos (by omega) hA)
        · simp only [hw]
          simpa using h2
      · intro t ht htd
        obtain ⟨e1, e2, e3⟩ := getD_drop t z27 i _ _ htd
        have hrt : rd_T27 t (i : Int) = ⟨fr, if brk' = true then 2 else 0⟩ := by unfold rd_T27; rw [Int.toNat_natCast]; exact e1
        have hfl : fr.length ≤ 1099511627776 := by
          simp at hol; omega
        have hsame := WireSame.same_texts fr hfl
        refine Ev.step (fun k => hushlaw16_WireFeeds.l0.eq_2 _ _ _ _ _ _ k) (Ev.pos (by omega) (Ev.pos (by omega) (Ev.pos (by omega) (Ev.neg (by simp) (Ev.pos (by rw [hrd]; omega) ?_)))))
        simp only [hrd, hrt, hw]
        refine Ev.bind (a := (fr, held', brk')) hB ?_
        have h3' := h3 t ht e3
        cases brk' with
        | true => exact Ev.pos rfl (Ev.pos (by omega) (Ev.bind (a := true) hsame (Ev.pos rfl (Ev.pos rfl h3'))))
        | false => exact Ev.neg (by simp) (Ev.pos (by omega) (Ev.bind (a := true) hsame (Ev.pos rfl (Ev.pos rfl h3'))))

theorem WireFeeds : hushlaw16_WireFeeds.Pure := by
  intro l _ hb
  have hlen : l.length ≤ letters l := by
    unfold letters
    clear hb
    rename_i hx
    clear hx
    induction l with
    | nil => simp
    | cons a l ih => simp; omega
  have hb' : letters l + 1 ≤ 1048576 := hb
  obtain ⟨outs, h1, h2, h3⟩ := crumbs_both l (by omega) l 0 ⟨#[]⟩ false [] rfl (by simp) (by simp) (by show 0 + letters l ≤ 1048576; omega) rfl
  refine Ev.rounds ?_
  refine Ev.bind (a := outs) ?_ ?_
  · refine Ev.bind (g := fun _ => wire_NewStream.f) (a := ((⟨#[]⟩ : ByteArray), false)) (Ev.ret _) ?_
    simpa using h2
  · exact Ev.pos (by omega) (h3 outs h1 rfl)

end Go.Proofs.Ytdfeidpkdbleaaa.Pure

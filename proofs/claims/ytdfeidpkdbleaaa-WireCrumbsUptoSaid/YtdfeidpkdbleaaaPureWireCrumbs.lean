/- WireCrumbs' pure statement: however a stream is broken up, the frames that come out are those that were put in, in their order. Conditions: bulk at most 1048576. -/
import Derived.Test.YtdfeidpkdbleaaaPAx8
import Derived.Test.YtdfeidpkdbleaaaWireSame
import Derived.Test.YtdfeidpkdbleaaaWireFeedBoth
namespace Go.Proofs.Ytdfeidpkdbleaaa.Pure
open Go.RowKit Go.Proofs.Ytdfeidpkdbleaaa.PA Go.Proofs.YtdfeidpkdbleaaaW.PrintWords Go.Proofs.YtdfeidpkdbleaaaW.PrintLast Go.Proofs.YtdfeidpkdbleaaaW.PrintMore Go.Proofs.YtdfeidpkdbleaaaW.EvKit
open Go.Proofs.Ytdfeidpkdbleaaa.FeedBoth (num4 num4_or num4_nonneg)

/-- The four bytes ahead of a body. -/
def head4 (b : ByteArray) : ByteArray := strOfNums [((b.size : Int) / 16777216) % 256, ((b.size : Int) / 65536) % 256, ((b.size : Int) / 256) % 256, ((b.size : Int)) % 256]
def framed (b : ByteArray) : ByteArray := head4 b ++ b
/-- All frames, one behind the other. -/
def stream : List ByteArray → ByteArray
  | [] => ByteArray.empty
  | b :: l => framed b ++ stream l
def Body (b : ByteArray) : Prop := 1 ≤ b.size ∧ b.size ≤ 65536

theorem app_size (a b : ByteArray) : (a ++ b).size = a.size + b.size := ByteArray.size_append
theorem nums_size (xs : List Int) : (strOfNums xs).size = xs.length := by
  exact strOfNums_size xs
theorem bt_nums (xs : List Int) (i : Nat) (x : Int) (h : xs[i]? = some x) (h0 : 0 ≤ x) (h1 : x < 256) : bt (strOfNums xs) (i : Int) = x := by
  have hi : i < xs.length := (List.getElem?_eq_some_iff.1 h).1
  have hs : i < (strOfNums xs).size := by rw [nums_size]; exact hi
  unfold bt
  simp only [Int.toNat_natCast, hs, dif_pos]
  have e : (strOfNums xs)[i] = UInt8.ofNat x.toNat := by
    have h2 : (strOfNums xs).data.toList[i]? = some (UInt8.ofNat x.toNat) := by rw [strOfNums_data, List.getElem?_map, h]; rfl
    rw [Array.getElem?_toList] at h2
    exact (Array.getElem?_eq_some_iff.1 h2).2
  rw [e]
  simp
  omega
theorem head4_size (b : ByteArray) : (head4 b).size = 4 := nums_size _
theorem framed_size (b : ByteArray) : (framed b).size = 4 + b.size := by rw [framed, app_size, head4_size]

theorem bt_app (a b : ByteArray) (i : Nat) (h : i < a.size) : bt (a ++ b) (i : Int) = bt a (i : Int) := by
  unfold bt
  have h' : i < (a ++ b).size := by rw [app_size]; omega
  simp only [Int.toNat_natCast, h, h', dif_pos]
  rw [ByteArray.getElem_append_left h]
theorem bt_head (b : ByteArray) : bt (head4 b) 0 = ((b.size : Int) / 16777216) % 256 ∧ bt (head4 b) 1 = ((b.size : Int) / 65536) % 256 ∧ bt (head4 b) 2 = ((b.size : Int) / 256) % 256 ∧ bt (head4 b) 3 = (b.size : Int) % 256 := by
  refine ⟨bt_nums _ 0 _ rfl ?_ ?_, bt_nums _ 1 _ rfl ?_ ?_, bt_nums _ 2 _ rfl ?_ ?_, bt_nums _ 3 _ rfl ?_ ?_⟩ <;> omega
theorem num4_app (a b : ByteArray) (h : 4 ≤ a.size) : num4 (a ++ b) = num4 a := by
  unfold num4
  have h0 : bt (a ++ b) 0 = bt a 0 := bt_app a b 0 (by omega)
  have h1 : bt (a ++ b) 1 = bt a 1 := bt_app a b 1 (by omega)
  have h2 : bt (a ++ b) 2 = bt a 2 := bt_app a b 2 (by omega)
  have h3 : bt (a ++ b) 3 = bt a 3 := bt_app a b 3 (by omega)
  rw [h0, h1, h2, h3]

theorem num4_framed (b : ByteArray) (t : ByteArray) (h : Body b) : num4 (framed b ++ t) = b.size := by
  rw [num4_app _ _ (by rw [framed_size]; omega), framed, num4_app _ _ (by rw [head4_size]; exact Nat.le_refl _)]
  obtain ⟨h0, h1, h2, h3⟩ := bt_head b
  obtain ⟨k0, k1⟩ := h
  unfold num4
  rw [h0, h1, h2, h3]
  omega

theorem stream_size : ∀ l : List ByteArray, (stream l).size = (l.map fun b => 4 + b.size).sum
  | [] => rfl
  | b :: l => by rw [stream, app_size, framed_size, stream_size l]; simp

theorem extract_app (s r : ByteArray) (i j : Nat) (h : j ≤ s.size) : (s ++ r).extract i j = s.extract i j := by
  rw [ByteArray.extract_append]
  have e : r.extract (i - s.size) (j - s.size) = ByteArray.empty := by
    apply ByteArray.ext
    apply Array.eq_empty_of_size_eq_zero
    show (r.extract (i - s.size) (j - s.size)).size = 0
    rw [ByteArray.size_extract]; omega
  rw [e, ByteArray.append_empty]

/-- A feed, from a state on: what is held is the begin of frames to come. -/
theorem feed_stream : ∀ (ws : List ByteArray) (s r : ByteArray) (acc : List ByteArray), (∀ b ∈ ws, Body b) → s ++ r = stream ws → acc.length + ws.length ≤ 4194304 → s.size ≤ 1099511627776 →
    ∃ (j : Nat) (s' : ByteArray), Ev (fun k => wire_Stream_Feed.l0 k acc s false) (acc ++ ws.take j, 0, s', false) ∧ s' ++ r = stream (ws.drop j) ∧ s'.size ≤ s.size ∧ (∀ b l, ws.drop j = b :: l → s'.size < 4 + b.size) := by
  intro ws
  induction ws with
  | nil =>
    intro s r acc _ he _ _
    have hz : s.size = 0 := by have h1 := congrArg ByteArray.size he; have h0 : (stream []).size = 0 := rfl; rw [app_size, h0] at h1; omega
    refine ⟨0, s, Ev.step (fun k => wire_Stream_Feed.l0.eq_2 _ _ _ k) (Ev.neg (by omega) ?_), he, Nat.le_refl _, by simp⟩
    simpa using Ev.ret _
  | cons b ws ih =>
    intro s r acc hb he hn hsz
    have hbody := hb b (by simp)
    obtain ⟨hb0, hb1⟩ := hbody
    by_cases h4 : (s.size : Int) ≥ 4
    · have hnum : num4 s = b.size := by
        rw [← num4_app s r (by omega), he, stream]
        exact num4_framed b _ ⟨hb0, hb1⟩
      have hw : wrap64 (4 + num4 s) = 4 + num4 s := wrap64_of (by omega) (by omega)
      have hjA : ∀ {r}, Ev (fun k => wire_Stream_Feed.j1 k acc (num4 s) false s false) r → Ev (fun k => wire_Stream_Feed.l0 k acc s false) r := by
        intro r h
        refine Ev.step (fun k => wire_Stream_Feed.l0.eq_2 _ _ _ k) (Ev.pos h4 (Ev.pos (by omega) (Ev.pos (by omega) (Ev.pos (by omega) (Ev.pos (by omega) ?_)))))
        simp only [num4_or]
        refine Ev.neg (by omega) ?_
        have e : decide (num4 s > 65536) = false := by simp; omega
        rw [e]
        exact h
      by_cases hlt : (s.size : Int) < 4 + num4 s
      · refine ⟨0, s, hjA ?_, he, Nat.le_refl _, fun b' l hl => ?_⟩
        · refine Ev.step (fun k => wire_Stream_Feed.j1.eq_2 _ _ _ _ _ k) (Ev.neg (by simp) (Ev.pos (by rw [hw]; exact hlt) ?_))
          simpa using Ev.ret _
        · simp at hl
          rw [← hl.1]
          omega
      · have hge : 4 + b.size ≤ s.size := by omega
        have hto : (4 + num4 s).toNat = 4 + b.size := by omega
        have e1 : s.extract 4 (4 + b.size) = b := by
          rw [← extract_app s r 4 (4 + b.size) hge, he, stream, extract_app _ _ _ _ (by rw [framed_size]; exact Nat.le_refl _), framed]
          exact ByteArray.extract_append_eq_right (head4_size b).symm (by rw [head4_size])
        have e2 : s.extract (4 + b.size) s.size ++ r = stream ws := by
          have h1 : s = framed b ++ s.extract (4 + b.size) s.size := by
            have h2 : s.extract 0 (4 + b.size) = framed b := by
              rw [← extract_app s r 0 (4 + b.size) hge, he, stream, extract_app _ _ _ _ (by rw [framed_size]; exact Nat.le_refl _), ← framed_size b]
              exact ByteArray.extract_zero_size
            rw [← h2, ← ByteArray.extract_eq_extract_append_extract (4 + b.size) (by omega) hge]
            exact ByteArray.extract_zero_size.symm
          have h3 : framed b ++ (s.extract (4 + b.size) s.size ++ r) = framed b ++ stream ws := by
            rw [← ByteArray.append_assoc, ← h1, he, stream]
          exact ByteArray.append_right_inj (framed b) |>.1 h3
        have hsz' : (s.extract (4 + b.size) s.size).size = s.size - (4 + b.size) := by rw [ByteArray.size_extract]; omega
        simp only [List.length_cons] at hn
        obtain ⟨j, s', hA, hs, hle, hm⟩ := ih (s.extract (4 + b.size) s.size) r (acc ++ [b]) (fun c hc => hb c (by simp [hc])) e2 (by simp; omega) (by omega)
        refine ⟨j + 1, s', hjA ?_, by simpa using hs, by omega, by simpa using hm⟩
        refine Ev.step (fun k => wire_Stream_Feed.j1.eq_2 _ _ _ _ _ k) ?_
        simp only [hw]
        refine Ev.neg (by simp) (Ev.neg hlt (Ev.pos (by omega) (Ev.pos (by omega) (Ev.pos (by omega) (Ev.pos (by omega) ?_)))))
        rw [hto, e1]
        simpa using hA
    · refine ⟨0, s, Ev.step (fun k => wire_Stream_Feed.l0.eq_2 _ _ _ k) (Ev.neg h4 ?_), he, Nat.le_refl _, fun b' l hl => by omega⟩
      simpa using Ev.ret _

/-- Texts, one behind the other. -/
def joined : List ByteArray → ByteArray
  | [] => ByteArray.empty
  | b :: l => b ++ joined l
def frames (l : List S27) : List ByteArray := l.flatMap (·.f0)

theorem rdOf_at (l : List ByteArray) (i : Nat) (b : ByteArray) (rest : List ByteArray) (h : l.drop i = b :: rest) : rdOf ByteArray.empty l (i : Int) = b := by
  unfold rdOf
  rw [Int.toNat_natCast]
  exact (getD_drop l _ i b rest h).1

theorem crumbs_stream (cs : List ByteArray) (hn : cs.length ≤ 4194304) : ∀ (rest : List ByteArray) (i : Nat) (held : ByteArray) (ws : List ByteArray) (acc : List S27),
    cs.drop i = rest → i + rest.length = cs.length → (∀ b ∈ ws, Body b) → held ++ joined rest = stream ws → (stream ws).size ≤ 1099511627776 → ws.length ≤ 4194304 → acc.length = i → (rest = [] → ∀ b l, ws = b :: l → held.size < 4 + b.size) →
    ∃ outs : List S27, outs.length = rest.length ∧ Ev (fun k => plain_Crumbs.l0 k acc cs (cs.length : Int) (i : Int) held false) (acc ++ outs) ∧ (∀ f ∈ outs, f.f1 = 0) ∧ frames outs = ws := by
  intro rest
  induction rest with
  | nil =>
    intro i held ws acc hd hi hb he hsz hwl ha hc
    simp at hi
    refine ⟨[], rfl, Ev.step (fun k => plain_Crumbs.l0.eq_2 _ _ _ _ _ _ k) (Ev.neg (by omega) ?_), by simp, ?_⟩
    · rw [List.append_nil]
      exact Ev.ret _
    · cases ws with
      | nil => rfl
      | cons b l =>
        have h1 := hc rfl b l rfl
        have h2 := congrArg ByteArray.size he
        rw [app_size, stream, app_size, framed_size] at h2
        have h3 : (joined []).size = 0 := rfl
        omega
  | cons c rest ih =>
    intro i held ws acc hd hi hb he hsz hwl ha _
    simp only [List.length_cons] at hi
    have hrd := rdOf_at cs i c rest hd
    have hd1 := (getD_drop cs ByteArray.empty i c rest hd).2.2
    have hw : wrap64 ((i : Int) + 1) = ((i + 1 : Nat) : Int) := by rw [wrap64_of (by omega) (by omega)]; omega
    have he' : (held ++ c) ++ joined rest = stream ws := by rw [ByteArray.append_assoc]; exact he
    have hsum := congrArg ByteArray.size he'
    rw [app_size] at hsum
    obtain ⟨j, s', hA, hs, hle, hm⟩ := feed_stream ws (held ++ c) (joined rest) [] hb he' (by simpa using hwl) (by omega)
    have hstr : (stream (ws.drop j)).size ≤ 1099511627776 := by
      rw [← hs, app_size]; omega
    obtain ⟨outs, h1, h2, h3, h4⟩ := ih (i + 1) s' (ws.drop j) (acc ++ [⟨ws.take j, 0⟩]) hd1 (by omega) (fun b hb' => hb b (List.mem_of_mem_drop hb')) hs hstr (by simp; omega) (by simp [ha]) (fun _ => hm)
    refine ⟨⟨ws.take j, 0⟩ :: outs, by simp [h1], ?_, ?_, ?_⟩
    · refine Ev.step (fun k => plain_Crumbs.l0.eq_2 _ _ _ _ _ _ k) (Ev.pos (by omega) (Ev.pos (by omega) (Ev.pos (by omega) ?_)))
      rw [app_size] at hsum hle
      refine Ev.bind (a := (ws.take j, 0, s', false)) ?_ (Ev.pos (by omega) ?_)
      · simp only [hrd]
        exact Ev.neg (by simp) (Ev.pos (by omega) hA)
      · simp only [hw]
        simpa using h2
    · intro f hf
      rcases List.mem_cons.1 hf with rfl | hf
      · rfl
      · exact h3 f hf
    · show ws.take j ++ frames outs = ws
      rw [h4, List.take_append_drop]

/-- The law's last loop: all frames, one behind the other. -/
theorem crumbs_got (want : List ByteArray) (t : List S27) (hn : t.length ≤ 4194304) (hlen : (frames t).length ≤ 4194304) {r : Bool} : ∀ (rest : List S27) (i : Nat) (got : List ByteArray),
    t.drop i = rest → i + rest.length = t.length → (∀ f ∈ rest, f.f1 = 0) → got ++ frames rest = frames t → Ev (fun k => hushlaw16_sameTexts.f k (frames t) want) r →
    Ev (fun k => hushlaw16_WireCrumbs.l2 k want got t (t.length : Int) (i : Int)) r := by
  intro rest
  induction rest with
  | nil =>
    intro i got hd hi _ he hr
    simp at hi
    simp [frames] at he
    refine Ev.step (fun k => hushlaw16_WireCrumbs.l2.eq_2 _ _ _ _ _ k) (Ev.neg (by omega) ?_)
    rw [he]
    exact Ev.bind (a := r) hr (Ev.ret _)
  | cons f rest ih =>
    intro i got hd hi h0 he hr
    simp only [List.length_cons] at hi
    obtain ⟨e1, e2, e3⟩ := getD_drop t z27 i _ _ hd
    have hrt : rd_T27 t (i : Int) = f := by unfold rd_T27; rw [Int.toNat_natCast]; exact e1
    have hw : wrap64 ((i : Int) + 1) = ((i + 1 : Nat) : Int) := by rw [wrap64_of (by omega) (by omega)]; omega
    have he2 : (got ++ f.f0) ++ frames rest = frames t := by
      rw [← he]; simp [frames]
    have hl := congrArg List.length he2
    simp at hl
    refine Ev.step (fun k => hushlaw16_WireCrumbs.l2.eq_2 _ _ _ _ _ k) (Ev.pos (by omega) (Ev.pos (by omega) (Ev.pos (by omega) ?_)))
    simp only [hrt, hw]
    exact Ev.pos (h0 f (by simp)) (Ev.pos (by omega) (ih (i + 1) (got ++ f.f0) e3 (by omega) (fun g hg => h0 g (by simp [hg])) he2 hr))

theorem crumbs_end (want crumbs : List ByteArray) (left : ByteArray) (hb : ∀ b ∈ want, Body b) (hw : want.length ≤ 4194304) (hc : crumbs.length < 4194304) (hs : (stream want).size ≤ 1099511627776) (he : joined (crumbs ++ [left]) = stream want) :
    Ev (fun k => (plain_Crumbs.f k (crumbs ++ [left])).bind fun t => hushlaw16_WireCrumbs.l2 k want [] t (t.length : Int) 0) true := by
  obtain ⟨outs, h1, h2, h3, h4⟩ := crumbs_stream (crumbs ++ [left]) (by simp; omega) (crumbs ++ [left]) 0 ByteArray.empty want [] rfl (by simp) hb (by rw [ByteArray.empty_append]; exact he) hs hw rfl (by simp)
  refine Ev.bind (a := outs) ?_ ?_
  · refine Ev.bind (g := fun _ => wire_NewStream.f) (a := ((⟨#[]⟩ : ByteArray), false)) (Ev.ret _) ?_
    rw [List.nil_append] at h2
    exact h2
  · refine crumbs_got want outs (by rw [h1]; simp; omega) (by rw [h4]; exact hw) outs 0 [] rfl (by simp) h3 (by simp) ?_
    rw [h4]
    exact WireSame.same_texts want (by omega)

theorem joined_app (a b : List ByteArray) : joined (a ++ b) = joined a ++ joined b := by
  induction a with
  | nil => simp [joined, ByteArray.empty_append]
  | cons x a ih => simp only [List.cons_append, joined, ih, ByteArray.append_assoc]

theorem crumbs_cuts (want : List ByteArray) (hb : ∀ b ∈ want, Body b) (hw : want.length ≤ 4194304) (hs : (stream want).size ≤ 1099511627776) (cuts : List Int) (hn : cuts.length ≤ 1048576) : ∀ (d i : Nat) (left : ByteArray) (crumbs : List ByteArray),
    i + d = cuts.length → crumbs.length ≤ i → joined crumbs ++ left = stream want →
    Ev (fun k => hushlaw16_WireCrumbs.l1 k left want crumbs cuts (cuts.length : Int) (i : Int)) true := by
  intro d
  induction d with
  | zero =>
    intro i left crumbs hi hc he
    refine Ev.step (fun k => hushlaw16_WireCrumbs.l1.eq_2 _ _ _ _ _ _ k) (Ev.neg (by omega) (Ev.pos (by omega) ?_))
    exact crumbs_end want crumbs left hb hw (by omega) hs (by rw [joined_app]; simpa [joined, ByteArray.append_empty] using he)
  | succ d ih =>
    intro i left crumbs hi hc he
    have hw1 : wrap64 ((i : Int) + 1) = ((i + 1 : Nat) : Int) := by rw [wrap64_of (by omega) (by omega)]; omega
    refine Ev.step (fun k => hushlaw16_WireCrumbs.l1.eq_2 _ _ _ _ _ _ k) (Ev.pos (by omega) (Ev.pos (by omega) (Ev.pos (by omega) ?_)))
    simp only [hw1]
    by_cases h0 : rd cuts (i : Int) < 0
    · exact Ev.pos h0 (ih (i + 1) left crumbs (by omega) (by omega) he)
    · refine Ev.neg h0 ?_
      by_cases h1 : rd cuts (i : Int) > (left.size : Int)
      · exact Ev.pos h1 (ih (i + 1) left crumbs (by omega) (by omega) he)
      · refine Ev.neg h1 (Ev.pos (by omega) (Ev.pos (by omega) (Ev.pos (by omega) (ih (i + 1) _ _ (by omega) (by simp; omega) ?_))))
        rw [joined_app]
        simp only [joined, ByteArray.append_empty]
        rw [ByteArray.append_assoc, ← ByteArray.extract_eq_extract_append_extract _ (by omega) (by omega), ByteArray.extract_zero_size]
        exact he

/-- What is put in: those that are framed. -/
def bodies (l : List ByteArray) : List ByteArray := l.filter fun b => 1 ≤ b.size ∧ b.size ≤ 65536

theorem stream_app (a : List ByteArray) (b : ByteArray) : stream (a ++ [b]) = stream a ++ framed b := by
  induction a with
  | nil => simp [stream, ByteArray.empty_append, ByteArray.append_empty]
  | cons x a ih => simp only [List.cons_append, stream, ih, ByteArray.append_assoc]

theorem frame_f (b : ByteArray) (h : Body b) : wire_Frame.f b = some (framed b, 0) := by
  obtain ⟨h0, h1⟩ := h
  unfold wire_Frame.f
  rw [if_neg (by omega), if_neg (by omega)]
  simp only [Option.bind_some]
  have e : (strOfNums [((b.size : Int) / 16777216) % 256, ((b.size : Int) / 65536) % 256, ((b.size : Int) / 256) % 256, ((b.size : Int)) % 256]).size = 4 := head4_size b
  rw [if_pos (by omega)]
  rfl
theorem frame_none (b : ByteArray) (h : ¬ Body b) : wire_Frame.f b = some (⟨#[]⟩, 3) := by
  unfold wire_Frame.f Body at *
  by_cases h0 : (b.size : Int) = 0
  · rw [if_pos h0]
  · rw [if_neg h0, if_pos (by omega)]

theorem crumbs_bodies (l : List ByteArray) (hlen : l.length ≤ 1048576) (cuts : List Int) (hn : cuts.length ≤ 1048576) : ∀ (rest : List ByteArray) (i : Nat) (want : List ByteArray),
    l.drop i = rest → i + rest.length = l.length → want.length ≤ i → (∀ b ∈ want, Body b) → (stream want).size + (rest.map fun z => z.size + 5).sum ≤ 10485760 →
    Ev (fun k => hushlaw16_WireCrumbs.l0 k cuts (stream want) want l (l.length : Int) (i : Int)) true := by
  intro rest
  induction rest with
  | nil =>
    intro i want hd hi hwl hb hs
    simp at hi
    refine Ev.step (fun k => hushlaw16_WireCrumbs.l0.eq_2 _ _ _ _ _ _ k) (Ev.neg (by omega) ?_)
    exact crumbs_cuts want hb (by omega) (by omega) cuts hn cuts.length 0 (stream want) [] (by omega) (by simp) (by simp [joined, ByteArray.empty_append])
  | cons b rest ih =>
    intro i want hd hi hwl hb hs
    simp only [List.length_cons] at hi
    simp only [List.map_cons, List.sum_cons] at hs
    have hrd := rdOf_at l i b rest hd
    have hd1 := (getD_drop l ByteArray.empty i b rest hd).2.2
    have hw1 : wrap64 ((i : Int) + 1) = ((i + 1 : Nat) : Int) := by rw [wrap64_of (by omega) (by omega)]; omega
    refine Ev.step (fun k => hushlaw16_WireCrumbs.l0.eq_2 _ _ _ _ _ _ k) (Ev.pos (by omega) (Ev.pos (by omega) (Ev.pos (by omega) ?_)))
    simp only [hrd, hw1]
    by_cases hB : Body b
    · refine Ev.bind (a := (framed b, 0)) (Ev.const (frame_f b hB)) (Ev.pos rfl ?_)
      have hfs := framed_size b
      refine Ev.pos (by show (stream want).size + (framed b).size ≤ _; omega) (Ev.pos (by omega) ?_)
      have h := ih (i + 1) (want ++ [b]) hd1 (by omega) (by simp; omega) (fun c hc => by
        rcases List.mem_append.1 hc with hc | hc
        · exact hb c hc
        · rw [List.mem_singleton.1 hc]; exact hB) (by rw [stream_app, app_size]; omega)
      rw [stream_app] at h
      exact h
    · refine Ev.bind (a := (⟨#[]⟩, 3)) (Ev.const (frame_none b hB)) (Ev.neg (by simp) ?_)
      exact ih (i + 1) want hd1 (by omega) (by omega) hb (by omega)

theorem crumbs_alive : hushlaw16_alive.f = some true := by decide +kernel

theorem sum_ge (l : List ByteArray) : l.length ≤ (l.map fun z => z.size + 1).sum ∧ (l.map fun z => z.size + 5).sum ≤ 5 * (l.map fun z => z.size + 1).sum := by
  induction l with
  | nil => simp
  | cons a l ih => simp; omega
theorem sum_ones (l : List Int) : (l.map fun _ => 1).sum = l.length := by
  induction l with
  | nil => simp
  | cons a l ih => simp; omega

theorem WireCrumbs : hushlaw16_WireCrumbs.Pure := by
  intro l cuts _ _ hb
  have h1 := sum_ge l
  have h2 := sum_ones cuts
  refine Ev.rounds ?_
  refine Ev.bind (a := true) (Ev.const crumbs_alive) (Ev.pos rfl ?_)
  exact crumbs_bodies l (by omega) cuts (by omega) l 0 [] rfl (by simp) (by simp) (by simp) (by have h0 : (stream []).size = 0 := rfl; omega)
end Go.Proofs.Ytdfeidpkdbleaaa.Pure

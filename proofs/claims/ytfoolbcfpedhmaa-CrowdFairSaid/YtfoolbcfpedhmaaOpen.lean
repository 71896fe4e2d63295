/- The pure texts of this claim, its functions behind all rounds among them, and small steps. Conditions stand in each theorem. -/
import Derived.Test.YtfoolbcfpedhmaaWWords
import Derived.Test.YtfoolbcfpedhmaaRows
import Derived.SizedLaws
import Derived.ChangeSlices
import Derived.OpenShut
import Derived.Lib.SmallJoins
import Derived.KernelRfl
namespace Go.Proofs.YtfoolbcfpedhmaaW.Opened
open Go.Proofs.Ytfoolbcfpedhmaa (Rows.uptoBulk Rows.uptoBulkAll)
open Go.ChangeShapes Go.WideShapes Go.Proofs.YtfoolbcfpedhmaaW.PrintWords
set_option linter.unusedVariables false
structure Opens (P : Program) (t : TypeId) {α : Type} (d : Kd α) (good : α → Prop) (bk : α → Nat) : Prop where
  sz : P.cellsOf t = d.sz
  op : ∀ {H : Type} {enc : TypeId × Value → H} {w : World} {base : Nat} {held : Bool} {fuel : Nat} {cs : List Value} {x : DataW H × List MemPlace},
    DataW.trod enc P w base (fun _ => true) held fuel t cs = some x → (∀ n ∈ x.1.weights P t, n ≤ reachBytes) → ∃ a, d.K w a cs ∧ good a ∧ bk a ≤ Rows.uptoBulk x.1
theorem Opens.int {P : Program} {t : TypeId} {k : IntKind} (ht : P.underlying t = some (.int k)) (hc : P.cellsOf t = 1) : Opens P t (Kd.int k) (fun a => (Lit.int k a).wf = true) (fun _ => 1) :=
  ⟨hc, fun h _ => by
    obtain ⟨n, rfl, rfl, hw⟩ := DataW.trod_int ht h
    exact ⟨n, rfl, hw, by simp [Rows.uptoBulk]⟩⟩
theorem Opens.bool {P : Program} {t : TypeId} (ht : P.underlying t = some .bool) (hc : P.cellsOf t = 1) : Opens P t Kd.bool (fun _ => True) (fun _ => 1) :=
  ⟨hc, fun h _ => by
    obtain ⟨n, rfl, rfl⟩ := DataW.trod_bool ht h
    exact ⟨n, rfl, trivial, by simp [Rows.uptoBulk]⟩⟩
theorem Opens.string {P : Program} {t : TypeId} (ht : P.underlying t = some .string) (hc : P.cellsOf t = 1) : Opens P t Kd.string (fun a => a.size ≤ 140737488351232) (fun a => a.size + 1) :=
  ⟨hc, fun h hn => by
    obtain ⟨s, rfl, rfl, hw⟩ := DataW.trod_string ht h
    refine ⟨s, rfl, ?_, by simp only [Rows.uptoBulk, data_length]; exact Nat.le_refl _⟩
    have := hn s.data.toList.length (by simp [DataW.weights])
    rw [data_length] at this
    exact this⟩
theorem Opens.imp {P : Program} {t : TypeId} {α : Type} {d : Kd α} {good good' : α → Prop} {bk : α → Nat} (h : Opens P t d good bk) (hg : ∀ a, good a → good' a) : Opens P t d good' bk :=
  ⟨h.sz, fun hr hn => by
    obtain ⟨a, h1, h2, h3⟩ := h.op hr hn
    exact ⟨a, h1, hg a h2, h3⟩⟩
theorem add_add (a : Addr) (m j : Nat) : (a.add m).add j = a.add (m + j) := by
  unfold Addr.add
  by_cases hm : m = 0
  · subst hm; simp
  · by_cases hj : j = 0
    · subst hj; simp
    · simp [hm, hj, Nat.add_assoc]
theorem choose_list {α : Type} {p : Nat → α → Prop} : ∀ n, (∀ i, i < n → ∃ a, p i a) → ∃ l : List α, l.length = n ∧ ∀ i a, l[i]? = some a → p i a
  | 0, _ => ⟨[], rfl, by simp⟩
  | n + 1, h => by
    obtain ⟨l, hl, hp⟩ := choose_list n (fun i hi => h i (by omega))
    obtain ⟨a, ha⟩ := h n (by omega)
    refine ⟨l ++ [a], by simp [hl], fun i b hb => ?_⟩
    rcases Nat.lt_or_ge i n with hi | hi
    · rw [List.getElem?_append_left (by omega)] at hb
      exact hp i b hb
    · rw [List.getElem?_append_right (by omega), hl] at hb
      have : i - n = 0 := by
        have := (List.getElem?_eq_some_iff.1 hb).1
        simp at this
        omega
      rw [this] at hb
      simp at hb
      subst hb
      rwa [show i = n by omega]
theorem weights_all {H : Type} {P : Program} {e : TypeId} : ∀ {l : List (DataW H)} {d : DataW H}, d ∈ l → ∀ n ∈ d.weights P e, n ∈ DataW.weightsAll P e l
  | x :: r, d, hd, n, hn => by
    rw [DataW.weightsAll, List.mem_append]
    rcases List.mem_cons.1 hd with rfl | hd
    · exact .inl hn
    · exact .inr (weights_all hd n hn)
theorem sum_le {H α : Type} {bk : α → Nat} : ∀ (ys : List α) (l : List (DataW H)), ys.length = l.length → (∀ (i : Nat) (y : α) (z : DataW H), ys[i]? = some y → l[i]? = some z → bk y ≤ Rows.uptoBulk z) → (ys.map bk).sum ≤ Rows.uptoBulkAll l
  | [], [], _, _ => by simp [Rows.uptoBulkAll]
  | y :: ys, z :: l, hl, h => by
    have h0 := h 0 y z rfl rfl
    have h1 := sum_le ys l (by simpa using hl) (fun i y z hy hz => h (i + 1) y z hy hz)
    simp only [List.map_cons, List.sum_cons, Rows.uptoBulkAll]
    omega
  | [], _ :: _, hl, _ => by simp at hl
  | _ :: _, [], hl, _ => by simp at hl
theorem Opens.slice {P : Program} {t e : TypeId} {α : Type} {d : Kd α} {good : α → Prop} {bk : α → Nat} {B : Nat} (ho : Opens P e d good bk) (ht : P.underlying t = some (.slice e)) (hc : P.cellsOf t = 1) (hB : P.bytesOf e = B) (hs : 0 < d.sz) :
    Opens P t (Kd.slice e d) (fun xs => xs.length ≤ maxLen ∧ xs.length * B ≤ 140737488351232 ∧ ∀ x ∈ xs, good x) (fun xs => (xs.map bk).sum + 1) :=
  ⟨hc, fun {H enc w base held fuel cs x} h hn => by
    rcases DataW.trod_slice ht h with ⟨rfl, rfl⟩ | ⟨a, len, cap, elems, rest, n, _, rfl, rfl, hb, hl, hm, hlen, hel, hsp, _⟩
    · exact ⟨[], ⟨none, 0, rfl, Nat.le_refl _, rfl, by simp, fun h => absurd h (by simp)⟩, ⟨by simp, by simp, by simp⟩, by simp [Rows.uptoBulk]⟩
    · have each : ∀ i, i < len → ∃ y : α × List Value, d.K w y.1 y.2 ∧ (good y.1 ∧ ∀ z, elems[i]? = some z → bk y.1 ≤ Rows.uptoBulk z.1) ∧ ∀ j u, y.2[j]? = some u → w.cell? (a.add (i * d.sz + j)) = some u := by
        intro i hi
        have h1 := hel i hi
        rw [List.getElem?_eq_getElem (by omega), Option.bind_eq_some_iff] at h1
        obtain ⟨cs, h2, h3⟩ := h1
        obtain ⟨y, h4, h5, h55⟩ := ho.op h3 (fun n hn' => hn n (by
          simp only [DataW.weights, ht, List.mem_cons, List.mem_append]
          exact .inr (.inl (weights_all (List.mem_map.2 ⟨_, List.getElem_mem _, rfl⟩) n hn'))))
        refine ⟨(y, cs), h4, ⟨h5, fun z hz => by rw [List.getElem?_eq_getElem (by omega)] at hz; injection hz with hz; rw [← hz]; exact h55⟩, fun j u hj => ?_⟩
        have h6 := World.cells?_some h2
        have hj' : j < cs.length := (List.getElem?_eq_some_iff.1 hj).1
        have h7 := h6.2.2 j (by rw [← h6.2.1]; exact hj')
        rw [ho.sz, add_add, hj] at h7
        exact h7
      obtain ⟨ys, hy1, hy2⟩ := choose_list len each
      have hm' : cap ≤ 9223372036854775807 := hm
      refine ⟨ys.map (·.1), ⟨some a, cap, by simp [hy1], by simp [hy1, hl], by simp, by simp [hy1]; omega, fun _ => ⟨a, rfl, fun j p hj => ?_⟩⟩, ⟨by simp [hy1]; omega, ?_, ?_⟩, ?_⟩
      · rw [List.getElem?_map] at hj
        obtain ⟨y, hy, rfl⟩ := Option.map_eq_some_iff.1 hj
        obtain ⟨h1, _, h3⟩ := hy2 j y hy
        exact ⟨y.2, d.K_len h1, h1, h3⟩
      · have := hn ((elems.length + rest.length) * B) (by simp [DataW.weights, ht, hB])
        rw [List.length_map, hy1, ← hlen]
        exact Nat.le_trans (Nat.mul_le_mul_right _ (by omega)) this
      · intro x hx
        obtain ⟨y, hy, rfl⟩ := List.mem_map.1 hx
        obtain ⟨i, hi⟩ := List.getElem?_of_mem hy
        exact (hy2 i y hi).2.1.1
      · have := sum_le (bk := bk) (ys.map (·.1)) (elems.map (·.1)) (by simp [hy1, hlen]) (fun i y z hy hz => by
          rw [List.getElem?_map] at hy hz
          obtain ⟨y', hy', rfl⟩ := Option.map_eq_some_iff.1 hy
          obtain ⟨z', hz', rfl⟩ := Option.map_eq_some_iff.1 hz
          exact (hy2 i y' hy').2.1.2 z' hz')
        simp only [Rows.uptoBulk]
        omega⟩
structure OpensFs (P : Program) (fs : List Field) (off : Nat) {α : Type} (d : Kd α) (good : α → Prop) (bk : α → Nat) : Prop where
  op : ∀ {H : Type} {enc : TypeId × Value → H} {w : World} {base : Nat} {held : Bool} {n : Nat} {cs : List Value} {xs : List (DataW H × List MemPlace)},
    xs.length = fs.length → (∀ (i : Nat) (f : Field), fs[i]? = some f → DataW.trod enc P w base (fun _ => true) held n f.type ((cs.drop f.offset).take (P.cellsOf f.type)) = xs[i]?) → cs.length = off + d.sz →
    (∀ n ∈ DataW.weightsEach P (fs.map (·.type)) (xs.map (·.1)), n ≤ reachBytes) → ∃ a, d.K w a (cs.drop off) ∧ good a ∧ bk a ≤ Rows.uptoBulkAll (xs.map (·.1))
theorem OpensFs.one {P : Program} {f : Field} {off : Nat} {α : Type} {d : Kd α} {good : α → Prop} {bk : α → Nat} (h : Opens P f.type d good bk) (hf : f.offset = off) : OpensFs P [f] off d good bk :=
  ⟨fun {H enc w base held n cs xs} hl hr hc hw => by
    match xs, hl with
    | [x], _ =>
      have h0 := hr 0 f rfl
      rw [hf, h.sz, List.take_of_length_le (by rw [List.length_drop]; omega)] at h0
      obtain ⟨a, h1, h2, h3⟩ := h.op h0 (fun m hm => hw m (by simpa [DataW.weightsEach] using hm))
      exact ⟨a, h1, h2, by simpa [Rows.uptoBulkAll] using h3⟩⟩
theorem OpensFs.cons {P : Program} {f : Field} {fs : List Field} {off : Nat} {α β : Type} {d : Kd α} {d' : Kd β} {good : α → Prop} {good' : β → Prop} {bk : α → Nat} {bk' : β → Nat} (h : Opens P f.type d good bk) (hf : f.offset = off) (hs : OpensFs P fs (off + d.sz) d' good' bk') :
    OpensFs P (f :: fs) off (Kd.pair d d') (fun x => good x.1 ∧ good' x.2) (fun x => bk x.1 + bk' x.2) :=
  ⟨fun {H enc w base held n cs xs} hl hr hc hw => by
    match xs, hl with
    | x :: xs, hl =>
      have h0 := hr 0 f rfl
      have hsz : (Kd.pair d d').sz = d.sz + d'.sz := rfl
      rw [hf, h.sz] at h0
      obtain ⟨a, ha, ga, ba⟩ := h.op h0 (fun m hm => hw m (by simp only [DataW.weightsEach, List.map_cons, List.mem_append]; exact .inl hm))
      obtain ⟨b, hb, gb, bb⟩ := hs.op (by simpa using hl) (fun i g hg => hr (i + 1) g hg) (by omega) (fun m hm => hw m (by simp only [DataW.weightsEach, List.map_cons, List.mem_append]; exact .inr hm))
      refine ⟨(a, b), ⟨_, _, ?_, ha, hb⟩, ⟨ga, gb⟩, by simp only [List.map_cons, Rows.uptoBulkAll]; omega⟩
      rw [← List.drop_drop, List.take_append_drop]⟩
theorem Opens.struct {P : Program} {t : TypeId} {fs : Array Field} {α : Type} {d : Kd α} {good : α → Prop} {bk : α → Nat} (h : OpensFs P fs.toList 0 d good bk) (ht : P.underlying t = some (.struct fs)) (hc : P.cellsOf t = d.sz) : Opens P t d good (fun a => bk a + 1) :=
  ⟨hc, fun {H enc w base held fuel cs x} hr hn => by
    obtain ⟨xs, n, _, rfl, hl, hlen, hf⟩ := DataW.trod_struct ht hr
    obtain ⟨a, ha, ga, ba⟩ := h.op (xs := xs) (by simpa using hlen) (fun i f hi => hf i f (by simpa using hi)) (by rw [hl, hc]; omega) (fun m hm => hn m (by simpa [DataW.weights, ht] using hm))
    exact ⟨a, by simpa using ha, ga, by simp only [Rows.uptoBulk]; omega⟩⟩
theorem Opens.iso {P : Program} {t : TypeId} {α β : Type} {d : Kd α} {good : α → Prop} {bk : α → Nat} (h : Opens P t d good bk) (f : β → α) (g : α → β) (hg : ∀ a, f (g a) = a) : Opens P t (Kd.iso d f) (fun b => good (f b)) (fun b => bk (f b)) :=
  ⟨h.sz, fun hr hn => by
    obtain ⟨a, ha, ga, ba⟩ := h.op hr hn
    exact ⟨g a, by show d.K _ (f (g a)) _; rw [hg]; exact ha, by rw [hg]; exact ga, by rw [hg]; exact ba⟩⟩
theorem Opens.arg {P : Program} {t : TypeId} {α : Type} {d : Kd α} {good : α → Prop} {bk : α → Nat} (ho : Opens P t d good bk) {H : Type} {enc : TypeId × Value → H} {W : World} {base : Nat} {held : Bool} {v : Value} {dd : DataW H} {ps : List MemPlace} {ts : List TypeId} {ds : List (DataW H)} {j : Nat}
    (hsz : (DataW.weightsEach P ts ds).all (· ≤ reachBytes) = true) (ht : ts[j]? = some t) (hd : ds[j]? = some dd) (h : DataW.Trod enc P W base (fun _ => true) held t v dd ps) : ∃ a, d.K W a v.cells.toList ∧ good a ∧ bk a ≤ Rows.uptoBulk dd := by
  obtain ⟨fuel, hf⟩ := h
  exact ho.op hf (fun n hn => by simpa using List.all_eq_true.1 hsz _ (DataW.weights_mem_each ht hd n hn))
end Go.Proofs.YtfoolbcfpedhmaaW.Opened

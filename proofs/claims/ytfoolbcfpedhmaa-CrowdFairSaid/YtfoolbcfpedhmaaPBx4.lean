/- Functions of the translated program as Lean functions, and what their calls come to: written by this session's own program (wip/xprint.py) over the kit's print. Conditions stand in each theorem. -/
import Derived.Test.YtfoolbcfpedhmaaPBx0
import Derived.Test.YtfoolbcfpedhmaaPBx2
import Derived.Test.YtfoolbcfpedhmaaPBx3
namespace Go.Proofs.Ytfoolbcfpedhmaa.PB
open Go.RowKit Go.Proofs.YtfoolbcfpedhmaaW.PrintWords Go.Proofs.YtfoolbcfpedhmaaW.PrintLast Go.Proofs.YtfoolbcfpedhmaaW.PrintMore
attribute [local go_sem] max2_int min2_int max_two min_two max_three min_three max_four min_four   -- for this text's walks alone
set_option linter.unusedVariables false
set_option linter.unusedSimpArgs false

/-! ### dist_tidy: function 40 -/
section TidyText
open Go.Shelf Go.Sort Go.Proofs Go.Proofs.YtfoolbcfpedhmaaW.EvKit
section
/-- The closure of tidy: what it lays are two boxes. -/
theorem st_closure (k : Nat) (A0 : Option Addr) (c0 : Nat) (l0 : List Int) (a0 : Int) (A1 : Option Addr) (c1 : Nat) (l1 : List Int) (a1 : Int) (r : Int) (w : World) (hr0 : Kd.C (Kd.int .i64) w A0 l0.length l0) (hc0 : l0.length ≤ c0) (hr1 : Kd.C (Kd.int .i64) w A1 l1.length l1) (hc1 : l1.length ≤ c1) (h : slices_Compare_int_int.f k l0 l1 = some r) :
    Calls Try.prog 55 #[.agg #[.slice A0 l0.length c0, .int .i64 a0], .agg #[.slice A1 l1.length c1, .int .i64 a1]] w fun e w' => e = .returned (.int .i64 r) ∧ ∃ q os', w' = grow (w.drewN q) os' := by
  have hut32 := Try.underlying38
  have H := Aside0.mk h
  have H0 := Aside0.mk (Kd.C_below hr0 (below_alloc (Below.refl w.heap.size w) (.cells #[.slice A0 l0.length c0, .int .i64 a0] 38)))
  have H1 := Aside0.mk (Kd.C_below hr1 (below_alloc (Below.refl w.heap.size w) (.cells #[.slice A0 l0.length c0, .int .i64 a0] 38)))
  clear hr0 hr1 h
  go_enter Try.func55, Try.ntmps55
  go_wp2_with (go_at_call 37; refine (slices_Compare_int_int.calls k A0 c0 l0 A1 c1 l1 r _ (Kd.C_alloc H0.out _) hc0 (Kd.C_alloc H1.out _) hc1 H.out).mono ?_; rintro e w' ⟨rfl, nd, rfl⟩)
  go_ret
  exact ⟨rfl, nd, _, by rw [alloc_eq_grow, alloc_eq_grow, grow_grow]; rfl⟩

section
variable {α : Type} [Inhabited α]
theorem st_cell {enc : α → List Value} {fs : α → Value} {fn : α → Int} (he : ∀ x, enc x = [fs x, .int .i64 (fn x)]) {blk off : Nat} {d : Array α} {W : World} (h : HoldsK enc 2 W blk off d) (i : Nat) (hi : i < d.size) :
    (W.cell? ⟨blk, off + i * 2, none⟩ = some (fs d[i]!) ∧ W.frozen? ⟨blk, off + i * 2, none⟩ = false) ∧ (W.cell? ⟨blk, off + i * 2 + 1, none⟩ = some (.int .i64 (fn d[i]!)) ∧ W.frozen? ⟨blk, off + i * 2 + 1, none⟩ = false) := by
  have h0 := h.cell hi (c := 0) (by omega)
  have h1 := h.cell hi (c := 1) (by omega)
  rw [he] at h0 h1
  exact ⟨h0, h1⟩
theorem st_stay {W : World} {p q : Addr} {v : Value} (u : Value) (h : ∃ v, W.cell? q = some v) : ∃ v', (W.setCell p u).cell? q = some v' := by
  obtain ⟨v, h⟩ := h
  by_cases e : p = q
  · subst e
    exact ⟨u, World.cell?_setCell_same' _ _ _ (by rw [h]; rfl)⟩
  · exact ⟨v, by rw [World.cell?_setCell_other (h := e)]; exact h⟩
/-- What the family is told, once. -/
structure StK (enc : α → List Value) (fA : α → Option Addr) (fl fc : α → Nat) (fn : α → Int) (cf : α → α → Int) (blk off : Nat) (d0 : Array α) (w0 : World) : Prop where
  R : RowK enc 2 w0 blk off d0
  he : ∀ x, enc x = [.slice (fA x) (fl x) (fc x), .int .i64 (fn x)]
  hc : CmpLays Try.prog 55 #[] enc 2 cf blk off d0.size w0
  sz : d0.size < 4611686018427387904
  O : SWO (ltOf cf)
variable {enc : α → List Value} {fA : α → Option Addr} {fl fc : α → Nat} {fn : α → Int} {cf : α → α → Int} {blk off : Nat} {d0 dk : Array α} {w0 W : World}
/-- THE EXCHANGE: what its region asks, and the world behind it. -/
theorem StK.swap (T : StK enc fA fl fc fn cf blk off d0 w0) (S : SWK enc 2 w0 blk off dk W) (hs : dk.size = d0.size) (i j : Nat) (hi : i < dk.size) (hj : j < dk.size) : ∃ x y,
    (W.cell? ⟨blk, off + i * 2, none⟩ = some (.slice (fA x) (fl x) (fc x)) ∧ W.frozen? ⟨blk, off + i * 2, none⟩ = false) ∧ (W.cell? ⟨blk, off + i * 2 + 1, none⟩ = some (.int .i64 (fn x)) ∧ W.frozen? ⟨blk, off + i * 2 + 1, none⟩ = false) ∧
    (W.cell? ⟨blk, off + j * 2, none⟩ = some (.slice (fA y) (fl y) (fc y)) ∧ W.frozen? ⟨blk, off + j * 2, none⟩ = false) ∧ (W.cell? ⟨blk, off + j * 2 + 1, none⟩ = some (.int .i64 (fn y)) ∧ W.frozen? ⟨blk, off + j * 2 + 1, none⟩ = false) ∧
    (∃ v, (W.setCell ⟨blk, off + i * 2, none⟩ (.slice (fA y) (fl y) (fc y))).cell? ⟨blk, off + i * 2 + 1, none⟩ = some v) ∧
    (∃ v, ((W.setCell ⟨blk, off + i * 2, none⟩ (.slice (fA y) (fl y) (fc y))).setCell ⟨blk, off + i * 2 + 1, none⟩ (.int .i64 (fn y))).cell? ⟨blk, off + j * 2, none⟩ = some v) ∧
    (∃ v, ((W.setCell ⟨blk, off + i * 2, none⟩ (.slice (fA y) (fl y) (fc y))).setCell ⟨blk, off + i * 2 + 1, none⟩ (.int .i64 (fn y))).cell? ⟨blk, off + j * 2 + 1, none⟩ = some v) ∧
    (∃ v, (((W.setCell ⟨blk, off + i * 2, none⟩ (.slice (fA y) (fl y) (fc y))).setCell ⟨blk, off + i * 2 + 1, none⟩ (.int .i64 (fn y))).setCell ⟨blk, off + j * 2, none⟩ (.slice (fA x) (fl x) (fc x))).cell? ⟨blk, off + j * 2 + 1, none⟩ = some v) ∧
    Aside0 (SWK enc 2 w0 blk off (swp dk i j) ((((W.setCell ⟨blk, off + i * 2, none⟩ (.slice (fA y) (fl y) (fc y))).setCell ⟨blk, off + i * 2 + 1, none⟩ (.int .i64 (fn y))).setCell ⟨blk, off + j * 2, none⟩ (.slice (fA x) (fl x) (fc x))).setCell ⟨blk, off + j * 2 + 1, none⟩ (.int .i64 (fn x))).drew) := by
  have hH : HoldsK enc 2 W blk off dk := S.holds T.R.hblk T.R.hH hs
  obtain ⟨a0, a1⟩ := st_cell (fs := fun x => .slice (fA x) (fl x) (fc x)) T.he hH i hi
  obtain ⟨b0, b1⟩ := st_cell (fs := fun x => .slice (fA x) (fl x) (fc x)) T.he hH j hj
  have hsw := (S.swap T.R.hk T.R.hblk i j hi hj).drew
  rw [T.he, T.he] at hsw
  refine ⟨dk[i]!, dk[j]!, a0, a1, b0, b1, ?_, ?_, ?_, ?_, ⟨hsw⟩⟩
  · exact st_stay (v := undef) _ ⟨_, a1.1⟩
  · exact st_stay (v := undef) _ (st_stay (v := undef) _ ⟨_, b0.1⟩)
  · exact st_stay (v := undef) _ (st_stay (v := undef) _ ⟨_, b1.1⟩)
  · exact st_stay (v := undef) _ (st_stay (v := undef) _ (st_stay (v := undef) _ ⟨_, b1.1⟩))
/-- THE TEST: what its region asks. -/
theorem StK.test (T : StK enc fA fl fc fn cf blk off d0 w0) (S : SWK enc 2 w0 blk off dk W) (hs : dk.size = d0.size) (i j : Nat) (hi : i < dk.size) (hj : j < dk.size) : ∃ x y c, Aside0 (c = cf dk[i]! dk[j]!) ∧
    (∀ n os, (grow (W.drewN n) os).cell? ⟨blk, off + i * 2, none⟩ = some (.slice (fA x) (fl x) (fc x))) ∧ (∀ n os, (grow (W.drewN n) os).cell? ⟨blk, off + i * 2 + 1, none⟩ = some (.int .i64 (fn x))) ∧
    (∀ n os, (grow (W.drewN n) os).cell? ⟨blk, off + j * 2, none⟩ = some (.slice (fA y) (fl y) (fc y))) ∧ (∀ n os, (grow (W.drewN n) os).cell? ⟨blk, off + j * 2 + 1, none⟩ = some (.int .i64 (fn y))) ∧
    (∀ n os, Calls Try.prog 55 #[.agg #[.slice (fA x) (fl x) (fc x), .int .i64 (fn x)], .agg #[.slice (fA y) (fl y) (fc y), .int .i64 (fn y)]] (grow (W.drewN n) os) fun e w' => e = .returned (.int .i64 c) ∧ ∃ q os', w' = grow ((grow (W.drewN n) os).drewN q) os') := by
  have hH : ∀ n os, HoldsK enc 2 (grow (W.drewN n) os) blk off dk := fun n os => (S.grown n os).holds T.R.hblk T.R.hH hs
  refine ⟨dk[i]!, dk[j]!, _, ⟨rfl⟩, fun n os => ?_, fun n os => ?_, fun n os => ?_, fun n os => ?_, fun n os => ?_⟩
  · exact (st_cell (fs := fun x => .slice (fA x) (fl x) (fc x)) T.he (hH n os) i hi).1.1
  · exact (st_cell (fs := fun x => .slice (fA x) (fl x) (fc x)) T.he (hH n os) i hi).2.1
  · exact (st_cell (fs := fun x => .slice (fA x) (fl x) (fc x)) T.he (hH n os) j hj).1.1
  · exact (st_cell (fs := fun x => .slice (fA x) (fl x) (fc x)) T.he (hH n os) j hj).2.1
  · have h := S.cmp T.hc hs dk[i]! dk[j]! n os
    rw [T.he, T.he] at h
    exact h
theorem st_wrap {x : Int} {u : Nat} (h : x = (u : Int)) (hu : u < 9223372036854775808) : IntKind.i64.wrap x = (u : Int) := by rw [IntKind.wrap_i64]; omega

/-- d' is d with the places a .. a + n and b .. b + n exchanged. -/
def SwR (d : Array α) (a b n : Nat) (d' : Array α) : Prop := PermIn a (b + n) d d' ∧ (∀ t, t < n → d'[a + t]! = d[b + t]!) ∧ (∀ t, t < n → d'[b + t]! = d[a + t]!) ∧ ∀ t, (t < a ∨ (a + n ≤ t ∧ t < b) ∨ b + n ≤ t) → d'[t]! = d[t]!
theorem SwR.start (d : Array α) (a b : Nat) : SwR d a b 0 d := ⟨permIn_refl _ _ _, fun t h => absurd h (by omega), fun t h => absurd h (by omega), fun _ _ => rfl⟩
theorem SwR.step {d dk : Array α} {a b i n : Nat} (h : SwR d a b i dk) (hi : i < n) (hab : a + n ≤ b) (hb : b + n ≤ d.size) : SwR d a b (i + 1) (swp dk (a + i) (b + i)) := by
  obtain ⟨h0, h1, h2, h3⟩ := h
  have hsz : dk.size = d.size := h0.1
  have g := fun k => swp_get dk (i := a + i) (j := b + i) (by omega) (by omega) k
  refine ⟨permIn_trans _ _ _ _ _ (permIn_mono _ _ _ _ _ _ (Nat.le_refl _) (by omega) (by omega) h0) (swp_permIn _ _ _ _ _ (by omega) (by omega) (by omega) (by omega) (by omega)), fun t ht => ?_, fun t ht => ?_, fun t ht => ?_⟩
  · rw [g]
    by_cases e : t = i
    · subst e
      rw [if_neg (by omega), if_pos rfl]
      exact h3 _ (by omega)
    · rw [if_neg (by omega), if_neg (by omega)]
      exact h1 t (by omega)
  · rw [g]
    by_cases e : t = i
    · subst e
      rw [if_pos rfl]
      exact h3 _ (by omega)
    · rw [if_neg (by omega), if_neg (by omega)]
      exact h2 t (by omega)
  · rw [g, if_neg (by omega), if_neg (by omega)]
    exact h3 t (by omega)

set_option maxHeartbeats 8000000 in
set_option maxRecDepth 1000000 in
theorem st_swapRange (cap a b n : Nat) (d : Array α) (w : World) (T : StK enc fA fl fc fn cf blk off d0 w0) (hs : d.size = d0.size) (S : SWK enc 2 w0 blk off d w) (hab : a + n ≤ b) (hb : b + n ≤ d.size) :
    Calls Try.prog 70 #[.slice (some ⟨blk, off, none⟩) d0.size cap, .int .i64 a, .int .i64 b, .int .i64 n, .func (.func 55) #[] #[]] w fun e w' =>
      e = .returned (.tuple #[]) ∧ ∃ d', SwR d a b n d' ∧ SWK enc 2 w0 blk off d' w' := by
  have hut32 := Try.underlying38
  have mixed : Try.prog.follows .mixedOrders = true := by first | rfl | kernel_rfl
  have hsz : d0.size < 4611686018427387904 := T.sz
  have S0 := Aside0.mk S
  clear S
  go_enter Try.func70, Try.ntmps70
  go_wp2
  go_loopg [10] n (fun g1 vi wr => ∃ (i : Nat) (dk : Array α), vi = .int .i64 i ∧ i ≤ n ∧ n - i ≤ g1 ∧ dk.size = d0.size ∧ Aside0 (SwR d a b i dk) ∧ Aside0 (SWK enc 2 w0 blk off dk wr))
  case atStart => exact ⟨0, d, rfl, by omega, by omega, hs, ⟨SwR.start d a b⟩, S0⟩
  case round =>
    clear S0
    obtain ⟨i, dk, rfl, hin, hg1, hsk, HR, S1⟩ := hrel
    by_cases hi : i < n
    · have hiz : (i : Int) < (n : Int) := by omega
      obtain ⟨u, hu⟩ : ∃ u, u = a + i := ⟨_, rfl⟩
      obtain ⟨v, hv⟩ : ∃ v, v = b + i := ⟨_, rfl⟩
      have ru := st_wrap (x := (a : Int) + (i : Int)) (u := u) (by omega) (by omega)
      have rv := st_wrap (x := (b : Int) + (i : Int)) (u := v) (by omega) (by omega)
      have hud : (u : Int) < (d0.size : Int) := by omega
      have hvd : (v : Int) < (d0.size : Int) := by omega
      have HUV := Aside0.mk (And.intro hu hv)
      obtain ⟨x, y, ⟨a0, fa0⟩, ⟨a1, fa1⟩, ⟨b0, fb0⟩, ⟨b1, fb1⟩, ⟨_, q1⟩, ⟨_, q2⟩, ⟨_, q3⟩, ⟨_, q4⟩, SW⟩ := T.swap S1.out (by omega) u v (by omega) (by omega)
      clear S1 hu hv
      go_wp2_with fail
      go_big_region_o
      all_goals go_wp2
      go_roundg (n - (i + 1))
      case measure => omega
      case rel =>
        refine ⟨i + 1, swp dk u v, by go_num, by omega, Nat.le_refl _, by rw [size_swp]; exact hsk, ⟨?_⟩, SW⟩
        rw [HUV.out.1, HUV.out.2]
        exact HR.out.step hi hab hb
    · have hiz : ¬ (i : Int) < (n : Int) := by omega
      have e : i = n := by omega
      subst e
      go_wp2
      go_end0
      exact ⟨rfl, dk, HR.out, S1.out⟩

set_option maxHeartbeats 8000000 in
set_option maxRecDepth 1000000 in
theorem st_insertionSort (cap a b : Nat) (d : Array α) (w : World) (T : StK enc fA fl fc fn cf blk off d0 w0) (hs : d.size = d0.size) (S : SWK enc 2 w0 blk off d w) (hab : a ≤ b) (hb : b ≤ d.size) :
    Calls Try.prog 61 #[.slice (some ⟨blk, off, none⟩) d0.size cap, .int .i64 a, .int .i64 b, .func (.func 55) #[] #[]] w fun e w' =>
      e = .returned (.tuple #[]) ∧ ∃ d', (PermIn a b d d' ∧ SortedIn (ltOf cf) a b d') ∧ SWK enc 2 w0 blk off d' w' := by
  have hut32 := Try.underlying38
  have mixed : Try.prog.follows .mixedOrders = true := by first | rfl | kernel_rfl
  have hsz : d0.size < 4611686018427387904 := T.sz
  have S0 := Aside0.mk S
  clear S
  have HI := Aside0.mk (insertionSort_holds T.O d a b hab hb)
  go_enter Try.func61, Try.ntmps61
  go_wp2
  go_loopg [8] (b - a) (fun g1 vi wr => ∃ (i : Nat) (dk : Array α), vi = .int .i64 i ∧ a < i ∧ i ≤ b + 1 ∧ b + 1 - i ≤ g1 + 1 ∧ dk.size = d0.size ∧ Aside0 (insOuter (ltOf cf) a b i dk = insOuter (ltOf cf) a b (a + 1) d) ∧ Aside0 (SWK enc 2 w0 blk off dk wr))
  case atStart => exact ⟨a + 1, d, by go_num, by omega, by omega, by omega, hs, ⟨rfl⟩, S0⟩
  case round =>
    clear S0
    obtain ⟨i, dk, rfl, hai, hib, hg1, hsk, HO, S1⟩ := hrel
    by_cases hlt : i < b
    · have hltz : (i : Int) < (b : Int) := by omega
      go_wp2
      go_loopg [9] i (fun g2 vj wr2 => ∃ (j : Nat) (dj : Array α), vj = .int .i64 j ∧ a ≤ j ∧ j ≤ i ∧ j ≤ g2 ∧ dj.size = d0.size ∧ Aside0 (insInner (ltOf cf) a j dj = insInner (ltOf cf) a i dk) ∧ Aside0 (SWK enc 2 w0 blk off dj wr2))
      case atStart => exact ⟨i, dk, rfl, by omega, Nat.le_refl _, Nat.le_refl _, hsk, ⟨rfl⟩, S1⟩
      case round =>
        clear S1
        obtain ⟨j, dj, rfl, haj, hji, hg2, hsj, HJ, S2⟩ := hrel
        have OUT := Aside0.mk (show (j ≤ a ∨ ltOf cf dj[j]! dj[j - 1]! = false) → insOuter (ltOf cf) a b (i + 1) dj = insOuter (ltOf cf) a b (a + 1) d from fun hh => by
          rw [← HO.out, insOuter_go _ _ _ _ _ hlt, ← HJ.out, insInner_stop _ _ _ _ hh])
        by_cases hja : a < j
        · have hjaz : (a : Int) < (j : Int) := by omega
          obtain ⟨p, hp⟩ : ∃ p, p + 1 = j := ⟨j - 1, by omega⟩
          have rp := st_wrap (x := (j : Int) - 1) (u := p) (by omega) (by omega)
          have hjd : (j : Int) < (d0.size : Int) := by omega
          have hpd : (p : Int) < (d0.size : Int) := by omega
          have hjn : j < d0.size := by omega
          have hpn : p < d0.size := by omega
          obtain ⟨x, y, c, Hc, a0, a1, b0, b1, hcall⟩ := T.test S2.out (by omega) j p (by omega) (by omega)
          by_cases hlv : c < 0
          · have hlvd : decide (c < 0) = true := decide_eq_true hlv
            go_wp2_with fail
            go_quiet_grown (refine Calls.grown_of (hcall _ _))
            go_wp2_with fail
            have S3 := Aside0.mk (S2.out.grown nq osq)
            clear a0 a1 b0 b1 hcall S2
            generalize grow (wr.drewN nq) osq = w3 at S3 ⊢
            obtain ⟨x', y', ⟨a0', fa0'⟩, ⟨a1', fa1'⟩, ⟨b0', fb0'⟩, ⟨b1', fb1'⟩, ⟨_, q1'⟩, ⟨_, q2'⟩, ⟨_, q3'⟩, ⟨_, q4'⟩, SW'⟩ := T.swap S3.out (by omega) j p (by omega) (by omega)
            clear S3
            go_big_region_o
            all_goals go_wp2
            go_roundg p
            case measure => omega
            case rel =>
              refine ⟨p, swp dj j p, by first | rfl | go_num | (congr 1; omega), by omega, by omega, Nat.le_refl _, by rw [size_swp]; exact hsj, ⟨?_⟩, SW'⟩
              subst hp
              rw [← HJ.out, insInner, if_pos (by rw [Bool.and_eq_true]; exact ⟨decide_eq_true hja, by rw [ltOf, ← Hc.out]; exact decide_eq_true hlv⟩)]
          · have hlvd : decide (c < 0) = false := decide_eq_false hlv
            go_wp2_with fail
            go_quiet_grown (refine Calls.grown_of (hcall _ _))
            have S3 := Aside0.mk (S2.out.grown nq osq)
            clear a0 a1 b0 b1 hcall S2
            generalize grow (wr.drewN nq) osq = w3 at S3 ⊢
            go_wp2
            go_roundg (b - (i + 1))
            case measure => omega
            case rel => exact ⟨i + 1, dj, by go_num, by omega, by omega, by omega, hsj, ⟨OUT.out (Or.inr (by rw [show j - 1 = p by omega, ltOf, ← Hc.out]; exact decide_eq_false (by omega)))⟩, S3⟩
        · have hjaz : decide ((j : Int) > (a : Int)) = false := decide_eq_false (by omega)
          have hjaz' : ¬ (a : Int) < (j : Int) := by omega
          have S3 := Aside0.mk S2.out.drew
          clear S2
          go_wp2_with fail
          go_big_region_o
          all_goals go_wp2
          go_roundg (b - (i + 1))
          case measure => omega
          case rel => exact ⟨i + 1, dj, by go_num, by omega, by omega, by omega, hsj, ⟨OUT.out (Or.inl (by omega))⟩, S3⟩
    · have hltz : ¬ (i : Int) < (b : Int) := by omega
      go_wp2
      go_end0
      refine ⟨rfl, dk, ?_, S1.out⟩
      have h := HI.out
      unfold Sort.insertionSort at h
      rw [← HO.out, insOuter_stop _ _ _ _ _ hlt] at h
      exact h

/-- d' is d with a .. m and m .. b exchanged as wholes. -/
def Rot (d : Array α) (a m b : Nat) (d' : Array α) : Prop := PermIn a b d d' ∧ (∀ t, t < b - m → d'[a + t]! = d[m + t]!) ∧ (∀ t, t < m - a → d'[a + (b - m) + t]! = d[a + t]!) ∧ ∀ t, (t < a ∨ b ≤ t) → d'[t]! = d[t]!
theorem Rot.of_swap {d d' : Array α} {m i : Nat} (h : SwR d (m - i) m i d') (hi : i ≤ m) : Rot d (m - i) m (m + i) d' := by
  obtain ⟨h0, h1, h2, h3⟩ := h
  refine ⟨h0, fun t ht => h1 t (by omega), fun t ht => ?_, fun t ht => h3 t (by omega)⟩
  have := h2 t (by omega)
  rw [show m - i + (m + i - m) + t = m + t by omega]
  exact this
theorem Rot.left {d d1 d' : Array α} {m i j : Nat} (h : SwR d (m - i) m j d1) (k : Rot d1 (m - (i - j)) m (m + j) d') (hij : j < i) (hi : i ≤ m) (hb : m + j ≤ d.size) : Rot d (m - i) m (m + j) d' := by
  obtain ⟨h0, h1, h2, h3⟩ := h
  obtain ⟨k0, k1, k2, k3⟩ := k
  have hsz : d1.size = d.size := h0.1
  refine ⟨permIn_trans _ _ _ _ _ h0 (permIn_mono _ _ _ _ _ _ (by omega) (Nat.le_refl _) (by omega) k0), fun t ht => ?_, fun t ht => ?_, fun t ht => ?_⟩
  · rw [k3 _ (by omega)]
    exact h1 t (by omega)
  · by_cases e : t < j
    · have := k1 t (by omega)
      rw [show m - (i - j) + t = m - i + (m + j - m) + t by omega] at this
      rw [this]
      exact h2 t e
    · have := k2 (t - j) (by omega)
      rw [show m - (i - j) + (m + j - m) + (t - j) = m - i + (m + j - m) + t by omega] at this
      rw [this, show m - (i - j) + (t - j) = m - i + t by omega]
      exact h3 _ (by omega)
  · rw [k3 _ (by omega)]
    exact h3 t (by omega)
theorem Rot.right {d d1 d' : Array α} {m i j : Nat} (h : SwR d (m - i) (m + j - i) i d1) (k : Rot d1 (m - i) m (m + (j - i)) d') (hij : i < j) (hi : i ≤ m) (hb : m + j ≤ d.size) : Rot d (m - i) m (m + j) d' := by
  obtain ⟨h0, h1, h2, h3⟩ := h
  obtain ⟨k0, k1, k2, k3⟩ := k
  have hsz : d1.size = d.size := h0.1
  refine ⟨permIn_trans _ _ _ _ _ (permIn_mono _ _ _ _ _ _ (Nat.le_refl _) (by omega) hb h0) (permIn_mono _ _ _ _ _ _ (Nat.le_refl _) (by omega) (by omega) k0), fun t ht => ?_, fun t ht => ?_, fun t ht => ?_⟩
  · by_cases e : t < j - i
    · rw [k1 t (by omega)]
      exact h3 _ (by omega)
    · have := k2 (t - (j - i)) (by omega)
      rw [show m - i + (m + (j - i) - m) + (t - (j - i)) = m - i + t by omega] at this
      rw [this]
      have := h1 (t - (j - i)) (by omega)
      rw [this, show m + j - i + (t - (j - i)) = m + t by omega]
  · rw [k3 _ (by omega)]
    have := h2 t (by omega)
    rw [show m + j - i + t = m - i + (m + j - m) + t by omega] at this
    exact this
  · rw [k3 _ (by omega)]
    exact h3 t (by omega)

set_option maxHeartbeats 8000000 in
set_option maxRecDepth 1000000 in
theorem st_rotate (cap a m b : Nat) (d : Array α) (w : World) (T : StK enc fA fl fc fn cf blk off d0 w0) (hs : d.size = d0.size) (S : SWK enc 2 w0 blk off d w) (ham : a < m) (hmb : m < b) (hb : b ≤ d.size) :
    Calls Try.prog 69 #[.slice (some ⟨blk, off, none⟩) d0.size cap, .int .i64 a, .int .i64 m, .int .i64 b, .func (.func 55) #[] #[]] w fun e w' =>
      e = .returned (.tuple #[]) ∧ ∃ d', Rot d a m b d' ∧ SWK enc 2 w0 blk off d' w' := by
  have hut32 := Try.underlying38
  have mixed : Try.prog.follows .mixedOrders = true := by first | rfl | kernel_rfl
  have hsz : d0.size < 4611686018427387904 := T.sz
  have S0 := Aside0.mk S
  clear S
  obtain ⟨i0, hi0⟩ : ∃ u, u = m - a := ⟨_, rfl⟩
  obtain ⟨j0, hj0⟩ : ∃ u, u = b - m := ⟨_, rfl⟩
  have ri0 := st_wrap (x := (m : Int) - (a : Int)) (u := i0) (by omega) (by omega)
  have rj0 := st_wrap (x := (b : Int) - (m : Int)) (u := j0) (by omega) (by omega)
  have H0 := Aside0.mk (And.intro hi0 hj0)
  have h00 : 0 < i0 ∧ 0 < j0 ∧ i0 ≤ m ∧ m + j0 ≤ d.size ∧ a = m - i0 ∧ b = m + j0 := by omega
  have H1 := Aside0.mk h00
  clear hi0 hj0 h00
  go_enter Try.func69, Try.ntmps69
  go_wp2
  go_loopg [10, 11] (i0 + j0) (fun g1 vi vj wr => ∃ (i j : Nat) (dk : Array α), vi = .int .i64 i ∧ vj = .int .i64 j ∧ 0 < i ∧ 0 < j ∧ i + j ≤ g1 ∧ i ≤ m ∧ m + j ≤ d0.size ∧ dk.size = d0.size ∧ Aside0 (∀ d', Rot dk (m - i) m (m + j) d' → Rot d a m b d') ∧ Aside0 (SWK enc 2 w0 blk off dk wr))
  case atStart =>
    obtain ⟨q1, q2, q3, q4, q5, q6⟩ := H1.out
    exact ⟨i0, j0, d, rfl, rfl, q1, q2, Nat.le_refl _, q3, by omega, hs, ⟨fun d' h => by rw [q5, q6]; exact h⟩, S0⟩
  case round =>
    clear S0 H0 H1 ri0 rj0
    obtain ⟨i, j, dk, rfl, rfl, hi, hj, hg1, him, hjb, hsk, HO, S1⟩ := hrel
    obtain ⟨p, hp⟩ : ∃ u, u = m - i := ⟨_, rfl⟩
    have rp := st_wrap (x := (m : Int) - (i : Int)) (u := p) (by omega) (by omega)
    by_cases hij : i = j
    · subst hij
      have C := Aside0.mk (fun w S => st_swapRange cap p m i dk w T hsk S (by omega) (by omega))
      have HP := Aside0.mk (And.intro hp him)
      clear hp
      go_wp2_with (go_at_call 70; refine (C.out _ S1.out).mono ?_; rintro e w' ⟨rfl, d', HR, S2⟩)
      go_end0
      refine ⟨rfl, d', HO.out d' ?_, S2⟩
      rw [HP.out.1] at HR
      exact Rot.of_swap HR HP.out.2
    · have n1 : ¬ (i : Int) = (j : Int) := by omega
      have n2 : ((i : Int) != (j : Int)) = true := by simpa using n1
      have n3 : ((i : Int) == (j : Int)) = false := by simpa using n1
      by_cases hlt : j < i
      · have hz : (j : Int) < (i : Int) := by omega
        obtain ⟨q, hq⟩ : ∃ u, u = i - j := ⟨_, rfl⟩
        have rq := st_wrap (x := (i : Int) - (j : Int)) (u := q) (by omega) (by omega)
        have C := Aside0.mk (fun w S => st_swapRange cap p m j dk w T hsk S (by omega) (by omega))
        have HP := Aside0.mk (And.intro hp hq)
        have hq' : 0 < q ∧ q + j ≤ m ∧ q + j = i := by omega
        have HQ := Aside0.mk hq'
        clear hp hq hq'
        go_wp2_with (go_at_call 70; refine (C.out _ S1.out).mono ?_; rintro e w' ⟨rfl, d1, HR, S2⟩; have HR := Aside0.mk HR; have S2 := Aside0.mk S2)
        have hs1 : d1.size = d0.size := HR.out.1.1.trans hsk
        go_roundg (q + j)
        case measure => have := HQ.out; omega
        case rel =>
          refine ⟨q, j, d1, rfl, rfl, HQ.out.1, hj, Nat.le_refl _, by have := HQ.out; omega, hjb, hs1, ⟨fun d' h => HO.out d' ?_⟩, S2⟩
          have hr := HR.out
          rw [HP.out.1] at hr
          rw [HP.out.2] at h
          exact Rot.left hr h hlt him (by omega)
      · have hz : ¬ (j : Int) < (i : Int) := by omega
        have hz' : decide ((i : Int) > (j : Int)) = false := decide_eq_false (by omega)
        obtain ⟨q, hq⟩ : ∃ u, u = j - i := ⟨_, rfl⟩
        have rq := st_wrap (x := (j : Int) - (i : Int)) (u := q) (by omega) (by omega)
        obtain ⟨s, hsd⟩ : ∃ u, u = m + j := ⟨_, rfl⟩
        have rs := st_wrap (x := (m : Int) + (j : Int)) (u := s) (by omega) (by omega)
        obtain ⟨v, hv⟩ : ∃ u, u = m + j - i := ⟨_, rfl⟩
        have rv := st_wrap (x := (s : Int) - (i : Int)) (u := v) (by omega) (by omega)
        have C := Aside0.mk (fun w S => st_swapRange cap p v i dk w T hsk S (by omega) (by omega))
        have HP := Aside0.mk (And.intro hp (And.intro hq hv))
        have hq' : 0 < q ∧ i + q = j := by omega
        have HQ := Aside0.mk hq'
        clear hp hq hq' hv hsd
        go_wp2_with (go_at_call 70; refine (C.out _ S1.out).mono ?_; rintro e w' ⟨rfl, d1, HR, S2⟩; have HR := Aside0.mk HR; have S2 := Aside0.mk S2)
        have hs1 : d1.size = d0.size := HR.out.1.1.trans hsk
        go_roundg (i + q)
        case measure => have := HQ.out; omega
        case rel =>
          refine ⟨i, q, d1, rfl, rfl, hi, HQ.out.1, Nat.le_refl _, him, by have := HQ.out; omega, hs1, ⟨fun d' h => HO.out d' ?_⟩, S2⟩
          have hr := HR.out
          rw [HP.out.1, HP.out.2.2] at hr
          rw [HP.out.2.1] at h
          exact Rot.right hr h (by omega) him (by omega)

theorem st_same {x : Int} (h0 : 0 ≤ x) (h1 : x < 9223372036854775808) : IntKind.i64.wrap x = x := by rw [IntKind.wrap_i64]; omega
/-- dk is d with a's element moved on to k. -/
def ShU (d : Array α) (a b k : Nat) (dk : Array α) : Prop := PermIn a b d dk ∧ dk[k]! = d[a]! ∧ (∀ t, a ≤ t → t < k → dk[t]! = d[t + 1]!) ∧ ∀ t, (t < a ∨ k < t) → dk[t]! = d[t]!
theorem ShU.start (d : Array α) (a b : Nat) : ShU d a b a d := ⟨permIn_refl _ _ _, rfl, fun t h1 h2 => absurd h1 (by omega), fun _ _ => rfl⟩
theorem ShU.step {d dk : Array α} {a b k : Nat} (h : ShU d a b k dk) (ha : a ≤ k) (hk : k + 1 < b) (hb : b ≤ d.size) : ShU d a b (k + 1) (swp dk k (k + 1)) := by
  obtain ⟨h0, h1, h2, h3⟩ := h
  have hsz : dk.size = d.size := h0.1
  have g := fun q => swp_get dk (i := k) (j := k + 1) (by omega) (by omega) q
  refine ⟨permIn_trans _ _ _ _ _ h0 (swp_permIn _ _ _ _ _ (by omega) (by omega) (by omega) (by omega) (by omega)), ?_, fun t ht1 ht2 => ?_, fun t ht => ?_⟩
  · rw [g, if_pos rfl]; exact h1
  · rw [g, if_neg (by omega)]
    by_cases e : t = k
    · subst e
      rw [if_pos rfl]
      exact h3 _ (by omega)
    · rw [if_neg e]
      exact h2 t ht1 (by omega)
  · rw [g, if_neg (by omega), if_neg (by omega)]
    exact h3 t (by omega)
/-- dk is d with m's element moved down to k. -/
def ShD (d : Array α) (a b m k : Nat) (dk : Array α) : Prop := PermIn a b d dk ∧ dk[k]! = d[m]! ∧ (∀ t, k < t → t ≤ m → dk[t]! = d[t - 1]!) ∧ ∀ t, (t < k ∨ m < t) → dk[t]! = d[t]!
theorem ShD.start (d : Array α) (a b m : Nat) : ShD d a b m m d := ⟨permIn_refl _ _ _, rfl, fun t h1 h2 => absurd h1 (by omega), fun _ _ => rfl⟩
theorem ShD.step {d dk : Array α} {a b m k p : Nat} (h : ShD d a b m k dk) (ha : a ≤ p) (hk : p + 1 = k) (hm : k ≤ m) (hb : m < b) (hbd : b ≤ d.size) : ShD d a b m p (swp dk k p) := by
  obtain ⟨h0, h1, h2, h3⟩ := h
  have hsz : dk.size = d.size := h0.1
  have g := fun q => swp_get dk (i := k) (j := p) (by omega) (by omega) q
  refine ⟨permIn_trans _ _ _ _ _ h0 (swp_permIn _ _ _ _ _ (by omega) (by omega) (by omega) (by omega) (by omega)), ?_, fun t ht1 ht2 => ?_, fun t ht => ?_⟩
  · rw [g, if_pos rfl]; exact h1
  · rw [g, if_neg (by omega)]
    by_cases e : t = k
    · subst e
      rw [if_pos rfl, h3 _ (by omega)]
      congr 1
      omega
    · rw [if_neg e]
      exact h2 t (by omega) ht2
  · rw [g, if_neg (by omega), if_neg (by omega)]
    exact h3 t (by omega)
variable {lt : α → α → Bool}
/-- Behind the places of d. -/
def MergeR (lt : α → α → Bool) (a m b : Nat) (d d' : Array α) : Prop := PermIn a b d d' ∧ (SortedIn lt a m d → SortedIn lt m b d → SortedIn lt a b d')
theorem sorted_le (hO : SWO lt) {a b : Nat} {d : Array α} (h : SortedIn lt a b d) {i j : Nat} (hi : a ≤ i) (hij : i ≤ j) (hj : j < b) : lt d[j]! d[i]! = false := by
  rcases Nat.lt_or_ge i j with h1 | h1
  · exact h i j hi h1 hj
  · have : i = j := by omega
    rw [this]
    exact hO.irrefl _
theorem lt_le {β : Type} {lt : β → β → Bool} (hO : SWO lt) {x y : β} (h : lt x y = true) : lt y x = false := by
  cases e : lt y x with
  | false => rfl
  | true => rw [← hO.irrefl x]; exact (hO.trans _ _ _ h e).symm
theorem MergeR.one (hO : SWO lt) {a b i : Nat} {d d' : Array α} (hi : a + 1 ≤ i) (hib : i ≤ b) (h1 : i = a + 1 ∨ lt d[i - 1]! d[a]! = true) (h2 : i = b ∨ lt d[i]! d[a]! = false) (h : ShU d a b (i - 1) d') : MergeR lt a (a + 1) b d d' := by
  obtain ⟨k0, k1, k2, k3⟩ := h
  refine ⟨k0, fun _ hs p q hp hpq hq => ?_⟩
  -- where places come from
  rcases Nat.lt_trichotomy q (i - 1) with hq1 | hq1 | hq1
  · rw [k2 q (by omega) hq1, k2 p hp (by omega)]
    exact hs _ _ (by omega) (by omega) (by omega)
  · rw [hq1, k1, k2 p hp (by omega)]
    rcases h1 with h1 | h1
    · omega
    · have e := sorted_le hO hs (i := p + 1) (j := i - 1) (by omega) (by omega) (by omega)
      exact lt_le hO (by
        cases hc : lt d[p + 1]! d[a]! with
        | true => rfl
        | false => have := hO.ntrans _ _ _ e hc; rw [h1] at this; cases this)
  · rw [k3 q (by omega)]
    have hge : lt d[q]! d[a]! = false := by
      rcases h2 with h2 | h2
      · omega
      · exact hO.ntrans _ _ _ (sorted_le hO hs (i := i) (j := q) (by omega) (by omega) hq) h2
    rcases Nat.lt_trichotomy p (i - 1) with hp1 | hp1 | hp1
    · rw [k2 p hp hp1]
      exact hs _ _ (by omega) (by omega) hq
    · rw [hp1, k1]
      exact hge
    · rw [k3 p (by omega)]
      exact hs _ _ (by omega) hpq hq
theorem MergeR.last (hO : SWO lt) {a m b i : Nat} {d d' : Array α} (hb : b = m + 1) (hi : a ≤ i) (him : i ≤ m) (h1 : i = a ∨ lt d[m]! d[i - 1]! = false) (h2 : i = m ∨ lt d[m]! d[i]! = true) (h : ShD d a b m i d') : MergeR lt a m b d d' := by
  subst hb
  obtain ⟨k0, k1, k2, k3⟩ := h
  refine ⟨k0, fun hs _ p q hp hpq hq => ?_⟩
  rcases Nat.lt_trichotomy q i with hq1 | hq1 | hq1
  · rw [k3 q (by omega), k3 p (by omega)]
    exact hs _ _ hp hpq (by omega)
  · rw [hq1, k1, k3 p (by omega)]
    rcases h1 with h1 | h1
    · omega
    · exact hO.ntrans _ _ _ h1 (sorted_le hO hs (i := p) (j := i - 1) hp (by omega) (by omega))
  · rw [k2 q (by omega) (by omega)]
    have hge : lt d[q - 1]! d[m]! = false := by
      rcases h2 with h2 | h2
      · omega
      · exact hO.ntrans _ _ _ (sorted_le hO hs (i := i) (j := q - 1) (by omega) (by omega) (by omega)) (lt_le hO h2)
    rcases Nat.lt_trichotomy p i with hp1 | hp1 | hp1
    · rw [k3 p (by omega)]
      exact sorted_le hO hs (i := p) (j := q - 1) hp (by omega) (by omega)
    · rw [hp1, k1]
      exact hge
    · rw [k2 p (by omega) (by omega)]
      exact hs _ _ (by omega) (by omega) (by omega)

set_option maxHeartbeats 8000000 in
set_option maxRecDepth 1000000 in
theorem st_sym1 (cap a m b : Nat) (d : Array α) (w : World) (T : StK enc fA fl fc fn cf blk off d0 w0) (hs : d.size = d0.size) (S : SWK enc 2 w0 blk off d w) (ham : m = a + 1) (hmb : m < b) (hb : b ≤ d.size) :
    Calls Try.prog 62 #[.slice (some ⟨blk, off, none⟩) d0.size cap, .int .i64 a, .int .i64 m, .int .i64 b, .func (.func 55) #[] #[]] w fun e w' =>
      e = .returned (.tuple #[]) ∧ ∃ d', MergeR (ltOf cf) a m b d d' ∧ SWK enc 2 w0 blk off d' w' := by
  have hut32 := Try.underlying38
  have mixed : Try.prog.follows .mixedOrders = true := by first | rfl | kernel_rfl
  have hsz : d0.size < 4611686018427387904 := T.sz
  have S0 := Aside0.mk S
  clear S
  have r1 : IntKind.i64.wrap ((m : Int) - (a : Int)) = 1 := by rw [IntKind.wrap_i64]; omega
  have HAM := Aside0.mk ham
  have ham1 : a < m := by omega
  clear ham
  go_enter Try.func62, Try.ntmps62
  go_wp2
  go_loopg [10, 11] (b - m) (fun g1 vi vj wr => ∃ (i j : Nat), vi = .int .i64 i ∧ vj = .int .i64 j ∧ m ≤ i ∧ i ≤ j ∧ j ≤ b ∧ j - i ≤ g1 ∧ Aside0 ((i = m ∨ ltOf cf d[i - 1]! d[a]! = true) ∧ (j = b ∨ ltOf cf d[j]! d[a]! = false)) ∧ Aside0 (SWK enc 2 w0 blk off d wr))
  case atStart => exact ⟨m, b, rfl, rfl, Nat.le_refl _, by omega, Nat.le_refl _, Nat.le_refl _, ⟨.inl rfl, .inl rfl⟩, S0⟩
  case round =>
    clear S0
    obtain ⟨i, j, rfl, rfl, him, hij, hjb, hg1, HB, S1⟩ := hrel
    by_cases hlt : i < j
    · have hz : (i : Int) < (j : Int) := by omega
      obtain ⟨h, Hh⟩ : ∃ u, Aside0 (u = (i + j) / 2) := ⟨_, ⟨rfl⟩⟩
      have rh := st_same (x := (i : Int) + (j : Int)) (by omega) (by omega)
      have eh : ((i : Int) + (j : Int)) / 2 = (h : Int) := by have := Hh.out; omega
      have lh : i ≤ h ∧ h < j := by have := Hh.out; omega
      obtain ⟨lh1, lh2⟩ := lh
      have hhn : h < d0.size := by omega
      have han : a < d0.size := by omega
      have hhd : (h : Int) < (d0.size : Int) := by omega
      have had : (a : Int) < (d0.size : Int) := by omega
      obtain ⟨x, y, c, Hc, a0, a1, b0, b1, hcall⟩ := T.test S1.out (by omega) h a (by omega) (by omega)
      by_cases hlv : c < 0
      · have hlvd : decide (c < 0) = true := decide_eq_true hlv
        go_wp2_with fail
        go_quiet_grown (refine Calls.grown_of (hcall _ _))
        have S3 := Aside0.mk (S1.out.grown nq osq)
        clear a0 a1 b0 b1 hcall S1
        generalize grow (wr.drewN nq) osq = w3 at S3 ⊢
        go_wp2
        go_roundg (j - (h + 1))
        case measure => omega
        case rel => exact ⟨h + 1, j, by go_num, rfl, by omega, by omega, hjb, Nat.le_refl _, ⟨.inr (by rw [Nat.add_sub_cancel, ltOf, ← Hc.out]; exact decide_eq_true hlv), HB.out.2⟩, S3⟩
      · have hlvd : decide (c < 0) = false := decide_eq_false hlv
        go_wp2_with fail
        go_quiet_grown (refine Calls.grown_of (hcall _ _))
        have S3 := Aside0.mk (S1.out.grown nq osq)
        clear a0 a1 b0 b1 hcall S1
        generalize grow (wr.drewN nq) osq = w3 at S3 ⊢
        go_wp2
        go_roundg (h - i)
        case measure => omega
        case rel => exact ⟨i, h, rfl, by go_num, him, by omega, by omega, Nat.le_refl _, ⟨HB.out.1, .inr (by rw [ltOf, ← Hc.out]; exact decide_eq_false (by omega))⟩, S3⟩
    · have hz : ¬ (i : Int) < (j : Int) := by omega
      have hji : j = i := by omega
      subst hji
      obtain ⟨q, hq⟩ : ∃ u, u + 1 = j := ⟨j - 1, by omega⟩
      have rq := st_wrap (x := (j : Int) - 1) (u := q) (by omega) (by omega)
      have hq' : a ≤ q ∧ q < b := by omega
      have HQ := Aside0.mk hq
      clear hq
      go_wp2
      go_loopg [13] (q - a) (fun g2 vk wr => ∃ (k : Nat) (dk : Array α), vk = .int .i64 k ∧ a ≤ k ∧ k ≤ q ∧ q - k ≤ g2 ∧ dk.size = d0.size ∧ Aside0 (ShU d a b k dk) ∧ Aside0 (SWK enc 2 w0 blk off dk wr))
      case atStart => exact ⟨a, d, rfl, Nat.le_refl _, hq'.1, Nat.le_refl _, hs, ⟨ShU.start d a b⟩, S1⟩
      case round =>
        clear S1
        obtain ⟨k, dk, rfl, hak, hkq, hg2, hsk, HR, S2⟩ := hrel
        by_cases hkl : k < q
        · have hz2 : (k : Int) < (q : Int) := by omega
          obtain ⟨v, hv⟩ : ∃ v, v = k + 1 := ⟨_, rfl⟩
          have rv := st_wrap (x := (k : Int) + 1) (u := v) (by omega) (by omega)
          have hvn : v < d0.size := by omega
          have hkn : k < d0.size := by omega
          have hvd : (v : Int) < (d0.size : Int) := by omega
          have hkd : (k : Int) < (d0.size : Int) := by omega
          have HV := Aside0.mk hv
          obtain ⟨x, y, ⟨a0, fa0⟩, ⟨a1, fa1⟩, ⟨b0, fb0⟩, ⟨b1, fb1⟩, ⟨_, q1⟩, ⟨_, q2⟩, ⟨_, q3⟩, ⟨_, q4⟩, SW⟩ := T.swap S2.out (by omega) k v (by omega) (by omega)
          clear S2 hv
          go_wp2_with fail
          go_big_region_o
          all_goals go_wp2
          go_roundg (q - (k + 1))
          case measure => omega
          case rel =>
            refine ⟨k + 1, swp dk k v, by have := HV.out; first | go_num | (subst this; go_num), by omega, by omega, Nat.le_refl _, by rw [size_swp]; exact hsk, ⟨?_⟩, SW⟩
            rw [HV.out]
            exact HR.out.step hak (by omega) hb
        · have hz2 : ¬ (k : Int) < (q : Int) := by omega
          have hkq' : k = q := by omega
          subst hkq'
          go_wp2
          (try simp only [Exit.inBlock, Exit.then])
          refine bodyPost_ret (results_none rfl _ _ _) rfl ?_
          refine ⟨rfl, dk, ?_, S2.out⟩
          have e1 := HAM.out
          have e2 := HQ.out
          subst e1
          exact MergeR.one T.O (i := j) (by omega) (by omega) HB.out.1 HB.out.2 (by rw [show j - 1 = k by omega]; exact HR.out)

set_option maxHeartbeats 8000000 in
set_option maxRecDepth 1000000 in
theorem st_sym2 (cap a m b : Nat) (d : Array α) (w : World) (T : StK enc fA fl fc fn cf blk off d0 w0) (hs : d.size = d0.size) (S : SWK enc 2 w0 blk off d w) (ham : a + 1 < m) (hmb : b = m + 1) (hb : b ≤ d.size) :
    Calls Try.prog 62 #[.slice (some ⟨blk, off, none⟩) d0.size cap, .int .i64 a, .int .i64 m, .int .i64 b, .func (.func 55) #[] #[]] w fun e w' =>
      e = .returned (.tuple #[]) ∧ ∃ d', MergeR (ltOf cf) a m b d d' ∧ SWK enc 2 w0 blk off d' w' := by
  have hut32 := Try.underlying38
  have mixed : Try.prog.follows .mixedOrders = true := by first | rfl | kernel_rfl
  have hsz : d0.size < 4611686018427387904 := T.sz
  have S0 := Aside0.mk S
  clear S
  obtain ⟨ma, hma⟩ : ∃ u, u = m - a := ⟨_, rfl⟩
  have r1 := st_wrap (x := (m : Int) - (a : Int)) (u := ma) (by omega) (by omega)
  have r1n : ¬ (ma : Int) = 1 := by omega
  have r1b : ((ma : Int) == 1) = false := by simpa using r1n
  have r2 : IntKind.i64.wrap ((b : Int) - (m : Int)) = 1 := by rw [IntKind.wrap_i64]; omega
  have HAM := Aside0.mk hmb
  have hmb1 : m < b := by omega
  clear hmb hma
  go_enter Try.func62, Try.ntmps62
  go_wp2
  go_loopg [14, 15] (m - a) (fun g1 vi vj wr => ∃ (i j : Nat), vi = .int .i64 i ∧ vj = .int .i64 j ∧ a ≤ i ∧ i ≤ j ∧ j ≤ m ∧ j - i ≤ g1 ∧ Aside0 ((i = a ∨ ltOf cf d[m]! d[i - 1]! = false) ∧ (j = m ∨ ltOf cf d[m]! d[j]! = true)) ∧ Aside0 (SWK enc 2 w0 blk off d wr))
  case atStart => exact ⟨a, m, rfl, rfl, Nat.le_refl _, by omega, Nat.le_refl _, Nat.le_refl _, ⟨.inl rfl, .inl rfl⟩, S0⟩
  case round =>
    clear S0
    obtain ⟨i, j, rfl, rfl, him, hij, hjb, hg1, HB, S1⟩ := hrel
    by_cases hlt : i < j
    · have hz : (i : Int) < (j : Int) := by omega
      obtain ⟨h, Hh⟩ : ∃ u, Aside0 (u = (i + j) / 2) := ⟨_, ⟨rfl⟩⟩
      have rh := st_same (x := (i : Int) + (j : Int)) (by omega) (by omega)
      have eh : ((i : Int) + (j : Int)) / 2 = (h : Int) := by have := Hh.out; omega
      have lh : i ≤ h ∧ h < j := by have := Hh.out; omega
      obtain ⟨lh1, lh2⟩ := lh
      have hhn : h < d0.size := by omega
      have hmn : m < d0.size := by omega
      have hhd : (h : Int) < (d0.size : Int) := by omega
      have hmd : (m : Int) < (d0.size : Int) := by omega
      obtain ⟨x, y, c, Hc, a0, a1, b0, b1, hcall⟩ := T.test S1.out (by omega) m h (by omega) (by omega)
      by_cases hlv : c < 0
      · have hlvd : decide (c < 0) = true := decide_eq_true hlv
        go_wp2_with fail
        go_quiet_grown (refine Calls.grown_of (hcall _ _))
        have S3 := Aside0.mk (S1.out.grown nq osq)
        clear a0 a1 b0 b1 hcall S1
        generalize grow (wr.drewN nq) osq = w3 at S3 ⊢
        go_wp2
        go_roundg (h - i)
        case measure => omega
        case rel => exact ⟨i, h, rfl, by go_num, him, by omega, by omega, Nat.le_refl _, ⟨HB.out.1, .inr (by rw [ltOf, ← Hc.out]; exact decide_eq_true hlv)⟩, S3⟩
      · have hlvd : decide (c < 0) = false := decide_eq_false hlv
        go_wp2_with fail
        go_quiet_grown (refine Calls.grown_of (hcall _ _))
        have S3 := Aside0.mk (S1.out.grown nq osq)
        clear a0 a1 b0 b1 hcall S1
        generalize grow (wr.drewN nq) osq = w3 at S3 ⊢
        go_wp2
        go_roundg (j - (h + 1))
        case measure => omega
        case rel => exact ⟨h + 1, j, by go_num, rfl, by omega, by omega, hjb, Nat.le_refl _, ⟨.inr (by rw [Nat.add_sub_cancel, ltOf, ← Hc.out]; exact decide_eq_false (by omega)), HB.out.2⟩, S3⟩
    · have hz : ¬ (i : Int) < (j : Int) := by omega
      have hji : j = i := by omega
      subst hji
      go_wp2
      go_loopg [17] (m - j) (fun g2 vk wr => ∃ (k : Nat) (dk : Array α), vk = .int .i64 k ∧ j ≤ k ∧ k ≤ m ∧ k - j ≤ g2 ∧ dk.size = d0.size ∧ Aside0 (ShD d a b m k dk) ∧ Aside0 (SWK enc 2 w0 blk off dk wr))
      case atStart => exact ⟨m, d, rfl, hjb, Nat.le_refl _, Nat.le_refl _, hs, ⟨ShD.start d a b m⟩, S1⟩
      case round =>
        clear S1
        obtain ⟨k, dk, rfl, hak, hkq, hg2, hsk, HR, S2⟩ := hrel
        by_cases hkl : j < k
        · have hz2 : (j : Int) < (k : Int) := by omega
          obtain ⟨v, hv⟩ : ∃ v, v + 1 = k := ⟨k - 1, by omega⟩
          have rv := st_wrap (x := (k : Int) - 1) (u := v) (by omega) (by omega)
          have hvn : v < d0.size := by omega
          have hkn : k < d0.size := by omega
          have hvd : (v : Int) < (d0.size : Int) := by omega
          have hkd : (k : Int) < (d0.size : Int) := by omega
          have hjv : j ≤ v ∧ v ≤ m ∧ v < k := by omega
          have HV := Aside0.mk hv
          obtain ⟨x, y, ⟨a0, fa0⟩, ⟨a1, fa1⟩, ⟨b0, fb0⟩, ⟨b1, fb1⟩, ⟨_, q1⟩, ⟨_, q2⟩, ⟨_, q3⟩, ⟨_, q4⟩, SW⟩ := T.swap S2.out (by omega) k v (by omega) (by omega)
          clear S2 hv
          go_wp2_with fail
          go_big_region_o
          all_goals go_wp2
          go_roundg (v - j)
          case measure => omega
          case rel =>
            refine ⟨v, swp dk k v, by first | rfl | go_num, hjv.1, hjv.2.1, Nat.le_refl _, by rw [size_swp]; exact hsk, ⟨?_⟩, SW⟩
            exact HR.out.step (by omega) HV.out hkq hmb1 hb
        · have hz2 : ¬ (j : Int) < (k : Int) := by omega
          have hkq' : k = j := by omega
          subst hkq'
          go_wp2
          (try simp only [Exit.inBlock, Exit.then])
          refine bodyPost_ret (results_none rfl _ _ _) rfl ?_
          exact ⟨rfl, dk, MergeR.last T.O HAM.out him hjb HB.out.1 HB.out.2 HR.out, S2.out⟩

theorem MergeR.whole (hO : SWO lt) {a m b mid st en : Nat} {d d1 d2 d3 : Array α} (hb : b ≤ d.size) (g1 : a ≤ st) (g2 : st ≤ m) (g3 : st ≤ mid) (g4 : en ≤ b) (g5 : mid + m = st + en) (g6 : a < m) (g7 : m < b)
    (hA : st = a ∨ en = b ∨ lt d[en]! d[st - 1]! = false) (hB : st = mid ∨ st = m ∨ lt d[en - 1]! d[st]! = true)
    (h1 : (st < m ∧ m < en → Rot d st m en d1) ∧ (¬ (st < m ∧ m < en) → d1 = d)) (h2 : (a < st ∧ st < mid → MergeR lt a st mid d1 d2) ∧ (¬ (a < st ∧ st < mid) → d2 = d1)) (h3 : (mid < en ∧ en < b → MergeR lt mid en b d2 d3) ∧ (¬ (mid < en ∧ en < b) → d3 = d2)) : MergeR lt a m b d d3 := by
  have P1 : PermIn a b d d1 := by
    by_cases c : st < m ∧ m < en
    · exact permIn_mono _ _ _ _ _ _ g1 g4 hb (h1.1 c).1
    · rw [h1.2 c]; exact permIn_refl _ _ _
  have z1 : d1.size = d.size := P1.1
  have P2 : PermIn a mid d1 d2 := by
    by_cases c : a < st ∧ st < mid
    · exact (h2.1 c).1
    · rw [h2.2 c]; exact permIn_refl _ _ _
  have z2 : d2.size = d1.size := P2.1
  have P3 : PermIn mid b d2 d3 := by
    by_cases c : mid < en ∧ en < b
    · exact (h3.1 c).1
    · rw [h3.2 c]; exact permIn_refl _ _ _
  refine ⟨permIn_trans _ _ _ _ _ P1 (permIn_trans _ _ _ _ _ (permIn_mono _ _ _ _ _ _ (Nat.le_refl _) (by omega) (by omega) P2) (permIn_mono _ _ _ _ _ _ (by omega) (Nat.le_refl _) (by omega) P3)), fun s1 s2 => ?_⟩
  have e1 : ∀ t, (t < st ∨ en ≤ t) → d1[t]! = d[t]! := fun t ht => by
    by_cases c : st < m ∧ m < en
    · exact (h1.1 c).2.2.2 t ht
    · rw [h1.2 c]
  have e2 : ∀ t, st ≤ t → t < mid → d1[t]! = d[m + (t - st)]! := fun t ht1 ht2 => by
    by_cases c : st < m ∧ m < en
    · have := (h1.1 c).2.1 (t - st) (by omega)
      rw [show st + (t - st) = t by omega] at this
      exact this
    · rw [h1.2 c, show m + (t - st) = t by omega]
  have e3 : ∀ t, mid ≤ t → t < en → d1[t]! = d[st + (t - mid)]! := fun t ht1 ht2 => by
    by_cases c : st < m ∧ m < en
    · have := (h1.1 c).2.2.1 (t - mid) (by omega)
      rw [show st + (en - m) + (t - mid) = t by omega] at this
      exact this
    · rw [h1.2 c, show st + (t - mid) = t by omega]
  have q1 : SortedIn lt a st d1 := fun i j hi hij hj => by rw [e1 j (by omega), e1 i (by omega)]; exact s1 _ _ hi hij (by omega)
  have q2 : SortedIn lt st mid d1 := fun i j hi hij hj => by rw [e2 j (by omega) hj, e2 i hi (by omega)]; exact s2 _ _ (by omega) (by omega) (by omega)
  have q3 : SortedIn lt mid en d1 := fun i j hi hij hj => by rw [e3 j (by omega) hj, e3 i hi (by omega)]; exact s1 _ _ (by omega) (by omega) (by omega)
  have q4 : SortedIn lt en b d1 := fun i j hi hij hj => by rw [e1 j (by omega), e1 i (by omega)]; exact s2 _ _ (by omega) hij (by omega)
  have cross : ∀ p, a ≤ p → p < mid → ∀ q, mid ≤ q → q < b → lt d1[q]! d1[p]! = false := fun p hp1 hp2 q hq1 hq2 => by
    rcases Nat.lt_or_ge p st with hp | hp
    · rw [e1 p (by omega)]
      rcases Nat.lt_or_ge q en with hq | hq
      · rw [e3 q hq1 hq]
        exact s1 _ _ hp1 (by omega) (by omega)
      · rw [e1 q (by omega)]
        rcases hA with hA | hA | hA
        · omega
        · omega
        · exact hO.ntrans _ _ _ (sorted_le hO s2 (i := en) (j := q) (by omega) hq hq2) (hO.ntrans _ _ _ hA (sorted_le hO s1 (i := p) (j := st - 1) hp1 (by omega) (by omega)))
    · rw [e2 p hp hp2]
      rcases Nat.lt_or_ge q en with hq | hq
      · rw [e3 q hq1 hq]
        rcases hB with hB | hB | hB
        · omega
        · omega
        · exact hO.ntrans _ _ _ (sorted_le hO s1 (i := st) (j := st + (q - mid)) g1 (by omega) (by omega)) (hO.ntrans _ _ _ (lt_le hO hB) (sorted_le hO s2 (i := m + (p - st)) (j := en - 1) (by omega) (by omega) (by omega)))
      · rw [e1 q (by omega)]
        exact s2 _ _ (by omega) (by omega) hq2
  have w2 : SortedIn lt a mid d2 := by
    by_cases c : a < st ∧ st < mid
    · exact (h2.1 c).2 q1 q2
    · rw [h2.2 c]
      rcases Nat.lt_or_ge a st with h | h
      · have : st = mid := by omega
        rw [← this]; exact q1
      · have : st = a := by omega
        rw [← this]; exact q2
  have o2 : ∀ t, mid ≤ t → d2[t]! = d1[t]! := fun t ht => P2.2.1 t (.inr ht)
  have r3 : SortedIn lt mid en d2 := fun i j hi hij hj => by rw [o2 j (by omega), o2 i hi]; exact q3 _ _ hi hij hj
  have r4 : SortedIn lt en b d2 := fun i j hi hij hj => by rw [o2 j (by omega), o2 i (by omega)]; exact q4 _ _ hi hij hj
  have w3 : SortedIn lt mid b d3 := by
    by_cases c : mid < en ∧ en < b
    · exact (h3.1 c).2 r3 r4
    · rw [h3.2 c]
      rcases Nat.lt_or_ge mid en with h | h
      · have : en = b := by omega
        rw [← this]; exact r3
      · have : en = mid := by omega
        rw [← this]; exact r4
  have o3 : ∀ t, t < mid → d3[t]! = d2[t]! := fun t ht => P3.2.1 t (.inl ht)
  have c2 : ∀ p, a ≤ p → p < mid → ∀ q, mid ≤ q → q < b → lt d1[q]! d2[p]! = false := fun p hp1 hp2 => permIn_all d1 d2 a mid (fun x => ∀ q, mid ≤ q → q < b → lt d1[q]! x = false) (by omega) P2 cross p hp1 hp2
  have c3 : ∀ p, a ≤ p → p < mid → ∀ q, mid ≤ q → q < b → lt d3[q]! d2[p]! = false := fun p hp1 hp2 => permIn_all d2 d3 mid b (fun y => lt y d2[p]! = false) (by omega) P3 (fun q hq1 hq2 => by rw [o2 q hq1]; exact c2 p hp1 hp2 q hq1 hq2)
  intro i j hi hij hj
  rcases Nat.lt_or_ge j mid with h | h
  · rw [o3 j h, o3 i (by omega)]
    exact w2 _ _ hi hij h
  · rcases Nat.lt_or_ge i mid with h' | h'
    · rw [o3 i h']
      exact c3 i hi h' j h hj
    · exact w3 _ _ h' hij hj

set_option maxHeartbeats 8000000 in
set_option maxRecDepth 1000000 in
theorem st_symG1 (cap a m b : Nat) (d : Array α) (w : World) (T : StK enc fA fl fc fn cf blk off d0 w0) (hs : d.size = d0.size) (S : SWK enc 2 w0 blk off d w) (ham : a + 1 < m) (hmb : m + 1 < b) (hb : b ≤ d.size) (hgt :  (a + b) / 2 < m)
    (ih : ∀ (a' m' b' : Nat) (d' : Array α) (w' : World), b' - a' < b - a → d'.size = d0.size → SWK enc 2 w0 blk off d' w' → a' < m' → m' < b' → b' ≤ d'.size → Calls Try.prog 62 #[.slice (some ⟨blk, off, none⟩) d0.size cap, .int .i64 a', .int .i64 m', .int .i64 b', .func (.func 55) #[] #[]] w' fun e w'' => e = .returned (.tuple #[]) ∧ ∃ d'', MergeR (ltOf cf) a' m' b' d' d'' ∧ SWK enc 2 w0 blk off d'' w'') :
    Calls Try.prog 62 #[.slice (some ⟨blk, off, none⟩) d0.size cap, .int .i64 a, .int .i64 m, .int .i64 b, .func (.func 55) #[] #[]] w fun e w' =>
      e = .returned (.tuple #[]) ∧ ∃ d', MergeR (ltOf cf) a m b d d' ∧ SWK enc 2 w0 blk off d' w' := by
  have hut32 := Try.underlying38
  have mixed : Try.prog.follows .mixedOrders = true := by first | rfl | kernel_rfl
  have hsz : d0.size < 4611686018427387904 := T.sz
  have S0 := Aside0.mk S
  clear S
  obtain ⟨ma, hma⟩ : ∃ u, u = m - a := ⟨_, rfl⟩
  have r1 := st_wrap (x := (m : Int) - (a : Int)) (u := ma) (by omega) (by omega)
  have r1n : ¬ (ma : Int) = 1 := by omega
  have r1b : ((ma : Int) == 1) = false := by simpa using r1n
  obtain ⟨bm, hbm⟩ : ∃ u, u = b - m := ⟨_, rfl⟩
  have r2 := st_wrap (x := (b : Int) - (m : Int)) (u := bm) (by omega) (by omega)
  have r2n : ¬ (bm : Int) = 1 := by omega
  have r2b : ((bm : Int) == 1) = false := by simpa using r2n
  obtain ⟨md, Hmd⟩ : ∃ u, Aside0 (u = (a + b) / 2) := ⟨_, ⟨rfl⟩⟩
  have rmd := st_same (x := (a : Int) + (b : Int)) (by omega) (by omega)
  have emd : ((a : Int) + (b : Int)) / 2 = (md : Int) := by have := Hmd.out; omega
  have lmd : a ≤ md ∧ md < b := by have := Hmd.out; omega
  obtain ⟨lmd1, lmd2⟩ := lmd
  have hmd : 2 * md ≤ a + b ∧ a + b ≤ 2 * md + 1 := by have := Hmd.out; omega
  have hgm : md < m := by have := Hmd.out; omega
  obtain ⟨n, hn⟩ : ∃ u, u = md + m := ⟨_, rfl⟩
  have r3 := st_wrap (x := (md : Int) + (m : Int)) (u := n) (by omega) (by omega)
  obtain ⟨p, hp⟩ : ∃ u, u + 1 = md + m := ⟨md + m - 1, by omega⟩
  have r4 := st_wrap (x := (n : Int) - 1) (u := p) (by omega) (by omega)
  have g1z : (md : Int) < (m : Int) := by omega
  obtain ⟨s0, hs0⟩ : ∃ u, u + b = md + m := ⟨md + m - b, by omega⟩
  have r5 := st_wrap (x := (n : Int) - (b : Int)) (u := s0) (by omega) (by omega)
  have hs0' : a ≤ s0 ∧ s0 ≤ md := by omega
  have HN := Aside0.mk (And.intro hn (And.intro hp hs0))
  clear hs0
  clear hma hbm hgt hn hp
  have IH := Aside0.mk ih
  clear ih
  go_enter Try.func62, Try.ntmps62
  go_wp2
  go_loopg [20, 21] (md - s0) (fun g1 vi vj wr => ∃ (st r : Nat), vi = .int .i64 st ∧ vj = .int .i64 r ∧ s0 ≤ st ∧ st ≤ r ∧ r ≤ md ∧ r - st ≤ g1 ∧ Aside0 ((st = s0 ∨ ltOf cf d[p - (st - 1)]! d[st - 1]! = false) ∧ (r = md ∨ ltOf cf d[p - r]! d[r]! = true)) ∧ Aside0 (SWK enc 2 w0 blk off d wr))
  case atStart => exact ⟨s0, md, rfl, rfl, Nat.le_refl _, by omega, Nat.le_refl _, Nat.le_refl _, ⟨.inl rfl, .inl rfl⟩, S0⟩
  case round =>
    clear S0
    obtain ⟨st, r, rfl, rfl, him, hij, hjb, hg1, HB, S1⟩ := hrel
    by_cases hlt : st < r
    · have hz : (st : Int) < (r : Int) := by omega
      obtain ⟨c0, Hc0⟩ : ∃ u, Aside0 (u = (st + r) / 2) := ⟨_, ⟨rfl⟩⟩
      have rc0 := st_same (x := (st : Int) + (r : Int)) (by omega) (by omega)
      have ec0 : ((st : Int) + (r : Int)) / 2 = (c0 : Int) := by have := Hc0.out; omega
      have lc0 : st ≤ c0 ∧ c0 < r := by have := Hc0.out; omega
      obtain ⟨lc01, lc02⟩ := lc0
      obtain ⟨pc, hpc⟩ : ∃ u, u = p - c0 := ⟨_, rfl⟩
      have hpc' : pc + c0 + 1 = md + m ∧ pc < d0.size := by have := HN.out; omega
      have rpc := st_wrap (x := (p : Int) - (c0 : Int)) (u := pc) (by have := HN.out; omega) (by omega)
      have hhn : pc < d0.size := hpc'.2
      have hmn : c0 < d0.size := by omega
      have hhd : (pc : Int) < (d0.size : Int) := by omega
      have hcd : (c0 : Int) < (d0.size : Int) := by omega
      obtain ⟨x, y, c, Hc, a0, a1, b0, b1, hcall⟩ := T.test S1.out (by omega) pc c0 (by omega) (by omega)
      have HPC := Aside0.mk hpc
      clear hpc hpc'
      by_cases hlv : c < 0
      · have hlvd : decide (c < 0) = true := decide_eq_true hlv
        go_wp2_with fail
        go_quiet_grown (refine Calls.grown_of (hcall _ _))
        have S3 := Aside0.mk (S1.out.grown nq osq)
        clear a0 a1 b0 b1 hcall S1
        generalize grow (wr.drewN nq) osq = w3 at S3 ⊢
        go_wp2
        go_roundg (c0 - st)
        case measure => omega
        case rel => exact ⟨st, c0, rfl, by go_num, him, by omega, by omega, Nat.le_refl _, ⟨HB.out.1, .inr (by rw [← HPC.out, ltOf, ← Hc.out]; exact decide_eq_true hlv)⟩, S3⟩
      · have hlvd : decide (c < 0) = false := decide_eq_false hlv
        go_wp2_with fail
        go_quiet_grown (refine Calls.grown_of (hcall _ _))
        have S3 := Aside0.mk (S1.out.grown nq osq)
        clear a0 a1 b0 b1 hcall S1
        generalize grow (wr.drewN nq) osq = w3 at S3 ⊢
        go_wp2
        go_roundg (r - (c0 + 1))
        case measure => omega
        case rel => exact ⟨c0 + 1, r, by go_num, rfl, by omega, by omega, hjb, Nat.le_refl _, ⟨.inr (by rw [Nat.add_sub_cancel, ← HPC.out, ltOf, ← Hc.out]; exact decide_eq_false (by omega)), HB.out.2⟩, S3⟩
    · have hz : ¬ (st : Int) < (r : Int) := by omega
      have hji : st = r := by omega
      subst hji
      obtain ⟨en, hen⟩ : ∃ u, u + st = md + m := ⟨md + m - st, by omega⟩
      have ren := st_wrap (x := (n : Int) - (st : Int)) (u := en) (by have := HN.out; omega) (by have := HN.out; omega)
      have HAB := Aside0.mk (show (st = a ∨ en = b ∨ ltOf cf d[en]! d[st - 1]! = false) ∧ (st = md ∨ st = m ∨ ltOf cf d[en - 1]! d[st]! = true) from by
        have h1 := HN.out
        constructor
        · rcases HB.out.1 with h | h
          · exact .inr (.inl (by omega))
          · by_cases hz0 : st = a
            · exact .inl hz0
            · rw [show p - (st - 1) = en by omega] at h
              exact .inr (.inr h)
        · rcases HB.out.2 with h | h
          · exact .inl h
          · rw [show p - st = en - 1 by omega] at h
            exact .inr (.inr h))
      have hen2 : en ≤ b ∧ a ≤ st ∧ st ≤ m ∧ st ≤ md ∧ m ≤ en + m := by have h1 := HN.out; omega
      have ih := IH.out
      clear HB HN hlt hz hij
      by_cases hX : st < m
      · by_cases hY : st < md
        · by_cases hZ : a < st
          · by_cases hV : en < b
            · have f1z : (st : Int) < (m : Int) := by omega
              have f1d : decide ((st : Int) < (m : Int)) = true := decide_eq_true f1z
              have f2z : (m : Int) < (en : Int) := by omega
              have f2d : decide ((m : Int) < (en : Int)) = true := decide_eq_true f2z
              have f3z : (a : Int) < (st : Int) := by omega
              have f3d : decide ((a : Int) < (st : Int)) = true := decide_eq_true f3z
              have f4z : (st : Int) < (md : Int) := by omega
              have f4d : decide ((st : Int) < (md : Int)) = true := decide_eq_true f4z
              have f5z : (md : Int) < (en : Int) := by omega
              have f5d : decide ((md : Int) < (en : Int)) = true := decide_eq_true f5z
              have f6z : (en : Int) < (b : Int) := by omega
              have f6d : decide ((en : Int) < (b : Int)) = true := decide_eq_true f6z
              have CR := Aside0.mk (fun w S => st_rotate cap st m en d w T hs S (by omega) (by omega) (by omega))
              have ZR := Aside0.mk (fun (d1 : Array α) (h : Rot d st m en d1) => show d1.size = d0.size from h.1.1.trans hs)
              have CA := Aside0.mk (fun (d1 : Array α) w (h : d1.size = d0.size) S => ih a st md d1 w (by omega) h S (by omega) (by omega) (by omega))
              have ZA := Aside0.mk (fun (d1 d2 : Array α) (h1 : d1.size = d0.size) (h : MergeR (ltOf cf) a st md d1 d2) => show d2.size = d0.size from h.1.1.trans h1)
              have CB := Aside0.mk (fun (d1 : Array α) w (h : d1.size = d0.size) S => ih md en b d1 w (by omega) h S (by omega) (by omega) (by omega))
              go_wp2_with (first | (go_at_call 69; (with_reducible refine (CR.out _ S1.out).mono ?_); rintro e w' ⟨rfl, d1, HR1, S2⟩; have HR1 := Aside0.mk HR1; have S2 := Aside0.mk S2; clear S1) | (go_at_call 62; (with_reducible refine (CA.out _ _ (ZR.out _ HR1.out) S2.out).mono ?_); rintro e w' ⟨rfl, d2, HR2, S3⟩; have HR2 := Aside0.mk HR2; have S3 := Aside0.mk S3; clear S2) | (go_at_call 62; (with_reducible refine (CB.out _ _ (ZA.out _ _ (ZR.out _ HR1.out) HR2.out) S3.out).mono ?_); rintro e w' ⟨rfl, d3, HR3, S4⟩; have HR3 := Aside0.mk HR3; have S4 := Aside0.mk S4; clear S3))
              all_goals go_end0
              all_goals refine ⟨rfl, d3, MergeR.whole T.O (mid := md) (st := st) (en := en) (d1 := d1) (d2 := d2) hb (by omega) (by omega) (by omega) (by omega) (by omega) (by omega) (by omega) HAB.out.1 HAB.out.2 ⟨fun h => HR1.out, fun h => absurd h (by omega)⟩ ⟨fun h => HR2.out, fun h => absurd h (by omega)⟩ ⟨fun h => HR3.out, fun h => absurd h (by omega)⟩, S4.out⟩
            · have f1z : (st : Int) < (m : Int) := by omega
              have f1d : decide ((st : Int) < (m : Int)) = true := decide_eq_true f1z
              have f2z : (m : Int) < (en : Int) := by omega
              have f2d : decide ((m : Int) < (en : Int)) = true := decide_eq_true f2z
              have f3z : (a : Int) < (st : Int) := by omega
              have f3d : decide ((a : Int) < (st : Int)) = true := decide_eq_true f3z
              have f4z : (st : Int) < (md : Int) := by omega
              have f4d : decide ((st : Int) < (md : Int)) = true := decide_eq_true f4z
              have f5z : (md : Int) < (en : Int) := by omega
              have f5d : decide ((md : Int) < (en : Int)) = true := decide_eq_true f5z
              have f6z : ¬ (en : Int) < (b : Int) := by omega
              have f6d : decide ((en : Int) < (b : Int)) = false := decide_eq_false f6z
              have CR := Aside0.mk (fun w S => st_rotate cap st m en d w T hs S (by omega) (by omega) (by omega))
              have ZR := Aside0.mk (fun (d1 : Array α) (h : Rot d st m en d1) => show d1.size = d0.size from h.1.1.trans hs)
              have CA := Aside0.mk (fun (d1 : Array α) w (h : d1.size = d0.size) S => ih a st md d1 w (by omega) h S (by omega) (by omega) (by omega))
              have ZA := Aside0.mk (fun (d1 d2 : Array α) (h1 : d1.size = d0.size) (h : MergeR (ltOf cf) a st md d1 d2) => show d2.size = d0.size from h.1.1.trans h1)
              go_wp2_with (first | (go_at_call 69; (with_reducible refine (CR.out _ S1.out).mono ?_); rintro e w' ⟨rfl, d1, HR1, S2⟩; have HR1 := Aside0.mk HR1; have S2 := Aside0.mk S2; clear S1) | (go_at_call 62; (with_reducible refine (CA.out _ _ (ZR.out _ HR1.out) S2.out).mono ?_); rintro e w' ⟨rfl, d2, HR2, S3⟩; have HR2 := Aside0.mk HR2; have S3 := Aside0.mk S3; clear S2))
              all_goals go_end0
              all_goals refine ⟨rfl, d2, MergeR.whole T.O (mid := md) (st := st) (en := en) (d1 := d1) (d2 := d2) hb (by omega) (by omega) (by omega) (by omega) (by omega) (by omega) (by omega) HAB.out.1 HAB.out.2 ⟨fun h => HR1.out, fun h => absurd h (by omega)⟩ ⟨fun h => HR2.out, fun h => absurd h (by omega)⟩ ⟨fun h => absurd h (by omega), fun h => rfl⟩, S3.out⟩
          · by_cases hV : en < b
            · have f1z : (st : Int) < (m : Int) := by omega
              have f1d : decide ((st : Int) < (m : Int)) = true := decide_eq_true f1z
              have f2z : (m : Int) < (en : Int) := by omega
              have f2d : decide ((m : Int) < (en : Int)) = true := decide_eq_true f2z
              have f3z : ¬ (a : Int) < (st : Int) := by omega
              have f3d : decide ((a : Int) < (st : Int)) = false := decide_eq_false f3z
              have f4z : (st : Int) < (md : Int) := by omega
              have f4d : decide ((st : Int) < (md : Int)) = true := decide_eq_true f4z
              have f5z : (md : Int) < (en : Int) := by omega
              have f5d : decide ((md : Int) < (en : Int)) = true := decide_eq_true f5z
              have f6z : (en : Int) < (b : Int) := by omega
              have f6d : decide ((en : Int) < (b : Int)) = true := decide_eq_true f6z
              have CR := Aside0.mk (fun w S => st_rotate cap st m en d w T hs S (by omega) (by omega) (by omega))
              have ZR := Aside0.mk (fun (d1 : Array α) (h : Rot d st m en d1) => show d1.size = d0.size from h.1.1.trans hs)
              have CB := Aside0.mk (fun (d1 : Array α) w (h : d1.size = d0.size) S => ih md en b d1 w (by omega) h S (by omega) (by omega) (by omega))
              go_wp2_with (first | (go_at_call 69; (with_reducible refine (CR.out _ S1.out).mono ?_); rintro e w' ⟨rfl, d1, HR1, S2⟩; have HR1 := Aside0.mk HR1; have S2 := Aside0.mk S2; clear S1) | (go_at_call 62; (with_reducible refine (CB.out _ _ (ZR.out _ HR1.out) S2.out).mono ?_); rintro e w' ⟨rfl, d3, HR3, S4⟩; have HR3 := Aside0.mk HR3; have S4 := Aside0.mk S4; clear S2))
              all_goals go_end0
              all_goals refine ⟨rfl, d3, MergeR.whole T.O (mid := md) (st := st) (en := en) (d1 := d1) (d2 := d1) hb (by omega) (by omega) (by omega) (by omega) (by omega) (by omega) (by omega) HAB.out.1 HAB.out.2 ⟨fun h => HR1.out, fun h => absurd h (by omega)⟩ ⟨fun h => absurd h (by omega), fun h => rfl⟩ ⟨fun h => HR3.out, fun h => absurd h (by omega)⟩, S4.out⟩
            · have f1z : (st : Int) < (m : Int) := by omega
              have f1d : decide ((st : Int) < (m : Int)) = true := decide_eq_true f1z
              have f2z : (m : Int) < (en : Int) := by omega
              have f2d : decide ((m : Int) < (en : Int)) = true := decide_eq_true f2z
              have f3z : ¬ (a : Int) < (st : Int) := by omega
              have f3d : decide ((a : Int) < (st : Int)) = false := decide_eq_false f3z
              have f4z : (st : Int) < (md : Int) := by omega
              have f4d : decide ((st : Int) < (md : Int)) = true := decide_eq_true f4z
              have f5z : (md : Int) < (en : Int) := by omega
              have f5d : decide ((md : Int) < (en : Int)) = true := decide_eq_true f5z
              have f6z : ¬ (en : Int) < (b : Int) := by omega
              have f6d : decide ((en : Int) < (b : Int)) = false := decide_eq_false f6z
              have CR := Aside0.mk (fun w S => st_rotate cap st m en d w T hs S (by omega) (by omega) (by omega))
              have ZR := Aside0.mk (fun (d1 : Array α) (h : Rot d st m en d1) => show d1.size = d0.size from h.1.1.trans hs)
              go_wp2_with (first | (go_at_call 69; (with_reducible refine (CR.out _ S1.out).mono ?_); rintro e w' ⟨rfl, d1, HR1, S2⟩; have HR1 := Aside0.mk HR1; have S2 := Aside0.mk S2; clear S1))
              all_goals go_end0
              all_goals refine ⟨rfl, d1, MergeR.whole T.O (mid := md) (st := st) (en := en) (d1 := d1) (d2 := d1) hb (by omega) (by omega) (by omega) (by omega) (by omega) (by omega) (by omega) HAB.out.1 HAB.out.2 ⟨fun h => HR1.out, fun h => absurd h (by omega)⟩ ⟨fun h => absurd h (by omega), fun h => rfl⟩ ⟨fun h => absurd h (by omega), fun h => rfl⟩, S2.out⟩
        · by_cases hZ : a < st
          · by_cases hV : en < b
            · have f1z : (st : Int) < (m : Int) := by omega
              have f1d : decide ((st : Int) < (m : Int)) = true := decide_eq_true f1z
              have f2z : ¬ (m : Int) < (en : Int) := by omega
              have f2d : decide ((m : Int) < (en : Int)) = false := decide_eq_false f2z
              have f3z : (a : Int) < (st : Int) := by omega
              have f3d : decide ((a : Int) < (st : Int)) = true := decide_eq_true f3z
              have f4z : ¬ (st : Int) < (md : Int) := by omega
              have f4d : decide ((st : Int) < (md : Int)) = false := decide_eq_false f4z
              have f5z : (md : Int) < (en : Int) := by omega
              have f5d : decide ((md : Int) < (en : Int)) = true := decide_eq_true f5z
              have f6z : (en : Int) < (b : Int) := by omega
              have f6d : decide ((en : Int) < (b : Int)) = true := decide_eq_true f6z
              have CB := Aside0.mk (fun (d1 : Array α) w (h : d1.size = d0.size) S => ih md en b d1 w (by omega) h S (by omega) (by omega) (by omega))
              go_wp2_with (first | (go_at_call 62; (with_reducible refine (CB.out d _ hs S1.out).mono ?_); rintro e w' ⟨rfl, d3, HR3, S4⟩; have HR3 := Aside0.mk HR3; have S4 := Aside0.mk S4; clear S1))
              all_goals go_end0
              all_goals refine ⟨rfl, d3, MergeR.whole T.O (mid := md) (st := st) (en := en) (d1 := d) (d2 := d) hb (by omega) (by omega) (by omega) (by omega) (by omega) (by omega) (by omega) HAB.out.1 HAB.out.2 ⟨fun h => absurd h (by omega), fun h => rfl⟩ ⟨fun h => absurd h (by omega), fun h => rfl⟩ ⟨fun h => HR3.out, fun h => absurd h (by omega)⟩, S4.out⟩
            · have f1z : (st : Int) < (m : Int) := by omega
              have f1d : decide ((st : Int) < (m : Int)) = true := decide_eq_true f1z
              have f2z : ¬ (m : Int) < (en : Int) := by omega
              have f2d : decide ((m : Int) < (en : Int)) = false := decide_eq_false f2z
              have f3z : (a : Int) < (st : Int) := by omega
              have f3d : decide ((a : Int) < (st : Int)) = true := decide_eq_true f3z
              have f4z : ¬ (st : Int) < (md : Int) := by omega
              have f4d : decide ((st : Int) < (md : Int)) = false := decide_eq_false f4z
              have f5z : (md : Int) < (en : Int) := by omega
              have f5d : decide ((md : Int) < (en : Int)) = true := decide_eq_true f5z
              have f6z : ¬ (en : Int) < (b : Int) := by omega
              have f6d : decide ((en : Int) < (b : Int)) = false := decide_eq_false f6z
              go_wp2
              all_goals go_end0
              all_goals refine ⟨rfl, d, MergeR.whole T.O (mid := md) (st := st) (en := en) (d1 := d) (d2 := d) hb (by omega) (by omega) (by omega) (by omega) (by omega) (by omega) (by omega) HAB.out.1 HAB.out.2 ⟨fun h => absurd h (by omega), fun h => rfl⟩ ⟨fun h => absurd h (by omega), fun h => rfl⟩ ⟨fun h => absurd h (by omega), fun h => rfl⟩, S1.out⟩
          · by_cases hV : en < b
            · have f1z : (st : Int) < (m : Int) := by omega
              have f1d : decide ((st : Int) < (m : Int)) = true := decide_eq_true f1z
              have f2z : ¬ (m : Int) < (en : Int) := by omega
              have f2d : decide ((m : Int) < (en : Int)) = false := decide_eq_false f2z
              have f3z : ¬ (a : Int) < (st : Int) := by omega
              have f3d : decide ((a : Int) < (st : Int)) = false := decide_eq_false f3z
              have f4z : ¬ (st : Int) < (md : Int) := by omega
              have f4d : decide ((st : Int) < (md : Int)) = false := decide_eq_false f4z
              have f5z : (md : Int) < (en : Int) := by omega
              have f5d : decide ((md : Int) < (en : Int)) = true := decide_eq_true f5z
              have f6z : (en : Int) < (b : Int) := by omega
              have f6d : decide ((en : Int) < (b : Int)) = true := decide_eq_true f6z
              have CB := Aside0.mk (fun (d1 : Array α) w (h : d1.size = d0.size) S => ih md en b d1 w (by omega) h S (by omega) (by omega) (by omega))
              go_wp2_with (first | (go_at_call 62; (with_reducible refine (CB.out d _ hs S1.out).mono ?_); rintro e w' ⟨rfl, d3, HR3, S4⟩; have HR3 := Aside0.mk HR3; have S4 := Aside0.mk S4; clear S1))
              all_goals go_end0
              all_goals refine ⟨rfl, d3, MergeR.whole T.O (mid := md) (st := st) (en := en) (d1 := d) (d2 := d) hb (by omega) (by omega) (by omega) (by omega) (by omega) (by omega) (by omega) HAB.out.1 HAB.out.2 ⟨fun h => absurd h (by omega), fun h => rfl⟩ ⟨fun h => absurd h (by omega), fun h => rfl⟩ ⟨fun h => HR3.out, fun h => absurd h (by omega)⟩, S4.out⟩
            · have f1z : (st : Int) < (m : Int) := by omega
              have f1d : decide ((st : Int) < (m : Int)) = true := decide_eq_true f1z
              have f2z : ¬ (m : Int) < (en : Int) := by omega
              have f2d : decide ((m : Int) < (en : Int)) = false := decide_eq_false f2z
              have f3z : ¬ (a : Int) < (st : Int) := by omega
              have f3d : decide ((a : Int) < (st : Int)) = false := decide_eq_false f3z
              have f4z : ¬ (st : Int) < (md : Int) := by omega
              have f4d : decide ((st : Int) < (md : Int)) = false := decide_eq_false f4z
              have f5z : (md : Int) < (en : Int) := by omega
              have f5d : decide ((md : Int) < (en : Int)) = true := decide_eq_true f5z
              have f6z : ¬ (en : Int) < (b : Int) := by omega
              have f6d : decide ((en : Int) < (b : Int)) = false := decide_eq_false f6z
              go_wp2
              all_goals go_end0
              all_goals refine ⟨rfl, d, MergeR.whole T.O (mid := md) (st := st) (en := en) (d1 := d) (d2 := d) hb (by omega) (by omega) (by omega) (by omega) (by omega) (by omega) (by omega) HAB.out.1 HAB.out.2 ⟨fun h => absurd h (by omega), fun h => rfl⟩ ⟨fun h => absurd h (by omega), fun h => rfl⟩ ⟨fun h => absurd h (by omega), fun h => rfl⟩, S1.out⟩
      · by_cases hY : st < md
        · by_cases hZ : a < st
          · by_cases hV : en < b
            · have f1z : ¬ (st : Int) < (m : Int) := by omega
              have f1d : decide ((st : Int) < (m : Int)) = false := decide_eq_false f1z
              have f2z : (m : Int) < (en : Int) := by omega
              have f2d : decide ((m : Int) < (en : Int)) = true := decide_eq_true f2z
              have f3z : (a : Int) < (st : Int) := by omega
              have f3d : decide ((a : Int) < (st : Int)) = true := decide_eq_true f3z
              have f4z : (st : Int) < (md : Int) := by omega
              have f4d : decide ((st : Int) < (md : Int)) = true := decide_eq_true f4z
              have f5z : ¬ (md : Int) < (en : Int) := by omega
              have f5d : decide ((md : Int) < (en : Int)) = false := decide_eq_false f5z
              have f6z : (en : Int) < (b : Int) := by omega
              have f6d : decide ((en : Int) < (b : Int)) = true := decide_eq_true f6z
              have CA := Aside0.mk (fun (d1 : Array α) w (h : d1.size = d0.size) S => ih a st md d1 w (by omega) h S (by omega) (by omega) (by omega))
              have ZA := Aside0.mk (fun (d1 d2 : Array α) (h1 : d1.size = d0.size) (h : MergeR (ltOf cf) a st md d1 d2) => show d2.size = d0.size from h.1.1.trans h1)
              go_wp2_with (first | (go_at_call 62; (with_reducible refine (CA.out d _ hs S1.out).mono ?_); rintro e w' ⟨rfl, d2, HR2, S3⟩; have HR2 := Aside0.mk HR2; have S3 := Aside0.mk S3; clear S1))
              all_goals go_end0
              all_goals refine ⟨rfl, d2, MergeR.whole T.O (mid := md) (st := st) (en := en) (d1 := d) (d2 := d2) hb (by omega) (by omega) (by omega) (by omega) (by omega) (by omega) (by omega) HAB.out.1 HAB.out.2 ⟨fun h => absurd h (by omega), fun h => rfl⟩ ⟨fun h => HR2.out, fun h => absurd h (by omega)⟩ ⟨fun h => absurd h (by omega), fun h => rfl⟩, S3.out⟩
            · have f1z : ¬ (st : Int) < (m : Int) := by omega
              have f1d : decide ((st : Int) < (m : Int)) = false := decide_eq_false f1z
              have f2z : (m : Int) < (en : Int) := by omega
              have f2d : decide ((m : Int) < (en : Int)) = true := decide_eq_true f2z
              have f3z : (a : Int) < (st : Int) := by omega
              have f3d : decide ((a : Int) < (st : Int)) = true := decide_eq_true f3z
              have f4z : (st : Int) < (md : Int) := by omega
              have f4d : decide ((st : Int) < (md : Int)) = true := decide_eq_true f4z
              have f5z : ¬ (md : Int) < (en : Int) := by omega
              have f5d : decide ((md : Int) < (en : Int)) = false := decide_eq_false f5z
              have f6z : ¬ (en : Int) < (b : Int) := by omega
              have f6d : decide ((en : Int) < (b : Int)) = false := decide_eq_false f6z
              have CA := Aside0.mk (fun (d1 : Array α) w (h : d1.size = d0.size) S => ih a st md d1 w (by omega) h S (by omega) (by omega) (by omega))
              have ZA := Aside0.mk (fun (d1 d2 : Array α) (h1 : d1.size = d0.size) (h : MergeR (ltOf cf) a st md d1 d2) => show d2.size = d0.size from h.1.1.trans h1)
              go_wp2_with (first | (go_at_call 62; (with_reducible refine (CA.out d _ hs S1.out).mono ?_); rintro e w' ⟨rfl, d2, HR2, S3⟩; have HR2 := Aside0.mk HR2; have S3 := Aside0.mk S3; clear S1))
              all_goals go_end0
              all_goals refine ⟨rfl, d2, MergeR.whole T.O (mid := md) (st := st) (en := en) (d1 := d) (d2 := d2) hb (by omega) (by omega) (by omega) (by omega) (by omega) (by omega) (by omega) HAB.out.1 HAB.out.2 ⟨fun h => absurd h (by omega), fun h => rfl⟩ ⟨fun h => HR2.out, fun h => absurd h (by omega)⟩ ⟨fun h => absurd h (by omega), fun h => rfl⟩, S3.out⟩
          · by_cases hV : en < b
            · have f1z : ¬ (st : Int) < (m : Int) := by omega
              have f1d : decide ((st : Int) < (m : Int)) = false := decide_eq_false f1z
              have f2z : (m : Int) < (en : Int) := by omega
              have f2d : decide ((m : Int) < (en : Int)) = true := decide_eq_true f2z
              have f3z : ¬ (a : Int) < (st : Int) := by omega
              have f3d : decide ((a : Int) < (st : Int)) = false := decide_eq_false f3z
              have f4z : (st : Int) < (md : Int) := by omega
              have f4d : decide ((st : Int) < (md : Int)) = true := decide_eq_true f4z
              have f5z : ¬ (md : Int) < (en : Int) := by omega
              have f5d : decide ((md : Int) < (en : Int)) = false := decide_eq_false f5z
              have f6z : (en : Int) < (b : Int) := by omega
              have f6d : decide ((en : Int) < (b : Int)) = true := decide_eq_true f6z
              go_wp2
              all_goals go_end0
              all_goals refine ⟨rfl, d, MergeR.whole T.O (mid := md) (st := st) (en := en) (d1 := d) (d2 := d) hb (by omega) (by omega) (by omega) (by omega) (by omega) (by omega) (by omega) HAB.out.1 HAB.out.2 ⟨fun h => absurd h (by omega), fun h => rfl⟩ ⟨fun h => absurd h (by omega), fun h => rfl⟩ ⟨fun h => absurd h (by omega), fun h => rfl⟩, S1.out⟩
            · have f1z : ¬ (st : Int) < (m : Int) := by omega
              have f1d : decide ((st : Int) < (m : Int)) = false := decide_eq_false f1z
              have f2z : (m : Int) < (en : Int) := by omega
              have f2d : decide ((m : Int) < (en : Int)) = true := decide_eq_true f2z
              have f3z : ¬ (a : Int) < (st : Int) := by omega
              have f3d : decide ((a : Int) < (st : Int)) = false := decide_eq_false f3z
              have f4z : (st : Int) < (md : Int) := by omega
              have f4d : decide ((st : Int) < (md : Int)) = true := decide_eq_true f4z
              have f5z : ¬ (md : Int) < (en : Int) := by omega
              have f5d : decide ((md : Int) < (en : Int)) = false := decide_eq_false f5z
              have f6z : ¬ (en : Int) < (b : Int) := by omega
              have f6d : decide ((en : Int) < (b : Int)) = false := decide_eq_false f6z
              go_wp2
              all_goals go_end0
              all_goals refine ⟨rfl, d, MergeR.whole T.O (mid := md) (st := st) (en := en) (d1 := d) (d2 := d) hb (by omega) (by omega) (by omega) (by omega) (by omega) (by omega) (by omega) HAB.out.1 HAB.out.2 ⟨fun h => absurd h (by omega), fun h => rfl⟩ ⟨fun h => absurd h (by omega), fun h => rfl⟩ ⟨fun h => absurd h (by omega), fun h => rfl⟩, S1.out⟩
        · by_cases hZ : a < st
          · by_cases hV : en < b
            · have f1z : ¬ (st : Int) < (m : Int) := by omega
              have f1d : decide ((st : Int) < (m : Int)) = false := decide_eq_false f1z
              have f2z : ¬ (m : Int) < (en : Int) := by omega
              have f2d : decide ((m : Int) < (en : Int)) = false := decide_eq_false f2z
              have f3z : (a : Int) < (st : Int) := by omega
              have f3d : decide ((a : Int) < (st : Int)) = true := decide_eq_true f3z
              have f4z : ¬ (st : Int) < (md : Int) := by omega
              have f4d : decide ((st : Int) < (md : Int)) = false := decide_eq_false f4z
              have f5z : ¬ (md : Int) < (en : Int) := by omega
              have f5d : decide ((md : Int) < (en : Int)) = false := decide_eq_false f5z
              have f6z : (en : Int) < (b : Int) := by omega
              have f6d : decide ((en : Int) < (b : Int)) = true := decide_eq_true f6z
              go_wp2
              all_goals go_end0
              all_goals refine ⟨rfl, d, MergeR.whole T.O (mid := md) (st := st) (en := en) (d1 := d) (d2 := d) hb (by omega) (by omega) (by omega) (by omega) (by omega) (by omega) (by omega) HAB.out.1 HAB.out.2 ⟨fun h => absurd h (by omega), fun h => rfl⟩ ⟨fun h => absurd h (by omega), fun h => rfl⟩ ⟨fun h => absurd h (by omega), fun h => rfl⟩, S1.out⟩
            · have f1z : ¬ (st : Int) < (m : Int) := by omega
              have f1d : decide ((st : Int) < (m : Int)) = false := decide_eq_false f1z
              have f2z : ¬ (m : Int) < (en : Int) := by omega
              have f2d : decide ((m : Int) < (en : Int)) = false := decide_eq_false f2z
              have f3z : (a : Int) < (st : Int) := by omega
              have f3d : decide ((a : Int) < (st : Int)) = true := decide_eq_true f3z
              have f4z : ¬ (st : Int) < (md : Int) := by omega
              have f4d : decide ((st : Int) < (md : Int)) = false := decide_eq_false f4z
              have f5z : ¬ (md : Int) < (en : Int) := by omega
              have f5d : decide ((md : Int) < (en : Int)) = false := decide_eq_false f5z
              have f6z : ¬ (en : Int) < (b : Int) := by omega
              have f6d : decide ((en : Int) < (b : Int)) = false := decide_eq_false f6z
              go_wp2
              all_goals go_end0
              all_goals refine ⟨rfl, d, MergeR.whole T.O (mid := md) (st := st) (en := en) (d1 := d) (d2 := d) hb (by omega) (by omega) (by omega) (by omega) (by omega) (by omega) (by omega) HAB.out.1 HAB.out.2 ⟨fun h => absurd h (by omega), fun h => rfl⟩ ⟨fun h => absurd h (by omega), fun h => rfl⟩ ⟨fun h => absurd h (by omega), fun h => rfl⟩, S1.out⟩
          · by_cases hV : en < b
            · have f1z : ¬ (st : Int) < (m : Int) := by omega
              have f1d : decide ((st : Int) < (m : Int)) = false := decide_eq_false f1z
              have f2z : ¬ (m : Int) < (en : Int) := by omega
              have f2d : decide ((m : Int) < (en : Int)) = false := decide_eq_false f2z
              have f3z : ¬ (a : Int) < (st : Int) := by omega
              have f3d : decide ((a : Int) < (st : Int)) = false := decide_eq_false f3z
              have f4z : ¬ (st : Int) < (md : Int) := by omega
              have f4d : decide ((st : Int) < (md : Int)) = false := decide_eq_false f4z
              have f5z : ¬ (md : Int) < (en : Int) := by omega
              have f5d : decide ((md : Int) < (en : Int)) = false := decide_eq_false f5z
              have f6z : (en : Int) < (b : Int) := by omega
              have f6d : decide ((en : Int) < (b : Int)) = true := decide_eq_true f6z
              go_wp2
              all_goals go_end0
              all_goals refine ⟨rfl, d, MergeR.whole T.O (mid := md) (st := st) (en := en) (d1 := d) (d2 := d) hb (by omega) (by omega) (by omega) (by omega) (by omega) (by omega) (by omega) HAB.out.1 HAB.out.2 ⟨fun h => absurd h (by omega), fun h => rfl⟩ ⟨fun h => absurd h (by omega), fun h => rfl⟩ ⟨fun h => absurd h (by omega), fun h => rfl⟩, S1.out⟩
            · have f1z : ¬ (st : Int) < (m : Int) := by omega
              have f1d : decide ((st : Int) < (m : Int)) = false := decide_eq_false f1z
              have f2z : ¬ (m : Int) < (en : Int) := by omega
              have f2d : decide ((m : Int) < (en : Int)) = false := decide_eq_false f2z
              have f3z : ¬ (a : Int) < (st : Int) := by omega
              have f3d : decide ((a : Int) < (st : Int)) = false := decide_eq_false f3z
              have f4z : ¬ (st : Int) < (md : Int) := by omega
              have f4d : decide ((st : Int) < (md : Int)) = false := decide_eq_false f4z
              have f5z : ¬ (md : Int) < (en : Int) := by omega
              have f5d : decide ((md : Int) < (en : Int)) = false := decide_eq_false f5z
              have f6z : ¬ (en : Int) < (b : Int) := by omega
              have f6d : decide ((en : Int) < (b : Int)) = false := decide_eq_false f6z
              go_wp2
              all_goals go_end0
              all_goals refine ⟨rfl, d, MergeR.whole T.O (mid := md) (st := st) (en := en) (d1 := d) (d2 := d) hb (by omega) (by omega) (by omega) (by omega) (by omega) (by omega) (by omega) HAB.out.1 HAB.out.2 ⟨fun h => absurd h (by omega), fun h => rfl⟩ ⟨fun h => absurd h (by omega), fun h => rfl⟩ ⟨fun h => absurd h (by omega), fun h => rfl⟩, S1.out⟩

set_option maxHeartbeats 8000000 in
set_option maxRecDepth 1000000 in
theorem st_symG2 (cap a m b : Nat) (d : Array α) (w : World) (T : StK enc fA fl fc fn cf blk off d0 w0) (hs : d.size = d0.size) (S : SWK enc 2 w0 blk off d w) (ham : a + 1 < m) (hmb : m + 1 < b) (hb : b ≤ d.size) (hgt : ¬ (a + b) / 2 < m)
    (ih : ∀ (a' m' b' : Nat) (d' : Array α) (w' : World), b' - a' < b - a → d'.size = d0.size → SWK enc 2 w0 blk off d' w' → a' < m' → m' < b' → b' ≤ d'.size → Calls Try.prog 62 #[.slice (some ⟨blk, off, none⟩) d0.size cap, .int .i64 a', .int .i64 m', .int .i64 b', .func (.func 55) #[] #[]] w' fun e w'' => e = .returned (.tuple #[]) ∧ ∃ d'', MergeR (ltOf cf) a' m' b' d' d'' ∧ SWK enc 2 w0 blk off d'' w'') :
    Calls Try.prog 62 #[.slice (some ⟨blk, off, none⟩) d0.size cap, .int .i64 a, .int .i64 m, .int .i64 b, .func (.func 55) #[] #[]] w fun e w' =>
      e = .returned (.tuple #[]) ∧ ∃ d', MergeR (ltOf cf) a m b d d' ∧ SWK enc 2 w0 blk off d' w' := by
  have hut32 := Try.underlying38
  have mixed : Try.prog.follows .mixedOrders = true := by first | rfl | kernel_rfl
  have hsz : d0.size < 4611686018427387904 := T.sz
  have S0 := Aside0.mk S
  clear S
  obtain ⟨ma, hma⟩ : ∃ u, u = m - a := ⟨_, rfl⟩
  have r1 := st_wrap (x := (m : Int) - (a : Int)) (u := ma) (by omega) (by omega)
  have r1n : ¬ (ma : Int) = 1 := by omega
  have r1b : ((ma : Int) == 1) = false := by simpa using r1n
  obtain ⟨bm, hbm⟩ : ∃ u, u = b - m := ⟨_, rfl⟩
  have r2 := st_wrap (x := (b : Int) - (m : Int)) (u := bm) (by omega) (by omega)
  have r2n : ¬ (bm : Int) = 1 := by omega
  have r2b : ((bm : Int) == 1) = false := by simpa using r2n
  obtain ⟨md, Hmd⟩ : ∃ u, Aside0 (u = (a + b) / 2) := ⟨_, ⟨rfl⟩⟩
  have rmd := st_same (x := (a : Int) + (b : Int)) (by omega) (by omega)
  have emd : ((a : Int) + (b : Int)) / 2 = (md : Int) := by have := Hmd.out; omega
  have lmd : a ≤ md ∧ md < b := by have := Hmd.out; omega
  obtain ⟨lmd1, lmd2⟩ := lmd
  have hmd : 2 * md ≤ a + b ∧ a + b ≤ 2 * md + 1 := by have := Hmd.out; omega
  have hgm : m ≤ md := by have := Hmd.out; omega
  obtain ⟨n, hn⟩ : ∃ u, u = md + m := ⟨_, rfl⟩
  have r3 := st_wrap (x := (md : Int) + (m : Int)) (u := n) (by omega) (by omega)
  obtain ⟨p, hp⟩ : ∃ u, u + 1 = md + m := ⟨md + m - 1, by omega⟩
  have r4 := st_wrap (x := (n : Int) - 1) (u := p) (by omega) (by omega)
  have g1z : ¬ (md : Int) < (m : Int) := by omega
  have g1d : decide ((m : Int) > (md : Int)) = false := decide_eq_false (by omega)
  have HN := Aside0.mk (And.intro hn hp)
  clear hma hbm hgt hn hp
  have IH := Aside0.mk ih
  clear ih
  go_enter Try.func62, Try.ntmps62
  go_wp2
  go_loopg [20, 21] (m - a) (fun g1 vi vj wr => ∃ (st r : Nat), vi = .int .i64 st ∧ vj = .int .i64 r ∧ a ≤ st ∧ st ≤ r ∧ r ≤ m ∧ r - st ≤ g1 ∧ Aside0 ((st = a ∨ ltOf cf d[p - (st - 1)]! d[st - 1]! = false) ∧ (r = m ∨ ltOf cf d[p - r]! d[r]! = true)) ∧ Aside0 (SWK enc 2 w0 blk off d wr))
  case atStart => exact ⟨a, m, rfl, rfl, Nat.le_refl _, by omega, Nat.le_refl _, Nat.le_refl _, ⟨.inl rfl, .inl rfl⟩, S0⟩
  case round =>
    clear S0
    obtain ⟨st, r, rfl, rfl, him, hij, hjb, hg1, HB, S1⟩ := hrel
    by_cases hlt : st < r
    · have hz : (st : Int) < (r : Int) := by omega
      obtain ⟨c0, Hc0⟩ : ∃ u, Aside0 (u = (st + r) / 2) := ⟨_, ⟨rfl⟩⟩
      have rc0 := st_same (x := (st : Int) + (r : Int)) (by omega) (by omega)
      have ec0 : ((st : Int) + (r : Int)) / 2 = (c0 : Int) := by have := Hc0.out; omega
      have lc0 : st ≤ c0 ∧ c0 < r := by have := Hc0.out; omega
      obtain ⟨lc01, lc02⟩ := lc0
      obtain ⟨pc, hpc⟩ : ∃ u, u = p - c0 := ⟨_, rfl⟩
      have hpc' : pc + c0 + 1 = md + m ∧ pc < d0.size := by have := HN.out; omega
      have rpc := st_wrap (x := (p : Int) - (c0 : Int)) (u := pc) (by have := HN.out; omega) (by omega)
      have hhn : pc < d0.size := hpc'.2
      have hmn : c0 < d0.size := by omega
      have hhd : (pc : Int) < (d0.size : Int) := by omega
      have hcd : (c0 : Int) < (d0.size : Int) := by omega
      obtain ⟨x, y, c, Hc, a0, a1, b0, b1, hcall⟩ := T.test S1.out (by omega) pc c0 (by omega) (by omega)
      have HPC := Aside0.mk hpc
      clear hpc hpc'
      by_cases hlv : c < 0
      · have hlvd : decide (c < 0) = true := decide_eq_true hlv
        go_wp2_with fail
        go_quiet_grown (refine Calls.grown_of (hcall _ _))
        have S3 := Aside0.mk (S1.out.grown nq osq)
        clear a0 a1 b0 b1 hcall S1
        generalize grow (wr.drewN nq) osq = w3 at S3 ⊢
        go_wp2
        go_roundg (c0 - st)
        case measure => omega
        case rel => exact ⟨st, c0, rfl, by go_num, him, by omega, by omega, Nat.le_refl _, ⟨HB.out.1, .inr (by rw [← HPC.out, ltOf, ← Hc.out]; exact decide_eq_true hlv)⟩, S3⟩
      · have hlvd : decide (c < 0) = false := decide_eq_false hlv
        go_wp2_with fail
        go_quiet_grown (refine Calls.grown_of (hcall _ _))
        have S3 := Aside0.mk (S1.out.grown nq osq)
        clear a0 a1 b0 b1 hcall S1
        generalize grow (wr.drewN nq) osq = w3 at S3 ⊢
        go_wp2
        go_roundg (r - (c0 + 1))
        case measure => omega
        case rel => exact ⟨c0 + 1, r, by go_num, rfl, by omega, by omega, hjb, Nat.le_refl _, ⟨.inr (by rw [Nat.add_sub_cancel, ← HPC.out, ltOf, ← Hc.out]; exact decide_eq_false (by omega)), HB.out.2⟩, S3⟩
    · have hz : ¬ (st : Int) < (r : Int) := by omega
      have hji : st = r := by omega
      subst hji
      obtain ⟨en, hen⟩ : ∃ u, u + st = md + m := ⟨md + m - st, by omega⟩
      have ren := st_wrap (x := (n : Int) - (st : Int)) (u := en) (by have := HN.out; omega) (by have := HN.out; omega)
      have HAB := Aside0.mk (show (st = a ∨ en = b ∨ ltOf cf d[en]! d[st - 1]! = false) ∧ (st = md ∨ st = m ∨ ltOf cf d[en - 1]! d[st]! = true) from by
        have h1 := HN.out
        constructor
        · rcases HB.out.1 with h | h
          · exact .inl h
          · by_cases hz0 : st = a
            · exact .inl hz0
            · rw [show p - (st - 1) = en by omega] at h
              exact .inr (.inr h)
        · rcases HB.out.2 with h | h
          · exact .inr (.inl h)
          · rw [show p - st = en - 1 by omega] at h
            exact .inr (.inr h))
      have hen2 : en ≤ b ∧ a ≤ st ∧ st ≤ m ∧ st ≤ md ∧ m ≤ en + m := by have h1 := HN.out; omega
      have ih := IH.out
      clear HB HN hlt hz hij
      by_cases hX : st < m
      · by_cases hY : st < md
        · by_cases hZ : a < st
          · by_cases hV : en < b
            · have f1z : (st : Int) < (m : Int) := by omega
              have f1d : decide ((st : Int) < (m : Int)) = true := decide_eq_true f1z
              have f2z : (m : Int) < (en : Int) := by omega
              have f2d : decide ((m : Int) < (en : Int)) = true := decide_eq_true f2z
              have f3z : (a : Int) < (st : Int) := by omega
              have f3d : decide ((a : Int) < (st : Int)) = true := decide_eq_true f3z
              have f4z : (st : Int) < (md : Int) := by omega
              have f4d : decide ((st : Int) < (md : Int)) = true := decide_eq_true f4z
              have f5z : (md : Int) < (en : Int) := by omega
              have f5d : decide ((md : Int) < (en : Int)) = true := decide_eq_true f5z
              have f6z : (en : Int) < (b : Int) := by omega
              have f6d : decide ((en : Int) < (b : Int)) = true := decide_eq_true f6z
              have CR := Aside0.mk (fun w S => st_rotate cap st m en d w T hs S (by omega) (by omega) (by omega))
              have ZR := Aside0.mk (fun (d1 : Array α) (h : Rot d st m en d1) => show d1.size = d0.size from h.1.1.trans hs)
              have CA := Aside0.mk (fun (d1 : Array α) w (h : d1.size = d0.size) S => ih a st md d1 w (by omega) h S (by omega) (by omega) (by omega))
              have ZA := Aside0.mk (fun (d1 d2 : Array α) (h1 : d1.size = d0.size) (h : MergeR (ltOf cf) a st md d1 d2) => show d2.size = d0.size from h.1.1.trans h1)
              have CB := Aside0.mk (fun (d1 : Array α) w (h : d1.size = d0.size) S => ih md en b d1 w (by omega) h S (by omega) (by omega) (by omega))
              go_wp2_with (first | (go_at_call 69; (with_reducible refine (CR.out _ S1.out).mono ?_); rintro e w' ⟨rfl, d1, HR1, S2⟩; have HR1 := Aside0.mk HR1; have S2 := Aside0.mk S2; clear S1) | (go_at_call 62; (with_reducible refine (CA.out _ _ (ZR.out _ HR1.out) S2.out).mono ?_); rintro e w' ⟨rfl, d2, HR2, S3⟩; have HR2 := Aside0.mk HR2; have S3 := Aside0.mk S3; clear S2) | (go_at_call 62; (with_reducible refine (CB.out _ _ (ZA.out _ _ (ZR.out _ HR1.out) HR2.out) S3.out).mono ?_); rintro e w' ⟨rfl, d3, HR3, S4⟩; have HR3 := Aside0.mk HR3; have S4 := Aside0.mk S4; clear S3))
              all_goals go_end0
              all_goals refine ⟨rfl, d3, MergeR.whole T.O (mid := md) (st := st) (en := en) (d1 := d1) (d2 := d2) hb (by omega) (by omega) (by omega) (by omega) (by omega) (by omega) (by omega) HAB.out.1 HAB.out.2 ⟨fun h => HR1.out, fun h => absurd h (by omega)⟩ ⟨fun h => HR2.out, fun h => absurd h (by omega)⟩ ⟨fun h => HR3.out, fun h => absurd h (by omega)⟩, S4.out⟩
            · have f1z : (st : Int) < (m : Int) := by omega
              have f1d : decide ((st : Int) < (m : Int)) = true := decide_eq_true f1z
              have f2z : (m : Int) < (en : Int) := by omega
              have f2d : decide ((m : Int) < (en : Int)) = true := decide_eq_true f2z
              have f3z : (a : Int) < (st : Int) := by omega
              have f3d : decide ((a : Int) < (st : Int)) = true := decide_eq_true f3z
              have f4z : (st : Int) < (md : Int) := by omega
              have f4d : decide ((st : Int) < (md : Int)) = true := decide_eq_true f4z
              have f5z : (md : Int) < (en : Int) := by omega
              have f5d : decide ((md : Int) < (en : Int)) = true := decide_eq_true f5z
              have f6z : ¬ (en : Int) < (b : Int) := by omega
              have f6d : decide ((en : Int) < (b : Int)) = false := decide_eq_false f6z
              have CR := Aside0.mk (fun w S => st_rotate cap st m en d w T hs S (by omega) (by omega) (by omega))
              have ZR := Aside0.mk (fun (d1 : Array α) (h : Rot d st m en d1) => show d1.size = d0.size from h.1.1.trans hs)
              have CA := Aside0.mk (fun (d1 : Array α) w (h : d1.size = d0.size) S => ih a st md d1 w (by omega) h S (by omega) (by omega) (by omega))
              have ZA := Aside0.mk (fun (d1 d2 : Array α) (h1 : d1.size = d0.size) (h : MergeR (ltOf cf) a st md d1 d2) => show d2.size = d0.size from h.1.1.trans h1)
              go_wp2_with (first | (go_at_call 69; (with_reducible refine (CR.out _ S1.out).mono ?_); rintro e w' ⟨rfl, d1, HR1, S2⟩; have HR1 := Aside0.mk HR1; have S2 := Aside0.mk S2; clear S1) | (go_at_call 62; (with_reducible refine (CA.out _ _ (ZR.out _ HR1.out) S2.out).mono ?_); rintro e w' ⟨rfl, d2, HR2, S3⟩; have HR2 := Aside0.mk HR2; have S3 := Aside0.mk S3; clear S2))
              all_goals go_end0
              all_goals refine ⟨rfl, d2, MergeR.whole T.O (mid := md) (st := st) (en := en) (d1 := d1) (d2 := d2) hb (by omega) (by omega) (by omega) (by omega) (by omega) (by omega) (by omega) HAB.out.1 HAB.out.2 ⟨fun h => HR1.out, fun h => absurd h (by omega)⟩ ⟨fun h => HR2.out, fun h => absurd h (by omega)⟩ ⟨fun h => absurd h (by omega), fun h => rfl⟩, S3.out⟩
          · by_cases hV : en < b
            · have f1z : (st : Int) < (m : Int) := by omega
              have f1d : decide ((st : Int) < (m : Int)) = true := decide_eq_true f1z
              have f2z : (m : Int) < (en : Int) := by omega
              have f2d : decide ((m : Int) < (en : Int)) = true := decide_eq_true f2z
              have f3z : ¬ (a : Int) < (st : Int) := by omega
              have f3d : decide ((a : Int) < (st : Int)) = false := decide_eq_false f3z
              have f4z : (st : Int) < (md : Int) := by omega
              have f4d : decide ((st : Int) < (md : Int)) = true := decide_eq_true f4z
              have f5z : (md : Int) < (en : Int) := by omega
              have f5d : decide ((md : Int) < (en : Int)) = true := decide_eq_true f5z
              have f6z : (en : Int) < (b : Int) := by omega
              have f6d : decide ((en : Int) < (b : Int)) = true := decide_eq_true f6z
              have CR := Aside0.mk (fun w S => st_rotate cap st m en d w T hs S (by omega) (by omega) (by omega))
              have ZR := Aside0.mk (fun (d1 : Array α) (h : Rot d st m en d1) => show d1.size = d0.size from h.1.1.trans hs)
              have CB := Aside0.mk (fun (d1 : Array α) w (h : d1.size = d0.size) S => ih md en b d1 w (by omega) h S (by omega) (by omega) (by omega))
              go_wp2_with (first | (go_at_call 69; (with_reducible refine (CR.out _ S1.out).mono ?_); rintro e w' ⟨rfl, d1, HR1, S2⟩; have HR1 := Aside0.mk HR1; have S2 := Aside0.mk S2; clear S1) | (go_at_call 62; (with_reducible refine (CB.out _ _ (ZR.out _ HR1.out) S2.out).mono ?_); rintro e w' ⟨rfl, d3, HR3, S4⟩; have HR3 := Aside0.mk HR3; have S4 := Aside0.mk S4; clear S2))
              all_goals go_end0
              all_goals refine ⟨rfl, d3, MergeR.whole T.O (mid := md) (st := st) (en := en) (d1 := d1) (d2 := d1) hb (by omega) (by omega) (by omega) (by omega) (by omega) (by omega) (by omega) HAB.out.1 HAB.out.2 ⟨fun h => HR1.out, fun h => absurd h (by omega)⟩ ⟨fun h => absurd h (by omega), fun h => rfl⟩ ⟨fun h => HR3.out, fun h => absurd h (by omega)⟩, S4.out⟩
            · have f1z : (st : Int) < (m : Int) := by omega
              have f1d : decide ((st : Int) < (m : Int)) = true := decide_eq_true f1z
              have f2z : (m : Int) < (en : Int) := by omega
              have f2d : decide ((m : Int) < (en : Int)) = true := decide_eq_true f2z
              have f3z : ¬ (a : Int) < (st : Int) := by omega
              have f3d : decide ((a : Int) < (st : Int)) = false := decide_eq_false f3z
              have f4z : (st : Int) < (md : Int) := by omega
              have f4d : decide ((st : Int) < (md : Int)) = true := decide_eq_true f4z
              have f5z : (md : Int) < (en : Int) := by omega
              have f5d : decide ((md : Int) < (en : Int)) = true := decide_eq_true f5z
              have f6z : ¬ (en : Int) < (b : Int) := by omega
              have f6d : decide ((en : Int) < (b : Int)) = false := decide_eq_false f6z
              have CR := Aside0.mk (fun w S => st_rotate cap st m en d w T hs S (by omega) (by omega) (by omega))
              have ZR := Aside0.mk (fun (d1 : Array α) (h : Rot d st m en d1) => show d1.size = d0.size from h.1.1.trans hs)
              go_wp2_with (first | (go_at_call 69; (with_reducible refine (CR.out _ S1.out).mono ?_); rintro e w' ⟨rfl, d1, HR1, S2⟩; have HR1 := Aside0.mk HR1; have S2 := Aside0.mk S2; clear S1))
              all_goals go_end0
              all_goals refine ⟨rfl, d1, MergeR.whole T.O (mid := md) (st := st) (en := en) (d1 := d1) (d2 := d1) hb (by omega) (by omega) (by omega) (by omega) (by omega) (by omega) (by omega) HAB.out.1 HAB.out.2 ⟨fun h => HR1.out, fun h => absurd h (by omega)⟩ ⟨fun h => absurd h (by omega), fun h => rfl⟩ ⟨fun h => absurd h (by omega), fun h => rfl⟩, S2.out⟩
        · by_cases hZ : a < st
          · by_cases hV : en < b
            · have f1z : (st : Int) < (m : Int) := by omega
              have f1d : decide ((st : Int) < (m : Int)) = true := decide_eq_true f1z
              have f2z : ¬ (m : Int) < (en : Int) := by omega
              have f2d : decide ((m : Int) < (en : Int)) = false := decide_eq_false f2z
              have f3z : (a : Int) < (st : Int) := by omega
              have f3d : decide ((a : Int) < (st : Int)) = true := decide_eq_true f3z
              have f4z : ¬ (st : Int) < (md : Int) := by omega
              have f4d : decide ((st : Int) < (md : Int)) = false := decide_eq_false f4z
              have f5z : (md : Int) < (en : Int) := by omega
              have f5d : decide ((md : Int) < (en : Int)) = true := decide_eq_true f5z
              have f6z : (en : Int) < (b : Int) := by omega
              have f6d : decide ((en : Int) < (b : Int)) = true := decide_eq_true f6z
              have CB := Aside0.mk (fun (d1 : Array α) w (h : d1.size = d0.size) S => ih md en b d1 w (by omega) h S (by omega) (by omega) (by omega))
              go_wp2_with (first | (go_at_call 62; (with_reducible refine (CB.out d _ hs S1.out).mono ?_); rintro e w' ⟨rfl, d3, HR3, S4⟩; have HR3 := Aside0.mk HR3; have S4 := Aside0.mk S4; clear S1))
              all_goals go_end0
              all_goals refine ⟨rfl, d3, MergeR.whole T.O (mid := md) (st := st) (en := en) (d1 := d) (d2 := d) hb (by omega) (by omega) (by omega) (by omega) (by omega) (by omega) (by omega) HAB.out.1 HAB.out.2 ⟨fun h => absurd h (by omega), fun h => rfl⟩ ⟨fun h => absurd h (by omega), fun h => rfl⟩ ⟨fun h => HR3.out, fun h => absurd h (by omega)⟩, S4.out⟩
            · have f1z : (st : Int) < (m : Int) := by omega
              have f1d : decide ((st : Int) < (m : Int)) = true := decide_eq_true f1z
              have f2z : ¬ (m : Int) < (en : Int) := by omega
              have f2d : decide ((m : Int) < (en : Int)) = false := decide_eq_false f2z
              have f3z : (a : Int) < (st : Int) := by omega
              have f3d : decide ((a : Int) < (st : Int)) = true := decide_eq_true f3z
              have f4z : ¬ (st : Int) < (md : Int) := by omega
              have f4d : decide ((st : Int) < (md : Int)) = false := decide_eq_false f4z
              have f5z : (md : Int) < (en : Int) := by omega
              have f5d : decide ((md : Int) < (en : Int)) = true := decide_eq_true f5z
              have f6z : ¬ (en : Int) < (b : Int) := by omega
              have f6d : decide ((en : Int) < (b : Int)) = false := decide_eq_false f6z
              go_wp2
              all_goals go_end0
              all_goals refine ⟨rfl, d, MergeR.whole T.O (mid := md) (st := st) (en := en) (d1 := d) (d2 := d) hb (by omega) (by omega) (by omega) (by omega) (by omega) (by omega) (by omega) HAB.out.1 HAB.out.2 ⟨fun h => absurd h (by omega), fun h => rfl⟩ ⟨fun h => absurd h (by omega), fun h => rfl⟩ ⟨fun h => absurd h (by omega), fun h => rfl⟩, S1.out⟩
          · by_cases hV : en < b
            · have f1z : (st : Int) < (m : Int) := by omega
              have f1d : decide ((st : Int) < (m : Int)) = true := decide_eq_true f1z
              have f2z : ¬ (m : Int) < (en : Int) := by omega
              have f2d : decide ((m : Int) < (en : Int)) = false := decide_eq_false f2z
              have f3z : ¬ (a : Int) < (st : Int) := by omega
              have f3d : decide ((a : Int) < (st : Int)) = false := decide_eq_false f3z
              have f4z : ¬ (st : Int) < (md : Int) := by omega
              have f4d : decide ((st : Int) < (md : Int)) = false := decide_eq_false f4z
              have f5z : (md : Int) < (en : Int) := by omega
              have f5d : decide ((md : Int) < (en : Int)) = true := decide_eq_true f5z
              have f6z : (en : Int) < (b : Int) := by omega
              have f6d : decide ((en : Int) < (b : Int)) = true := decide_eq_true f6z
              have CB := Aside0.mk (fun (d1 : Array α) w (h : d1.size = d0.size) S => ih md en b d1 w (by omega) h S (by omega) (by omega) (by omega))
              go_wp2_with (first | (go_at_call 62; (with_reducible refine (CB.out d _ hs S1.out).mono ?_); rintro e w' ⟨rfl, d3, HR3, S4⟩; have HR3 := Aside0.mk HR3; have S4 := Aside0.mk S4; clear S1))
              all_goals go_end0
              all_goals refine ⟨rfl, d3, MergeR.whole T.O (mid := md) (st := st) (en := en) (d1 := d) (d2 := d) hb (by omega) (by omega) (by omega) (by omega) (by omega) (by omega) (by omega) HAB.out.1 HAB.out.2 ⟨fun h => absurd h (by omega), fun h => rfl⟩ ⟨fun h => absurd h (by omega), fun h => rfl⟩ ⟨fun h => HR3.out, fun h => absurd h (by omega)⟩, S4.out⟩
            · have f1z : (st : Int) < (m : Int) := by omega
              have f1d : decide ((st : Int) < (m : Int)) = true := decide_eq_true f1z
              have f2z : ¬ (m : Int) < (en : Int) := by omega
              have f2d : decide ((m : Int) < (en : Int)) = false := decide_eq_false f2z
              have f3z : ¬ (a : Int) < (st : Int) := by omega
              have f3d : decide ((a : Int) < (st : Int)) = false := decide_eq_false f3z
              have f4z : ¬ (st : Int) < (md : Int) := by omega
              have f4d : decide ((st : Int) < (md : Int)) = false := decide_eq_false f4z
              have f5z : (md : Int) < (en : Int) := by omega
              have f5d : decide ((md : Int) < (en : Int)) = true := decide_eq_true f5z
              have f6z : ¬ (en : Int) < (b : Int) := by omega
              have f6d : decide ((en : Int) < (b : Int)) = false := decide_eq_false f6z
              go_wp2
              all_goals go_end0
              all_goals refine ⟨rfl, d, MergeR.whole T.O (mid := md) (st := st) (en := en) (d1 := d) (d2 := d) hb (by omega) (by omega) (by omega) (by omega) (by omega) (by omega) (by omega) HAB.out.1 HAB.out.2 ⟨fun h => absurd h (by omega), fun h => rfl⟩ ⟨fun h => absurd h (by omega), fun h => rfl⟩ ⟨fun h => absurd h (by omega), fun h => rfl⟩, S1.out⟩
      · by_cases hY : st < md
        · by_cases hZ : a < st
          · by_cases hV : en < b
            · have f1z : ¬ (st : Int) < (m : Int) := by omega
              have f1d : decide ((st : Int) < (m : Int)) = false := decide_eq_false f1z
              have f2z : (m : Int) < (en : Int) := by omega
              have f2d : decide ((m : Int) < (en : Int)) = true := decide_eq_true f2z
              have f3z : (a : Int) < (st : Int) := by omega
              have f3d : decide ((a : Int) < (st : Int)) = true := decide_eq_true f3z
              have f4z : (st : Int) < (md : Int) := by omega
              have f4d : decide ((st : Int) < (md : Int)) = true := decide_eq_true f4z
              have f5z : ¬ (md : Int) < (en : Int) := by omega
              have f5d : decide ((md : Int) < (en : Int)) = false := decide_eq_false f5z
              have f6z : (en : Int) < (b : Int) := by omega
              have f6d : decide ((en : Int) < (b : Int)) = true := decide_eq_true f6z
              have CA := Aside0.mk (fun (d1 : Array α) w (h : d1.size = d0.size) S => ih a st md d1 w (by omega) h S (by omega) (by omega) (by omega))
              have ZA := Aside0.mk (fun (d1 d2 : Array α) (h1 : d1.size = d0.size) (h : MergeR (ltOf cf) a st md d1 d2) => show d2.size = d0.size from h.1.1.trans h1)
              go_wp2_with (first | (go_at_call 62; (with_reducible refine (CA.out d _ hs S1.out).mono ?_); rintro e w' ⟨rfl, d2, HR2, S3⟩; have HR2 := Aside0.mk HR2; have S3 := Aside0.mk S3; clear S1))
              all_goals go_end0
              all_goals refine ⟨rfl, d2, MergeR.whole T.O (mid := md) (st := st) (en := en) (d1 := d) (d2 := d2) hb (by omega) (by omega) (by omega) (by omega) (by omega) (by omega) (by omega) HAB.out.1 HAB.out.2 ⟨fun h => absurd h (by omega), fun h => rfl⟩ ⟨fun h => HR2.out, fun h => absurd h (by omega)⟩ ⟨fun h => absurd h (by omega), fun h => rfl⟩, S3.out⟩
            · have f1z : ¬ (st : Int) < (m : Int) := by omega
              have f1d : decide ((st : Int) < (m : Int)) = false := decide_eq_false f1z
              have f2z : (m : Int) < (en : Int) := by omega
              have f2d : decide ((m : Int) < (en : Int)) = true := decide_eq_true f2z
              have f3z : (a : Int) < (st : Int) := by omega
              have f3d : decide ((a : Int) < (st : Int)) = true := decide_eq_true f3z
              have f4z : (st : Int) < (md : Int) := by omega
              have f4d : decide ((st : Int) < (md : Int)) = true := decide_eq_true f4z
              have f5z : ¬ (md : Int) < (en : Int) := by omega
              have f5d : decide ((md : Int) < (en : Int)) = false := decide_eq_false f5z
              have f6z : ¬ (en : Int) < (b : Int) := by omega
              have f6d : decide ((en : Int) < (b : Int)) = false := decide_eq_false f6z
              have CA := Aside0.mk (fun (d1 : Array α) w (h : d1.size = d0.size) S => ih a st md d1 w (by omega) h S (by omega) (by omega) (by omega))
              have ZA := Aside0.mk (fun (d1 d2 : Array α) (h1 : d1.size = d0.size) (h : MergeR (ltOf cf) a st md d1 d2) => show d2.size = d0.size from h.1.1.trans h1)
              go_wp2_with (first | (go_at_call 62; (with_reducible refine (CA.out d _ hs S1.out).mono ?_); rintro e w' ⟨rfl, d2, HR2, S3⟩; have HR2 := Aside0.mk HR2; have S3 := Aside0.mk S3; clear S1))
              all_goals go_end0
              all_goals refine ⟨rfl, d2, MergeR.whole T.O (mid := md) (st := st) (en := en) (d1 := d) (d2 := d2) hb (by omega) (by omega) (by omega) (by omega) (by omega) (by omega) (by omega) HAB.out.1 HAB.out.2 ⟨fun h => absurd h (by omega), fun h => rfl⟩ ⟨fun h => HR2.out, fun h => absurd h (by omega)⟩ ⟨fun h => absurd h (by omega), fun h => rfl⟩, S3.out⟩
          · by_cases hV : en < b
            · have f1z : ¬ (st : Int) < (m : Int) := by omega
              have f1d : decide ((st : Int) < (m : Int)) = false := decide_eq_false f1z
              have f2z : (m : Int) < (en : Int) := by omega
              have f2d : decide ((m : Int) < (en : Int)) = true := decide_eq_true f2z
              have f3z : ¬ (a : Int) < (st : Int) := by omega
              have f3d : decide ((a : Int) < (st : Int)) = false := decide_eq_false f3z
              have f4z : (st : Int) < (md : Int) := by omega
              have f4d : decide ((st : Int) < (md : Int)) = true := decide_eq_true f4z
              have f5z : ¬ (md : Int) < (en : Int) := by omega
              have f5d : decide ((md : Int) < (en : Int)) = false := decide_eq_false f5z
              have f6z : (en : Int) < (b : Int) := by omega
              have f6d : decide ((en : Int) < (b : Int)) = true := decide_eq_true f6z
              go_wp2
              all_goals go_end0
              all_goals refine ⟨rfl, d, MergeR.whole T.O (mid := md) (st := st) (en := en) (d1 := d) (d2 := d) hb (by omega) (by omega) (by omega) (by omega) (by omega) (by omega) (by omega) HAB.out.1 HAB.out.2 ⟨fun h => absurd h (by omega), fun h => rfl⟩ ⟨fun h => absurd h (by omega), fun h => rfl⟩ ⟨fun h => absurd h (by omega), fun h => rfl⟩, S1.out⟩
            · have f1z : ¬ (st : Int) < (m : Int) := by omega
              have f1d : decide ((st : Int) < (m : Int)) = false := decide_eq_false f1z
              have f2z : (m : Int) < (en : Int) := by omega
              have f2d : decide ((m : Int) < (en : Int)) = true := decide_eq_true f2z
              have f3z : ¬ (a : Int) < (st : Int) := by omega
              have f3d : decide ((a : Int) < (st : Int)) = false := decide_eq_false f3z
              have f4z : (st : Int) < (md : Int) := by omega
              have f4d : decide ((st : Int) < (md : Int)) = true := decide_eq_true f4z
              have f5z : ¬ (md : Int) < (en : Int) := by omega
              have f5d : decide ((md : Int) < (en : Int)) = false := decide_eq_false f5z
              have f6z : ¬ (en : Int) < (b : Int) := by omega
              have f6d : decide ((en : Int) < (b : Int)) = false := decide_eq_false f6z
              go_wp2
              all_goals go_end0
              all_goals refine ⟨rfl, d, MergeR.whole T.O (mid := md) (st := st) (en := en) (d1 := d) (d2 := d) hb (by omega) (by omega) (by omega) (by omega) (by omega) (by omega) (by omega) HAB.out.1 HAB.out.2 ⟨fun h => absurd h (by omega), fun h => rfl⟩ ⟨fun h => absurd h (by omega), fun h => rfl⟩ ⟨fun h => absurd h (by omega), fun h => rfl⟩, S1.out⟩
        · by_cases hZ : a < st
          · by_cases hV : en < b
            · have f1z : ¬ (st : Int) < (m : Int) := by omega
              have f1d : decide ((st : Int) < (m : Int)) = false := decide_eq_false f1z
              have f2z : ¬ (m : Int) < (en : Int) := by omega
              have f2d : decide ((m : Int) < (en : Int)) = false := decide_eq_false f2z
              have f3z : (a : Int) < (st : Int) := by omega
              have f3d : decide ((a : Int) < (st : Int)) = true := decide_eq_true f3z
              have f4z : ¬ (st : Int) < (md : Int) := by omega
              have f4d : decide ((st : Int) < (md : Int)) = false := decide_eq_false f4z
              have f5z : ¬ (md : Int) < (en : Int) := by omega
              have f5d : decide ((md : Int) < (en : Int)) = false := decide_eq_false f5z
              have f6z : (en : Int) < (b : Int) := by omega
              have f6d : decide ((en : Int) < (b : Int)) = true := decide_eq_true f6z
              go_wp2
              all_goals go_end0
              all_goals refine ⟨rfl, d, MergeR.whole T.O (mid := md) (st := st) (en := en) (d1 := d) (d2 := d) hb (by omega) (by omega) (by omega) (by omega) (by omega) (by omega) (by omega) HAB.out.1 HAB.out.2 ⟨fun h => absurd h (by omega), fun h => rfl⟩ ⟨fun h => absurd h (by omega), fun h => rfl⟩ ⟨fun h => absurd h (by omega), fun h => rfl⟩, S1.out⟩
            · have f1z : ¬ (st : Int) < (m : Int) := by omega
              have f1d : decide ((st : Int) < (m : Int)) = false := decide_eq_false f1z
              have f2z : ¬ (m : Int) < (en : Int) := by omega
              have f2d : decide ((m : Int) < (en : Int)) = false := decide_eq_false f2z
              have f3z : (a : Int) < (st : Int) := by omega
              have f3d : decide ((a : Int) < (st : Int)) = true := decide_eq_true f3z
              have f4z : ¬ (st : Int) < (md : Int) := by omega
              have f4d : decide ((st : Int) < (md : Int)) = false := decide_eq_false f4z
              have f5z : ¬ (md : Int) < (en : Int) := by omega
              have f5d : decide ((md : Int) < (en : Int)) = false := decide_eq_false f5z
              have f6z : ¬ (en : Int) < (b : Int) := by omega
              have f6d : decide ((en : Int) < (b : Int)) = false := decide_eq_false f6z
              go_wp2
              all_goals go_end0
              all_goals refine ⟨rfl, d, MergeR.whole T.O (mid := md) (st := st) (en := en) (d1 := d) (d2 := d) hb (by omega) (by omega) (by omega) (by omega) (by omega) (by omega) (by omega) HAB.out.1 HAB.out.2 ⟨fun h => absurd h (by omega), fun h => rfl⟩ ⟨fun h => absurd h (by omega), fun h => rfl⟩ ⟨fun h => absurd h (by omega), fun h => rfl⟩, S1.out⟩
          · by_cases hV : en < b
            · have f1z : ¬ (st : Int) < (m : Int) := by omega
              have f1d : decide ((st : Int) < (m : Int)) = false := decide_eq_false f1z
              have f2z : ¬ (m : Int) < (en : Int) := by omega
              have f2d : decide ((m : Int) < (en : Int)) = false := decide_eq_false f2z
              have f3z : ¬ (a : Int) < (st : Int) := by omega
              have f3d : decide ((a : Int) < (st : Int)) = false := decide_eq_false f3z
              have f4z : ¬ (st : Int) < (md : Int) := by omega
              have f4d : decide ((st : Int) < (md : Int)) = false := decide_eq_false f4z
              have f5z : ¬ (md : Int) < (en : Int) := by omega
              have f5d : decide ((md : Int) < (en : Int)) = false := decide_eq_false f5z
              have f6z : (en : Int) < (b : Int) := by omega
              have f6d : decide ((en : Int) < (b : Int)) = true := decide_eq_true f6z
              go_wp2
              all_goals go_end0
              all_goals refine ⟨rfl, d, MergeR.whole T.O (mid := md) (st := st) (en := en) (d1 := d) (d2 := d) hb (by omega) (by omega) (by omega) (by omega) (by omega) (by omega) (by omega) HAB.out.1 HAB.out.2 ⟨fun h => absurd h (by omega), fun h => rfl⟩ ⟨fun h => absurd h (by omega), fun h => rfl⟩ ⟨fun h => absurd h (by omega), fun h => rfl⟩, S1.out⟩
            · have f1z : ¬ (st : Int) < (m : Int) := by omega
              have f1d : decide ((st : Int) < (m : Int)) = false := decide_eq_false f1z
              have f2z : ¬ (m : Int) < (en : Int) := by omega
              have f2d : decide ((m : Int) < (en : Int)) = false := decide_eq_false f2z
              have f3z : ¬ (a : Int) < (st : Int) := by omega
              have f3d : decide ((a : Int) < (st : Int)) = false := decide_eq_false f3z
              have f4z : ¬ (st : Int) < (md : Int) := by omega
              have f4d : decide ((st : Int) < (md : Int)) = false := decide_eq_false f4z
              have f5z : ¬ (md : Int) < (en : Int) := by omega
              have f5d : decide ((md : Int) < (en : Int)) = false := decide_eq_false f5z
              have f6z : ¬ (en : Int) < (b : Int) := by omega
              have f6d : decide ((en : Int) < (b : Int)) = false := decide_eq_false f6z
              go_wp2
              all_goals go_end0
              all_goals refine ⟨rfl, d, MergeR.whole T.O (mid := md) (st := st) (en := en) (d1 := d) (d2 := d) hb (by omega) (by omega) (by omega) (by omega) (by omega) (by omega) (by omega) HAB.out.1 HAB.out.2 ⟨fun h => absurd h (by omega), fun h => rfl⟩ ⟨fun h => absurd h (by omega), fun h => rfl⟩ ⟨fun h => absurd h (by omega), fun h => rfl⟩, S1.out⟩

/-- slices.symMergeCmpFunc, whole. -/
theorem st_symMerge (cap : Nat) (T : StK enc fA fl fc fn cf blk off d0 w0) : ∀ (N a m b : Nat) (d : Array α) (w : World), b - a < N → d.size = d0.size → SWK enc 2 w0 blk off d w → a < m → m < b → b ≤ d.size →
    Calls Try.prog 62 #[.slice (some ⟨blk, off, none⟩) d0.size cap, .int .i64 a, .int .i64 m, .int .i64 b, .func (.func 55) #[] #[]] w fun e w' => e = .returned (.tuple #[]) ∧ ∃ d', MergeR (ltOf cf) a m b d d' ∧ SWK enc 2 w0 blk off d' w'
  | 0, _, _, _, _, _, h, _, _, _, _, _ => absurd h (Nat.not_lt_zero _)
  | N + 1, a, m, b, d, w, hN, hs, S, ham, hmb, hb => by
    by_cases h1 : m = a + 1
    · exact st_sym1 cap a m b d w T hs S h1 hmb hb
    · by_cases h2 : b = m + 1
      · exact st_sym2 cap a m b d w T hs S (by omega) h2 hb
      · have ih : ∀ (a' m' b' : Nat) (d' : Array α) (w' : World), b' - a' < b - a → d'.size = d0.size → SWK enc 2 w0 blk off d' w' → a' < m' → m' < b' → b' ≤ d'.size → _ := fun a' m' b' d' w' hlt h S' h3 h4 h5 => st_symMerge cap T N a' m' b' d' w' (by omega) h S' h3 h4 h5
        by_cases hgt : (a + b) / 2 < m
        · exact st_symG1 cap a m b d w T hs S (by omega) (by omega) hb hgt ih
        · exact st_symG2 cap a m b d w T hs S (by omega) (by omega) hb hgt ih

theorem blk_ne {B i j k : Nat} (hB : 0 < B) (hi : i < k * B) (hj : k * B ≤ j) : ¬ i / B = j / B := fun h => by
  have h1 := (Nat.div_lt_iff_lt_mul hB).2 hi
  have h2 := (Nat.le_div_iff_mul_le hB).2 hj
  omega
theorem blk_eq {B i k : Nat} (hB : 0 < B) (h1 : k * B ≤ i) (h2 : i < k * B + B) : i / B = k := by
  have h3 := (Nat.le_div_iff_mul_le hB).2 h1
  have h4 := (Nat.div_lt_iff_lt_mul hB).2 (show i < (k + 1) * B by rw [Nat.add_mul, Nat.one_mul]; exact h2)
  omega
/-- Ahead of a the blocks of B are sorted. -/
def BlkTo (lt : α → α → Bool) (B a : Nat) (d : Array α) : Prop := ∀ i j, i < j → j < a → i / B = j / B → lt d[j]! d[i]! = false
theorem BlkTo.zero (lt : α → α → Bool) (B : Nat) (d : Array α) : BlkTo lt B 0 d := fun i j _ h _ => absurd h (Nat.not_lt_zero _)
theorem BlkTo.step {B k b : Nat} {d d' : Array α} (h : BlkTo lt B (k * B) d) (hB : 0 < B) (hp : PermIn (k * B) b d d') (hs : SortedIn lt (k * B) b d') : BlkTo lt B b d' := fun i j hij hj he => by
  rcases Nat.lt_or_ge j (k * B) with h1 | h1
  · rw [hp.2.1 j (.inl h1), hp.2.1 i (.inl (by omega))]
    exact h i j hij h1 he
  · rcases Nat.lt_or_ge i (k * B) with h2 | h2
    · exact absurd he (blk_ne hB h2 h1)
    · exact hs i j h2 hij hj
/-- Ahead of a the blocks of 2 B, from there on to n those of B. -/
def BlkMid (lt : α → α → Bool) (B a n : Nat) (d : Array α) : Prop := BlkTo lt (2 * B) a d ∧ ∀ i j, a ≤ i → i < j → j < n → i / B = j / B → lt d[j]! d[i]! = false
theorem BlkMid.start {B n : Nat} {d : Array α} (h : BlkTo lt B n d) : BlkMid lt B 0 n d := ⟨BlkTo.zero _ _ _, fun i j _ hij hj he => h i j hij hj he⟩
theorem mul2 (k B : Nat) : k * (2 * B) = 2 * k * B ∧ k * (2 * B) + B = (2 * k + 1) * B := by
  have e : k * (2 * B) = 2 * k * B := by rw [← Nat.mul_assoc, Nat.mul_comm k 2]
  exact ⟨e, by rw [e, Nat.add_mul, Nat.one_mul]⟩
theorem BlkMid.sorted1 {B k n m : Nat} {d : Array α} (h : BlkMid lt B (k * (2 * B)) n d) (hB : 0 < B) (hm : m ≤ k * (2 * B) + B) (hn : m ≤ n) : SortedIn lt (k * (2 * B)) m d := fun i j hi hij hj => by
  have e := (mul2 k B).1
  refine h.2 i j hi hij (by omega) ?_
  rw [blk_eq (k := 2 * k) hB (by omega) (by omega), blk_eq (k := 2 * k) hB (by omega) (by omega)]
theorem BlkMid.sorted2 {B k n b : Nat} {d : Array α} (h : BlkMid lt B (k * (2 * B)) n d) (hB : 0 < B) (hm : b ≤ k * (2 * B) + 2 * B) (hn : b ≤ n) : SortedIn lt (k * (2 * B) + B) b d := fun i j hi hij hj => by
  have e := (mul2 k B).2
  refine h.2 i j (by omega) hij (by omega) ?_
  rw [blk_eq (k := 2 * k + 1) hB (by omega) (by omega), blk_eq (k := 2 * k + 1) hB (by omega) (by omega)]
theorem BlkMid.step {B k n b : Nat} {d d' : Array α} (h : BlkMid lt B (k * (2 * B)) n d) (hB : 0 < B) (ha : k * (2 * B) + B ≤ b) (hb : b ≤ k * (2 * B) + 2 * B) (hbn : b ≤ n) (hp : MergeR lt (k * (2 * B)) (k * (2 * B) + B) b d d') : BlkMid lt B b n d' := by
  have hs := hp.2 (h.sorted1 hB (Nat.le_refl _) (by omega)) (h.sorted2 hB hb hbn)
  refine ⟨h.1.step (by omega) hp.1 hs, fun i j hi hij hj he => ?_⟩
  rw [hp.1.2.1 j (.inr (by omega)), hp.1.2.1 i (.inr hi)]
  exact h.2 i j (by omega) hij hj he
theorem BlkMid.done {B k n : Nat} {d : Array α} (h : BlkMid lt B (k * (2 * B)) n d) (hB : 0 < B) (hn : n ≤ k * (2 * B) + B) : BlkTo lt (2 * B) n d := fun i j hij hj he => by
  rcases Nat.lt_or_ge j (k * (2 * B)) with h1 | h1
  · exact h.1 i j hij h1 he
  · rcases Nat.lt_or_ge i (k * (2 * B)) with h2 | h2
    · exact absurd he (blk_ne (by omega) h2 h1)
    · exact h.sorted1 hB hn (Nat.le_refl _) i j h2 hij hj

set_option maxHeartbeats 8000000 in
set_option maxRecDepth 1000000 in
theorem st_stable (cap n : Nat) (d : Array α) (w : World) (T : StK enc fA fl fc fn cf blk off d0 w0) (hs : d.size = d0.size) (S : SWK enc 2 w0 blk off d w) (hn : n ≤ d.size) :
    Calls Try.prog 50 #[.slice (some ⟨blk, off, none⟩) d0.size cap, .int .i64 n, .func (.func 55) #[] #[]] w fun e w' =>
      e = .returned (.tuple #[]) ∧ ∃ d', (PermIn 0 n d d' ∧ SortedIn (ltOf cf) 0 n d') ∧ SWK enc 2 w0 blk off d' w' := by
  have hut32 := Try.underlying38
  have mixed : Try.prog.follows .mixedOrders = true := by first | rfl | kernel_rfl
  have hsz : d0.size < 4611686018427387904 := T.sz
  have S0 := Aside0.mk S
  clear S
  go_enter Try.func50, Try.ntmps50
  go_wp2
  go_loopg [7, 8] n (fun g1 va vb wr => ∃ (a b k : Nat) (dk : Array α), va = .int .i64 a ∧ vb = .int .i64 b ∧ a ≤ n ∧ n - a ≤ g1 ∧ b ≤ n + 20 ∧ dk.size = d0.size ∧ Aside0 (b = a + 20 ∧ a = k * 20 ∧ PermIn 0 n d dk ∧ BlkTo (ltOf cf) 20 a dk) ∧ Aside0 (SWK enc 2 w0 blk off dk wr))
  case atStart => exact ⟨0, 20, 0, d, rfl, rfl, Nat.zero_le _, Nat.le_refl _, by omega, hs, ⟨rfl, rfl, permIn_refl _ _ _, BlkTo.zero _ _ _⟩, S0⟩
  case round =>
    clear S0
    obtain ⟨a, b, k, dk, rfl, rfl, han, hg1, hbn, hsk, HI, S1⟩ := hrel
    by_cases hlt : b ≤ n
    · have hz : (b : Int) ≤ (n : Int) := by omega
      obtain ⟨b2, hb2⟩ : ∃ u, u = b + 20 := ⟨_, rfl⟩
      have rb := st_wrap (x := (b : Int) + 20) (u := b2) (by omega) (by omega)
      have C := Aside0.mk (fun w S => st_insertionSort cap a b dk w T hsk S (by have := HI.out.1; omega) (by omega))
      have HB := Aside0.mk hb2
      have hab : a < b := by have := HI.out.1; omega
      clear hb2
      go_wp2_with (go_at_call 61; (with_reducible refine (C.out _ S1.out).mono ?_); rintro e w' ⟨rfl, d1, HR, S2⟩; have HR := Aside0.mk HR; have S2 := Aside0.mk S2; clear S1)
      go_roundg (n - b)
      case measure => omega
      case rel =>
        obtain ⟨q1, q2, q3, q4⟩ := HI.out
        have hp := HR.out.1
        refine ⟨b, b2, k + 1, d1, rfl, rfl, hlt, Nat.le_refl _, by have := HB.out; omega, hp.1.trans hsk, ⟨HB.out, by omega, permIn_trans _ _ _ _ _ q3 (permIn_mono _ _ _ _ _ _ (Nat.zero_le _) hlt (by omega) hp), ?_⟩, S2⟩
        subst q2
        exact q4.step (by decide) hp HR.out.2
    · have hz : ¬ (b : Int) ≤ (n : Int) := by omega
      have C := Aside0.mk (fun w S => st_insertionSort cap a n dk w T hsk S han (by omega))
      go_wp2_with (go_at_call 61; (with_reducible refine (C.out _ S1.out).mono ?_); rintro e w' ⟨rfl, d1, HR, S2⟩; have HR := Aside0.mk HR; have S2 := Aside0.mk S2; clear S1)
      have HD := Aside0.mk (show d1.size = d0.size ∧ PermIn 0 n d d1 ∧ BlkTo (ltOf cf) 20 n d1 from by
        obtain ⟨q1, q2, q3, q4⟩ := HI.out
        have hp := HR.out.1
        subst q2
        exact ⟨hp.1.trans hsk, permIn_trans _ _ _ _ _ q3 (permIn_mono _ _ _ _ _ _ (Nat.zero_le _) (Nat.le_refl _) (by omega) hp), q4.step (by decide) hp HR.out.2⟩)
      clear HI HR C hlt hz hbn hg1 han hsk
      go_loopg [6, 7, 8, 9] n (fun g1 vs va vb vm wr => ∃ (B : Nat) (dk : Array α), vs = .int .i64 B ∧ 0 < B ∧ n - B ≤ g1 ∧ dk.size = d0.size ∧ Aside0 (PermIn 0 n d dk ∧ BlkTo (ltOf cf) B n dk) ∧ Aside0 (SWK enc 2 w0 blk off dk wr))
      case atStart => exact ⟨20, d1, rfl, by decide, by omega, HD.out.1, ⟨HD.out.2⟩, S2⟩
      case round =>
        clear S2 HD
        obtain ⟨B, dB, rfl, hB, hgB, hsB, HB, S3⟩ := hrel
        by_cases hBn : B < n
        · have hz : (B : Int) < (n : Int) := by omega
          obtain ⟨D, hD⟩ : ∃ u, u = 2 * B := ⟨_, rfl⟩
          have rD := st_wrap (x := 2 * (B : Int)) (u := D) (by omega) (by omega)
          have rD2 := st_wrap (x := (B : Int) * 2) (u := D) (by omega) (by omega)
          have hD1 : B < D ∧ D ≤ 2 * n := by omega
          have HDD := Aside0.mk hD
          clear hD
          go_wp2
          go_loopg [7, 8] n (fun g2 va vb wr => ∃ (a b k : Nat) (dk : Array α), va = .int .i64 a ∧ vb = .int .i64 b ∧ a ≤ n ∧ n - a ≤ g2 ∧ b ≤ n + D ∧ dk.size = d0.size ∧ Aside0 (b = a + D ∧ a = k * (2 * B) ∧ PermIn 0 n d dk ∧ BlkMid (ltOf cf) B a n dk) ∧ Aside0 (SWK enc 2 w0 blk off dk wr))
          case atStart => exact ⟨0, D, 0, dB, rfl, rfl, Nat.zero_le _, Nat.le_refl _, by omega, hsB, ⟨(Nat.zero_add _).symm, by omega, HB.out.1, BlkMid.start HB.out.2⟩, S3⟩
          case round =>
            clear S3
            obtain ⟨a, b, k, dk, rfl, rfl, han, hg2, hbn, hsk, HI, S4⟩ := hrel
            by_cases hlt : b ≤ n
            · have hz2 : (b : Int) ≤ (n : Int) := by omega
              have hab : a + D = b := by have := HI.out.1; omega
              obtain ⟨m, hm⟩ : ∃ u, u = a + B := ⟨_, rfl⟩
              have rm := st_wrap (x := (a : Int) + (B : Int)) (u := m) (by omega) (by omega)
              obtain ⟨b2, hb2⟩ : ∃ u, u = b + D := ⟨_, rfl⟩
              have rb := st_wrap (x := (b : Int) + (D : Int)) (u := b2) (by omega) (by omega)
              have C := Aside0.mk (fun w S => st_symMerge cap T (b - a + 1) a m b dk w (by omega) hsk S (by omega) (by omega) (by omega))
              have HM := Aside0.mk (And.intro hm hb2)
              have hab1 : a < b := by omega
              clear hm hb2 hab
              go_wp2_with (go_at_call 62; (with_reducible refine (C.out _ S4.out).mono ?_); rintro e w' ⟨rfl, d1, HR, S5⟩; have HR := Aside0.mk HR; have S5 := Aside0.mk S5; clear S4)
              go_roundg (n - b)
              case measure => omega
              case rel =>
                obtain ⟨q1, q2, q3, q4⟩ := HI.out
                have e1 := HDD.out
                have e2 := HM.out
                have hp := HR.out
                rw [e2.1, q2] at hp
                refine ⟨b, b2, k + 1, d1, rfl, rfl, hlt, Nat.le_refl _, by omega, hp.1.1.trans hsk, ⟨by omega, by rw [Nat.add_mul, Nat.one_mul]; omega, permIn_trans _ _ _ _ _ q3 (permIn_mono _ _ _ _ _ _ (Nat.zero_le _) hlt (by omega) hp.1), ?_⟩, S5⟩
                rw [q2] at q4
                exact q4.step hB (by omega) (by omega) hlt hp
            · have hz2 : ¬ (b : Int) ≤ (n : Int) := by omega
              obtain ⟨m, hm⟩ : ∃ u, u = a + B := ⟨_, rfl⟩
              have rm := st_wrap (x := (a : Int) + (B : Int)) (u := m) (by omega) (by omega)
              by_cases hmn : m < n
              · have hz3 : (m : Int) < (n : Int) := by omega
                have C := Aside0.mk (fun w S => st_symMerge cap T (n - a + 1) a m n dk w (by omega) hsk S (by omega) hmn (by omega))
                have HM := Aside0.mk hm
                clear hm
                go_wp2_with (go_at_call 62; (with_reducible refine (C.out _ S4.out).mono ?_); rintro e w' ⟨rfl, d1, HR, S5⟩; have HR := Aside0.mk HR; have S5 := Aside0.mk S5; clear S4)
                go_roundg (n - D)
                case measure => omega
                case rel =>
                  obtain ⟨q1, q2, q3, q4⟩ := HI.out
                  have e1 := HDD.out
                  have hp := HR.out
                  have e2 := HM.out
                  rw [e2, q2] at hp
                  rw [q2] at q4
                  exact ⟨D, d1, rfl, by omega, Nat.le_refl _, hp.1.1.trans hsk, ⟨permIn_trans _ _ _ _ _ q3 (permIn_mono _ _ _ _ _ _ (Nat.zero_le _) (Nat.le_refl _) (by omega) hp.1), by rw [e1]; exact (q4.step hB (by omega) (by omega) (Nat.le_refl _) hp).1⟩, S5⟩
              · have hz3 : ¬ (m : Int) < (n : Int) := by omega
                have HM := Aside0.mk hm
                clear hm
                go_wp2
                go_roundg (n - D)
                case measure => omega
                case rel =>
                  obtain ⟨q1, q2, q3, q4⟩ := HI.out
                  have e1 := HDD.out
                  have e2 := HM.out
                  rw [q2] at q4
                  exact ⟨D, dk, rfl, by omega, Nat.le_refl _, hsk, ⟨q3, by rw [e1]; exact q4.done hB (by omega)⟩, S4⟩
        · have hz : ¬ (B : Int) < (n : Int) := by omega
          go_wp2
          go_end0
          refine ⟨rfl, dB, ⟨HB.out.1, fun i j _ hij hj => HB.out.2 i j hij hj ?_⟩, S3.out⟩
          rw [Nat.div_eq_of_lt (by omega), Nat.div_eq_of_lt (by omega)]

set_option maxHeartbeats 8000000 in
set_option maxRecDepth 1000000 in
theorem st_sort (cap : Nat) (d : Array α) (w : World) (T : StK enc fA fl fc fn cf blk off d0 w0) (hs : d.size = d0.size) (S : SWK enc 2 w0 blk off d w) :
    Calls Try.prog 54 #[.slice (some ⟨blk, off, none⟩) d0.size cap, .func (.func 55) #[] #[]] w fun e w' =>
      e = .returned (.tuple #[]) ∧ ∃ d', (PermIn 0 d0.size d d' ∧ SortedIn (ltOf cf) 0 d0.size d') ∧ SWK enc 2 w0 blk off d' w' := by
  have hut32 := Try.underlying38
  have mixed : Try.prog.follows .mixedOrders = true := by first | rfl | kernel_rfl
  have hsz : d0.size < 4611686018427387904 := T.sz
  have S0 := Aside0.mk S
  clear S
  have C := Aside0.mk (fun w S => st_stable cap d0.size d w T hs S (by omega))
  go_enter Try.func54, Try.ntmps54
  go_wp2_with (go_at_call 50; (with_reducible refine (C.out _ S0.out).mono ?_); rintro e w' ⟨rfl, d1, HR, S2⟩; have HR := Aside0.mk HR; have S2 := Aside0.mk S2; clear S0)
  go_end0
  exact ⟨rfl, d1, HR.out, S2.out⟩
end
end
section
/-- Two lists of numbers, as a dictionary has them: below 0, 0, above 0. -/
def cmpL : List Int → List Int → Int
  | [], [] => 0
  | [], _ :: _ => -1
  | _ :: _, [] => 1
  | a :: l, b :: m => if a < b then -1 else if b < a then 1 else cmpL l m
theorem cmpL_self : ∀ l, cmpL l l = 0
  | [] => rfl
  | a :: l => by rw [cmpL, if_neg (by omega), if_neg (by omega)]; exact cmpL_self l
theorem cmpL_eq : ∀ a b, cmpL a b = 0 → a = b
  | [], [], _ => rfl
  | [], _ :: _, h => by cases h
  | _ :: _, [], h => by cases h
  | a :: l, b :: m, h => by
    rw [cmpL] at h
    split at h
    · cases h
    · split at h
      · cases h
      · rw [cmpL_eq l m h, show a = b by omega]
theorem cmpL_swap : ∀ a b, cmpL b a = -cmpL a b
  | [], [] => rfl
  | [], _ :: _ => rfl
  | _ :: _, [] => rfl
  | a :: l, b :: m => by
    rw [cmpL, cmpL]
    by_cases h1 : a < b
    · rw [if_neg (by omega), if_pos h1, if_pos h1]; rfl
    · by_cases h2 : b < a
      · rw [if_pos h2, if_neg h1, if_pos h2]
      · rw [if_neg h2, if_neg h1, if_neg h1, if_neg h2]; exact cmpL_swap l m
theorem cmpL_trans : ∀ a b c, cmpL a b < 0 → cmpL b c < 0 → cmpL a c < 0
  | [], [], _, h, _ => by cases h
  | [], _ :: _, [], _, h => by cases h
  | [], _ :: _, _ :: _, _, _ => by show (-1 : Int) < 0; decide
  | _ :: _, [], _, h, _ => by cases h
  | _ :: _, _ :: _, [], _, h => by cases h
  | a :: l, b :: m, c :: n, h1, h2 => by
    rw [cmpL] at h1 h2 ⊢
    by_cases x1 : a < b
    · by_cases x2 : b < c
      · rw [if_pos (by omega)]; decide
      · rw [if_neg x2] at h2
        by_cases x3 : c < b
        · rw [if_pos x3] at h2; cases h2
        · rw [if_pos (by omega)]; decide
    · rw [if_neg x1] at h1
      by_cases y1 : b < a
      · rw [if_pos y1] at h1; cases h1
      · rw [if_neg y1] at h1
        by_cases x2 : b < c
        · rw [if_pos (by omega)]; decide
        · rw [if_neg x2] at h2
          by_cases x3 : c < b
          · rw [if_pos x3] at h2; cases h2
          · rw [if_neg x3] at h2
            rw [if_neg (by omega), if_neg (by omega)]
            exact cmpL_trans l m n h1 h2
theorem cmpL_le_trans (a b c : List Int) (h1 : cmpL a b ≤ 0) (h2 : cmpL b c ≤ 0) : cmpL a c ≤ 0 := by
  rcases Int.lt_or_eq_of_le h1 with h1 | h1
  · rcases Int.lt_or_eq_of_le h2 with h2 | h2
    · exact Int.le_of_lt (cmpL_trans _ _ _ h1 h2)
    · rw [← cmpL_eq _ _ h2]; exact Int.le_of_lt h1
  · rw [cmpL_eq _ _ h1]; exact h2
theorem rd_nat (xs : List Int) (i : Nat) : rd xs (i : Int) = xs.getD i 0 := by unfold rd; rw [Int.toNat_natCast]
theorem cmp_one (a b : Int) : cmp_Compare_int.f a b = some (if a < b then -1 else if b < a then 1 else 0) := by
  unfold cmp_Compare_int.f cmp_isNaN_int.f
  simp only [bne_self_eq_false, Option.bind_some, Bool.false_eq_true, if_false]
  by_cases h : a < b
  · rw [if_pos h, if_pos h]
  · rw [if_neg h, if_neg h]
    by_cases h2 : b < a
    · rw [if_pos h2, if_pos h2]
    · rw [if_neg (show ¬ a > b from h2), if_neg h2]
theorem cmp_loop (x y : List Int) (hx : x.length ≤ 9223372036854775807) (hy : y.length ≤ 9223372036854775807) : ∀ (n i k : Nat), i + n = x.length → n < k →
    slices_Compare_int_int.l0 k x y x (x.length : Int) (i : Int) = some (cmpL (x.drop i) (y.drop i)) ∨ y.length < i := by
  intro n
  induction n with
  | zero =>
    intro i k hi hk
    obtain ⟨k, rfl⟩ : ∃ m, k = m + 1 := ⟨k - 1, by omega⟩
    rcases Nat.lt_or_ge y.length i with h | h
    · exact .inr h
    · left
      rw [slices_Compare_int_int.l0, if_neg (by omega), List.drop_of_length_le (by omega)]
      rcases Nat.lt_or_ge i y.length with h2 | h2
      · rw [if_pos (by omega), List.drop_eq_getElem_cons h2]
        rfl
      · rw [if_neg (by omega), List.drop_of_length_le h2]
        rfl
  | succ n ih =>
    intro i k hi hk
    obtain ⟨k, rfl⟩ : ∃ m, k = m + 1 := ⟨k - 1, by omega⟩
    rcases Nat.lt_or_ge y.length i with h | h
    · exact .inr h
    · left
      have hxi : i < x.length := by omega
      rw [slices_Compare_int_int.l0, if_pos (by omega), if_pos (by omega), if_pos (by omega), List.drop_eq_getElem_cons hxi]
      rcases Nat.lt_or_ge i y.length with h2 | h2
      · rw [if_neg (by omega), if_pos (by omega), List.drop_eq_getElem_cons h2, cmp_one, Option.bind_some, rd_nat, rd_nat, cmpL]
        have e1 : x.getD i 0 = x[i] := by rw [List.getD_eq_getElem?_getD, List.getElem?_eq_getElem hxi]; rfl
        have e2 : y.getD i 0 = y[i] := by rw [List.getD_eq_getElem?_getD, List.getElem?_eq_getElem h2]; rfl
        rw [e1, e2]
        by_cases c1 : x[i] < y[i]
        · rw [if_pos c1, if_neg (by decide), if_pos c1]
        · rw [if_neg c1, if_neg c1]
          by_cases c2 : y[i] < x[i]
          · rw [if_pos c2, if_neg (by decide), if_pos c2]
          · rw [if_neg c2, if_pos rfl, if_neg c2, wrap64_of (by omega) (by omega)]
            exact (ih (i + 1) k (by omega) (by omega)).resolve_right (by omega)
      · rw [if_pos (by omega), List.drop_of_length_le h2]
        rfl
theorem cmp_is (x y : List Int) (hx : x.length ≤ 9223372036854775807) (hy : y.length ≤ 9223372036854775807) : ∃ k, slices_Compare_int_int.f k x y = some (cmpL x y) :=
  ⟨x.length + 1, (cmp_loop x y hx hy x.length 0 _ (by omega) (by omega)).resolve_right (by omega)⟩
theorem eq_loop (x y : List Int) (hx : x.length ≤ 9223372036854775807) (hl : x.length = y.length) : ∀ (n i k : Nat), i + n = x.length → n < k →
    slices_Equal_int_int.l0 k x y (x.length : Int) (i : Int) = some (decide (x.drop i = y.drop i)) := by
  intro n
  induction n with
  | zero =>
    intro i k hi hk
    obtain ⟨k, rfl⟩ : ∃ m, k = m + 1 := ⟨k - 1, by omega⟩
    rw [slices_Equal_int_int.l0, if_neg (by omega), List.drop_of_length_le (by omega), List.drop_of_length_le (by omega)]
    rfl
  | succ n ih =>
    intro i k hi hk
    obtain ⟨k, rfl⟩ : ∃ m, k = m + 1 := ⟨k - 1, by omega⟩
    have hxi : i < x.length := by omega
    have hyi : i < y.length := by omega
    have e1 : x.getD i 0 = x[i] := by rw [List.getD_eq_getElem?_getD, List.getElem?_eq_getElem hxi]; rfl
    have e2 : y.getD i 0 = y[i] := by rw [List.getD_eq_getElem?_getD, List.getElem?_eq_getElem hyi]; rfl
    rw [slices_Equal_int_int.l0, if_pos (by omega), if_pos (by omega), if_pos (by omega), if_pos (by omega), rd_nat, rd_nat, e1, e2, List.drop_eq_getElem_cons hxi, List.drop_eq_getElem_cons hyi]
    by_cases c : x[i] = y[i]
    · rw [if_pos c, wrap64_of (by omega) (by omega)]
      have := ih (i + 1) k (by omega) (by omega)
      rw [show ((i : Int) + 1) = ((i + 1 : Nat) : Int) by omega, this, c]
      congr 1
      rw [decide_eq_decide]
      exact ⟨fun h => by rw [h], fun h => by injection h⟩
    · rw [if_neg c]
      congr 1
      symm
      rw [decide_eq_false_iff_not]
      intro h
      injection h with h _
      exact c h
theorem eq_is (x y : List Int) (hx : x.length ≤ 9223372036854775807) : ∃ k, slices_Equal_int_int.f k x y = some (decide (x = y)) := by
  refine ⟨x.length + 1, ?_⟩
  unfold slices_Equal_int_int.f
  by_cases h : x.length = y.length
  · rw [if_pos (by omega)]
    exact eq_loop x y hx h x.length 0 _ (by omega) (by omega)
  · rw [if_neg (by omega)]
    congr 1
    symm
    rw [decide_eq_false_iff_not]
    intro e
    exact h (by rw [e])
theorem gcd_loop : ∀ (b a k : Nat), b < k → dist_gcd.l0 k (a : Int) (b : Int) = some ((Nat.gcd b a : Nat) : Int) := by
  intro b
  induction b using Nat.strongRecOn with
  | _ b ih =>
    intro a k hk
    obtain ⟨k, rfl⟩ : ∃ m, k = m + 1 := ⟨k - 1, by omega⟩
    rw [dist_gcd.l0]
    by_cases h : b = 0
    · subst h
      exact (if_pos rfl).trans (by rw [Nat.gcd_zero_left])
    · rw [if_neg (by omega), show Int.tmod (a : Int) (b : Int) = ((a % b : Nat) : Int) from rfl, ih (a % b) (Nat.mod_lt _ (by omega)) b k (by have := Nat.mod_lt a (show b > 0 by omega); omega), Nat.gcd_rec b a]
theorem gcd_is (a b : Nat) : ∃ k, dist_gcd.f k (a : Int) (b : Int) = some ((Nat.gcd b a : Nat) : Int) := ⟨b + 1, gcd_loop b a (b + 1) (by omega)⟩

/-! ### weights -/
def isum : List Int → Int
  | [] => 0
  | a :: l => a + isum l
theorem isum_app : ∀ a b, isum (a ++ b) = isum a + isum b
  | [], b => by simp [isum]
  | x :: a, b => by rw [List.cons_append, isum, isum, isum_app a b]; omega
theorem isum_perm {a b : List Int} (h : a.Perm b) : isum a = isum b := by
  induction h with
  | nil => rfl
  | cons x _ ih => rw [isum, isum, ih]
  | swap x y l => simp only [isum]; omega
  | trans _ _ h1 h2 => rw [h1, h2]
def wOf (l : List S38) (o : List Int) : Int := isum (l.map fun p => if p.f0 = o then p.f1 else 0)
theorem wOf_app (a b : List S38) (o : List Int) : wOf (a ++ b) o = wOf a o + wOf b o := by unfold wOf; rw [List.map_append, isum_app]
theorem wOf_cons (p : S38) (b : List S38) (o : List Int) : wOf (p :: b) o = (if p.f0 = o then p.f1 else 0) + wOf b o := rfl
theorem wOf_one (p : S38) (o : List Int) : wOf [p] o = if p.f0 = o then p.f1 else 0 := by rw [wOf_cons]; simp [wOf, isum]
theorem wOf_perm {a b : List S38} (h : a.Perm b) (o : List Int) : wOf a o = wOf b o := isum_perm (h.map _)
theorem wOf_none : ∀ (d : List S38) (o : List Int), (∀ q ∈ d, q.f0 ≠ o) → wOf d o = 0
  | [], _, _ => rfl
  | q :: d, o, h => by rw [wOf_cons, if_neg (h q (by simp)), wOf_none d o (fun x hx => h x (by simp [hx]))]; rfl
theorem wOf_mem {d : List S38} {o : List Int} (h : 0 < wOf d o) : ∃ q ∈ d, q.f0 = o := by
  rcases Classical.em (∃ q ∈ d, q.f0 = o) with c | c
  · exact c
  · rw [wOf_none d o (fun q hq e => c ⟨q, hq, e⟩)] at h
    omega
def Strict (d : List S38) : Prop := d.Pairwise fun a b => cmpL a.f0 b.f0 < 0
/-- d is what is to come of the parts l. -/
structure Canon (l d : List S38) : Prop where
  st : Strict d
  pos : ∀ p ∈ d, 0 < p.f1
  w : ∀ o, wOf d o = wOf l o
theorem strict_head {p : S38} {d : List S38} (h : Strict (p :: d)) : wOf d p.f0 = 0 := wOf_none d _ fun q hq e => by
  have := (List.pairwise_cons.1 h).1 q hq
  rw [e, cmpL_self] at this
  omega
theorem uniq_of : ∀ (d d' : List S38), Strict d → Strict d' → (∀ p ∈ d, 0 < p.f1) → (∀ p ∈ d', 0 < p.f1) → (∀ o, wOf d o = wOf d' o) → d = d'
  | [], [], _, _, _, _, _ => rfl
  | [], q :: d', _, h', _, p', w => by
    have := w q.f0
    rw [wOf_cons, if_pos rfl, strict_head h'] at this
    have := p' q (by simp)
    have e : wOf [] q.f0 = 0 := rfl
    omega
  | p :: d, [], h, _, p0, _, w => by
    have := w p.f0
    rw [wOf_cons, if_pos rfl, strict_head h] at this
    have := p0 p (by simp)
    have e : wOf [] p.f0 = 0 := rfl
    omega
  | p :: d, q :: d', h, h', p0, p', w => by
    have wp := w p.f0
    rw [wOf_cons, if_pos rfl, strict_head h] at wp
    have wq := w q.f0
    rw [wOf_cons q, if_pos rfl, strict_head h'] at wq
    have pp := p0 p (by simp)
    have pq := p' q (by simp)
    obtain ⟨x, hx, ex⟩ := wOf_mem (d := q :: d') (o := p.f0) (by omega)
    obtain ⟨y, hy, ey⟩ := wOf_mem (d := p :: d) (o := q.f0) (by omega)
    have le1 : cmpL q.f0 p.f0 ≤ 0 := by
      rw [← ex]
      rcases List.mem_cons.1 hx with hx | hx
      · rw [hx, cmpL_self]; omega
      · exact Int.le_of_lt ((List.pairwise_cons.1 h').1 x hx)
    have le2 : cmpL p.f0 q.f0 ≤ 0 := by
      rw [← ey]
      rcases List.mem_cons.1 hy with hy | hy
      · rw [hy, cmpL_self]; omega
      · exact Int.le_of_lt ((List.pairwise_cons.1 h).1 y hy)
    have e0 : p.f0 = q.f0 := cmpL_eq _ _ (by have := cmpL_swap p.f0 q.f0; omega)
    have e1 : p.f1 = q.f1 := by
      rw [wOf_cons, if_pos e0.symm, e0, strict_head h'] at wp
      omega
    have epq : p = q := by cases p; cases q; simp only at e0 e1; rw [e0, e1]
    subst epq
    rw [uniq_of d d' (List.pairwise_cons.1 h).2 (List.pairwise_cons.1 h').2 (fun x hx => p0 x (by simp [hx])) (fun x hx => p' x (by simp [hx])) (fun o => by have := w o; rw [wOf_cons, wOf_cons] at this; omega)]
theorem Canon.uniq {l l' d d' : List S38} (h : Canon l d) (h' : Canon l' d') (w : ∀ o, wOf l o = wOf l' o) : d = d' :=
  uniq_of d d' h.st h'.st h.pos h'.pos fun o => by rw [h.w, h'.w, w]

/-! ### what tidy does with sorted parts -/
def tStep (d : List S38) (p : S38) : List S38 :=
  if p.f1 = 0 then d else match d.getLast? with
    | some q => if q.f0 = p.f0 then d.dropLast ++ [⟨q.f0, q.f1 + p.f1⟩] else d ++ [p]
    | none => d ++ [p]
def tMerge (l : List S38) : List S38 := l.foldl tStep []
theorem tStep_zero {d : List S38} {p : S38} (h : p.f1 = 0) : tStep d p = d := if_pos h
theorem tStep_nil {p : S38} (h : ¬ p.f1 = 0) : tStep [] p = [p] := if_neg h
theorem tStep_same {d : List S38} {q p : S38} (h : ¬ p.f1 = 0) (e : q.f0 = p.f0) : tStep (d ++ [q]) p = d ++ [⟨q.f0, q.f1 + p.f1⟩] := by
  unfold tStep
  rw [if_neg h, List.getLast?_concat]
  dsimp only
  rw [if_pos e, List.dropLast_concat]
theorem tStep_new {d : List S38} {q p : S38} (h : ¬ p.f1 = 0) (e : ¬ q.f0 = p.f0) : tStep (d ++ [q]) p = d ++ [q] ++ [p] := by
  unfold tStep
  rw [if_neg h, List.getLast?_concat]
  dsimp only
  rw [if_neg e]
theorem strict_concat {d : List S38} {p : S38} (h : Strict d) (hp : ∀ q ∈ d, cmpL q.f0 p.f0 < 0) : Strict (d ++ [p]) :=
  List.pairwise_append.2 ⟨h, List.pairwise_singleton _ _, fun a ha b hb => by rw [List.mem_singleton.1 hb]; exact hp a ha⟩
theorem strict_last {d : List S38} {q : S38} (h : Strict (d ++ [q])) : ∀ x ∈ d, cmpL x.f0 q.f0 < 0 := fun x hx => (List.pairwise_append.1 h).2.2 x hx q (by simp)
theorem tStep_ok {d l : List S38} {p : S38} (h : Canon l d) (hp : 0 ≤ p.f1) (hle : ∀ q ∈ d, cmpL q.f0 p.f0 ≤ 0) : Canon (l ++ [p]) (tStep d p) ∧ ∀ q ∈ tStep d p, q.f0 = p.f0 ∨ ∃ x ∈ d, q.f0 = x.f0 := by
  have hw : ∀ o, wOf (l ++ [p]) o = wOf d o + if p.f0 = o then p.f1 else 0 := fun o => by rw [wOf_app, wOf_one, h.w]
  by_cases hz : p.f1 = 0
  · rw [tStep_zero hz]
    refine ⟨⟨h.st, h.pos, fun o => ?_⟩, fun q hq => .inr ⟨q, hq, rfl⟩⟩
    rw [hw, hz]
    split <;> omega
  · rcases List.eq_nil_or_concat d with e | ⟨d0, q, e⟩
    · subst e
      rw [tStep_nil hz]
      refine ⟨⟨List.pairwise_singleton _ _, fun x hx => ?_, fun o => ?_⟩, fun q hq => .inl (by rw [List.mem_singleton.1 hq])⟩
      · rw [List.mem_singleton.1 hx]; omega
      · rw [hw, wOf_one]
        show _ = 0 + _
        omega
    · rw [List.concat_eq_append] at e
      subst e
      have h1 := strict_last h.st
      have hst : Strict d0 := (List.pairwise_append.1 h.st).1
      by_cases hq : q.f0 = p.f0
      · rw [tStep_same hz hq]
        refine ⟨⟨strict_concat hst h1, fun x hx => ?_, fun o => ?_⟩, fun x hx => ?_⟩
        · rcases List.mem_append.1 hx with hx | hx
          · exact h.pos x (by simp [hx])
          · rw [List.mem_singleton.1 hx]
            have := h.pos q (by simp)
            show 0 < q.f1 + p.f1
            omega
        · rw [hw, wOf_app, wOf_app, wOf_one, wOf_one, ← hq]
          dsimp only
          split <;> omega
        · rcases List.mem_append.1 hx with hx | hx
          · exact .inr ⟨x, by simp [hx], rfl⟩
          · exact .inl (by rw [List.mem_singleton.1 hx]; exact hq)
      · rw [tStep_new hz hq]
        have hlt : ∀ x ∈ d0 ++ [q], cmpL x.f0 p.f0 < 0 := by
          have hql : cmpL q.f0 p.f0 < 0 := by
            rcases Int.lt_or_eq_of_le (hle q (by simp)) with e | e
            · exact e
            · exact absurd (cmpL_eq _ _ e) hq
          intro x hx
          rcases List.mem_append.1 hx with hx | hx
          · exact cmpL_trans _ _ _ (h1 x hx) hql
          · rw [List.mem_singleton.1 hx]; exact hql
        refine ⟨⟨strict_concat h.st hlt, fun x hx => ?_, fun o => ?_⟩, fun x hx => ?_⟩
        · rcases List.mem_append.1 hx with hx | hx
          · exact h.pos x hx
          · rw [List.mem_singleton.1 hx]; omega
        · rw [hw, wOf_app, wOf_one]
        · rcases List.mem_append.1 hx with hx | hx
          · exact .inr ⟨x, hx, rfl⟩
          · exact .inl (by rw [List.mem_singleton.1 hx])
theorem tMerge_go : ∀ (l2 l1 d : List S38), Canon l1 d → (∀ p ∈ l2, 0 ≤ p.f1) → l2.Pairwise (fun a b => cmpL a.f0 b.f0 ≤ 0) → (∀ q ∈ d, ∀ p ∈ l2, cmpL q.f0 p.f0 ≤ 0) → Canon (l1 ++ l2) (l2.foldl tStep d)
  | [], l1, d, h, _, _, _ => by rw [List.append_nil]; exact h
  | p :: l2, l1, d, h, h0, hs, hd => by
    obtain ⟨k1, k2⟩ := tStep_ok h (h0 p (by simp)) (fun q hq => hd q hq p (by simp))
    have := tMerge_go l2 (l1 ++ [p]) (tStep d p) k1 (fun x hx => h0 x (by simp [hx])) (List.pairwise_cons.1 hs).2 (fun q hq x hx => by
      rcases k2 q hq with e | ⟨y, hy, e⟩
      · rw [e]; exact (List.pairwise_cons.1 hs).1 x hx
      · rw [e]; exact hd y hy x (by simp [hx]))
    rw [List.append_assoc] at this
    exact this
theorem tMerge_canon {l : List S38} (h0 : ∀ p ∈ l, 0 ≤ p.f1) (hs : l.Pairwise (fun a b => cmpL a.f0 b.f0 ≤ 0)) : Canon l (tMerge l) :=
  tMerge_go l [] [] ⟨List.Pairwise.nil, by simp, fun _ => rfl⟩ h0 hs (by simp)
def leP (a b : S38) : Bool := decide (cmpL a.f0 b.f0 ≤ 0)
def sortP (l : List S38) : List S38 := l.mergeSort leP
theorem sortP_perm (l : List S38) : (sortP l).Perm l := List.mergeSort_perm _ _
theorem sortP_sorted (l : List S38) : (sortP l).Pairwise (fun a b => cmpL a.f0 b.f0 ≤ 0) := by
  have := List.pairwise_mergeSort (le := leP) (fun a b c h1 h2 => decide_eq_true (cmpL_le_trans _ _ _ (of_decide_eq_true h1) (of_decide_eq_true h2))) (fun a b => by
    have := cmpL_swap a.f0 b.f0
    rcases Int.le_total (cmpL a.f0 b.f0) 0 with h | h
    · simp [leP, h]
    · simp [leP, show cmpL b.f0 a.f0 ≤ 0 by omega]) l
  exact this.imp (fun h => of_decide_eq_true h)
theorem tMerge_any {ys l : List S38} (hp : ys.Perm l) (h0 : ∀ p ∈ l, 0 ≤ p.f1) (hs : ys.Pairwise (fun a b => cmpL a.f0 b.f0 ≤ 0)) : tMerge ys = tMerge (sortP l) :=
  (tMerge_canon (fun p hp' => h0 p (hp.mem_iff.1 hp')) hs).uniq (tMerge_canon (fun p hp' => h0 p ((sortP_perm l).mem_iff.1 hp')) (sortP_sorted l)) (fun o => by rw [wOf_perm hp, wOf_perm (sortP_perm l)])
theorem tidy_canon {l : List S38} (h0 : ∀ p ∈ l, 0 ≤ p.f1) : Canon l (tMerge (sortP l)) := by
  have h := tMerge_canon (l := sortP l) (fun p hp' => h0 p ((sortP_perm l).mem_iff.1 hp')) (sortP_sorted l)
  exact ⟨h.st, h.pos, fun o => by rw [h.w, wOf_perm (sortP_perm l)]⟩
def gOf (d : List S38) : Nat := d.foldl (fun g p => Nat.gcd p.f1.toNat g) 0
def totOf (d : List S38) : Int := isum (d.map (·.f1))
def tDone (d : List S38) : List S38 × Int := if d = [] then ([], 6) else if totOf d / (gOf d : Int) > 1073741824 ∨ d.length > 4096 then ([], 4) else (d.map (fun p => ⟨p.f0, p.f1 / (gOf d : Int)⟩), 0)
def tGuard (l : List S38) : Bool := decide (l.length < 4398046511104) && l.all (fun p => decide (0 ≤ p.f1)) && decide (totOf l ≤ 4611686018427387904)
def dist_tidy.f (_k : Nat) (l0 : List S38) : Option (List S38 × Int) := if tGuard l0 = true then some (tDone (tMerge (sortP l0))) else none
theorem dist_tidy.mono : ∀ l0 k, LeO (dist_tidy.f k l0) (dist_tidy.f (k + 1) l0) := fun _ _ => LeO.refl _
end
section
/-- A part, and where its numbers lie. -/
abbrev PtE := S38 × Option Addr × Nat
def ecells (e : PtE) : List Value := [.slice e.2.1 e.1.f0.length e.2.2, .int .i64 e.1.f1]
def Good (w : World) (ok : Nat → Prop) (e : PtE) : Prop := e.1.f0.length ≤ e.2.2 ∧ Kd.F (Kd.int .i64) w ok e.2.1 e.1.f0.length e.1.f0
theorem Good.fk {w : World} {ok : Nat → Prop} {e : PtE} (h : Good w ok e) : Kd.FK k38 w ok e.1 (ecells e) := k38_mkF w ok e.1 h.1 h.2
theorem Good.step {w w1 : World} {ok : Nat → Prop} {e : PtE} (h : Good w ok e) (hm : ∀ k, ok k → k < w.heap.size → w1.heap[k]? = w.heap[k]?) : Good w1 ok e := ⟨h.1, Kd.F_step h.2 hm⟩
theorem Good.now {w : World} {ok : Nat → Prop} {e : PtE} (h : Good w ok e) : (Kd.int .i64).C w e.2.1 e.1.f0.length e.1.f0 := Kd.F_now h.2
theorem es_of {w : World} {ok : Nat → Prop} : ∀ (xs : List S38) (rows : List (List Value)), rows.length = xs.length → (∀ (j : Nat) (x : S38) (c : List Value), xs[j]? = some x → rows[j]? = some c → Kd.FK k38 w ok x c) →
    ∃ es : List PtE, es.map (·.1) = xs ∧ es.map ecells = rows ∧ ∀ e ∈ es, Good w ok e
  | [], [], _, _ => ⟨[], rfl, rfl, by simp⟩
  | x :: xs, c :: rows, hl, h => by
    obtain ⟨es, h1, h2, h3⟩ := es_of xs rows (by simpa using hl) (fun j y d hy hd => h (j + 1) y d hy hd)
    obtain ⟨A, cc, hc, hle, hF⟩ := k38_openF (h 0 x c rfl rfl)
    refine ⟨(x, A, cc) :: es, by rw [List.map_cons, h1], by rw [List.map_cons, h2, hc]; rfl, fun e he => ?_⟩
    rcases List.mem_cons.1 he with he | he
    · rw [he]; exact ⟨hle, hF⟩
    · exact h3 e he
  | [], _ :: _, hl, _ => by simp at hl
  | _ :: _, [], hl, _ => by simp at hl
theorem N_es {w : World} {base : Nat} {P : Nat → Prop} {v : Value} {l : List S38} (h : Kd.N k38 38 w base P v l) :
    ∃ es : List PtE, es.map (·.1) = l ∧ (∀ e ∈ es, Good w (fun k => P k ∧ some k ≠ v.ownBlock) e) ∧ (Kd.raw 2).R 38 w base (fun k => some k = v.ownBlock) v (es.map ecells) := by
  obtain ⟨h0, rows, hl, hR, hf⟩ := h
  obtain ⟨es, h1, h2, h3⟩ := es_of l rows hl hf
  exact ⟨es, h1, h3, by rw [h2]; exact hR⟩
theorem heap_sw {α : Type} [Inhabited α] (enc : α → List Value) (w : World) (blk m : Nat) (dk : Array α) (os : Array Obj) (k : Nat) (hk : k ≠ blk) (hlt : k < w.heap.size) : (sortWorldK enc 2 w blk 0 m dk os).heap[k]? = w.heap[k]? := by
  show ((w.heap.modify blk (onCells (putCells id 0 (flatK enc 2 dk)))) ++ os)[k]? = w.heap[k]?
  rw [Array.getElem?_append_left (by simpa using hlt), Array.getElem?_modify, if_neg (fun e => hk e.symm)]
theorem st_sort_E {w : World} {base : Nat} {P ok : Nat → Prop} {blk cap : Nat} {es : List PtE} (hlen : es.length < 4611686018427387904) (hg : ∀ e ∈ es, Good w (fun k => P k ∧ k ≠ blk) e) (hR : (Kd.raw 2).R 38 w base ok (.slice (some ⟨blk, 0, none⟩) es.length cap) (es.map ecells)) :
    Calls Try.prog 54 #[.slice (some ⟨blk, 0, none⟩) es.length cap, .func (.func 55) #[] #[]] w fun e w1 => e = .returned (.tuple #[]) ∧ ∃ ys : List PtE, ys.Perm es ∧ ys.Pairwise (fun a b => cmpL a.1.f0 b.1.f0 ≤ 0) ∧ (∀ e ∈ ys, Good w1 (fun k => P k ∧ k ≠ blk) e) ∧
      (∀ (j : Nat) (hj : j < ys.length), w1.cell? ⟨blk, j * 2, none⟩ = some (.slice ys[j].2.1 ys[j].1.f0.length ys[j].2.2) ∧ w1.cell? ⟨blk, j * 2 + 1, none⟩ = some (.int .i64 ys[j].1.f1)) ∧ Kept w w1 (fun k => k = blk) ∧ w1.os = w.os ∧ w1.tape = w.tape ∧ w1.output = w.output := by
  let α := {e : PtE // Good w (fun k => P k ∧ k ≠ blk) e}
  haveI : Inhabited α := ⟨⟨(⟨[], 0⟩, none, 0), ⟨Nat.le_refl _, Kd.F_nil _ _ _⟩⟩⟩
  let ds : List α := es.pmap Subtype.mk hg
  have hmap : ds.map Subtype.val = es := by
    show (es.pmap Subtype.mk hg).map Subtype.val = es
    rw [List.map_pmap, List.pmap_eq_map, List.map_id']
  have hdl : ds.length = es.length := List.length_pmap
  let d0 : Array α := ds.toArray
  have hd0 : d0.size = es.length := by show ds.toArray.size = _; rw [List.size_toArray, hdl]
  let enc : α → List Value := fun x => ecells x.1
  let cf : α → α → Int := fun x y => cmpL x.1.1.f0 y.1.1.f0
  have hblk : blk < w.heap.size := Kd.R_lt hR blk rfl
  have hH : HoldsK enc 2 w blk 0 d0 := by
    intro j hj
    have hj2 : j < d0.size * 2 := by simpa using hj
    rw [get_flatK enc 2 d0 j hj2]
    have hq : j / 2 < es.length := by omega
    obtain ⟨c, hcl, hM, hcc, hfr⟩ := Kd.R_elem hR [] ((j / 2 : Nat) : Int) (by omega) (by omega)
    have hds : d0[j / 2]! = ds[j / 2]'(by omega) := by
      show ds.toArray[j / 2]! = _
      rw [getElem!_pos ds.toArray (j / 2) (by rw [List.size_toArray]; omega)]
      simp
    have hval : (ds[j / 2]'(by omega)).1 = es[j / 2] := by
      have := List.getElem_map (f := Subtype.val) (l := ds) (i := j / 2) (h := by rw [List.length_map]; omega)
      rw [← this]
      congr 1
    have hc : c = ecells es[j / 2] := by
      have h1 := hM.1
      rw [Int.toNat_natCast, List.getD_eq_getElem?_getD, List.getElem?_map, List.getElem?_eq_getElem hq] at h1
      exact h1
    have hs2 : (Kd.raw 2).sz = 2 := rfl
    have e2 : j / 2 * 2 + j % 2 = j := by omega
    have hcj := hcc (j % 2) (c[j % 2]!) (by rw [List.getElem?_eq_getElem (by rw [hcl, hs2]; omega), List.getElem!_eq_getElem?_getD, List.getElem?_eq_getElem (by rw [hcl, hs2]; omega)]; rfl)
    have hfj := hfr (j % 2)
    rw [Int.toNat_natCast, hs2, e2] at hcj hfj
    rw [Nat.zero_add, hds]
    show w.cell? ⟨blk, j, none⟩ = some ((ecells (ds[j / 2]'(by omega)).1)[j % 2]!) ∧ _
    rw [hval, ← hc]
    exact ⟨hcj, hfj⟩
  have T : StK enc (fun x => x.1.2.1) (fun x => x.1.1.f0.length) (fun x => x.1.2.2) (fun x => x.1.1.f1) cf blk 0 d0 w := by
    refine ⟨⟨fun _ => rfl, fun x v hv => ?_, hH, hblk⟩, fun _ => rfl, fun m os dk hs x y => ?_, by omega, ⟨fun x => ?_, fun x y z h1 h2 => ?_, fun x y z h1 h2 => ?_⟩⟩
    · rcases List.mem_cons.1 hv with hv | hv
      · rw [hv]; rfl
      · rw [List.mem_singleton.1 hv]; rfl
    · have hx := x.2.step (w1 := sortWorldK enc 2 w blk 0 m dk os) (fun k hk hlt => heap_sw enc w blk m dk os k hk.2 hlt)
      have hy := y.2.step (w1 := sortWorldK enc 2 w blk 0 m dk os) (fun k hk hlt => heap_sw enc w blk m dk os k hk.2 hlt)
      obtain ⟨k, hk⟩ := cmp_is x.1.1.f0 y.1.1.f0 (Kd.C_max hx.now) (Kd.C_max hy.now)
      exact st_closure k _ _ _ _ _ _ _ _ _ _ hx.now hx.1 hy.now hy.1 hk
    · exact decide_eq_false (by show ¬ cmpL _ _ < 0; rw [cmpL_self]; omega)
    · exact decide_eq_true (cmpL_trans _ _ _ (of_decide_eq_true h1) (of_decide_eq_true h2))
    · have a1 : ¬ cmpL x.1.1.f0 y.1.1.f0 < 0 := of_decide_eq_false h1
      have a2 : ¬ cmpL y.1.1.f0 z.1.1.f0 < 0 := of_decide_eq_false h2
      have b1 := cmpL_swap x.1.1.f0 y.1.1.f0
      have b2 := cmpL_swap y.1.1.f0 z.1.1.f0
      have b3 := cmpL_swap x.1.1.f0 z.1.1.f0
      have := cmpL_le_trans z.1.1.f0 y.1.1.f0 x.1.1.f0 (by omega) (by omega)
      exact decide_eq_false (by show ¬ cmpL _ _ < 0; omega)
  have hcall := st_sort cap d0 w T rfl (SWK.start hH)
  rw [hd0] at hcall
  refine hcall.mono ?_
  rintro e w1 ⟨rfl, d', ⟨hp, hs⟩, n, os, hw1⟩
  have hsz : d'.size = es.length := hp.1.trans hd0
  have hho : HoldsK enc 2 w1 blk 0 d' := by rw [hw1]; exact holdsK_sortWorldK_c enc 2 w blk 0 d0 d' n os hH hblk hp.1
  refine ⟨rfl, d'.toList.map Subtype.val, ?_, ?_, fun e he => ?_, fun j hj => ?_, ⟨?_, fun k hk hne => ?_⟩, by rw [hw1]; rfl, by rw [hw1]; rfl, by rw [hw1]; rfl⟩
  · have h3 := hp.2.2
    have e1 : d'.extract 0 es.length = d' := by rw [← hsz]; exact Array.extract_size
    have e2 : d0.extract 0 es.length = d0 := by rw [← hd0]; exact Array.extract_size
    rw [e1, e2] at h3
    have := h3.map Subtype.val
    rw [show d0.toList = ds from rfl, hmap] at this
    exact this
  · rw [List.pairwise_iff_getElem]
    intro i j hi hj hij
    rw [List.length_map] at hi hj
    have hi' : i < d'.size := by simpa using hi
    have hj' : j < d'.size := by simpa using hj
    have := hs i j (Nat.zero_le _) hij (by omega)
    rw [getElem!_pos d' i hi', getElem!_pos d' j hj'] at this
    have h2 : ¬ cmpL (d'[j]).1.1.f0 (d'[i]).1.1.f0 < 0 := of_decide_eq_false this
    have h3 := cmpL_swap (d'[j]).1.1.f0 (d'[i]).1.1.f0
    simp only [List.getElem_map, Array.getElem_toList]
    omega
  · obtain ⟨x, hx, rfl⟩ := List.mem_map.1 he
    exact x.2.step (fun k hk hlt => by rw [hw1]; exact heap_sw enc w blk n d' os k hk.2 hlt)
  · rw [List.length_map] at hj
    have hj' : j < d'.size := by simpa using hj
    have := st_cell (fs := fun x : α => .slice x.1.2.1 x.1.1.f0.length x.1.2.2) (fn := fun x : α => x.1.1.f1) (fun _ => rfl) hho j hj'
    rw [getElem!_pos d' j hj'] at this
    simp only [Nat.zero_add] at this
    simp only [List.getElem_map, Array.getElem_toList]
    exact ⟨this.1.1, this.2.1⟩
  · rw [hw1]
    exact size_sortWorldK_c enc 2 w blk 0 n d' os
  · rw [hw1]
    exact heap_sw enc w blk n d' os k hne hk
end
section
def eStep (d : List PtE) (e : PtE) : List PtE :=
  if e.1.f1 = 0 then d else match d.getLast? with
    | some q => if q.1.f0 = e.1.f0 then d.dropLast ++ [(⟨q.1.f0, q.1.f1 + e.1.f1⟩, q.2)] else d ++ [e]
    | none => d ++ [e]
theorem eStep_zero {d : List PtE} {p : PtE} (h : p.1.f1 = 0) : eStep d p = d := if_pos h
theorem eStep_nil {p : PtE} (h : ¬ p.1.f1 = 0) : eStep [] p = [p] := if_neg h
theorem eStep_same {d : List PtE} {q p : PtE} (h : ¬ p.1.f1 = 0) (e : q.1.f0 = p.1.f0) : eStep (d ++ [q]) p = d ++ [(⟨q.1.f0, q.1.f1 + p.1.f1⟩, q.2)] := by
  unfold eStep
  rw [if_neg h, List.getLast?_concat]
  dsimp only
  rw [if_pos e, List.dropLast_concat]
theorem eStep_new {d : List PtE} {q p : PtE} (h : ¬ p.1.f1 = 0) (e : ¬ q.1.f0 = p.1.f0) : eStep (d ++ [q]) p = d ++ [q] ++ [p] := by
  unfold eStep
  rw [if_neg h, List.getLast?_concat]
  dsimp only
  rw [if_neg e]
theorem eStep_map (d : List PtE) (p : PtE) : (eStep d p).map (·.1) = tStep (d.map (·.1)) p.1 := by
  by_cases hz : p.1.f1 = 0
  · rw [eStep_zero hz, tStep_zero hz]
  · rcases List.eq_nil_or_concat d with e | ⟨d0, q, e⟩
    · subst e
      rw [eStep_nil hz]
      exact (tStep_nil hz).symm
    · rw [List.concat_eq_append] at e
      subst e
      rw [List.map_append]
      by_cases hq : q.1.f0 = p.1.f0
      · rw [eStep_same hz hq, List.map_append]
        exact (tStep_same hz hq).symm
      · rw [eStep_new hz hq, List.map_append, List.map_append]
        exact (tStep_new hz hq).symm
theorem eFold_map : ∀ (l : List PtE) (d : List PtE), (l.foldl eStep d).map (·.1) = (l.map (·.1)).foldl tStep (d.map (·.1))
  | [], _ => rfl
  | p :: l, d => by rw [List.foldl_cons, eFold_map l, List.map_cons, List.foldl_cons, eStep_map]

theorem eStep_mem {d : List PtE} {p y : PtE} (h : y ∈ eStep d p) : (y.2 = p.2 ∧ y.1.f0 = p.1.f0) ∨ ∃ z ∈ d, y.2 = z.2 ∧ y.1.f0 = z.1.f0 := by
  by_cases hz : p.1.f1 = 0
  · rw [eStep_zero hz] at h
    exact .inr ⟨y, h, rfl, rfl⟩
  · rcases List.eq_nil_or_concat d with e | ⟨d0, q, e⟩
    · subst e
      rw [eStep_nil hz, List.mem_singleton] at h
      rw [h]
      exact .inl ⟨rfl, rfl⟩
    · rw [List.concat_eq_append] at e
      subst e
      by_cases hq : q.1.f0 = p.1.f0
      · rw [eStep_same hz hq] at h
        rcases List.mem_append.1 h with h | h
        · exact .inr ⟨y, by simp [h], rfl, rfl⟩
        · rw [List.mem_singleton.1 h]
          exact .inr ⟨q, by simp, rfl, rfl⟩
      · rw [eStep_new hz hq] at h
        rcases List.mem_append.1 h with h | h
        · exact .inr ⟨y, h, rfl, rfl⟩
        · rw [List.mem_singleton.1 h]
          exact .inl ⟨rfl, rfl⟩
theorem eFold_mem : ∀ (l d : List PtE) (y : PtE), y ∈ l.foldl eStep d → (∃ z ∈ l, y.2 = z.2 ∧ y.1.f0 = z.1.f0) ∨ ∃ z ∈ d, y.2 = z.2 ∧ y.1.f0 = z.1.f0
  | [], d, y, h => .inr ⟨y, h, rfl, rfl⟩
  | p :: l, d, y, h => by
    rcases eFold_mem l (eStep d p) y h with ⟨z, hz, h1, h2⟩ | ⟨z, hz, h1, h2⟩
    · exact .inl ⟨z, by simp [hz], h1, h2⟩
    · rcases eStep_mem hz with ⟨h3, h4⟩ | ⟨u, hu, h3, h4⟩
      · exact .inl ⟨p, by simp, h1.trans h3, h2.trans h4⟩
      · exact .inr ⟨u, hu, h1.trans h3, h2.trans h4⟩
theorem Good.same {w : World} {ok : Nat → Prop} {y z : PtE} (h : Good w ok z) (h1 : y.2 = z.2) (h2 : y.1.f0 = z.1.f0) : Good w ok y := by
  obtain ⟨⟨f0, f1⟩, A, c⟩ := y
  obtain ⟨⟨g0, g1⟩, A', c'⟩ := z
  simp only [Prod.mk.injEq] at h1 h2
  obtain ⟨rfl, rfl⟩ := h1
  subst h2
  exact h
theorem eStep_tot (d : List PtE) (p : PtE) (hd : ∀ y ∈ d, 0 ≤ y.1.f1) (hp : 0 ≤ p.1.f1) : isum ((eStep d p).map (·.1.f1)) = isum (d.map (·.1.f1)) + p.1.f1 ∧ ∀ y ∈ eStep d p, 0 ≤ y.1.f1 := by
  by_cases hz : p.1.f1 = 0
  · rw [eStep_zero hz, hz]
    exact ⟨by omega, hd⟩
  · rcases List.eq_nil_or_concat d with e | ⟨d0, q, e⟩
    · subst e
      rw [eStep_nil hz]
      refine ⟨by simp [isum], fun y hy => ?_⟩
      rw [List.mem_singleton.1 hy]
      exact hp
    · rw [List.concat_eq_append] at e
      subst e
      by_cases hq : q.1.f0 = p.1.f0
      · rw [eStep_same hz hq]
        refine ⟨?_, fun y hy => ?_⟩
        · rw [List.map_append, List.map_append, isum_app, isum_app]
          simp only [List.map_cons, List.map_nil, isum]
          omega
        · rcases List.mem_append.1 hy with hy | hy
          · exact hd y (by simp [hy])
          · rw [List.mem_singleton.1 hy]
            have := hd q (by simp)
            show 0 ≤ q.1.f1 + p.1.f1
            omega
      · rw [eStep_new hz hq]
        refine ⟨?_, fun y hy => ?_⟩
        · rw [List.map_append, isum_app]
          simp only [List.map_cons, List.map_nil, isum]
          omega
        · rcases List.mem_append.1 hy with hy | hy
          · exact hd y hy
          · rw [List.mem_singleton.1 hy]
            exact hp
theorem eFold_tot : ∀ (l d : List PtE), (∀ y ∈ d, 0 ≤ y.1.f1) → (∀ y ∈ l, 0 ≤ y.1.f1) → isum ((l.foldl eStep d).map (·.1.f1)) = isum (d.map (·.1.f1)) + isum (l.map (·.1.f1)) ∧ ∀ y ∈ l.foldl eStep d, 0 ≤ y.1.f1
  | [], d, hd, _ => ⟨by simp [isum], hd⟩
  | p :: l, d, hd, hl => by
    obtain ⟨h1, h2⟩ := eStep_tot d p hd (hl p (by simp))
    obtain ⟨h3, h4⟩ := eFold_tot l (eStep d p) h2 (fun y hy => hl y (by simp [hy]))
    refine ⟨?_, h4⟩
    rw [List.foldl_cons, h3, h1, List.map_cons, isum]
    omega
theorem isum_nonneg : ∀ (l : List Int), (∀ y ∈ l, 0 ≤ y) → 0 ≤ isum l
  | [], _ => Int.le_refl _
  | a :: l, h => by
    have := isum_nonneg l (fun y hy => h y (by simp [hy]))
    have := h a (by simp)
    rw [isum]
    omega
/-- What is laid together stays small. -/
theorem e_small {ys es : List PtE} {i : Nat} (hp : ys.Perm es) (hG : tGuard (es.map (·.1)) = true) (hi : i < ys.length) {d0 : List PtE} {q : PtE} (h : (ys.take i).foldl eStep [] = d0 ++ [q]) : 0 ≤ q.1.f1 ∧ 0 ≤ ys[i].1.f1 ∧ q.1.f1 + ys[i].1.f1 ≤ 4611686018427387904 := by
  unfold tGuard at hG
  simp only [Bool.and_eq_true, decide_eq_true_eq, List.all_eq_true] at hG
  have hn : ∀ y ∈ ys, 0 ≤ y.1.f1 := fun y hy => hG.1.2 y.1 (List.mem_map_of_mem (hp.mem_iff.1 hy))
  have ht : isum (ys.map (·.1.f1)) ≤ 4611686018427387904 := by
    have e : totOf (es.map (·.1)) = isum (ys.map (·.1.f1)) := by
      unfold totOf
      rw [List.map_map]
      exact (isum_perm (hp.map _)).symm
    rw [← e]
    exact hG.2
  obtain ⟨h1, h2⟩ := eFold_tot (ys.take i) [] (by simp) (fun y hy => hn y (List.mem_of_mem_take hy))
  rw [h] at h1 h2
  rw [List.map_append, isum_app] at h1
  simp only [List.map_cons, List.map_nil, isum] at h1
  have h3 : 0 ≤ isum (d0.map (·.1.f1)) := isum_nonneg _ (fun y hy => by obtain ⟨z, hz, rfl⟩ := List.mem_map.1 hy; exact h2 z (by simp [hz]))
  have h4 : isum (ys.map (·.1.f1)) = isum ((ys.take i).map (·.1.f1)) + (ys[i].1.f1 + isum ((ys.drop (i + 1)).map (·.1.f1))) := by
    have e := List.take_append_drop i ys
    rw [List.drop_eq_getElem_cons hi] at e
    conv => lhs; rw [← e]
    rw [List.map_append, isum_app, List.map_cons, isum]
  have h5 : 0 ≤ isum ((ys.drop (i + 1)).map (·.1.f1)) := isum_nonneg _ (fun y hy => by obtain ⟨z, hz, rfl⟩ := List.mem_map.1 hy; exact hn z (List.mem_of_mem_drop hz))
  refine ⟨h2 q (by simp), hn _ (List.getElem_mem _), ?_⟩
  omega
theorem ecells_one (x : PtE) : (ecells x).length = 2 ∧ ∀ u ∈ ecells x, u.oneCell' = true := by
  refine ⟨rfl, fun u hu => ?_⟩
  rcases List.mem_cons.1 hu with hu | hu
  · rw [hu]; rfl
  · rw [List.mem_singleton.1 hu]; rfl

theorem total_loop (l : List S38) (hl : l.length < 4398046511104) (h0 : ∀ p ∈ l, 0 ≤ p.f1) (ht : totOf l ≤ 4611686018427387904) : ∀ (n i k : Nat), i + n = l.length → n < k → dist_total.l0 k (totOf (l.take i)) l (l.length : Int) (i : Int) = some (totOf l) := by
  intro n
  induction n with
  | zero =>
    intro i k hi hk
    obtain ⟨k, rfl⟩ : ∃ m, k = m + 1 := ⟨k - 1, by omega⟩
    rw [dist_total.l0, if_neg (by omega), List.take_of_length_le (by omega)]
  | succ n ih =>
    intro i k hi hk
    obtain ⟨k, rfl⟩ : ∃ m, k = m + 1 := ⟨k - 1, by omega⟩
    have hil : i < l.length := by omega
    have e1 : rd_T38 l (i : Int) = l[i] := by
      unfold rd_T38
      rw [Int.toNat_natCast, List.getD_eq_getElem?_getD, List.getElem?_eq_getElem hil]
      rfl
    have e2 : totOf (l.take (i + 1)) = totOf (l.take i) + l[i].f1 := by
      unfold totOf
      rw [List.take_succ_eq_append_getElem hil, List.map_append, isum_app]
      simp only [List.map_cons, List.map_nil, isum]
      omega
    have e3 : totOf l = totOf (l.take (i + 1)) + totOf (l.drop (i + 1)) := by
      unfold totOf
      rw [← isum_app, ← List.map_append, List.take_append_drop]
    have p1 : 0 ≤ totOf (l.take i) := isum_nonneg _ (fun y hy => by obtain ⟨z, hz, rfl⟩ := List.mem_map.1 hy; exact h0 z (List.mem_of_mem_take hz))
    have p2 : 0 ≤ totOf (l.drop (i + 1)) := isum_nonneg _ (fun y hy => by obtain ⟨z, hz, rfl⟩ := List.mem_map.1 hy; exact h0 z (List.mem_of_mem_drop hz))
    have p3 := h0 l[i] (List.getElem_mem _)
    rw [dist_total.l0, if_pos (by omega), if_pos (by omega), if_pos (by omega), e1, wrap64_of (by omega) (by omega), wrap64_of (by omega) (by omega), ← e2]
    exact ih (i + 1) k (by omega) (by omega)
theorem total_is (l : List S38) (hl : l.length < 4398046511104) (h0 : ∀ p ∈ l, 0 ≤ p.f1) (ht : totOf l ≤ 4611686018427387904) : ∃ k, dist_total.f k l = some (totOf l) :=
  ⟨l.length + 1, total_loop l hl h0 ht l.length 0 _ (by omega) (by omega)⟩
/-- A row of cells whose parts are good is a row of parts that is read. -/
theorem C_of_raw {w : World} {base n c : Nat} {ok ok2 : Nat → Prop} {A : Option Addr} {ds : List PtE} (h : (Kd.raw 2).R 38 w base ok (.slice A n c) (ds.map ecells)) (hg : ∀ e ∈ ds, Good w ok2 e) : n = ds.length ∧ n ≤ c ∧ Kd.C k38 w A (ds.map (·.1)).length (ds.map (·.1)) := by
  obtain ⟨h1, h2, h3⟩ := Kd.R_reads' h
  rw [List.length_map] at h1 h3
  refine ⟨h1, h2, rfl, by rw [List.length_map]; exact h3.2.1, fun hp => ?_⟩
  rw [List.length_map] at hp
  obtain ⟨ad, he, hc⟩ := h3.2.2 hp
  refine ⟨ad, he, fun j p hj => ?_⟩
  rw [List.getElem?_map] at hj
  obtain ⟨e, hej, rfl⟩ := Option.map_eq_some_iff.1 hj
  obtain ⟨c, hcl, hM, hcc⟩ := hc j (ecells e) (by rw [List.getElem?_map, hej]; rfl)
  refine ⟨c, hcl, ?_, hcc⟩
  have hce : c = ecells e := hM.1
  rw [hce]
  exact Kd.FK_now (hg e (List.mem_of_getElem? hej)).fk

def TidyPost (w : World) (blk : Nat) (P : Nat → Prop) (l : List S38) (e : Ending) (w' : World) : Prop := ∃ v, e = .returned (.tuple #[v, .int .i64 (tDone (tMerge (sortP l))).2]) ∧ ∃ rs : List PtE, rs.map (·.1) = (tDone (tMerge (sortP l))).1 ∧
  (Kd.raw 2).R 38 w' w.heap.size (fun _ => True) v (rs.map ecells) ∧ (∀ e ∈ rs, Good w' (fun k => P k ∧ k ≠ blk) e) ∧ Kept w w' (fun k => k = blk) ∧ w'.os = w.os ∧ w'.tape = w.tape ∧ w'.output = w.output
theorem t_kept {w w1 w2 : World} {S : Nat → Prop} (h : Kept w w1 S ∧ w1.os = w.os ∧ w1.tape = w.tape ∧ w1.output = w.output) (hb : Below w1.heap.size w1 w2) : Kept w w2 S ∧ w2.os = w.os ∧ w2.tape = w.tape ∧ w2.output = w.output :=
  ⟨h.1.below hb, hb.os.trans h.2.1, hb.tape.trans h.2.2.1, hb.output.trans h.2.2.2⟩
theorem Good.below {w w1 : World} {ok : Nat → Prop} {e : PtE} (h : Good w ok e) (hb : Below w.heap.size w w1) : Good w1 ok e := h.step (fun k _ hlt => hb.block k hlt)
theorem ds_canon {ys es : List PtE} (hp : ys.Perm es) (hs : ys.Pairwise (fun a b => cmpL a.1.f0 b.1.f0 ≤ 0)) (hG : tGuard (es.map (·.1)) = true) : (ys.foldl eStep []).map (·.1) = tMerge (sortP (es.map (·.1))) ∧ (∀ p ∈ (ys.foldl eStep []).map (·.1), 0 < p.f1) ∧ totOf ((ys.foldl eStep []).map (·.1)) ≤ 4611686018427387904 := by
  unfold tGuard at hG
  simp only [Bool.and_eq_true, decide_eq_true_eq, List.all_eq_true] at hG
  have h0 : ∀ p ∈ es.map (·.1), 0 ≤ p.f1 := hG.1.2
  have e : (ys.foldl eStep []).map (·.1) = tMerge (sortP (es.map (·.1))) := by
    rw [eFold_map]
    exact tMerge_any (hp.map _) h0 (List.pairwise_map.2 hs)
  refine ⟨e, fun p hp' => ?_, ?_⟩
  · rw [e] at hp'
    exact (tidy_canon h0).pos p hp'
  · have hn : ∀ y ∈ ys, 0 ≤ y.1.f1 := fun y hy => h0 y.1 (List.mem_map_of_mem (hp.mem_iff.1 hy))
    have h1 := (eFold_tot ys [] (by simp) hn).1
    have h2 : totOf (es.map (·.1)) = isum (ys.map (·.1.f1)) := by
      unfold totOf
      rw [List.map_map]
      exact (isum_perm (hp.map _)).symm
    have h3 : totOf ((ys.foldl eStep []).map (·.1)) = isum ((ys.foldl eStep []).map (·.1.f1)) := by unfold totOf; rw [List.map_map]; rfl
    rw [h3, h1, ← h2]
    have := hG.2
    show 0 + _ ≤ _
    omega

theorem gOf_go : ∀ (d : List S38) (g : Nat), (∀ p ∈ d, 0 < p.f1) → (d ≠ [] ∨ 0 < g) → 0 < d.foldl (fun g p => Nat.gcd p.f1.toNat g) g
  | [], g, _, h => h.resolve_left (fun e => e rfl)
  | p :: d, g, h0, _ => gOf_go d _ (fun x hx => h0 x (by simp [hx])) (.inr (Nat.gcd_pos_of_pos_left _ (by have := h0 p (by simp); omega)))
theorem gOf_pos {d : List S38} (h0 : ∀ p ∈ d, 0 < p.f1) (h : d ≠ []) : 0 < gOf d := gOf_go d 0 h0 (.inl h)
theorem tdiv_of {t : Int} {g : Nat} {q : Int} (h0 : 0 ≤ t) (ht : t ≤ 4611686018427387904) (hq : q = t / (g : Int)) : Int.tdiv t (g : Int) = q ∧ 0 ≤ q ∧ q ≤ 4611686018427387904 := by
  have h1 : 0 ≤ t / (g : Int) := Int.ediv_nonneg h0 (by omega)
  have h2 : t / (g : Int) ≤ t := Int.ediv_le_self _ h0
  exact ⟨by rw [hq]; exact Int.tdiv_eq_ediv_of_nonneg h0, by omega, by omega⟩
def eDiv (g : Nat) (y : PtE) : PtE := (⟨y.1.f0, y.1.f1 / (g : Int)⟩, y.2)
theorem one_le_tot {d : List S38} (h0 : ∀ p ∈ d, 0 < p.f1) {p : S38} (hp : p ∈ d) : p.f1 ≤ totOf d := by
  obtain ⟨a, b, rfl⟩ := List.append_of_mem hp
  have h1 : 0 ≤ isum (a.map (·.f1)) := isum_nonneg _ (fun y hy => by obtain ⟨z, hz, rfl⟩ := List.mem_map.1 hy; exact Int.le_of_lt (h0 z (by simp [hz])))
  have h2 : 0 ≤ isum (b.map (·.f1)) := isum_nonneg _ (fun y hy => by obtain ⟨z, hz, rfl⟩ := List.mem_map.1 hy; exact Int.le_of_lt (h0 z (by simp [hz])))
  unfold totOf
  rw [List.map_append, List.map_cons, isum_app, isum]
  omega
theorem totOf_nonneg {d : List S38} (h0 : ∀ p ∈ d, 0 < p.f1) : 0 ≤ totOf d := isum_nonneg _ (fun y hy => by obtain ⟨z, hz, rfl⟩ := List.mem_map.1 hy; exact Int.le_of_lt (h0 z hz))

set_option maxHeartbeats 8000000 in
set_option maxRecDepth 1000000 in
theorem tidy_walk (blk cap : Nat) (es : List PtE) (w : World) (base : Nat) (P ok : Nat → Prop) (hne : 0 < es.length) (hG : tGuard (es.map (·.1)) = true) (hg : ∀ e ∈ es, Good w (fun k => P k ∧ k ≠ blk) e)
    (hR : (Kd.raw 2).R 38 w base ok (.slice (some ⟨blk, 0, none⟩) es.length cap) (es.map ecells)) :
    Calls Try.prog 40 #[.slice (some ⟨blk, 0, none⟩) es.length cap] w (TidyPost w blk P (es.map (·.1))) := by
  have hut32 := Try.underlying38
  have mixed : Try.prog.follows .mixedOrders = true := by first | rfl | kernel_rfl
  have hlen : es.length < 4398046511104 := by
    unfold tGuard at hG
    simp only [Bool.and_eq_true, decide_eq_true_eq, List.length_map] at hG
    exact hG.1.1
  have C := Aside0.mk (st_sort_E (P := P) (by omega) hg hR)
  have HG := Aside0.mk hG
  have hblk : blk < w.heap.size := Kd.R_lt hR blk rfl
  have HW := Aside0.mk (Kept.refl w (fun k => k = blk))
  clear hG hg hR
  go_enter Try.func40, Try.ntmps40
  go_wp2_with (go_at_call 54; (with_reducible refine C.out.mono ?_); rintro e w1 ⟨rfl, ys, hp, hs, hg1, hc1, hk1, ho1, ht1, hut1⟩; have HY := Aside0.mk (And.intro hp hs); have HG1 := Aside0.mk hg1; have HC1 := Aside0.mk hc1; have HK1 := Aside0.mk (And.intro hk1 (And.intro ho1 (And.intro ht1 hut1))); clear C HW; have hyl : ys.length = es.length := hp.length_eq; clear hp hs hg1 hc1 hk1 ho1 ht1 hut1)
  have hn : ys.length < 4398046511104 := by omega
  have hw1 : w.heap.size ≤ w1.heap.size := HK1.out.1.1
  have hb1 : blk < w1.heap.size := by omega
  go_loopg [4, 16] es.length (fun g1 v4 v16 wr => ∃ (i c L : Nat) (A : Option Addr) (ds : List PtE), v4 = .slice A L c ∧ v16 = .int .i64 i ∧ i ≤ es.length ∧ es.length - i ≤ g1 ∧ L ≤ i ∧ Aside0 (ds.length = L ∧ ds = (ys.take i).foldl eStep []) ∧
    Aside0 ((Kd.raw 2).R 38 wr w1.heap.size (fun k => some k = (Value.slice A L c).ownBlock) (.slice A L c) (ds.map ecells)) ∧ Aside0 (Below w1.heap.size w1 wr))
  case atStart => exact ⟨0, 0, 0, none, [], rfl, rfl, Nat.zero_le _, Nat.le_refl _, Nat.le_refl _, ⟨rfl, rfl⟩, ⟨Kd.R_nil _ _ _ _ _⟩, ⟨Below.refl _ _⟩⟩
  case round =>
    obtain ⟨i, c, L, A, ds, rfl, rfl, hin, hg1, hdi, HD, HR, HB⟩ := hrel
    by_cases hi : i < es.length
    · have hiz : (i : Int) < (es.length : Int) := by omega
      have hiy : i < ys.length := by omega
      obtain ⟨x, hx⟩ : ∃ x, x = ys[i] := ⟨_, rfl⟩
      have c01 := HC1.out i hiy
      rw [← hx] at c01
      have c0 := (HB.out.cell (show (⟨blk, i * 2, none⟩ : Addr).block < w1.heap.size from hb1)).trans c01.1
      have c1 := (HB.out.cell (show (⟨blk, i * 2 + 1, none⟩ : Addr).block < w1.heap.size from hb1)).trans c01.2
      have HX := Aside0.mk (show (ys.take (i + 1)).foldl eStep [] = eStep ds x by rw [List.take_succ_eq_append_getElem hiy, List.foldl_append, ← HD.out.2, hx]; rfl)
      have HGx := Aside0.mk (HG1.out x (by rw [hx]; exact List.getElem_mem _))
      have HXI := Aside0.mk hx
      clear c01 hx
      by_cases hz : x.1.f1 = 0
      · go_wp2
        go_roundg (es.length - (i + 1))
        case measure => omega
        case rel =>
          exact ⟨i + 1, c, L, A, ds, rfl, by go_num, by omega, Nat.le_refl _, by omega, ⟨HD.out.1, by rw [HX.out, eStep_zero hz]⟩, ⟨Kd.R_alloc HR.out _⟩, ⟨HB.out.alloc HB.out.size _⟩⟩
      · have hz1 : (x.1.f1 == 0) = false := by simpa using hz
        have HZ := Aside0.mk hz
        go_wp2_with fail
        obtain ⟨W2, hW2⟩ : ∃ W2, wr.alloc (.cells #[.slice x.2.1 x.1.f0.length x.2.2, .int .i64 x.1.f1] 38) = W2 := ⟨_, rfl⟩
        rw [hW2]
        have hb6 : W2.heap[wr.heap.size]? = some (.cells #[.slice x.2.1 x.1.f0.length x.2.2, .int .i64 x.1.f1] 38) := by rw [← hW2]; exact blk_new _ _
        have p0 : W2.cell? ⟨wr.heap.size, 0, none⟩ = some (.slice x.2.1 x.1.f0.length x.2.2) := (blk_cell hb6 0).trans rfl
        have p1 : W2.cell? ⟨wr.heap.size, 1, none⟩ = some (.int .i64 x.1.f1) := (blk_cell hb6 1).trans rfl
        have HR2 := Aside0.mk (show (Kd.raw 2).R 38 W2 w1.heap.size (fun k => some k = (Value.slice A L c).ownBlock) (.slice A L c) (ds.map ecells) from hW2 ▸ Kd.R_alloc HR.out _)
        have HB2 := Aside0.mk (show Below w1.heap.size w1 W2 from hW2 ▸ HB.out.alloc HB.out.size _)
        have hs2 : W2.heap.size = wr.heap.size + 1 := by rw [← hW2]; exact Array.size_push _
        have HS2 := Aside0.mk hs2
        have HLT := Aside0.mk (Kd.R_lt HR.out)
        clear hs2 HR HB hb6
        generalize wr.heap.size = b6 at *
        have HGy := Aside0.mk (fun y (hy : y ∈ ds) => show Good w1 (fun k => P k ∧ k ≠ blk) y from by
          rw [HD.out.2] at hy
          rcases eFold_mem _ _ y hy with ⟨z, hz2, h1, h2⟩ | ⟨z, hz2, _⟩
          · exact (HG1.out z (List.mem_of_mem_take hz2)).same h1 h2
          · cases hz2)
        have hLn : ds.length = L := HD.out.1
        rcases List.eq_nil_or_concat ds with e | ⟨d0, q, e⟩
        · have hL0 : L = 0 := by rw [← hLn, e]; rfl
          have HE := Aside0.mk e
          clear e hLn
          subst hL0
          go_big_region_o
          obtain ⟨W3, hW3⟩ : ∃ W3, W3 = W2.drew := ⟨_, rfl⟩
          rw [← hW3]
          have o0 : W3.cell? ⟨b6, 0, none⟩ = some (.slice x.2.1 x.1.f0.length x.2.2) := by rw [hW3]; exact p0
          have o1 : W3.cell? ⟨b6, 1, none⟩ = some (.int .i64 x.1.f1) := by rw [hW3]; exact p1
          have HR3 := Aside0.mk (show (Kd.raw 2).R 38 W3 w1.heap.size (fun k => w1.heap.size ≤ k) (.slice A 0 c) (ds.map ecells) from hW3 ▸ Kd.R_drewN (Kd.R_mono HR2.out (fun k hk => Kd.R_base HR2.out k hk.symm)) 1)
          have HB3 := Aside0.mk (show Below w1.heap.size w1 W3 from hW3 ▸ pw_below_drewN HB2.out 1)
          have HLB := Aside0.mk (show ((ds.map ecells).length + 1) * 32 ≤ 140737488355328 by rw [List.length_map, HD.out.1]; omega)
          have HM := Aside0.mk (show (Kd.raw 2).M W3 w1.heap.size (fun _ => False) (ecells x) (ecells x) from ⟨rfl, ecells_one x⟩)
          clear HR2 HB2 p0 p1 hW3
          go_wp2_with ((with_reducible refine gate_builtin (b := .append) (xs := #[.tmp 49, .tmp 51]) rfl ?_); at_builtin; refine Kd.R_append (Kd.raw 2) (w0 := w1) w1.heap.size rfl (.tmp 49) (.tmp 51) 27 38 (.agg #[(.slice none 0 0), (.int .i64 0)]) 32 rfl Try.underlying27 info38 rfl (by decide) (by decide) (.slice A 0 c) (ds.map ecells) (ecells x) (ecells x) (fun k => w1.heap.size ≤ k) (fun _ => False) rfl rfl HM.out (fun _ h => h.elim) (fun k hk => Nat.le_trans HB3.out.size hk) HR3.out HB3.out HB3.out.size HLB.out ?_; intro v1 w2 hR4 hB4 hg4 hat4; have HR4 := Aside0.mk hR4; have HB4 := Aside0.mk hB4; clear hR4 hB4 hg4 hat4 HR3 HB3)
          obtain ⟨A1, c9, rfl⟩ := Kd.R_slice HR4.out
          go_roundg (es.length - (i + 1))
          case measure => omega
          case rel =>
            refine ⟨i + 1, c9, _, A1, eStep ds x, rfl, by go_num, by omega, Nat.le_refl _, ?_, ⟨?_, HX.out.symm⟩, ⟨?_⟩, HB4⟩
            · rw [List.length_append, List.length_map, HD.out.1]; simp only [List.length_cons, List.length_nil]; omega
            · rw [show eStep ds x = ds ++ [x] by rw [HE.out, eStep_nil HZ.out]; rfl]; simp
            · have e9 : (eStep ds x).map ecells = ds.map ecells ++ [ecells x] := by rw [show eStep ds x = ds ++ [x] by rw [HE.out, eStep_nil HZ.out]; rfl, List.map_append]; rfl
              rw [e9]
              exact Kd.R_tight rfl HR4.out
        · rw [List.concat_eq_append] at e
          obtain ⟨m, hm⟩ : ∃ u, u = d0.length := ⟨_, rfl⟩
          have hL1 : L = m + 1 := by rw [← hLn, e, hm]; simp
          have HE := Aside0.mk (And.intro e hm)
          obtain ⟨ad, rfl, _⟩ := ((Kd.R_reads' HR2.out).2.2).2.2 (by rw [List.length_map, hLn]; omega)
          obtain ⟨g, rfl⟩ := Kd.R_head HR2.out
          obtain ⟨cs, hcl, hM, hcc, hfr⟩ := Kd.R_elem HR2.out [] (m : Int) (by omega) (by omega)
          have hcs : cs = ecells q := by
            have h1 := hM.1
            rw [Int.toNat_natCast, e, List.map_append, List.getD_eq_getElem?_getD, List.getElem?_append_right (by rw [List.length_map]; omega), List.length_map, ← hm, Nat.sub_self] at h1
            exact h1
          have u0 : W2.cell? ⟨g, m * 2, none⟩ = some (.slice q.2.1 q.1.f0.length q.2.2) := by
            have := hcc 0 (.slice q.2.1 q.1.f0.length q.2.2) (by rw [hcs]; rfl)
            rwa [Int.toNat_natCast] at this
          have u1 : W2.cell? ⟨g, m * 2 + 1, none⟩ = some (.int .i64 q.1.f1) := by
            have := hcc 1 (.int .i64 q.1.f1) (by rw [hcs]; rfl)
            rwa [Int.toNat_natCast] at this
          have uf : W2.frozen? ⟨g, m * 2 + 1, none⟩ = false := by
            have := hfr 1
            rwa [Int.toNat_natCast] at this
          have rL := st_wrap (x := (L : Int) - 1) (u := m) (by omega) (by omega)
          have hmL : m < L := by omega
          have hmz : (m : Int) < (L : Int) := by omega
          have hL0z : (0 : Int) < (L : Int) := by omega
          have hL0n : 0 < L := by omega
          obtain ⟨b, hb⟩ : ∃ b, b = decide (q.1.f0 = x.1.f0) := ⟨_, rfl⟩
          have hq : ∀ n, Calls Try.prog 38 #[.slice q.2.1 q.1.f0.length q.2.2, .slice x.2.1 x.1.f0.length x.2.2] (W2.drewN n) fun e w' => e = .returned (.bool b) ∧ ∃ n', w' = W2.drewN n' := fun n => by
            have hGq := HGy.out q (by rw [e]; simp)
            have hC : ∀ y : PtE, Good w1 (fun k => P k ∧ k ≠ blk) y → (Kd.int .i64).C (W2.drewN n) y.2.1 y.1.f0.length y.1.f0 := fun y hy => Kd.C_below hy.now (pw_below_drewN HB2.out n)
            obtain ⟨k, hk⟩ := eq_is q.1.f0 x.1.f0 (Kd.C_max (hC q hGq))
            rw [← hb] at hk
            refine (slices_Equal_int_int.calls k _ _ _ _ _ _ b _ (hC q hGq) hGq.1 (hC x HGx.out) HGx.out.1 hk).mono ?_
            rintro e w' ⟨rfl, n', rfl⟩
            exact ⟨rfl, n + n', by rw [World.drewN_drewN]⟩
          have HBB := Aside0.mk hb
          have HU := Aside0.mk hcs
          have HL1 := Aside0.mk hL1
          have HSm := Aside0.mk (show 0 ≤ q.1.f1 ∧ 0 ≤ x.1.f1 ∧ q.1.f1 + x.1.f1 ≤ 4611686018427387904 from by
            have := e_small HY.out.1 HG.out hiy (HD.out.2.symm.trans e)
            rw [← HXI.out] at this
            exact this)
          clear e hm hLn hL1 hcl hM hcc hfr hb hcs
          cases b with
          | false =>
            go_quiet (exact hq _)
            clear hq
            obtain ⟨W3, hW3⟩ : ∃ W3, W3 = W2.drewN nq := ⟨_, rfl⟩
            rw [← hW3]
            have o0 : W3.cell? ⟨b6, 0, none⟩ = some (.slice x.2.1 x.1.f0.length x.2.2) := by rw [hW3]; exact p0
            have o1 : W3.cell? ⟨b6, 1, none⟩ = some (.int .i64 x.1.f1) := by rw [hW3]; exact p1
            have HR3 := Aside0.mk (show (Kd.raw 2).R 38 W3 w1.heap.size (fun k => w1.heap.size ≤ k) (.slice (some ⟨g, 0, none⟩) L c) (ds.map ecells) from hW3 ▸ Kd.R_drewN (Kd.R_mono HR2.out (fun k hk => Kd.R_base HR2.out k hk.symm)) nq)
            have HB3 := Aside0.mk (show Below w1.heap.size w1 W3 from hW3 ▸ pw_below_drewN HB2.out nq)
            have HLB := Aside0.mk (show ((ds.map ecells).length + 1) * 32 ≤ 140737488355328 by rw [List.length_map, HD.out.1]; omega)
            have HM := Aside0.mk (show (Kd.raw 2).M W3 w1.heap.size (fun _ => False) (ecells x) (ecells x) from ⟨rfl, ecells_one x⟩)
            clear HR2 HB2 p0 p1 hW3
            go_wp2_with ((with_reducible refine gate_builtin (b := .append) (xs := #[.tmp 49, .tmp 51]) rfl ?_); at_builtin; refine Kd.R_append (Kd.raw 2) (w0 := w1) w1.heap.size rfl (.tmp 49) (.tmp 51) 27 38 (.agg #[(.slice none 0 0), (.int .i64 0)]) 32 rfl Try.underlying27 info38 rfl (by decide) (by decide) (.slice (some ⟨g, 0, none⟩) L c) (ds.map ecells) (ecells x) (ecells x) (fun k => w1.heap.size ≤ k) (fun _ => False) rfl rfl HM.out (fun _ h => h.elim) (fun k hk => Nat.le_trans HB3.out.size hk) HR3.out HB3.out HB3.out.size HLB.out ?_; intro v1 w2 hR4 hB4 hg4 hat4; have HR4 := Aside0.mk hR4; have HB4 := Aside0.mk hB4; clear hR4 hB4 hg4 hat4 HR3 HB3)
            obtain ⟨A1, c9, rfl⟩ := Kd.R_slice HR4.out
            go_roundg (es.length - (i + 1))
            case measure => omega
            case rel =>
              refine ⟨i + 1, c9, _, A1, eStep ds x, rfl, by go_num, by omega, Nat.le_refl _, ?_, ⟨?_, HX.out.symm⟩, ⟨?_⟩, HB4⟩
              · rw [List.length_append, List.length_map, HD.out.1]; simp only [List.length_cons, List.length_nil]; omega
              · rw [show eStep ds x = ds ++ [x] by rw [HE.out.1, eStep_new HZ.out (of_decide_eq_false HBB.out.symm)]]; simp
              · have e9 : (eStep ds x).map ecells = ds.map ecells ++ [ecells x] := by rw [show eStep ds x = ds ++ [x] by rw [HE.out.1, eStep_new HZ.out (of_decide_eq_false HBB.out.symm)], List.map_append]; rfl
                rw [e9]
                exact Kd.R_tight rfl HR4.out
          | true =>
            go_quiet (exact hq _)
            clear hq
            obtain ⟨W3, hW3⟩ : ∃ W3, W3 = W2.drewN nq := ⟨_, rfl⟩
            rw [← hW3]
            have o1 : W3.cell? ⟨b6, 1, none⟩ = some (.int .i64 x.1.f1) := by rw [hW3]; exact p1
            have v1 : W3.cell? ⟨g, m * 2 + 1, none⟩ = some (.int .i64 q.1.f1) := by rw [hW3]; exact u1
            have vf : W3.frozen? ⟨g, m * 2 + 1, none⟩ = false := by rw [hW3]; exact uf
            have HR3 := Aside0.mk (show (Kd.raw 2).R 38 W3 w1.heap.size (fun k => w1.heap.size ≤ k) (.slice (some ⟨g, 0, none⟩) L c) (ds.map ecells) from hW3 ▸ Kd.R_drewN (Kd.R_mono HR2.out (fun k hk => Kd.R_base HR2.out k hk.symm)) nq)
            have HB3 := Aside0.mk (show Below w1.heap.size w1 W3 from hW3 ▸ pw_below_drewN HB2.out nq)
            have hgB : w1.heap.size ≤ g := Kd.R_base HR2.out g rfl
            have rS : IntKind.i64.wrap (q.1.f1 + x.1.f1) = q.1.f1 + x.1.f1 := by rw [IntKind.wrap_i64]; have := HSm.out; omega
            clear HR2 HB2 p0 p1 u0 u1 uf hW3
            go_wp2_with fail
            go_big_region_o
            all_goals go_wp2
            go_roundg (es.length - (i + 1))
            case measure => omega
            case rel =>
              have e9 : eStep ds x = d0 ++ [(⟨q.1.f0, q.1.f1 + x.1.f1⟩, q.2)] := by rw [HE.out.1, eStep_same HZ.out (of_decide_eq_true HBB.out.symm)]
              have hl9 : d0.length = m := HE.out.2.symm
              refine ⟨i + 1, c, L, some ⟨g, 0, none⟩, eStep ds x, rfl, by go_num, by omega, Nat.le_refl _, by omega, ⟨by rw [e9, HL1.out]; simp [hl9], HX.out.symm⟩, ⟨?_⟩, ⟨?_⟩⟩
              · have hrow : (ds.map ecells).getD ((m : Int).toNat) [] = ecells q := by
                  rw [Int.toNat_natCast, HE.out.1, List.map_append, List.getD_eq_getElem?_getD, List.getElem?_append_right (by rw [List.length_map]; omega), List.length_map, hl9, Nat.sub_self]
                  rfl
                obtain ⟨cs, hcl, hM, hcc, _⟩ := Kd.R_elem HR3.out [] (m : Int) (by omega) (by omega)
                have hM1 : cs = ecells q := hM.1.trans hrow
                have hseg := (Kd.R_seg HR3.out (m : Int) (by omega) (by omega) (c := cs) (seg := [.int .i64 (q.1.f1 + x.1.f1)]) (j := 1) (x' := ecells (⟨q.1.f0, q.1.f1 + x.1.f1⟩, q.2)) (okp := fun _ => False) hcl hcc (by show 1 + 1 ≤ 2; omega) (by rw [hM1]; exact ⟨rfl, ecells_one (⟨q.1.f0, q.1.f1 + x.1.f1⟩, q.2)⟩) (fun _ h => h.elim)).1
                have e10 : (ds.map ecells).set ((m : Int).toNat) (ecells (⟨q.1.f0, q.1.f1 + x.1.f1⟩, q.2)) = (eStep ds x).map ecells := by
                  rw [e9, Int.toNat_natCast, HE.out.1, List.map_append, List.map_append, List.set_append_right _ _ (by rw [List.length_map]; omega), List.length_map, hl9, Nat.sub_self]
                  rfl
                rw [e10, Int.toNat_natCast] at hseg
                exact Kd.R_tight rfl (Kd.R_drew hseg)
              · exact (HB3.out.setCell (p := ⟨g, m * 2 + 1, none⟩) hgB _).drew
    · have hiz : ¬ (i : Int) < (es.length : Int) := by omega
      have hie : i = es.length := by omega
      have HDS := Aside0.mk (show ds.length = L ∧ ds = ys.foldl eStep [] from ⟨HD.out.1, by rw [HD.out.2, hie, ← hyl, List.take_length]⟩)
      have hL : L < 4398046511104 := by omega
      clear HD hi hie hdi hin hg1
      by_cases hL0 : L = 0
      · subst hL0
        go_wp2
        (try simp only [Exit.inBlock, Exit.then])
        have h0 : ds = [] := List.eq_nil_of_length_eq_zero HDS.out.1
        have hF := (ds_canon HY.out.1 HY.out.2 HG.out).1
        rw [← HDS.out.2, h0] at hF
        have hD : tDone (tMerge (sortP (es.map (·.1)))) = ([], 6) := by rw [← hF]; exact if_pos rfl
        refine bodyPost_ret (results_tmp2 rfl _ _ _) rfl ⟨.slice none 0 0, by rw [hD]; rfl, [], by rw [hD]; rfl, Kd.R_nil _ _ _ _ _, by simp, t_kept HK1.out HB.out⟩
      · have hLz : ¬ (L : Int) = 0 := by omega
        have hLb : ((L : Int) == 0) = false := by simpa using hL0
        have hLp : 0 < L := by omega
        have HGd := Aside0.mk (fun y (hy : y ∈ ds) => show Good w1 (fun k => P k ∧ k ≠ blk) y from by
          rw [HDS.out.2] at hy
          rcases eFold_mem _ _ y hy with ⟨z, hz2, h1, h2⟩ | ⟨z, hz2, _⟩
          · exact (HG1.out z hz2).same h1 h2
          · cases hz2)
        have HF := Aside0.mk (show ds.map (·.1) = tMerge (sortP (es.map (·.1))) ∧ (∀ p ∈ ds.map (·.1), 0 < p.f1) ∧ totOf (ds.map (·.1)) ≤ 4611686018427387904 from by
          have := ds_canon HY.out.1 HY.out.2 HG.out
          rw [← HDS.out.2] at this
          exact this)
        obtain ⟨ad, rfl, _⟩ := ((Kd.R_reads' HR.out).2.2).2.2 (by rw [List.length_map, HDS.out.1]; exact hLp)
        obtain ⟨g, rfl⟩ := Kd.R_head HR.out
        replace HR := Aside0.mk (Kd.R_mono HR.out (ok' := fun k => w1.heap.size ≤ k) (fun k hk => Kd.R_base HR.out k hk.symm))
        have hgB : w1.heap.size ≤ g := Kd.R_base HR.out g rfl
        go_wp2_with fail
        clear hiz
        go_loopg [8, 59] L (fun g2 v8 v59 wq => ∃ (i2 gg : Nat), v8 = .int .i64 gg ∧ v59 = .int .i64 i2 ∧ i2 ≤ L ∧ L - i2 ≤ g2 ∧ Aside0 (gg = gOf ((ds.map (·.1)).take i2)) ∧
          Aside0 ((Kd.raw 2).R 38 wq w1.heap.size (fun k => w1.heap.size ≤ k) (.slice (some ⟨g, 0, none⟩) L c) (ds.map ecells)) ∧ Aside0 (Below w1.heap.size w1 wq))
        case atStart => exact ⟨0, 0, rfl, rfl, Nat.zero_le _, Nat.le_refl _, ⟨rfl⟩, HR, HB⟩
        case round =>
          clear HR HB
          obtain ⟨i2, gg, rfl, rfl, hi2, hg2, HG2, HR, HB⟩ := hrel
          by_cases hlt2 : i2 < L
          · have hz2 : (i2 : Int) < (L : Int) := by omega
            have hdl := HDS.out.1
            obtain ⟨y, hy⟩ : ∃ y, y = ds[i2]'(by omega) := ⟨_, rfl⟩
            obtain ⟨cs, hcl, hM, hcc, hfr⟩ := Kd.R_elem HR.out [] (i2 : Int) (by omega) (by omega)
            have hcs : cs = ecells y := by
              have h1 := hM.1
              rw [Int.toNat_natCast, List.getD_eq_getElem?_getD, List.getElem?_map, List.getElem?_eq_getElem (by omega), ← hy] at h1
              exact h1
            have u0 : wr.cell? ⟨g, i2 * 2, none⟩ = some (.slice y.2.1 y.1.f0.length y.2.2) := by
              have := hcc 0 (.slice y.2.1 y.1.f0.length y.2.2) (by rw [hcs]; rfl)
              rwa [Int.toNat_natCast] at this
            have u1 : wr.cell? ⟨g, i2 * 2 + 1, none⟩ = some (.int .i64 y.1.f1) := by
              have := hcc 1 (.int .i64 y.1.f1) (by rw [hcs]; rfl)
              rwa [Int.toNat_natCast] at this
            have hyp : 0 < y.1.f1 := HF.out.2.1 y.1 (List.mem_map_of_mem (by rw [hy]; exact List.getElem_mem _))
            have HN := Aside0.mk (show gOf ((ds.map (·.1)).take (i2 + 1)) = Nat.gcd y.1.f1.toNat gg from by
              rw [List.take_succ_eq_append_getElem (by rw [List.length_map]; omega), HG2.out, List.getElem_map, ← hy]
              unfold gOf
              rw [List.foldl_append]
              rfl)
            obtain ⟨kk, hkk⟩ := gcd_is gg y.1.f1.toNat
            rw [Int.toNat_of_nonneg (Int.le_of_lt hyp)] at hkk
            have HK2 := Aside0.mk hkk
            generalize Nat.gcd y.1.f1.toNat gg = g9 at HN HK2
            have HYP := Aside0.mk hyp
            clear hkk hyp hy hcl hM hcc hfr hcs hdl
            go_wp2_with (go_at_call 31; (with_reducible refine (dist_gcd.calls kk (gg : Int) y.1.f1 (g9 : Int) _ HK2.out).mono ?_); rintro e w9 ⟨rfl, nd, hq9⟩; have HR9 := Aside0.mk (show (Kd.raw 2).R 38 w9 w1.heap.size (fun k => w1.heap.size ≤ k) (.slice (some ⟨g, 0, none⟩) L c) (ds.map ecells) from hq9 ▸ Kd.R_drewN (Kd.R_alloc HR.out _) nd); have HB9 := Aside0.mk (show Below w1.heap.size w1 w9 from hq9 ▸ pw_below_drewN (HB.out.alloc HB.out.size _) nd); clear hq9 HR HB)
            go_roundg (L - (i2 + 1))
            case measure => omega
            case rel => exact ⟨i2 + 1, g9, rfl, by go_num, by omega, Nat.le_refl _, ⟨HN.out.symm⟩, HR9, HB9⟩
          · have hz2 : ¬ (i2 : Int) < (L : Int) := by omega
            have hi2e : i2 = L := by omega
            have HG3 := Aside0.mk (show gg = gOf (ds.map (·.1)) from by rw [HG2.out, hi2e, ← HDS.out.1, ← List.length_map (f := (·.1)), List.take_length])
            have HC := Aside0.mk (C_of_raw HR.out (fun y hy => (HGd.out y hy).below HB.out))
            obtain ⟨kt, hkt⟩ := total_is (ds.map (·.1)) (by rw [List.length_map, HDS.out.1]; exact hL) (fun p hp => Int.le_of_lt (HF.out.2.1 p hp)) HF.out.2.2
            have hlm : (ds.map (·.1)).length = L := by rw [List.length_map]; exact HDS.out.1
            have hLc : L ≤ c := by have h1 := HC.out.1; have h2 := HC.out.2.1; omega
            have hcall := dist_total.calls kt (some ⟨g, 0, none⟩) c (ds.map (·.1)) (totOf (ds.map (·.1))) wr HC.out.2.2 (by rw [hlm]; exact hLc) hkt
            rw [hlm] at hcall
            obtain ⟨tt, htt⟩ : ∃ u, u = totOf (ds.map (·.1)) := ⟨_, rfl⟩
            rw [← htt] at hcall
            have ht0 : 0 ≤ tt := by rw [htt]; exact totOf_nonneg HF.out.2.1
            have ht1 : tt ≤ 4611686018427387904 := by rw [htt]; exact HF.out.2.2
            have hgp : 0 < gg := by rw [HG3.out]; exact gOf_pos HF.out.2.1 (fun e => by rw [e] at hlm; simp at hlm; omega)
            have hgz : ¬ (gg : Int) = 0 := by omega
            have hgb : ((gg : Int) == 0) = false := by simpa using hgz
            obtain ⟨qq, hqq⟩ : ∃ u : Int, u = tt / (gg : Int) := ⟨_, rfl⟩
            obtain ⟨rdiv, hq0, hq1⟩ := tdiv_of ht0 ht1 hqq
            have rw64 : IntKind.i64.wrap qq = qq := by rw [IntKind.wrap_i64]; omega
            have HQ := Aside0.mk (And.intro htt hqq)
            have HCALL := Aside0.mk hcall
            clear hcall hkt HG2 hlt2 hi2e htt hqq
            have hD : tDone (tMerge (sortP (es.map (·.1)))) = if qq > 1073741824 ∨ L > 4096 then ([], 4) else ((ds.map (eDiv gg)).map (·.1), 0) := by
              have e0 : ds.map (·.1) ≠ [] := fun e => by rw [e] at hlm; simp at hlm; omega
              rw [← HF.out.1]
              unfold tDone
              rw [if_neg e0, ← HG3.out, hlm, ← HQ.out.1, ← HQ.out.2, List.map_map, List.map_map]
              rfl
            have HD := Aside0.mk hD
            clear hD
            have hgap : Aside0 (Below w1.heap.size w1 wr) := HB
            by_cases hbig : qq > 1073741824
            · have hbz : decide (qq > 1073741824) = true := decide_eq_true hbig
              go_wp2_with (go_at_call 29; (with_reducible refine HCALL.out.mono ?_); rintro e w9 ⟨rfl, hb9⟩; have HB9 := Aside0.mk hb9; clear hb9 HCALL)
              (try simp only [Exit.inBlock, Exit.then])
              have hD := HD.out
              rw [if_pos (.inl hbig)] at hD
              exact bodyPost_ret (results_tmp2 rfl _ _ _) rfl ⟨.slice none 0 0, by rw [hD]; rfl, [], by rw [hD]; rfl, Kd.R_nil _ _ _ _ _, by simp, t_kept HK1.out (below_then HB.out HB.out.size HB9.out)⟩
            · have hbz : decide (qq > 1073741824) = false := decide_eq_false hbig
              by_cases hlong : 4096 < L
              · have hlz : (4096 : Int) < (L : Int) := by omega
                have hld : decide ((L : Int) > 4096) = true := decide_eq_true hlz
                go_wp2_with (go_at_call 29; (with_reducible refine HCALL.out.mono ?_); rintro e w9 ⟨rfl, hb9⟩; have HB9 := Aside0.mk hb9; clear hb9 HCALL)
                (try simp only [Exit.inBlock, Exit.then])
                have hD := HD.out
                rw [if_pos (.inr hlong)] at hD
                exact bodyPost_ret (results_tmp2 rfl _ _ _) rfl ⟨.slice none 0 0, by rw [hD]; rfl, [], by rw [hD]; rfl, Kd.R_nil _ _ _ _ _, by simp, t_kept HK1.out (below_then HB.out HB.out.size HB9.out)⟩
              · have hlz : ¬ (4096 : Int) < (L : Int) := by omega
                have hld : decide ((L : Int) > 4096) = false := decide_eq_false (by omega)
                go_wp2_with (go_at_call 29; (with_reducible refine HCALL.out.mono ?_); rintro e w9 ⟨rfl, hb9⟩; have HB9 := Aside0.mk (below_then HB.out HB.out.size hb9); have HR9 := Aside0.mk (Kd.R_below HR.out hb9); clear hb9 HCALL HB HR hgap)
                go_loopg [80] L (fun g3 v80 wq => ∃ i3 : Nat, v80 = .int .i64 i3 ∧ i3 ≤ L ∧ L - i3 ≤ g3 ∧
                  Aside0 ((Kd.raw 2).R 38 wq w1.heap.size (fun k => w1.heap.size ≤ k) (.slice (some ⟨g, 0, none⟩) L c) (((ds.take i3).map (eDiv gg) ++ ds.drop i3).map ecells)) ∧ Aside0 (Below w1.heap.size w1 wq))
                case atStart => exact ⟨0, rfl, Nat.zero_le _, Nat.le_refl _, ⟨by simpa using HR9.out⟩, HB9⟩
                case round =>
                  clear HR9 HB9
                  obtain ⟨i3, rfl, hi3, hg3, HR, HB⟩ := hrel
                  by_cases hlt3 : i3 < L
                  · have hz3 : (i3 : Int) < (L : Int) := by omega
                    have hdl := HDS.out.1
                    obtain ⟨y, hy⟩ : ∃ y, y = ds[i3]'(by omega) := ⟨_, rfl⟩
                    have hdrop : ds.drop i3 = y :: ds.drop (i3 + 1) := by rw [hy]; exact List.drop_eq_getElem_cons (by omega)
                    have htl : ((ds.take i3).map (eDiv gg)).length = i3 := by rw [List.length_map, List.length_take]; omega
                    obtain ⟨cs, hcl, hM, hcc, hfr⟩ := Kd.R_elem HR.out [] (i3 : Int) (by omega) (by omega)
                    have hcs : cs = ecells y := by
                      have h1 := hM.1
                      rw [Int.toNat_natCast, hdrop, List.map_append, List.getD_eq_getElem?_getD, List.getElem?_append_right (by rw [List.length_map, htl]; omega), List.length_map, htl, Nat.sub_self] at h1
                      exact h1
                    have u1 : wr.cell? ⟨g, i3 * 2 + 1, none⟩ = some (.int .i64 y.1.f1) := by
                      have := hcc 1 (.int .i64 y.1.f1) (by rw [hcs]; rfl)
                      rwa [Int.toNat_natCast] at this
                    have uf : wr.frozen? ⟨g, i3 * 2 + 1, none⟩ = false := by
                      have := hfr 1
                      rwa [Int.toNat_natCast] at this
                    have hyp : 0 < y.1.f1 := HF.out.2.1 y.1 (List.mem_map_of_mem (by rw [hy]; exact List.getElem_mem _))
                    have hyt : y.1.f1 ≤ 4611686018427387904 := by
                      have := one_le_tot HF.out.2.1 (p := y.1) (List.mem_map_of_mem (by rw [hy]; exact List.getElem_mem _))
                      have := HF.out.2.2
                      omega
                    obtain ⟨z, hzq⟩ : ∃ u : Int, u = y.1.f1 / (gg : Int) := ⟨_, rfl⟩
                    obtain ⟨rz, hz0, hz1⟩ := tdiv_of (Int.le_of_lt hyp) hyt hzq
                    have rz2 : IntKind.i64.wrap z = z := by rw [IntKind.wrap_i64]; omega
                    have hseg := (Kd.R_seg HR.out (i3 : Int) (by omega) (by omega) (c := cs) (seg := [.int .i64 z]) (j := 1) (x' := ecells (eDiv gg y)) (okp := fun _ => False) hcl hcc (by show 1 + 1 ≤ 2; omega) (by rw [hcs, hzq]; exact ⟨rfl, ecells_one (eDiv gg y)⟩) (fun _ h => h.elim)).1
                    have e10 : (((ds.take i3).map (eDiv gg) ++ ds.drop i3).map ecells).set ((i3 : Int).toNat) (ecells (eDiv gg y)) = (((ds.take (i3 + 1)).map (eDiv gg) ++ ds.drop (i3 + 1)).map ecells) := by
                      rw [Int.toNat_natCast, hdrop, List.map_append, List.set_append_right _ _ (by rw [List.length_map, htl]; omega), List.length_map, htl, Nat.sub_self, List.take_succ_eq_append_getElem (by omega), ← hy]
                      simp only [List.map_append, List.append_assoc]
                      rfl
                    rw [e10, Int.toNat_natCast] at hseg
                    have HSEG := Aside0.mk (show (Kd.raw 2).R 38 (wr.setCell ⟨g, i3 * 2 + 1, none⟩ (.int .i64 z)) w1.heap.size (fun k => w1.heap.size ≤ k) (.slice (some ⟨g, 0, none⟩) L c) (((ds.take (i3 + 1)).map (eDiv gg) ++ ds.drop (i3 + 1)).map ecells) from hseg)
                    clear hseg e10 hzq hyt hyp hcs hcl hM hcc hfr htl hdrop hy hdl HR
                    go_wp2
                    go_roundg (L - (i3 + 1))
                    case measure => omega
                    case rel => exact ⟨i3 + 1, by go_num, by omega, Nat.le_refl _, HSEG, ⟨HB.out.setCell (p := ⟨g, i3 * 2 + 1, none⟩) hgB _⟩⟩
                  · have hz3 : ¬ (i3 : Int) < (L : Int) := by omega
                    have hi3e : i3 = L := by omega
                    have HRF := Aside0.mk (show (Kd.raw 2).R 38 wr w1.heap.size (fun k => w1.heap.size ≤ k) (.slice (some ⟨g, 0, none⟩) L c) ((ds.map (eDiv gg)).map ecells) from by
                      have h := HR.out
                      rw [hi3e, ← HDS.out.1, List.take_length, List.drop_length, List.append_nil] at h
                      rw [← HDS.out.1]
                      exact h)
                    clear HR hi3e
                    go_wp2
                    (try simp only [Exit.inBlock, Exit.then])
                    have hD := HD.out
                    rw [if_neg (by omega)] at hD
                    refine bodyPost_ret (results_tmp2 rfl _ _ _) rfl ⟨.slice (some ⟨g, 0, none⟩) L c, by rw [hD]; rfl, ds.map (eDiv gg), by rw [hD], Kd.R_lower (Kd.R_mono HRF.out (fun _ _ => trivial)) hw1, fun e he => ?_, t_kept HK1.out HB.out⟩
                    obtain ⟨y, hy, rfl⟩ := List.mem_map.1 he
                    exact ((HGd.out y hy).below HB.out).same rfl rfl
end
section
theorem no_insertion (A : Option Addr) (c : Nat) (w : World) : Calls Try.prog 61 #[.slice A 0 c, .int .i64 0, .int .i64 0, .func (.func 55) #[] #[]] w fun e w' => e = .returned (.tuple #[]) ∧ w' = w := by
  go_enter Try.func61, Try.ntmps61
  go_wp2
  go_loopg [8] 0 (fun g1 vi wr => vi = .int .i64 1 ∧ wr = w)
  case atStart => exact ⟨rfl, rfl⟩
  case round =>
    obtain ⟨rfl, rfl⟩ := hrel
    go_wp2
    go_end0
    exact ⟨rfl, rfl⟩
theorem no_stable (A : Option Addr) (c : Nat) (w : World) : Calls Try.prog 50 #[.slice A 0 c, .int .i64 0, .func (.func 55) #[] #[]] w fun e w' => e = .returned (.tuple #[]) ∧ w' = w := by
  go_enter Try.func50, Try.ntmps50
  go_wp2
  go_loopg [7, 8] 0 (fun g1 va vb wr => va = .int .i64 0 ∧ vb = .int .i64 20 ∧ wr = w)
  case atStart => exact ⟨rfl, rfl, rfl⟩
  case round =>
    obtain ⟨rfl, rfl, hw⟩ := hrel
    have HW := Aside0.mk hw
    clear hw
    go_wp2_with (go_at_call 61; (with_reducible refine (no_insertion A c _).mono ?_); rintro e w9 ⟨rfl, hw9⟩; have HW9 := Aside0.mk (hw9.trans HW.out); clear hw9)
    go_loopg [6, 7, 8, 9] 0 (fun g1 vs va vb vm wq => vs = .int .i64 20 ∧ Aside0 (wq = w))
    case atStart => exact ⟨rfl, HW9⟩
    case round =>
      obtain ⟨rfl, HQ⟩ := hrel
      go_wp2
      go_end0
      exact ⟨rfl, HQ.out⟩
theorem no_sort (A : Option Addr) (c : Nat) (w : World) : Calls Try.prog 54 #[.slice A 0 c, .func (.func 55) #[] #[]] w fun e w' => e = .returned (.tuple #[]) ∧ w' = w := by
  go_enter Try.func54, Try.ntmps54
  go_wp2_with (go_at_call 50; (with_reducible refine (no_stable A c _).mono ?_); rintro e w9 ⟨rfl, rfl⟩)
  go_end0
  exact ⟨rfl, rfl⟩
theorem no_tidy (A : Option Addr) (c : Nat) (w : World) : Calls Try.prog 40 #[.slice A 0 c] w fun e w' => e = .returned (.tuple #[.slice none 0 0, .int .i64 6]) ∧ w' = w := by
  go_enter Try.func40, Try.ntmps40
  go_wp2_with (go_at_call 54; (with_reducible refine (no_sort A c _).mono ?_); rintro e w9 ⟨rfl, hw9⟩; have HW := Aside0.mk hw9; clear hw9)
  go_loopg [4, 16] 0 (fun g1 v4 v16 wq => v4 = .slice none 0 0 ∧ v16 = .int .i64 0 ∧ Aside0 (wq = w))
  case atStart => exact ⟨rfl, rfl, HW⟩
  case round =>
    clear HW
    obtain ⟨rfl, rfl, HQ⟩ := hrel
    go_wp2
    (try simp only [Exit.inBlock, Exit.then])
    exact bodyPost_ret (results_tmp2 rfl _ _ _) rfl ⟨rfl, HQ.out⟩

set_option maxHeartbeats 8000000 in
set_option maxRecDepth 100000 in
theorem dist_tidy.calls (k : Nat) (P0_ : Nat → Prop) (u9000_ : Value) (l0 : List S38) (r1 : List S38) (r2 : Int) (w0 w : World) (hB : Below w0.heap.size w0 w) (ho0 : Kd.N k38 38 w w0.heap.size P0_ u9000_ l0) (h : dist_tidy.f k l0 = some (r1, r2)) :
    Calls Try.prog 40 #[u9000_] w fun e w' => ∃ v0_ : Value, e = .returned (.tuple #[v0_, .int .i64 r2]) ∧ Kd.N k38 38 w' w.heap.size (fun k_ => (P0_ k_ ∨ w.heap.size ≤ k_)) v0_ r1 ∧ Below w0.heap.size w0 w' ∧ Kept w w' (fun k_ => some k_ = u9000_.ownBlock) := by
  unfold dist_tidy.f at h
  split at h
  · rename_i hG
    injection h with h
    obtain ⟨es, h1, h2, h3⟩ := N_es ho0
    have hbase := Kd.N_base ho0
    obtain ⟨A, c, rfl⟩ := Kd.R_slice h3
    rw [List.length_map] at h3 h2 hbase ⊢
    rcases Nat.eq_zero_or_pos es.length with hz | hz
    · rw [hz] at h3 h2 hbase ⊢
      have he : es = [] := List.eq_nil_of_length_eq_zero hz
      have hl : l0 = [] := by rw [← h1, he]; rfl
      subst hl
      have hr : r1 = [] ∧ r2 = 6 := by
        have e : tDone (tMerge (sortP [])) = ([], 6) := by
          have : tMerge (sortP []) = [] := by simp [sortP, tMerge]
          rw [this]
          exact if_pos rfl
        rw [e] at h
        injection h with a b
        exact ⟨a.symm, b.symm⟩
      obtain ⟨rfl, rfl⟩ := hr
      refine (no_tidy A c w).mono ?_
      rintro e w' ⟨rfl, rfl⟩
      exact ⟨.slice none 0 0, rfl, Kd.N_nil _ _ _ _ _, hB, Kept.refl _ _⟩
    · obtain ⟨ad, rfl, _⟩ := ((Kd.R_reads' h3).2.2).2.2 (by rw [List.length_map]; exact hz)
      obtain ⟨g, rfl⟩ := Kd.R_head h3
      have hob : ∀ k, (some k = (Value.slice (some ⟨g, 0, none⟩) es.length c).ownBlock) ↔ k = g := fun k => by simp [Value.ownBlock]
      have hg : ∀ e ∈ es, Good w (fun k => (P0_ k ∧ k < w.heap.size) ∧ k ≠ g) e := fun e he => by
        obtain ⟨a, b⟩ := h2 e he
        exact ⟨a, Kd.F_mono (Kd.F_bound b) (fun k hk => ⟨⟨hk.1.1, hk.2⟩, fun e => hk.1.2 ((hob k).2 e)⟩)⟩
      refine (tidy_walk g c es w w0.heap.size (fun k => P0_ k ∧ k < w.heap.size) _ hz (by rw [h1]; exact hG) hg h3).mono ?_
      rintro e w' ⟨v, rfl, rs, hr1, hr2, hr3, hk, ho, ht, hu⟩
      rw [h1, h] at hr1
      replace hr1 : rs.map (·.1) = r1 := hr1
      have hgb : w0.heap.size ≤ g := hbase g rfl
      refine ⟨v, by rw [h1, h], ?_, ⟨ho.trans hB.os, ht.trans hB.tape, hu.trans hB.output, Nat.le_trans hB.size hk.1, fun i hi => (hk.2 i (Nat.lt_of_lt_of_le hi hB.size) (by omega)).trans (hB.block i hi)⟩, ⟨hk.1, fun i hi hn => hk.2 i hi (fun e => hn ((hob i).2 e))⟩⟩
      have hvb : ∀ k, v.ownBlock = some k → w.heap.size ≤ k := Kd.R_base hr2
      refine ⟨fun k hk => .inr (hvb k hk), rs.map ecells, by rw [← hr1, List.length_map, List.length_map], Kd.raw_tight hr2, fun j x cc hx hc => ?_⟩
      rw [← hr1, List.getElem?_map] at hx
      rw [List.getElem?_map] at hc
      obtain ⟨y, hy, rfl⟩ := Option.map_eq_some_iff.1 hx
      rw [hy] at hc
      injection hc with hc
      subst hc
      refine Kd.FK_mono (hr3 y (List.mem_of_getElem? hy)).fk (fun k hk => ⟨.inl hk.1.1, fun e => ?_⟩)
      have := hvb k e.symm
      have := hk.1.2
      omega
  · cases h
end
end TidyText


end Go.Proofs.Ytfoolbcfpedhmaa.PB

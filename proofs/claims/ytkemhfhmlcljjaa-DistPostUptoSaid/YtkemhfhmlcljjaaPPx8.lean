/- Functions of the translated program as Lean functions, and what their calls come to: written by this session's own program (wip/xprint.py) over the kit's print. Conditions stand in each theorem. -/
import Derived.Test.YtkemhfhmlcljjaaPPx0
import Derived.Test.YtkemhfhmlcljjaaPPx2
import Derived.Test.YtkemhfhmlcljjaaPPx5
import Derived.Test.YtkemhfhmlcljjaaPPx7
namespace Go.Proofs.Ytkemhfhmlcljjaa.PP
open Go.RowKit Go.Proofs.YtkemhfhmlcljjaaW.PrintWords Go.Proofs.YtkemhfhmlcljjaaW.PrintLast Go.Proofs.YtkemhfhmlcljjaaW.PrintMore
attribute [local go_sem] max2_int min2_int max_two min_two max_three min_three max_four min_four   -- for this text's walks alone
set_option linter.unusedVariables false
set_option linter.unusedSimpArgs false

/-! ### dist_Apart: function 25 -/
section ApartText
open Go.Shelf Go.Proofs Go.Proofs.YtkemhfhmlcljjaaW.EvKit
section
attribute [local go_sem] Oper.semAt_some
attribute [local go_sem] max2_int min2_int max_two min_two max_three min_three max_four min_four
def apStep (ta tb : Int) (n : Int) (x : Int × Int) : Int := wrap64 (n + mx 0 (wrap64 (wrap64 (x.1 * tb) - wrap64 (x.2 * ta))))
def apN (ta tb : Int) (L : List (Int × Int)) : Int := L.foldl (apStep ta tb) 0
theorem apN_snoc (ta tb : Int) (L : List (Int × Int)) (x : Int × Int) : apN ta tb (L ++ [x]) = apStep ta tb (apN ta tb L) x := by unfold apN; rw [List.foldl_append]; rfl

def apOut (up dn : Int) : Int × Int × Int := if up > 1073741824 ∨ dn > 1073741824 then (0, 0, 4) else (up, dn, 0)
def ApPost (w : World) (up dn : Int) (e : Ending) (W' : World) : Prop := e = .returned (.tuple #[.agg #[.int .i64 (apOut up dn).1, .int .i64 (apOut up dn).2.1], .int .i64 (apOut up dn).2.2]) ∧ Below w.heap.size w W'
set_option maxRecDepth 100000 in
set_option maxHeartbeats 8000000 in
theorem apart_walk (m : Nat) (hm : 4 ≤ m) (A0 : Option Addr) (c0 : Nat) (la : List S32) (A1 : Option Addr) (c1 : Nat) (lb : List S32) (w : World) (hr0 : Kd.C k32 w A0 la.length la) (hc0 : la.length ≤ c0) (hr1 : Kd.C k32 w A1 lb.length lb) (hc1 : lb.length ≤ c1)
    (hla : la.length ≤ 4611686018427387904) (hlb : lb.length ≤ 4611686018427387904) (hoa : ∀ p ∈ la, p.f0.length ≤ 4611686018427387904) (hob : ∀ p ∈ lb, p.f0.length ≤ 4611686018427387904)
    (hWr : ∀ (A : Option Addr) (w' : World), Kd.C (Kd.slice 32 k32) w' A 2 [la, lb] → Calls Try.prog 56 #[.slice A 2 2] w' fun e w2 => e = .returned (.int .i64 0) ∧ Below w'.heap.size w' w2)
    (ta tb : Int) (kta ktb : Nat) (hta : dist_total.f kta la = some ta) (htb : dist_total.f ktb lb = some tb) (kg : Nat) (g : Int) (hg : dist_gcd.f kg (wrap64 (ta * tb)) (apN ta tb (pairsL la lb)) = some g) (hg0 : ¬ g = 0) :
    CallsIn Fence.wide m Try.prog 25 #[.slice A0 la.length c0, .slice A1 lb.length c1] w (ApPost w (wrap64 (Int.tdiv (apN ta tb (pairsL la lb)) g)) (wrap64 (Int.tdiv (wrap64 (ta * tb)) g))) := by
  have h1 : 1 ≤ m := by omega
  have hut32 := Try.underlying32
  have hut34 := Try.underlying34
  refine callsIn_of_wp_marks Try.func25 rfl trivial ?_ rfl
  simp only [Try.ntmps25, List.size_toArray, List.length_cons, List.length_nil, Nat.reduceAdd, Nat.reduceSub, Array.replicate_succ, Array.replicate_zero, List.push_toArray, List.append_toArray, List.nil_append, List.cons_append]
  gi_wp2
  refine ⟨trivial, ?_⟩
  have hB1 : Below w.heap.size w ((w.alloc (.cells #[.int .i64 0, .int .i64 0] 34)).alloc (.cells #[.slice A0 la.length c0, .slice A1 lb.length c1] 23)) := ((Below.refl _ w).alloc (Nat.le_refl _) _).alloc (by simp) _
  have hsz : ((w.alloc (.cells #[.int .i64 0, .int .i64 0] 34)).alloc (.cells #[.slice A0 la.length c0, .slice A1 lb.length c1] 23)).heap.size = w.heap.size + 2 := by simp
  have hC := two_C (w := (w.alloc (.cells #[.int .i64 0, .int .i64 0] 34)).alloc (.cells #[.slice A0 la.length c0, .slice A1 lb.length c1] 23)) (g := w.heap.size + 1) (A0 := A0) (A1 := A1) (c0 := c0) (c1 := c1) (la := la) (lb := lb) (by simp) (by simp) hc0 hc1 (Kd.C_below hr0 hB1) (Kd.C_below hr1 hB1)
  have bR1 : ((w.alloc (.cells #[.int .i64 0, .int .i64 0] 34)).alloc (.cells #[.slice A0 la.length c0, .slice A1 lb.length c1] 23)).heap[w.heap.size]? = some (.cells #[.int .i64 0, .int .i64 0] 34 (0, 0)) := ((World.grownBy_alloc (w.alloc (.cells #[.int .i64 0, .int .i64 0] 34)) (.cells #[.slice A0 la.length c0, .slice A1 lb.length c1] 23) none).block _ (by simp) (by simp)).trans (World.alloc_heap_new w _)
  refine (callsIn_wide.2 (hWr _ _ hC)).mono ?_
  rintro e w2 ⟨rfl, hb2⟩
  have hB2 : Below w.heap.size w w2 := hB1.trans (hb2.mono (by rw [hsz]; omega))
  have hs2 : w.heap.size + 2 ≤ w2.heap.size := by rw [← hsz]; exact hb2.size
  have bR2 : w2.heap[w.heap.size]? = some (.cells #[.int .i64 0, .int .i64 0] 34 (0, 0)) := (hb2.block _ (by rw [hsz]; omega)).trans bR1
  clear hb2 bR1 hC hsz hB1
  gi_wp2
  refine ⟨trivial, ?_⟩
  refine (callsIn_wide.2 (dist_total.calls kta A0 c0 la ta _ (Kd.C_below hr0 hB2) hc0 hta)).mono ?_
  rintro e w3 ⟨rfl, hb3⟩
  have hB3 : Below w.heap.size w w3 := hB2.trans (hb3.mono hB2.size)
  have hs3 : w.heap.size + 2 ≤ w3.heap.size := Nat.le_trans hs2 hb3.size
  have bR3 : w3.heap[w.heap.size]? = some (.cells #[.int .i64 0, .int .i64 0] 34 (0, 0)) := (hb3.block _ (by omega)).trans bR2
  clear hb3 bR2 hs2 hB2
  gi_wp2
  refine ⟨trivial, ?_⟩
  refine (callsIn_wide.2 (dist_total.calls ktb A1 c1 lb tb _ (Kd.C_below hr1 hB3) hc1 htb)).mono ?_
  rintro e w4 ⟨rfl, hb4⟩
  have hB4 : Below w.heap.size w w4 := hB3.trans (hb4.mono hB3.size)
  have hs4 : w.heap.size + 2 ≤ w4.heap.size := Nat.le_trans hs3 hb4.size
  have bR4 : w4.heap[w.heap.size]? = some (.cells #[.int .i64 0, .int .i64 0] 34 (0, 0)) := (hb4.block _ (by omega)).trans bR3
  clear hb4 bR3 hs3 hB3
  gi_wp2
  refine ⟨trivial, ?_⟩
  refine (pairs_in (m - 1) A0 A1 la.length c0 lb.length c1 _).mono ?_
  rintro e w5 ⟨rfl, rfl⟩
  gi_wp2
  have bT := Boxed.new w4 3 (.int .i64 ta)
  have bU := Boxed.new (w4.alloc (.cells #[.int .i64 ta] 3)) 3 (.int .i64 tb)
  have bN := Boxed.new ((w4.alloc (.cells #[.int .i64 ta] 3)).alloc (.cells #[.int .i64 tb] 3)) 3 (.int .i64 0)
  have bA := Boxed.new (((w4.alloc (.cells #[.int .i64 ta] 3)).alloc (.cells #[.int .i64 tb] 3)).alloc (.cells #[.int .i64 0] 3)) 23 (.slice A0 la.length c0)
  have bB := Boxed.new ((((w4.alloc (.cells #[.int .i64 ta] 3)).alloc (.cells #[.int .i64 tb] 3)).alloc (.cells #[.int .i64 0] 3)).alloc (.cells #[.slice A0 la.length c0] 23)) 23 (.slice A1 lb.length c1)
  simp only [World.size_alloc] at bU bN bA bB
  have gA : ∀ (V : World) (o : Obj), V.heap[w.heap.size]? = some (.cells #[.int .i64 0, .int .i64 0] 34 (0, 0)) → (V.alloc o).heap[w.heap.size]? = some (.cells #[.int .i64 0, .int .i64 0] 34 (0, 0)) := fun V o h => ((World.grownBy_alloc V o none).block _ (Array.getElem?_eq_some_iff.1 h).1 (by simp)).trans h
  have hB5 : Below w.heap.size w (((((w4.alloc (.cells #[.int .i64 ta] 3)).alloc (.cells #[.int .i64 tb] 3)).alloc (.cells #[.int .i64 0] 3)).alloc (.cells #[.slice A0 la.length c0] 23)).alloc (.cells #[.slice A1 lb.length c1] 23)) := ((((hB4.alloc (by omega) _).alloc (by simp; omega) _).alloc (by simp; omega) _).alloc (by simp; omega) _).alloc (by simp; omega) _
  obtain ⟨W0, e0, bT, bU, bN, bA, bB, hB0, bR0, hs0⟩ : ∃ W0, ((((w4.alloc (.cells #[.int .i64 ta] 3)).alloc (.cells #[.int .i64 tb] 3)).alloc (.cells #[.int .i64 0] 3)).alloc (.cells #[.slice A0 la.length c0] 23)).alloc (.cells #[.slice A1 lb.length c1] 23) = W0 ∧ Boxed W0 w4.heap.size 3 (.int .i64 ta) ∧ Boxed W0 (w4.heap.size + 1) 3 (.int .i64 tb) ∧ Boxed W0 (w4.heap.size + 1 + 1) 3 (.int .i64 0) ∧ Boxed W0 (w4.heap.size + 1 + 1 + 1) 23 (.slice A0 la.length c0) ∧ Boxed W0 (w4.heap.size + 1 + 1 + 1 + 1) 23 (.slice A1 lb.length c1) ∧ Below w.heap.size w W0 ∧ W0.heap[w.heap.size]? = some (.cells #[.int .i64 0, .int .i64 0] 34 (0, 0)) ∧ W0.heap.size = w4.heap.size + 5 :=
    ⟨_, rfl, (((bT.alloc _).alloc _).alloc _).alloc _, ((bU.alloc _).alloc _).alloc _, (bN.alloc _).alloc _, bA.alloc _, bB, hB5, gA _ _ (gA _ _ (gA _ _ (gA _ _ (gA _ _ bR4)))), by simp⟩
  rw [e0]
  clear e0 hB5 gA
  refine wpIn_rangeFunc_ownF rfl h1 (gf := 84) (lb := #[.pointer (some ⟨w4.heap.size + 1 + 1 + 1, 0, none⟩), .pointer (some ⟨w4.heap.size + 1 + 1 + 1 + 1, 0, none⟩)]) rfl trivial (enters_of Try.func84 (by kernel_rfl) rfl)
    (pairs_stops (P := fun _ => True) (m - 1) (by omega) (w4.heap.size + 1 + 1 + 1) (w4.heap.size + 1 + 1 + 1 + 1) w W0 A0 c0 la A1 c1 lb hr0 hc0 hr1 hc1 hla hlb hoa hob (fun _ _ => trivial) hB0 bA bB)
    (fun h k => h.trans k) (fun W l o o' hl h hc hw => ⟨belowK_b (w := W0) (by omega) W l o o' hl h hc hw, fun hb => hb.kept (grownBy_putObj' W l o') (fun e => by cases e; omega), fun hb => hb.kept (grownBy_putObj' W l o') (fun e => by cases e; omega)⟩)
    (Below.refl _ _) (fun _ => rfl)
    (fun pre W => (Boxed W w4.heap.size 3 (.int .i64 ta) ∧ Boxed W (w4.heap.size + 1) 3 (.int .i64 tb) ∧ Boxed W (w4.heap.size + 1 + 1) 3 (.int .i64 (apN ta tb (pre.map (·.1)))) ∧ W.heap[w.heap.size]? = some (.cells #[.int .i64 0, .int .i64 0] 34 (0, 0))) ∧ Below w.heap.size w W)
    (fun _ _ _ => False)
    (OwnFrom.and (Own.from (fun s A B row hs hg hr => ⟨boxed_own _ _ (fun _ : Unit => _) () A B row hs.1 hg hr, boxed_own _ _ (fun _ : Unit => _) () A B row hs.2.1 hg hr, boxed_own _ _ (fun _ : Unit => _) () A B row hs.2.2.1 hg hr, (hg.block _ (Array.getElem?_eq_some_iff.1 hs.2.2.2).1 (fun e => by obtain ⟨o, ho, hc⟩ := hr _ e.symm; rw [hs.2.2.2] at ho; cases ho; cases hc)).trans hs.2.2.2⟩) _) (ownFrom_below (Nat.le_refl _) (by omega)))
    (fun _ _ _ _ _ hs _ _ => hs)
    ⟨⟨bT, bU, bN, bR0⟩, hB0⟩
    (fun x => { tmps := #[.slice A0 la.length c0, .slice A1 lb.length c1, undef, undef, .pointer (some ⟨w.heap.size, 0, none⟩), .int .i64 0, .int .i64 0, .pointer (some ⟨w4.heap.size, 0, none⟩), .pointer (some ⟨w4.heap.size + 1, 0, none⟩), .pointer (some ⟨w4.heap.size + 1 + 1, 0, none⟩), .int .i64 x.1.1, .int .i64 x.1.2, undef, undef, undef, .slice A0 la.length c0, .slice A1 lb.length c1, .slice (some ⟨w.heap.size + 1, 0, none⟩) 2 2, .int .i64 0, .int .i64 0, .bool false, undef, undef, .slice A0 la.length c0, .int .i64 ta, .slice A1 lb.length c1, .int .i64 tb, .slice A0 la.length c0, .slice A1 lb.length c1, .func (.func 84) #[] #[.pointer (some ⟨w4.heap.size + 1 + 1 + 1, 0, none⟩), .pointer (some ⟨w4.heap.size + 1 + 1 + 1 + 1, 0, none⟩)], .int .i64 x.1.1, .int .i64 x.1.2, undef, undef, undef, undef, undef, undef, undef, undef, undef, undef, undef, undef, undef, undef, undef, undef, undef, undef, undef, undef, undef, undef, undef, undef, undef, undef, undef, undef, undef, undef, undef, undef, undef], defers := [] }) ?assign ?body ?done ?stop
  case assign =>
    intro l x W K hK
    gi_wp2
    exact hK
  case body =>
    rintro l pre x W ⟨⟨bT, bU, bN, bR⟩, hB⟩ _
    have k1 := bT.cell
    have k2 := bU.cell
    have k3 := bN.cell
    have k4 := bN.frozen
    gi_wp2
    · have hy : 0 < wrap64 (wrap64 (x.1.1 * tb) - wrap64 (x.1.2 * ta)) := by assumption
      refine ⟨KeepsOthers.setCell _ _ _, ⟨(Below.refl w.heap.size W).setCell (p := ⟨w4.heap.size + 1 + 1, 0, none⟩) (by simp; omega) _, fun h => h.other (by omega) _, fun h => h.other (by omega) _⟩, ⟨bT.other (by omega) _, bU.other (by omega) _, ?_, ?_⟩, hB.setCell (p := ⟨w4.heap.size + 1 + 1, 0, none⟩) (by simp; omega) _⟩
      · rw [List.map_append, List.map_cons, List.map_nil, apN_snoc]
        unfold apStep mx
        rw [if_pos hy]
        exact bN.set _
      · exact ((grownBy_setCell' W (w4.heap.size + 1 + 1) _).block _ (Array.getElem?_eq_some_iff.1 bR).1 (fun e => by injection e with e; omega)).trans bR
    · have hy : wrap64 (wrap64 (x.1.1 * tb) - wrap64 (x.1.2 * ta)) ≤ 0 := by assumption
      refine ⟨KeepsOthers.setCell _ _ _, ⟨(Below.refl w.heap.size W).setCell (p := ⟨w4.heap.size + 1 + 1, 0, none⟩) (by simp; omega) _, fun h => h.other (by omega) _, fun h => h.other (by omega) _⟩, ⟨bT.other (by omega) _, bU.other (by omega) _, ?_, ?_⟩, hB.setCell (p := ⟨w4.heap.size + 1 + 1, 0, none⟩) (by simp; omega) _⟩
      · rw [List.map_append, List.map_cons, List.map_nil, apN_snoc]
        unfold apStep mx
        rw [if_neg (by omega), Int.add_zero]
        exact bN.set _
      · exact ((grownBy_setCell' W (w4.heap.size + 1 + 1) _).block _ (Array.getElem?_eq_some_iff.1 bR).1 (fun e => by injection e with e; omega)).trans bR
  case done =>
    rintro D ys W hD hys ⟨⟨bT, bU, bN, bR⟩, hB⟩ hK
    rw [hys] at bN
    have k1 := bT.cell
    have k2 := bU.cell
    have k3 := bN.cell
    gi_wp2
    refine ⟨trivial, ?_⟩
    refine (callsIn_wide.2 (dist_gcd.calls kg _ _ g _ hg)).mono ?_
    rintro e w6 ⟨rfl, ⟨nd, rfl⟩⟩
    have k1' : (W.drewN nd).cell? ⟨w4.heap.size, 0, none⟩ = some (.int .i64 ta) := k1
    have k2' : (W.drewN nd).cell? ⟨w4.heap.size + 1, 0, none⟩ = some (.int .i64 tb) := k2
    have k3' : (W.drewN nd).cell? ⟨w4.heap.size + 1 + 1, 0, none⟩ = some (.int .i64 (apN ta tb (pairsL la lb))) := k3
    have k5' : (W.drewN nd).cell? ⟨w.heap.size, 0, none⟩ = some (.int .i64 0) := by simp [World.cell?, bR]
    have k6' : (W.drewN nd).cell? ⟨w.heap.size, 1, none⟩ = some (.int .i64 0) := by simp [World.cell?, bR]
    have hmx : Try.prog.follows .mixedOrders = true := by kernel_rfl
    have hls : Try.prog.follows .lateStores = true := by kernel_rfl
    have hD' : (W.drewN nd).heap[D]? = some (.deferred (some [])) := hK
    gi_wp2
    have q1 : (W.drewN nd).drew.cell? ⟨w4.heap.size, 0, none⟩ = some (.int .i64 ta) := k1
    have q2 : (W.drewN nd).drew.cell? ⟨w4.heap.size + 1, 0, none⟩ = some (.int .i64 tb) := k2
    have q3 : (W.drewN nd).drew.cell? ⟨w4.heap.size + 1 + 1, 0, none⟩ = some (.int .i64 (apN ta tb (pairsL la lb))) := k3
    have q5 : (W.drewN nd).drew.cell? ⟨w.heap.size, 0, none⟩ = some (.int .i64 0) := k5'
    have q6 : (W.drewN nd).drew.cell? ⟨w.heap.size, 1, none⟩ = some (.int .i64 0) := k6'
    gi_big_region_o
    obtain ⟨V, e0, vR, vD, vB⟩ : ∃ V, W.drewN (nd + 1) = V ∧ V.heap[w.heap.size]? = some (.cells #[.int .i64 0, .int .i64 0] 34 (0, 0)) ∧ V.heap[D]? = some (.deferred (some [])) ∧ Below w.heap.size w V := ⟨_, rfl, bR, hK, hB.trans ⟨rfl, rfl, rfl, Nat.le_refl _, fun _ _ => rfl⟩⟩
    rw [e0]
    clear e0 q1 q2 q3 q5 q6 k1 k2 k3 k1' k2' k3' k5' k6' hD' bT bU bN bR hB hK
    have v5 : V.cell? ⟨w.heap.size, 0, none⟩ = some (.int .i64 0) := by simp [World.cell?, vR]
    have v6 : V.cell? ⟨w.heap.size, 1, none⟩ = some (.int .i64 0) := by simp [World.cell?, vR]
    have f5 : V.frozen? ⟨w.heap.size, 0, none⟩ = false := by simp [World.frozen?, vR]
    have f6 : V.frozen? ⟨w.heap.size, 1, none⟩ = false := by simp [World.frozen?, vR]
    have g6 : ∀ x : Int, (V.setCell ⟨w.heap.size, 0, none⟩ (.int .i64 x)).cell? ⟨w.heap.size, 1, none⟩ = some (.int .i64 0) := fun x => (World.cell?_setCell_other V ⟨w.heap.size, 0, none⟩ ⟨w.heap.size, 1, none⟩ _ (fun h => by cases h)).trans v6
    have hD2 : w.heap.size ≤ D := by omega
    generalize hup : (wrap64 (Int.tdiv (apN ta tb (pairsL la lb)) g)) = up
    generalize hdn : (wrap64 (Int.tdiv (wrap64 (ta * tb)) g)) = dn
    by_cases cu : up > 1073741824
    · have s6 := g6 0
      gi_wp2
      have c5 : ((V.setCell ⟨w.heap.size, 0, none⟩ (.int .i64 0)).setCell ⟨w.heap.size, 1, none⟩ (.int .i64 0)).cell? ⟨w.heap.size, 0, none⟩ = some (.int .i64 0) := (World.cell?_setCell_other _ ⟨w.heap.size, 1, none⟩ ⟨w.heap.size, 0, none⟩ _ (fun h => by cases h)).trans (World.cell?_setCell_same' V _ _ (by rw [v5]; rfl))
      have c6 : ((V.setCell ⟨w.heap.size, 0, none⟩ (.int .i64 0)).setCell ⟨w.heap.size, 1, none⟩ (.int .i64 0)).cell? ⟨w.heap.size, 1, none⟩ = some (.int .i64 0) := World.cell?_setCell_same' _ _ _ (by rw [s6]; rfl)
      have hK' : ((V.setCell ⟨w.heap.size, 0, none⟩ (.int .i64 0)).setCell ⟨w.heap.size, 1, none⟩ (.int .i64 0)).heap[D]? = some (.deferred (some [])) := ((KeepsOthers.setCell V ⟨w.heap.size, 0, none⟩ (.int .i64 0)).trans (KeepsOthers.setCell _ ⟨w.heap.size, 1, none⟩ (.int .i64 0))).same D _ vD rfl
      refine ⟨by simp, .inl ⟨_, _, rfl, run_takeDeferred hK', ?_⟩⟩
      have hc5 := cell_kept c5 (grownBy_putObj' _ D (.deferred none)) (fun r e => by cases e; exact ⟨_, hK', rfl⟩)
      have hc6 := cell_kept c6 (grownBy_putObj' _ D (.deferred none)) (fun r e => by cases e; exact ⟨_, hK', rfl⟩)
      refine ⟨.tuple #[.agg #[.int .i64 0, .int .i64 0], .int .i64 4], ?_, ?_⟩
      · simp [results, Try.f25, go_sem, hc5, hc6]
      · try rw [hup, hdn]
        exact ⟨by unfold apOut; rw [if_pos (.inl cu)], ((vB.setCell (p := ⟨w.heap.size, 0, none⟩) (Nat.le_refl _) _).setCell (p := ⟨w.heap.size, 1, none⟩) (Nat.le_refl _) _).trans (belowK_b (w := w) (Nat.le_refl _) _ D _ _ (by omega) hK' rfl rfl)⟩
    · by_cases cd : dn > 1073741824
      · have s6 := g6 0
        gi_wp2
        have c5 : ((V.setCell ⟨w.heap.size, 0, none⟩ (.int .i64 0)).setCell ⟨w.heap.size, 1, none⟩ (.int .i64 0)).cell? ⟨w.heap.size, 0, none⟩ = some (.int .i64 0) := (World.cell?_setCell_other _ ⟨w.heap.size, 1, none⟩ ⟨w.heap.size, 0, none⟩ _ (fun h => by cases h)).trans (World.cell?_setCell_same' V _ _ (by rw [v5]; rfl))
        have c6 : ((V.setCell ⟨w.heap.size, 0, none⟩ (.int .i64 0)).setCell ⟨w.heap.size, 1, none⟩ (.int .i64 0)).cell? ⟨w.heap.size, 1, none⟩ = some (.int .i64 0) := World.cell?_setCell_same' _ _ _ (by rw [s6]; rfl)
        have hK' : ((V.setCell ⟨w.heap.size, 0, none⟩ (.int .i64 0)).setCell ⟨w.heap.size, 1, none⟩ (.int .i64 0)).heap[D]? = some (.deferred (some [])) := ((KeepsOthers.setCell V ⟨w.heap.size, 0, none⟩ (.int .i64 0)).trans (KeepsOthers.setCell _ ⟨w.heap.size, 1, none⟩ (.int .i64 0))).same D _ vD rfl
        refine ⟨by simp, .inl ⟨_, _, rfl, run_takeDeferred hK', ?_⟩⟩
        have hc5 := cell_kept c5 (grownBy_putObj' _ D (.deferred none)) (fun r e => by cases e; exact ⟨_, hK', rfl⟩)
        have hc6 := cell_kept c6 (grownBy_putObj' _ D (.deferred none)) (fun r e => by cases e; exact ⟨_, hK', rfl⟩)
        refine ⟨.tuple #[.agg #[.int .i64 0, .int .i64 0], .int .i64 4], ?_, ?_⟩
        · simp [results, Try.f25, go_sem, hc5, hc6]
        · try rw [hup, hdn]
          exact ⟨by unfold apOut; rw [if_pos (.inr cd)], ((vB.setCell (p := ⟨w.heap.size, 0, none⟩) (Nat.le_refl _) _).setCell (p := ⟨w.heap.size, 1, none⟩) (Nat.le_refl _) _).trans (belowK_b (w := w) (Nat.le_refl _) _ D _ _ (by omega) hK' rfl rfl)⟩
      · have s6 := g6 up
        gi_wp2
        have c5 : ((V.setCell ⟨w.heap.size, 0, none⟩ (.int .i64 up)).setCell ⟨w.heap.size, 1, none⟩ (.int .i64 dn)).cell? ⟨w.heap.size, 0, none⟩ = some (.int .i64 up) := (World.cell?_setCell_other _ ⟨w.heap.size, 1, none⟩ ⟨w.heap.size, 0, none⟩ _ (fun h => by cases h)).trans (World.cell?_setCell_same' V _ _ (by rw [v5]; rfl))
        have c6 : ((V.setCell ⟨w.heap.size, 0, none⟩ (.int .i64 up)).setCell ⟨w.heap.size, 1, none⟩ (.int .i64 dn)).cell? ⟨w.heap.size, 1, none⟩ = some (.int .i64 dn) := World.cell?_setCell_same' _ _ _ (by rw [s6]; rfl)
        have hK' : ((V.setCell ⟨w.heap.size, 0, none⟩ (.int .i64 up)).setCell ⟨w.heap.size, 1, none⟩ (.int .i64 dn)).heap[D]? = some (.deferred (some [])) := ((KeepsOthers.setCell V ⟨w.heap.size, 0, none⟩ (.int .i64 up)).trans (KeepsOthers.setCell _ ⟨w.heap.size, 1, none⟩ (.int .i64 dn))).same D _ vD rfl
        refine ⟨by simp, .inl ⟨_, _, rfl, run_takeDeferred hK', ?_⟩⟩
        have hc5 := cell_kept c5 (grownBy_putObj' _ D (.deferred none)) (fun r e => by cases e; exact ⟨_, hK', rfl⟩)
        have hc6 := cell_kept c6 (grownBy_putObj' _ D (.deferred none)) (fun r e => by cases e; exact ⟨_, hK', rfl⟩)
        refine ⟨.tuple #[.agg #[.int .i64 up, .int .i64 dn], .int .i64 0], ?_, ?_⟩
        · simp [results, Try.f25, go_sem, hc5, hc6]
        · try rw [hup, hdn]
          exact ⟨by unfold apOut; rw [if_neg (by omega)], ((vB.setCell (p := ⟨w.heap.size, 0, none⟩) (Nat.le_refl _) _).setCell (p := ⟨w.heap.size, 1, none⟩) (Nat.le_refl _) _).trans (belowK_b (w := w) (Nat.le_refl _) _ D _ _ (by omega) hK' rfl rfl)⟩
  case stop =>
    rintro D c pre W _ _ h _
    exact h.elim
end
section
attribute [local go_sem] Oper.semAt_some
/-- What is answered where something is wrong. -/
def BadPost (w : World) (er : Int) (e : Ending) (W' : World) : Prop := e = .returned (.tuple #[.agg #[.int .i64 0, .int .i64 0], .int .i64 er]) ∧ Below w.heap.size w W'
set_option maxRecDepth 100000 in
set_option maxHeartbeats 4000000 in
theorem apart_bad (m : Nat) (hm : 4 ≤ m) (A0 : Option Addr) (c0 : Nat) (la : List S32) (A1 : Option Addr) (c1 : Nat) (lb : List S32) (w : World) (hr0 : Kd.C k32 w A0 la.length la) (hc0 : la.length ≤ c0) (hr1 : Kd.C k32 w A1 lb.length lb) (hc1 : lb.length ≤ c1)
    (er : Int) (hne : ¬ er = 0)
    (hWr : ∀ (A : Option Addr) (w' : World), Kd.C (Kd.slice 32 k32) w' A 2 [la, lb] → Calls Try.prog 56 #[.slice A 2 2] w' fun e w2 => e = .returned (.int .i64 er) ∧ Below w'.heap.size w' w2) :
    CallsIn Fence.wide m Try.prog 25 #[.slice A0 la.length c0, .slice A1 lb.length c1] w (BadPost w er) := by
  have h1 : 1 ≤ m := by omega
  have hut32 := Try.underlying32
  have hut34 := Try.underlying34
  refine callsIn_of_wp_marks Try.func25 rfl trivial ?_ rfl
  simp only [Try.ntmps25, List.size_toArray, List.length_cons, List.length_nil, Nat.reduceAdd, Nat.reduceSub, Array.replicate_succ, Array.replicate_zero, List.push_toArray, List.append_toArray, List.nil_append, List.cons_append]
  gi_wp2
  refine ⟨trivial, ?_⟩
  have hB1 : Below w.heap.size w ((w.alloc (.cells #[.int .i64 0, .int .i64 0] 34)).alloc (.cells #[.slice A0 la.length c0, .slice A1 lb.length c1] 23)) := ((Below.refl _ w).alloc (Nat.le_refl _) _).alloc (by simp) _
  have hsz : ((w.alloc (.cells #[.int .i64 0, .int .i64 0] 34)).alloc (.cells #[.slice A0 la.length c0, .slice A1 lb.length c1] 23)).heap.size = w.heap.size + 2 := by simp
  have hC := two_C (w := (w.alloc (.cells #[.int .i64 0, .int .i64 0] 34)).alloc (.cells #[.slice A0 la.length c0, .slice A1 lb.length c1] 23)) (g := w.heap.size + 1) (A0 := A0) (A1 := A1) (c0 := c0) (c1 := c1) (la := la) (lb := lb) (by simp) (by simp) hc0 hc1 (Kd.C_below hr0 hB1) (Kd.C_below hr1 hB1)
  have bR1 : ((w.alloc (.cells #[.int .i64 0, .int .i64 0] 34)).alloc (.cells #[.slice A0 la.length c0, .slice A1 lb.length c1] 23)).heap[w.heap.size]? = some (.cells #[.int .i64 0, .int .i64 0] 34 (0, 0)) := ((World.grownBy_alloc (w.alloc (.cells #[.int .i64 0, .int .i64 0] 34)) (.cells #[.slice A0 la.length c0, .slice A1 lb.length c1] 23) none).block _ (by simp) (by simp)).trans (World.alloc_heap_new w _)
  refine (callsIn_wide.2 (hWr _ _ hC)).mono ?_
  rintro e V ⟨rfl, hb2⟩
  have vB : Below w.heap.size w V := hB1.trans (hb2.mono (by rw [hsz]; omega))
  have vR : V.heap[w.heap.size]? = some (.cells #[.int .i64 0, .int .i64 0] 34 (0, 0)) := (hb2.block _ (by rw [hsz]; omega)).trans bR1
  clear hb2 bR1 hC hsz hB1
  have v5 : V.cell? ⟨w.heap.size, 0, none⟩ = some (.int .i64 0) := by simp [World.cell?, vR]
  have v6 : V.cell? ⟨w.heap.size, 1, none⟩ = some (.int .i64 0) := by simp [World.cell?, vR]
  have f5 : V.frozen? ⟨w.heap.size, 0, none⟩ = false := by simp [World.frozen?, vR]
  have f6 : V.frozen? ⟨w.heap.size, 1, none⟩ = false := by simp [World.frozen?, vR]
  have s6 : (V.setCell ⟨w.heap.size, 0, none⟩ (.int .i64 0)).cell? ⟨w.heap.size, 1, none⟩ = some (.int .i64 0) := (World.cell?_setCell_other V ⟨w.heap.size, 0, none⟩ ⟨w.heap.size, 1, none⟩ _ (fun h => by cases h)).trans v6
  gi_wp2
  have c5 : ((V.setCell ⟨w.heap.size, 0, none⟩ (.int .i64 0)).setCell ⟨w.heap.size, 1, none⟩ (.int .i64 0)).cell? ⟨w.heap.size, 0, none⟩ = some (.int .i64 0) := (World.cell?_setCell_other _ ⟨w.heap.size, 1, none⟩ ⟨w.heap.size, 0, none⟩ _ (fun h => by cases h)).trans (World.cell?_setCell_same' V _ _ (by rw [v5]; rfl))
  have c6 : ((V.setCell ⟨w.heap.size, 0, none⟩ (.int .i64 0)).setCell ⟨w.heap.size, 1, none⟩ (.int .i64 0)).cell? ⟨w.heap.size, 1, none⟩ = some (.int .i64 0) := World.cell?_setCell_same' _ _ _ (by rw [s6]; rfl)
  refine ⟨.tuple #[.agg #[.int .i64 0, .int .i64 0], .int .i64 er], ?_, ?_⟩
  · simp [results, Try.f25, go_sem, c5, c6]
  · exact ⟨rfl, (vB.setCell (p := ⟨w.heap.size, 0, none⟩) (Nat.le_refl _) _).setCell (p := ⟨w.heap.size, 1, none⟩) (Nat.le_refl _) _⟩
end
section
def dist_Apart.f (k : Nat) (l0 l1 : List S32) : Option (Int × Int × Int) := (dist_wrongs.f k [l0, l1]).bind fun e => if e = 0 then ((dist_total.f k l0).bind fun ta => (dist_total.f k l1).bind fun tb => if dSize l0 = true then (if dSize l1 = true then ((dist_gcd.f k (wrap64 (ta * tb)) (apN ta tb (pairsL l0 l1))).bind fun g => if g = 0 then none else some (apOut (wrap64 (Int.tdiv (apN ta tb (pairsL l0 l1)) g)) (wrap64 (Int.tdiv (wrap64 (ta * tb)) g)))) else none) else none) else some (0, 0, e)
theorem dist_Apart.mono : ∀ a0 a1 k, LeO (dist_Apart.f k a0 a1) (dist_Apart.f (k + 1) a0 a1) := by
  intro a0 a1 k
  unfold dist_Apart.f
  repeat' first
      | (with_reducible exact dist_wrongs.mono _ _)
      | (with_reducible exact dist_total.mono _ _)
      | (with_reducible exact dist_gcd.mono _ _ _)
      | (with_reducible exact LeO.refl _)
      | (with_reducible exact LeO.none _)
      | (with_reducible refine LeO.ite ?_ ?_)
      | (with_reducible refine LeO.bind ?_ (fun _ => ?_))
theorem dist_Apart.calls (k : Nat) (A0 : Option Addr) (c0 : Nat) (l0 : List S32) (A1 : Option Addr) (c1 : Nat) (l1 : List S32) (r1 : Int) (r2 : Int) (r3 : Int) (w : World) (hr0 : Kd.C k32 w A0 l0.length l0) (hc0 : l0.length ≤ c0) (hr1 : Kd.C k32 w A1 l1.length l1) (hc1 : l1.length ≤ c1) (h : dist_Apart.f k l0 l1 = some (r1, r2, r3)) :
    Calls Try.prog 25 #[.slice A0 l0.length c0, .slice A1 l1.length c1] w fun e w' => e = .returned (.tuple #[.agg #[.int .i64 r1, .int .i64 r2], .int .i64 r3]) ∧ Below w.heap.size w w' := by
  unfold dist_Apart.f at h
  obtain ⟨er, hw, h⟩ := Option.bind_eq_some_iff.1 h
  have hWr : ∀ (A : Option Addr) (w' : World), Kd.C (Kd.slice 32 k32) w' A 2 [l0, l1] → Calls Try.prog 56 #[.slice A 2 2] w' fun e w2 => e = .returned (.int .i64 er) ∧ Below w'.heap.size w' w2 :=
    fun A w' hC => dist_wrongs.calls k A 2 [l0, l1] er w' hC (Nat.le_refl _) hw
  by_cases he : er = 0
  · rw [if_pos he] at h
    subst he
    obtain ⟨ta, hta, h⟩ := Option.bind_eq_some_iff.1 h
    obtain ⟨tb, htb, h⟩ := Option.bind_eq_some_iff.1 h
    by_cases g1 : dSize l0 = true
    · rw [if_pos g1] at h
      by_cases g2 : dSize l1 = true
      · rw [if_pos g2] at h
        obtain ⟨g, hg, h⟩ := Option.bind_eq_some_iff.1 h
        by_cases g0 : g = 0
        · rw [if_pos g0] at h
          cases h
        · rw [if_neg g0] at h
          injection h with h
          obtain ⟨s1, s2⟩ := dSize_out g1
          obtain ⟨s3, s4⟩ := dSize_out g2
          refine (callsIn_wide.1 (apart_walk 4 (Nat.le_refl _) A0 c0 l0 A1 c1 l1 w hr0 hc0 hr1 hc1 s1 s3 s2 s4 hWr ta tb k k hta htb k g hg g0)).mono ?_
          rintro e W' ⟨h1, h2⟩
          refine ⟨?_, h2⟩
          rw [h1, h]
      · rw [if_neg g2] at h
        cases h
    · rw [if_neg g1] at h
      cases h
  · rw [if_neg he] at h
    injection h with h
    injection h with h1 h
    injection h with h2 h3
    subst h1 h2 h3
    exact callsIn_wide.1 (apart_bad 4 (Nat.le_refl _) A0 c0 l0 A1 c1 l1 w hr0 hc0 hr1 hc1 er he hWr)
end
end ApartText


/-! ### hushref1_Most: function 37 -/
def hushref1_Most.f (a0_0 : Int) (a0_1 : Int) (a1_0 : Int) (a1_1 : Int) : Option (Bool) := some (decide ((wrap64 (a0_0 * a1_1)) ≤ (wrap64 (a1_0 * a0_1))))
set_option maxHeartbeats 8000000 in
set_option maxRecDepth 100000 in
theorem hushref1_Most.calls (a0_0 : Int) (a0_1 : Int) (a1_0 : Int) (a1_1 : Int) (r : Bool) (w : World) (h : hushref1_Most.f a0_0 a0_1 a1_0 a1_1 = some r) :
    Calls Try.prog 37 #[.agg #[.int .i64 a0_0, .int .i64 a0_1], .agg #[.int .i64 a1_0, .int .i64 a1_1]] w fun e w' => e = .returned (.bool r) ∧ Below w.heap.size w w' := by
  have hu34 := Try.underlying34
  have HB := Aside0.mk (Below.refl w.heap.size w)
  have H : (some (decide ((wrap64 (a0_0 * a1_1)) ≤ (wrap64 (a1_0 * a0_1))))) = some r := h
  clear h
  obtain rfl := Option.some.inj H
  go_enter Try.func37, Try.ntmps37
  go_wp2_with (first | ((with_reducible refine gate_dst (N := 2) rfl ?_); refine box_event ?hg (N := 2) ?hd (cs := #[.int .i64 a0_0, .int .i64 a0_1]) (t := 34) ?hr ?_; (case hd => rfl); (case hg => rfl); (case hr => first | (go_simp; done) | (go_simp; rfl)); intro gb158 hg w3 hbox hb; have n0_ := Aside0.mk (below_step (by repeat (first | (with_reducible first | exact HB.out | apply below_alloc | apply pw_below_drewN | apply below_drew1) | exact HB.out)) hb); have n1_ := Aside0.mk (hbox); have n2_ := Aside0.mk ((by rw [hg]; exact (below_size (by repeat (first | (with_reducible first | exact HB.out | apply below_alloc | apply pw_below_drewN | apply below_drew1) | exact HB.out))) : w.heap.size ≤ gb158)); have n3_ := Aside0.mk ((by rw [hg]; exact (below_size (by repeat (first | (with_reducible first | exact HB.out | apply below_alloc | apply pw_below_drewN | apply below_drew1) | exact HB.out))) : w.heap.size ≤ gb158)); clear HB; have HB := n0_; have BK158 := n1_; have GW158 := n2_; have GE158 := n3_; clear n0_ n1_ n2_ n3_; clear hb hbox hg) | ((with_reducible refine gate_dst (N := 3) rfl ?_); refine box_event ?hg (N := 3) ?hd (cs := #[.int .i64 a1_0, .int .i64 a1_1]) (t := 34) ?hr ?_; (case hd => rfl); (case hg => rfl); (case hr => first | (go_simp; done) | (go_simp; rfl)); intro gb159 hg w4 hbox hb; have n0_ := Aside0.mk (blk_below (g := gb158) (o := .cells #[.int .i64 a0_0, .int .i64 a0_1] 34 (0, 0)) (by (with_reducible repeat (first | refine blk_drewN ?_ _ | refine blk_drew ?_ | refine blk_alloc ?_ _)); exact BK158.out) hb); have n1_ := Aside0.mk (below_step (by repeat (first | (with_reducible first | exact HB.out | apply below_alloc | apply pw_below_drewN | apply below_drew1 | refine below_set ?_ GE158.out) | exact HB.out)) hb); have n2_ := Aside0.mk (hbox); have n3_ := Aside0.mk ((by rw [hg]; exact (below_size (by repeat (first | (with_reducible first | exact HB.out | apply below_alloc | apply pw_below_drewN | apply below_drew1 | refine below_set ?_ GE158.out) | exact HB.out))) : w.heap.size ≤ gb159)); have n4_ := Aside0.mk ((by rw [hg]; exact (below_size (by repeat (first | (with_reducible first | exact HB.out | apply below_alloc | apply pw_below_drewN | apply below_drew1 | refine below_set ?_ GE158.out) | exact HB.out))) : w.heap.size ≤ gb159)); have n5_ := Aside0.mk ((by rw [hg]; exact Nat.ne_of_lt (blk_lt (g := gb158) (o := .cells #[.int .i64 a0_0, .int .i64 a0_1] 34 (0, 0)) (by (with_reducible repeat (first | refine blk_drewN ?_ _ | refine blk_drew ?_ | refine blk_alloc ?_ _)); exact BK158.out)) : gb158 ≠ gb159)); have n6_ := Aside0.mk ((by rw [hg]; exact Nat.ne_of_gt (blk_lt (g := gb158) (o := .cells #[.int .i64 a0_0, .int .i64 a0_1] 34 (0, 0)) (by (with_reducible repeat (first | refine blk_drewN ?_ _ | refine blk_drew ?_ | refine blk_alloc ?_ _)); exact BK158.out)) : gb159 ≠ gb158)); clear BK158; clear HB; have BK158 := n0_; have HB := n1_; have BK159 := n2_; have GW159 := n3_; have GE159 := n4_; have NB158_159 := n5_; have NB159_158 := n6_; clear n0_ n1_ n2_ n3_ n4_ n5_ n6_; clear hb hbox hg; have hnb5 := NB158_159.out; have hnc5 := NB159_158.out; have hcz6_0 : w4.cell? ⟨gb158, 0, none⟩ = some (.int .i64 a0_0) := (blk_cell BK158.out 0).trans rfl; have hcz6_1 : w4.cell? ⟨gb158, 1, none⟩ = some (.int .i64 a0_1) := (blk_cell BK158.out 1).trans rfl; have hfz6_0 := blk_frozen BK158.out 0; have hfz6_1 := blk_frozen BK158.out 1; have hcz7_0 : w4.cell? ⟨gb159, 0, none⟩ = some (.int .i64 a1_0) := (blk_cell BK159.out 0).trans rfl; have hcz7_1 : w4.cell? ⟨gb159, 1, none⟩ = some (.int .i64 a1_1) := (blk_cell BK159.out 1).trans rfl; have hfz7_0 := blk_frozen BK159.out 0; have hfz7_1 := blk_frozen BK159.out 1))
  go_ret
  exact ⟨by first | rfl | (simp [errW_none, errW_some] <;> rfl) | (simp [*, errW_none, errW_some] <;> rfl), by repeat (first | (with_reducible first | exact HB.out | apply below_alloc | apply pw_below_drewN | apply below_drew1 | refine below_set ?_ GE158.out | refine below_set ?_ GE159.out) | exact HB.out)⟩

/-! ### hushlaw2_most: function 28 -/
def hushlaw2_most.f (a0_0 : Int) (a0_1 : Int) (a1 : Int) (a2_0 : Int) (a2_1 : Int) (a3 : Int) : Option (Bool) := if a1 = 0 then (if a3 = 0 then ((hushref1_Most.f a0_0 a0_1 a2_0 a2_1).bind fun t162 => (some t162)) else (some true)) else (some true)
set_option maxHeartbeats 8000000 in
set_option maxRecDepth 100000 in
theorem hushlaw2_most.calls (a0_0 : Int) (a0_1 : Int) (a1 : Int) (a2_0 : Int) (a2_1 : Int) (a3 : Int) (r : Bool) (w : World) (h : hushlaw2_most.f a0_0 a0_1 a1 a2_0 a2_1 a3 = some r) :
    Calls Try.prog 28 #[.agg #[.int .i64 a0_0, .int .i64 a0_1], .int .i64 a1, .agg #[.int .i64 a2_0, .int .i64 a2_1], .int .i64 a3] w fun e w' => e = .returned (.bool r) ∧ Below w.heap.size w w' := by
  have hu34 := Try.underlying34
  have HB := Aside0.mk (Below.refl w.heap.size w)
  have H : (if a1 = 0 then (if a3 = 0 then ((hushref1_Most.f a0_0 a0_1 a2_0 a2_1).bind fun t162 => (some t162)) else (some true)) else (some true)) = some r := h
  clear h
  by_cases c5 : a1 = 0
  · rw [if_pos c5] at H
    have c5b0 : (a1 == 0) = true := beq_iff_eq.mpr c5
    have c5b1 : (a1 != 0) = false := bne_eq_false_iff_eq.mpr c5
    clear c5
    by_cases c6 : a3 = 0
    · rw [if_pos c6] at H
      have c6b0 : (a3 == 0) = true := beq_iff_eq.mpr c6
      have c6b1 : (a3 != 0) = false := bne_eq_false_iff_eq.mpr c6
      clear c6
      replace H := Option.bind_eq_some_iff.mp H
      obtain ⟨t162, A70, H⟩ := H
      replace H : (some t162) = some r := H
      have A7 := Aside0.mk A70
      clear A70
      obtain rfl := Option.some.inj H
      go_enter Try.func28, Try.ntmps28
      go_wp2_with (first | ((with_reducible refine gate_dst (N := 4) rfl ?_); refine box_event ?hg (N := 4) ?hd (cs := #[.int .i64 a0_0, .int .i64 a0_1]) (t := 34) ?hr ?_; (case hd => rfl); (case hg => rfl); (case hr => first | (go_simp; done) | (go_simp; rfl)); intro gb160 hg w8 hbox hb; have n0_ := Aside0.mk (below_step (by repeat (first | (with_reducible first | exact HB.out | apply below_alloc | apply pw_below_drewN | apply below_drew1) | exact HB.out)) hb); have n1_ := Aside0.mk (hbox); have n2_ := Aside0.mk ((by rw [hg]; exact (below_size (by repeat (first | (with_reducible first | exact HB.out | apply below_alloc | apply pw_below_drewN | apply below_drew1) | exact HB.out))) : w.heap.size ≤ gb160)); have n3_ := Aside0.mk ((by rw [hg]; exact (below_size (by repeat (first | (with_reducible first | exact HB.out | apply below_alloc | apply pw_below_drewN | apply below_drew1) | exact HB.out))) : w.heap.size ≤ gb160)); clear HB; have HB := n0_; have BK160 := n1_; have GW160 := n2_; have GE160 := n3_; clear n0_ n1_ n2_ n3_; clear hb hbox hg) | ((with_reducible refine gate_dst (N := 6) rfl ?_); refine box_event ?hg (N := 6) ?hd (cs := #[.int .i64 a2_0, .int .i64 a2_1]) (t := 34) ?hr ?_; (case hd => rfl); (case hg => rfl); (case hr => first | (go_simp; done) | (go_simp; rfl)); intro gb161 hg w9 hbox hb; have n0_ := Aside0.mk (blk_below (g := gb160) (o := .cells #[.int .i64 a0_0, .int .i64 a0_1] 34 (0, 0)) (by (with_reducible repeat (first | refine blk_drewN ?_ _ | refine blk_drew ?_ | refine blk_alloc ?_ _)); exact BK160.out) hb); have n1_ := Aside0.mk (below_step (by repeat (first | (with_reducible first | exact HB.out | apply below_alloc | apply pw_below_drewN | apply below_drew1 | refine below_set ?_ GE160.out) | exact HB.out)) hb); have n2_ := Aside0.mk (hbox); have n3_ := Aside0.mk ((by rw [hg]; exact (below_size (by repeat (first | (with_reducible first | exact HB.out | apply below_alloc | apply pw_below_drewN | apply below_drew1 | refine below_set ?_ GE160.out) | exact HB.out))) : w.heap.size ≤ gb161)); have n4_ := Aside0.mk ((by rw [hg]; exact (below_size (by repeat (first | (with_reducible first | exact HB.out | apply below_alloc | apply pw_below_drewN | apply below_drew1 | refine below_set ?_ GE160.out) | exact HB.out))) : w.heap.size ≤ gb161)); have n5_ := Aside0.mk ((by rw [hg]; exact Nat.ne_of_lt (blk_lt (g := gb160) (o := .cells #[.int .i64 a0_0, .int .i64 a0_1] 34 (0, 0)) (by (with_reducible repeat (first | refine blk_drewN ?_ _ | refine blk_drew ?_ | refine blk_alloc ?_ _)); exact BK160.out)) : gb160 ≠ gb161)); have n6_ := Aside0.mk ((by rw [hg]; exact Nat.ne_of_gt (blk_lt (g := gb160) (o := .cells #[.int .i64 a0_0, .int .i64 a0_1] 34 (0, 0)) (by (with_reducible repeat (first | refine blk_drewN ?_ _ | refine blk_drew ?_ | refine blk_alloc ?_ _)); exact BK160.out)) : gb161 ≠ gb160)); clear BK160; clear HB; have BK160 := n0_; have HB := n1_; have BK161 := n2_; have GW161 := n3_; have GE161 := n4_; have NB160_161 := n5_; have NB161_160 := n6_; clear n0_ n1_ n2_ n3_ n4_ n5_ n6_; clear hb hbox hg; have hnb10 := NB160_161.out; have hnc10 := NB161_160.out; have hcz11_0 : w9.cell? ⟨gb160, 0, none⟩ = some (.int .i64 a0_0) := (blk_cell BK160.out 0).trans rfl; have hcz11_1 : w9.cell? ⟨gb160, 1, none⟩ = some (.int .i64 a0_1) := (blk_cell BK160.out 1).trans rfl; have hfz11_0 := blk_frozen BK160.out 0; have hfz11_1 := blk_frozen BK160.out 1; have hcz12_0 : w9.cell? ⟨gb161, 0, none⟩ = some (.int .i64 a2_0) := (blk_cell BK161.out 0).trans rfl; have hcz12_1 : w9.cell? ⟨gb161, 1, none⟩ = some (.int .i64 a2_1) := (blk_cell BK161.out 1).trans rfl; have hfz12_0 := blk_frozen BK161.out 0; have hfz12_1 := blk_frozen BK161.out 1) | (go_at_call 37; (with_reducible refine (hushref1_Most.calls a0_0 a0_1 a2_0 a2_1 t162 _ A7.out).mono ?_); rintro e w13 ⟨rfl, hb⟩; have n0_ := Aside0.mk (blk_below (g := gb160) (o := .cells #[.int .i64 a0_0, .int .i64 a0_1] 34 (0, 0)) (by (with_reducible repeat (first | refine blk_drewN ?_ _ | refine blk_drew ?_ | refine blk_alloc ?_ _)); exact BK160.out) hb); have n1_ := Aside0.mk (blk_below (g := gb161) (o := .cells #[.int .i64 a2_0, .int .i64 a2_1] 34 (0, 0)) (by (with_reducible repeat (first | refine blk_drewN ?_ _ | refine blk_drew ?_ | refine blk_alloc ?_ _)); exact BK161.out) hb); have n2_ := Aside0.mk (below_step (by repeat (first | (with_reducible first | exact HB.out | apply below_alloc | apply pw_below_drewN | apply below_drew1 | refine below_set ?_ GE160.out | refine below_set ?_ GE161.out) | exact HB.out)) hb); clear BK160; clear BK161; clear HB; have BK160 := n0_; have BK161 := n1_; have HB := n2_; clear n0_ n1_ n2_; (try clear hb); (try clear hb2); (try clear hk); (try clear hi)))
      go_ret
      exact ⟨by first | rfl | (simp [errW_none, errW_some] <;> rfl) | (simp [*, errW_none, errW_some] <;> rfl), by repeat (first | (with_reducible first | exact HB.out | apply below_alloc | apply pw_below_drewN | apply below_drew1 | refine below_set ?_ GE160.out | refine below_set ?_ GE161.out) | exact HB.out)⟩
    · rw [if_neg c6] at H
      have c6b0 : (a3 == 0) = false := beq_eq_false_iff_ne.mpr c6
      have c6b1 : (a3 != 0) = true := bne_iff_ne.mpr c6
      obtain rfl := Option.some.inj H
      go_enter Try.func28, Try.ntmps28
      go_wp2_with (first | ((with_reducible refine gate_dst (N := 4) rfl ?_); refine box_event ?hg (N := 4) ?hd (cs := #[.int .i64 a0_0, .int .i64 a0_1]) (t := 34) ?hr ?_; (case hd => rfl); (case hg => rfl); (case hr => first | (go_simp; done) | (go_simp; rfl)); intro gb160 hg w14 hbox hb; have n0_ := Aside0.mk (below_step (by repeat (first | (with_reducible first | exact HB.out | apply below_alloc | apply pw_below_drewN | apply below_drew1) | exact HB.out)) hb); have n1_ := Aside0.mk (hbox); have n2_ := Aside0.mk ((by rw [hg]; exact (below_size (by repeat (first | (with_reducible first | exact HB.out | apply below_alloc | apply pw_below_drewN | apply below_drew1) | exact HB.out))) : w.heap.size ≤ gb160)); have n3_ := Aside0.mk ((by rw [hg]; exact (below_size (by repeat (first | (with_reducible first | exact HB.out | apply below_alloc | apply pw_below_drewN | apply below_drew1) | exact HB.out))) : w.heap.size ≤ gb160)); clear HB; have HB := n0_; have BK160 := n1_; have GW160 := n2_; have GE160 := n3_; clear n0_ n1_ n2_ n3_; clear hb hbox hg) | ((with_reducible refine gate_dst (N := 6) rfl ?_); refine box_event ?hg (N := 6) ?hd (cs := #[.int .i64 a2_0, .int .i64 a2_1]) (t := 34) ?hr ?_; (case hd => rfl); (case hg => rfl); (case hr => first | (go_simp; done) | (go_simp; rfl)); intro gb161 hg w15 hbox hb; have n0_ := Aside0.mk (blk_below (g := gb160) (o := .cells #[.int .i64 a0_0, .int .i64 a0_1] 34 (0, 0)) (by (with_reducible repeat (first | refine blk_drewN ?_ _ | refine blk_drew ?_ | refine blk_alloc ?_ _)); exact BK160.out) hb); have n1_ := Aside0.mk (below_step (by repeat (first | (with_reducible first | exact HB.out | apply below_alloc | apply pw_below_drewN | apply below_drew1 | refine below_set ?_ GE160.out) | exact HB.out)) hb); have n2_ := Aside0.mk (hbox); have n3_ := Aside0.mk ((by rw [hg]; exact (below_size (by repeat (first | (with_reducible first | exact HB.out | apply below_alloc | apply pw_below_drewN | apply below_drew1 | refine below_set ?_ GE160.out) | exact HB.out))) : w.heap.size ≤ gb161)); have n4_ := Aside0.mk ((by rw [hg]; exact (below_size (by repeat (first | (with_reducible first | exact HB.out | apply below_alloc | apply pw_below_drewN | apply below_drew1 | refine below_set ?_ GE160.out) | exact HB.out))) : w.heap.size ≤ gb161)); have n5_ := Aside0.mk ((by rw [hg]; exact Nat.ne_of_lt (blk_lt (g := gb160) (o := .cells #[.int .i64 a0_0, .int .i64 a0_1] 34 (0, 0)) (by (with_reducible repeat (first | refine blk_drewN ?_ _ | refine blk_drew ?_ | refine blk_alloc ?_ _)); exact BK160.out)) : gb160 ≠ gb161)); have n6_ := Aside0.mk ((by rw [hg]; exact Nat.ne_of_gt (blk_lt (g := gb160) (o := .cells #[.int .i64 a0_0, .int .i64 a0_1] 34 (0, 0)) (by (with_reducible repeat (first | refine blk_drewN ?_ _ | refine blk_drew ?_ | refine blk_alloc ?_ _)); exact BK160.out)) : gb161 ≠ gb160)); clear BK160; clear HB; have BK160 := n0_; have HB := n1_; have BK161 := n2_; have GW161 := n3_; have GE161 := n4_; have NB160_161 := n5_; have NB161_160 := n6_; clear n0_ n1_ n2_ n3_ n4_ n5_ n6_; clear hb hbox hg))
      go_ret
      exact ⟨by first | rfl | (simp [errW_none, errW_some] <;> rfl) | (simp [*, errW_none, errW_some] <;> rfl), by repeat (first | (with_reducible first | exact HB.out | apply below_alloc | apply pw_below_drewN | apply below_drew1 | refine below_set ?_ GE160.out | refine below_set ?_ GE161.out) | exact HB.out)⟩
  · rw [if_neg c5] at H
    have c5b0 : (a1 == 0) = false := beq_eq_false_iff_ne.mpr c5
    have c5b1 : (a1 != 0) = true := bne_iff_ne.mpr c5
    obtain rfl := Option.some.inj H
    go_enter Try.func28, Try.ntmps28
    go_wp2_with (first | ((with_reducible refine gate_dst (N := 4) rfl ?_); refine box_event ?hg (N := 4) ?hd (cs := #[.int .i64 a0_0, .int .i64 a0_1]) (t := 34) ?hr ?_; (case hd => rfl); (case hg => rfl); (case hr => first | (go_simp; done) | (go_simp; rfl)); intro gb160 hg w16 hbox hb; have n0_ := Aside0.mk (below_step (by repeat (first | (with_reducible first | exact HB.out | apply below_alloc | apply pw_below_drewN | apply below_drew1) | exact HB.out)) hb); have n1_ := Aside0.mk (hbox); have n2_ := Aside0.mk ((by rw [hg]; exact (below_size (by repeat (first | (with_reducible first | exact HB.out | apply below_alloc | apply pw_below_drewN | apply below_drew1) | exact HB.out))) : w.heap.size ≤ gb160)); have n3_ := Aside0.mk ((by rw [hg]; exact (below_size (by repeat (first | (with_reducible first | exact HB.out | apply below_alloc | apply pw_below_drewN | apply below_drew1) | exact HB.out))) : w.heap.size ≤ gb160)); clear HB; have HB := n0_; have BK160 := n1_; have GW160 := n2_; have GE160 := n3_; clear n0_ n1_ n2_ n3_; clear hb hbox hg) | ((with_reducible refine gate_dst (N := 6) rfl ?_); refine box_event ?hg (N := 6) ?hd (cs := #[.int .i64 a2_0, .int .i64 a2_1]) (t := 34) ?hr ?_; (case hd => rfl); (case hg => rfl); (case hr => first | (go_simp; done) | (go_simp; rfl)); intro gb161 hg w17 hbox hb; have n0_ := Aside0.mk (blk_below (g := gb160) (o := .cells #[.int .i64 a0_0, .int .i64 a0_1] 34 (0, 0)) (by (with_reducible repeat (first | refine blk_drewN ?_ _ | refine blk_drew ?_ | refine blk_alloc ?_ _)); exact BK160.out) hb); have n1_ := Aside0.mk (below_step (by repeat (first | (with_reducible first | exact HB.out | apply below_alloc | apply pw_below_drewN | apply below_drew1 | refine below_set ?_ GE160.out) | exact HB.out)) hb); have n2_ := Aside0.mk (hbox); have n3_ := Aside0.mk ((by rw [hg]; exact (below_size (by repeat (first | (with_reducible first | exact HB.out | apply below_alloc | apply pw_below_drewN | apply below_drew1 | refine below_set ?_ GE160.out) | exact HB.out))) : w.heap.size ≤ gb161)); have n4_ := Aside0.mk ((by rw [hg]; exact (below_size (by repeat (first | (with_reducible first | exact HB.out | apply below_alloc | apply pw_below_drewN | apply below_drew1 | refine below_set ?_ GE160.out) | exact HB.out))) : w.heap.size ≤ gb161)); have n5_ := Aside0.mk ((by rw [hg]; exact Nat.ne_of_lt (blk_lt (g := gb160) (o := .cells #[.int .i64 a0_0, .int .i64 a0_1] 34 (0, 0)) (by (with_reducible repeat (first | refine blk_drewN ?_ _ | refine blk_drew ?_ | refine blk_alloc ?_ _)); exact BK160.out)) : gb160 ≠ gb161)); have n6_ := Aside0.mk ((by rw [hg]; exact Nat.ne_of_gt (blk_lt (g := gb160) (o := .cells #[.int .i64 a0_0, .int .i64 a0_1] 34 (0, 0)) (by (with_reducible repeat (first | refine blk_drewN ?_ _ | refine blk_drew ?_ | refine blk_alloc ?_ _)); exact BK160.out)) : gb161 ≠ gb160)); clear BK160; clear HB; have BK160 := n0_; have HB := n1_; have BK161 := n2_; have GW161 := n3_; have GE161 := n4_; have NB160_161 := n5_; have NB161_160 := n6_; clear n0_ n1_ n2_ n3_ n4_ n5_ n6_; clear hb hbox hg))
    go_ret
    exact ⟨by first | rfl | (simp [errW_none, errW_some] <;> rfl) | (simp [*, errW_none, errW_some] <;> rfl), by repeat (first | (with_reducible first | exact HB.out | apply below_alloc | apply pw_below_drewN | apply below_drew1 | refine below_set ?_ GE160.out | refine below_set ?_ GE161.out) | exact HB.out)⟩

end Go.Proofs.Ytkemhfhmlcljjaa.PP

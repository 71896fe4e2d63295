/- Functions of the translated program as Lean functions, and what their calls come to: written by this session's own program (wip/xprint.py) over the kit's print. Conditions stand in each theorem. -/
import Derived.Test.YtkemhfhmlcljjaaPQx0
import Derived.Test.YtkemhfhmlcljjaaPQx8
namespace Go.Proofs.Ytkemhfhmlcljjaa.PQ
open Go.RowKit Go.Proofs.YtkemhfhmlcljjaaW.PrintWords Go.Proofs.YtkemhfhmlcljjaaW.PrintLast Go.Proofs.YtkemhfhmlcljjaaW.PrintMore
attribute [local go_sem] max2_int min2_int max_two min_two max_three min_three max_four min_four   -- for this text's walks alone
set_option linter.unusedVariables false
set_option linter.unusedSimpArgs false

/-! ### plain_Bind: function 21 -/
theorem plain_Bind.foot {W : World} {A : Option Addr} {n : Nat} {xs : List S45} (h : Kd.C k45 W A n xs) : Kd.F k45 W (fun _ => True) A n xs := by
  intro W' hW
  have hs : W.heap.size ≤ W'.heap.size := by
    rcases Nat.eq_zero_or_pos W.heap.size with h0 | h0
    · omega
    · have := heap_lt (hW (W.heap.size - 1) trivial (by omega)) (by omega)
      omega
  have h1 := Kd.C_below h (w1 := { W with heap := W'.heap }) ⟨rfl, rfl, rfl, hs, fun k hk => hW k trivial hk⟩
  exact h1
def plain_Bind.f (k : Nat) (l0 : List S32) (l1 : List S45) : Option (List S32 × Int) := dist_Bind.f k l0 l1
theorem plain_Bind.mono : ∀ a0 a1 k, LeO (plain_Bind.f k a0 a1) (plain_Bind.f (k + 1) a0 a1) := dist_Bind.mono
set_option maxHeartbeats 4000000 in
set_option maxRecDepth 100000 in
theorem plain_Bind.calls (k : Nat) (A0 : Option Addr) (c0 : Nat) (l0 : List S32) (A1 : Option Addr) (c1 : Nat) (l1 : List S45) (r1 : List S32) (r2 : Int) (w : World) (hr0 : Kd.C k32 w A0 l0.length l0) (hc0 : l0.length ≤ c0) (hr1 : Kd.C k45 w A1 l1.length l1) (hc1 : l1.length ≤ c1) (h : plain_Bind.f k l0 l1 = some (r1, r2)) :
    Calls Try.prog 21 #[.slice A0 l0.length c0, .slice A1 l1.length c1] w fun e w' => ∃ v0_ : Value, e = .returned (.tuple #[v0_, .int .i64 r2]) ∧ Kd.N k32 32 w' w.heap.size (fun k_ => (w.heap.size ≤ k_)) v0_ r1 ∧ Below w.heap.size w w' := by
  have HR0 := Aside0.mk hr0
  have HC0 := Aside0.mk hc0
  have HR1 := Aside0.mk hr1
  have HC1 := Aside0.mk hc1
  have HH := Aside0.mk (show dist_Bind.f k l0 l1 = some (r1, r2) from h)
  clear hr0 hc0 hr1 hc1 h
  go_enter Try.func21, Try.ntmps21
  go_wp2_with (first | ((with_reducible refine gate_dst (N := 3) rfl ?_); refine box_event ?hg (N := 3) ?hd (cs := #[.slice A1 l1.length c1]) (t := 40) ?hr ?_; (case hd => rfl); (case hg => rfl); (case hr => first | (go_simp; done) | (go_simp; rfl)); intro g hg w1 hbox hb; have HX := Aside0.mk hbox; have HB := Aside0.mk hb; clear hbox hb hg) | ((with_reducible refine gate_callee (f := 54) rfl ?_); refine goesL_ (some 8) rfl rfl Try.func54 (by kernel_rfl) rfl #[.slice A0 l0.length c0, .func (.func 55) #[] #[.pointer (some ⟨g, 0, none⟩)]] rfl (by first | rfl | (simp [Act.eval]; done)) ?_; (with_reducible refine (dist_Bind.calls k _ _ l0 (fun _ => True) A1 c1 l1 r1 r2 _ ?s1 ?s2 ?s3 HH.out g ?s4).mono ?_); (case s1 => exact Kd.C_below HR0.out HB.out); (case s2 => exact HC0.out); (case s3 => exact Kd.V_mk HC1.out (plain_Bind.foot (Kd.C_below HR1.out HB.out))); (case s4 => exact (blk_cell HX.out 0).trans rfl); rintro e w' ⟨v0, rfl, ho0, hb⟩; refine ⟨_, rfl, ?_⟩; have HO := Aside0.mk ho0; have HB2 := Aside0.mk hb; clear ho0 hb))
  go_ret2
  exact ⟨_, rfl, Kd.N_lower (Kd.N_mono HO.out (fun k_ hk => Nat.le_trans HB.out.size hk)) HB.out.size, below_step HB.out HB2.out⟩


end Go.Proofs.Ytkemhfhmlcljjaa.PQ

/- The row of WireCrumbs, out of its pure statement. Conditions: none. -/
import Derived.Test.YtdfeidpkdbleaaaRows
import Derived.Test.YtdfeidpkdbleaaaPAx8
import Derived.Test.YtdfeidpkdbleaaaPureWireCrumbs
import Derived.Test.YtdfeidpkdbleaaaOpen
import Derived.WalkKit
import Derived.ProofKit
import Derived.OpenShut
import Derived.ShutString
import Derived.ChangeOld
import Derived.Below
import Derived.SizedLaws
import Derived.Carry
import Derived.JoinedCond
import Derived.Deep.CondSized
namespace Go.Proofs.Ytdfeidpkdbleaaa.wireCrumbs
open Go.ChangeShapes Go.WideShapes Go.ChangeAt Go.RowKit Go.Proofs.YtdfeidpkdbleaaaW.Opened Go.Proofs.YtdfeidpkdbleaaaW.PrintWords Go.Proofs.Ytdfeidpkdbleaaa.PA
open Go.ChangeMaps (open_string shut_string)
set_option linter.unusedVariables false
set_option linter.unusedSimpArgs false
theorem own : ownKnob Try.prog.godebug = none := by kernel_rfl
theorem laidOut : laidOutB Try.prog = true := by kernel_rfl
set_option maxRecDepth 100000 in
theorem lifted (os : Os) (started : os.Started) (H : Type) (enc : TypeId × Value → H) (F : Stop.Interp) :
    ReturnsInHanded {} Try.checked os 4 .any ((Rows.OpenSpec.upto Rows.wireCrumbsSpec).pre6 enc Try.prog Try.f4 Rows.wireCrumbsUptoRow.domain false) (((Rows.OpenSpec.upto Rows.wireCrumbsSpec).at F).post enc Try.prog Try.f4 false true false false) := by
  refine returnsInHanded_of_cond_sized (C := Try.checked) (s := Rows.OpenSpec.upto Rows.wireCrumbsSpec) (k := Rows.uptoSmall) rfl own started (by kernel_rfl) Try.func4
    (OpenSpec.witness (enc := enc) (C := Try.checked) (s := Rows.OpenSpec.upto Rows.wireCrumbsSpec) (k := Rows.uptoSmall) rfl false ⟨#[], #[.slice none 0 0, .slice none 0 0], []⟩ 8 (by kernel_rfl) (by kernel_rfl) (by kernel_rfl)
      (x := ([.nil, .nil], [], [])) (by kernel_rfl) rfl (by kernel_rfl)) ?_
  intro W base args ds gs before hval0 hW hcnd hkk hsz0 _
  have hsz : (DataW.weightsEach Try.prog (Try.f4.params.toList ++ Rows.wireCrumbsSpec.plain.varTypes Try.prog) (ds ++ gs)).all (· ≤ reachBytes) = true := hsz0
  have hval : ∀ (j : Nat) t v, Try.f4.params[j]? = some t → args[j]? = some v → Value.okWide Try.prog W .any base t v := hval0
  have hW' := hW
  obtain ⟨p, q, hA0, hV, rfl, hfz, hnd⟩ := hW
  have hA : DataW.TrodAll enc Try.prog W 0 (fun _ => true) true Try.f4.params.toList args.toList ds p := hA0
  rw [Try.params4] at hA hval hsz
  obtain ⟨v0, vs0, d0, ds0, p0, q0, hargs, rfl, rfl, h0, r0⟩ := trodAll_cons hA
  obtain ⟨v1, vs1, d1, ds1, p1, q1, rfl, rfl, rfl, h1, r1⟩ := trodAll_cons r0
  obtain ⟨rfl, rfl, rfl⟩ := trodAll_nil r1
  obtain rfl : args = #[v0, v1] := by cases args; simp_all
  obtain ⟨rfl, rfl⟩ := trodVars_none hV
  have k0 := h0
  have lt0 : ∀ x ∈ p0, x.block < W.heap.size := by obtain ⟨m, hm⟩ := k0; exact DataW.trod_lt m _ _ _ hm
  obtain ⟨x0, K0, G0, B0⟩ := Opens.arg (Opens.slice (B := 16) (Opens.string Try.underlying9 (by kernel_rfl)) Try.underlying22 (by kernel_rfl) (by kernel_rfl) (by decide)) (j := 0) hsz rfl rfl k0
  obtain ⟨a0, len0, cap0, rfl⟩ := okWide_slice Try.underlying22 (hval 0 22 v0 rfl rfl)
  obtain ⟨_, _, E0, c0, R0⟩ := K0
  simp [Value.cells] at E0
  obtain ⟨rfl, rfl, rfl⟩ := E0
  have k1 := h1
  have lt1 : ∀ x ∈ p1, x.block < W.heap.size := by obtain ⟨m, hm⟩ := k1; exact DataW.trod_lt m _ _ _ hm
  obtain ⟨x1, K1, G1, B1⟩ := Opens.arg (Opens.slice (B := 8) (Opens.int Try.underlying3 (by kernel_rfl)) Try.underlying32 (by kernel_rfl) (by kernel_rfl) (by decide)) (j := 1) hsz rfl rfl k1
  obtain ⟨a1, len1, cap1, rfl⟩ := okWide_slice Try.underlying32 (hval 1 32 v1 rfl rfl)
  obtain ⟨_, _, E1, c1, R1⟩ := K1
  simp [Value.cells] at E1
  obtain ⟨rfl, rfl, rfl⟩ := E1
  clear hA0 hval0 hsz0 hsz
  have hb := of_decide_eq_true hkk
  simp only [List.append_nil, List.cons_append, List.nil_append, Rows.uptoBulkAll] at hb
  have hB : ((x0.map (fun z2 => (z2.size + 1))).sum + 1) + ((x1.map (fun z2 => 1)).sum + 1) ≤ 1048576 := by have e0 : ((x0.map (fun z2 => (z2.size + 1))).sum + 1) ≤ Rows.uptoBulk _ := B0; have e1 : ((x1.map (fun z2 => 1)).sum + 1) ≤ Rows.uptoBulk _ := B1; omega
  obtain ⟨k, hk⟩ := Pure.WireCrumbs x0 x1 G0 G1 hB
  refine (hushlaw16_WireCrumbs.calls k _ _ x0 _ _ x1 true W R0 c0 R1 c1 hk).mono fun e W' ⟨he, bel0⟩ => ?_
  have bel : Below W.heap.size W W' := bel0
  subst he
  exact ⟨_, rfl, _, _, _, [], _, [], hW', trodAll_mk1 (shut_bool Try.underlying4 _), (trodAll_cons_mk (Below.trod laidOut (by kernel_rfl) (of_decide_eq_true (by kernel_rfl)) k0 bel lt0) (trodAll_cons_mk (Below.trod laidOut (by kernel_rfl) (of_decide_eq_true (by kernel_rfl)) k1 bel lt1) trodAll_mk0)), rfl, bel.frame _, fun h => by cases h⟩
theorem over : Rows.wireCrumbsUptoRow.holds Try.pinned (Rows.OpenSpec.upto Rows.wireCrumbsSpec) :=
  OpenClaim.holds_of_cond 4 Try.f4 rfl rfl rfl rfl rfl rfl rfl ⟨rfl, rfl, rfl, rfl, rfl⟩ rfl rfl rfl rfl rfl (by kernel_rfl) Try.func4 (by kernel_rfl)
    (of_decide_eq_true (by kernel_rfl)) (by unfold Func.isWrapper; first | (rw [if_pos (by decide +kernel)]; kernel_rfl) | (rw [if_neg (by decide +kernel)]; exact ⟨rfl, rfl⟩))
    (fun os started H enc _ F => lifted os started H enc F)
theorem proved : Rows.WireCrumbsUptoSaid := over
#print axioms proved
end Go.Proofs.Ytdfeidpkdbleaaa.wireCrumbs
namespace Go.Proofs.Ytdfeidpkdbleaaa
/-- The row, under a short name, for the claim. -/
theorem wireCrumbsUpto_holds : Rows.WireCrumbsUptoSaid := wireCrumbs.proved
end Go.Proofs.Ytdfeidpkdbleaaa

/- The row of DistCompose, out of its pure statement. Conditions: none. -/
import Derived.Test.YtkemhfhmlcljjaaRows
import Derived.Test.YtkemhfhmlcljjaaPRx13
import Derived.Test.YtkemhfhmlcljjaaPureDistCompose
import Derived.Test.YtkemhfhmlcljjaaOpen
import Derived.WalkKit
import Derived.ProofKit
import Derived.OpenShut
import Derived.ShutString
import Derived.ChangeOld
import Derived.Below
import Derived.SizedLaws
import Derived.Carry
import Derived.JoinedCond
import Derived.Deep.CondSized
namespace Go.Proofs.Ytkemhfhmlcljjaa.distCompose
open Go.ChangeShapes Go.WideShapes Go.ChangeAt Go.RowKit Go.Proofs.YtkemhfhmlcljjaaW.Opened Go.Proofs.YtkemhfhmlcljjaaW.PrintWords Go.Proofs.Ytkemhfhmlcljjaa.PR
open Go.ChangeMaps (open_string shut_string)
set_option linter.unusedVariables false
set_option linter.unusedSimpArgs false
theorem own : ownKnob Try.prog.godebug = none := by kernel_rfl
theorem laidOut : laidOutB Try.prog = true := by kernel_rfl
set_option maxRecDepth 100000 in
theorem opens_32 : Opens Try.prog 32 k32 (fun x : S32 => (x.f0.length ≤ maxLen ∧ x.f0.length * 8 ≤ 140737488351232 ∧ ∀ x_f0z ∈ x.f0, (Lit.int .i64 x_f0z).wf = true) ∧ (Lit.int .i64 x.f1).wf = true) (fun x : S32 => ((((x.f0.map (fun x_f0z => 1)).sum + 1) + 1) + 1)) :=
  Opens.iso (Opens.struct (OpensFs.cons (Opens.slice (B := 8) (Opens.int Try.underlying3 (by kernel_rfl)) Try.underlying24 (by kernel_rfl) (by kernel_rfl) (by decide)) rfl (OpensFs.one (Opens.int Try.underlying3 (by kernel_rfl)) rfl)) Try.underlying32 (by kernel_rfl)) _ (fun x => ⟨x.1, x.2⟩) (fun _ => rfl)
set_option maxRecDepth 100000 in
theorem opens_45 : Opens Try.prog 45 k45 (fun x : S45 => (x.f0.length ≤ maxLen ∧ x.f0.length * 8 ≤ 140737488351232 ∧ ∀ x_f0z ∈ x.f0, (Lit.int .i64 x_f0z).wf = true) ∧ (x.f1.length ≤ maxLen ∧ x.f1.length * 32 ≤ 140737488351232 ∧ ∀ x_f1z ∈ x.f1, ((x_f1z.f0.length ≤ maxLen ∧ x_f1z.f0.length * 8 ≤ 140737488351232 ∧ ∀ x_f1z_f0z ∈ x_f1z.f0, (Lit.int .i64 x_f1z_f0z).wf = true) ∧ (Lit.int .i64 x_f1z.f1).wf = true))) (fun x : S45 => ((((x.f0.map (fun x_f0z => 1)).sum + 1) + ((x.f1.map (fun x_f1z => ((((x_f1z.f0.map (fun x_f1z_f0z => 1)).sum + 1) + 1) + 1))).sum + 1)) + 1)) :=
  Opens.iso (Opens.struct (OpensFs.cons (Opens.slice (B := 8) (Opens.int Try.underlying3 (by kernel_rfl)) Try.underlying24 (by kernel_rfl) (by kernel_rfl) (by decide)) rfl (OpensFs.one (Opens.slice (B := 32) opens_32 Try.underlying23 (by kernel_rfl) (by kernel_rfl) (by decide)) rfl)) Try.underlying45 (by kernel_rfl)) _ (fun x => ⟨x.1, x.2⟩) (fun _ => rfl)
set_option maxRecDepth 100000 in
theorem lifted (os : Os) (started : os.Started) (H : Type) (enc : TypeId × Value → H) (F : Stop.Interp) :
    ReturnsInHanded {} Try.checked os 9 .any ((Rows.OpenSpec.upto Rows.distComposeSpec).pre6 enc Try.prog Try.f9 Rows.distComposeUptoRow.domain false) (((Rows.OpenSpec.upto Rows.distComposeSpec).at F).post enc Try.prog Try.f9 false true false false) := by
  refine returnsInHanded_of_cond_sized (C := Try.checked) (s := Rows.OpenSpec.upto Rows.distComposeSpec) (k := Rows.uptoSmall) rfl own started (by kernel_rfl) Try.func9
    (OpenSpec.witness (enc := enc) (C := Try.checked) (s := Rows.OpenSpec.upto Rows.distComposeSpec) (k := Rows.uptoSmall) rfl false ⟨#[], #[.slice none 0 0, .slice none 0 0, .slice none 0 0, .slice none 0 0], []⟩ 8 (by kernel_rfl) (by kernel_rfl) (by kernel_rfl)
      (x := ([.nil, .nil, .nil, .nil], [], [])) (by kernel_rfl) rfl (by kernel_rfl)) ?_
  intro W base args ds gs before hval0 hW hcnd hkk hsz0 _
  have hsz : (DataW.weightsEach Try.prog (Try.f9.params.toList ++ Rows.distComposeSpec.plain.varTypes Try.prog) (ds ++ gs)).all (· ≤ reachBytes) = true := hsz0
  have hval : ∀ (j : Nat) t v, Try.f9.params[j]? = some t → args[j]? = some v → Value.okWide Try.prog W .any base t v := hval0
  have hW' := hW
  obtain ⟨p, q, hA0, hV, rfl, hfz, hnd⟩ := hW
  have hA : DataW.TrodAll enc Try.prog W 0 (fun _ => true) true Try.f9.params.toList args.toList ds p := hA0
  rw [Try.params9] at hA hval hsz
  obtain ⟨v0, vs0, d0, ds0, p0, q0, hargs, rfl, rfl, h0, r0⟩ := trodAll_cons hA
  obtain ⟨v1, vs1, d1, ds1, p1, q1, rfl, rfl, rfl, h1, r1⟩ := trodAll_cons r0
  obtain ⟨v2, vs2, d2, ds2, p2, q2, rfl, rfl, rfl, h2, r2⟩ := trodAll_cons r1
  obtain ⟨v3, vs3, d3, ds3, p3, q3, rfl, rfl, rfl, h3, r3⟩ := trodAll_cons r2
  obtain ⟨rfl, rfl, rfl⟩ := trodAll_nil r3
  obtain rfl : args = #[v0, v1, v2, v3] := by cases args; simp_all
  obtain ⟨rfl, rfl⟩ := trodVars_none hV
  have k0 := h0
  have lt0 : ∀ x ∈ p0, x.block < W.heap.size := by obtain ⟨m, hm⟩ := k0; exact DataW.trod_lt m _ _ _ hm
  obtain ⟨x0, K0, G0, B0⟩ := Opens.arg (Opens.slice (B := 32) opens_32 Try.underlying23 (by kernel_rfl) (by kernel_rfl) (by decide)) (j := 0) hsz rfl rfl k0
  obtain ⟨a0, len0, cap0, rfl⟩ := okWide_slice Try.underlying23 (hval 0 23 v0 rfl rfl)
  obtain ⟨_, _, E0, c0, R0⟩ := K0
  simp [Value.cells] at E0
  obtain ⟨rfl, rfl, rfl⟩ := E0
  have k1 := h1
  have lt1 : ∀ x ∈ p1, x.block < W.heap.size := by obtain ⟨m, hm⟩ := k1; exact DataW.trod_lt m _ _ _ hm
  obtain ⟨x1, K1, G1, B1⟩ := Opens.arg (Opens.slice (B := 32) opens_32 Try.underlying23 (by kernel_rfl) (by kernel_rfl) (by decide)) (j := 1) hsz rfl rfl k1
  obtain ⟨a1, len1, cap1, rfl⟩ := okWide_slice Try.underlying23 (hval 1 23 v1 rfl rfl)
  obtain ⟨_, _, E1, c1, R1⟩ := K1
  simp [Value.cells] at E1
  obtain ⟨rfl, rfl, rfl⟩ := E1
  have k2 := h2
  have lt2 : ∀ x ∈ p2, x.block < W.heap.size := by obtain ⟨m, hm⟩ := k2; exact DataW.trod_lt m _ _ _ hm
  obtain ⟨x2, K2, G2, B2⟩ := Opens.arg (Opens.slice (B := 48) opens_45 Try.underlying40 (by kernel_rfl) (by kernel_rfl) (by decide)) (j := 2) hsz rfl rfl k2
  obtain ⟨a2, len2, cap2, rfl⟩ := okWide_slice Try.underlying40 (hval 2 40 v2 rfl rfl)
  obtain ⟨_, _, E2, c2, R2⟩ := K2
  simp [Value.cells] at E2
  obtain ⟨rfl, rfl, rfl⟩ := E2
  have k3 := h3
  have lt3 : ∀ x ∈ p3, x.block < W.heap.size := by obtain ⟨m, hm⟩ := k3; exact DataW.trod_lt m _ _ _ hm
  obtain ⟨x3, K3, G3, B3⟩ := Opens.arg (Opens.slice (B := 48) opens_45 Try.underlying40 (by kernel_rfl) (by kernel_rfl) (by decide)) (j := 3) hsz rfl rfl k3
  obtain ⟨a3, len3, cap3, rfl⟩ := okWide_slice Try.underlying40 (hval 3 40 v3 rfl rfl)
  obtain ⟨_, _, E3, c3, R3⟩ := K3
  simp [Value.cells] at E3
  obtain ⟨rfl, rfl, rfl⟩ := E3
  clear hA0 hval0 hsz0 hsz
  have hb := of_decide_eq_true hkk
  simp only [List.append_nil, List.cons_append, List.nil_append, Rows.uptoBulkAll] at hb
  have hB : ((x0.map (fun x0z => ((((x0z.f0.map (fun x0z_f0z => 1)).sum + 1) + 1) + 1))).sum + 1) + ((x1.map (fun x1z => ((((x1z.f0.map (fun x1z_f0z => 1)).sum + 1) + 1) + 1))).sum + 1) + ((x2.map (fun x2z => ((((x2z.f0.map (fun x2z_f0z => 1)).sum + 1) + ((x2z.f1.map (fun x2z_f1z => ((((x2z_f1z.f0.map (fun x2z_f1z_f0z => 1)).sum + 1) + 1) + 1))).sum + 1)) + 1))).sum + 1) + ((x3.map (fun x3z => ((((x3z.f0.map (fun x3z_f0z => 1)).sum + 1) + ((x3z.f1.map (fun x3z_f1z => ((((x3z_f1z.f0.map (fun x3z_f1z_f0z => 1)).sum + 1) + 1) + 1))).sum + 1)) + 1))).sum + 1) ≤ 1048576 := by have e0 : ((x0.map (fun x0z => ((((x0z.f0.map (fun x0z_f0z => 1)).sum + 1) + 1) + 1))).sum + 1) ≤ Rows.uptoBulk _ := B0; have e1 : ((x1.map (fun x1z => ((((x1z.f0.map (fun x1z_f0z => 1)).sum + 1) + 1) + 1))).sum + 1) ≤ Rows.uptoBulk _ := B1; have e2 : ((x2.map (fun x2z => ((((x2z.f0.map (fun x2z_f0z => 1)).sum + 1) + ((x2z.f1.map (fun x2z_f1z => ((((x2z_f1z.f0.map (fun x2z_f1z_f0z => 1)).sum + 1) + 1) + 1))).sum + 1)) + 1))).sum + 1) ≤ Rows.uptoBulk _ := B2; have e3 : ((x3.map (fun x3z => ((((x3z.f0.map (fun x3z_f0z => 1)).sum + 1) + ((x3z.f1.map (fun x3z_f1z => ((((x3z_f1z.f0.map (fun x3z_f1z_f0z => 1)).sum + 1) + 1) + 1))).sum + 1)) + 1))).sum + 1) ≤ Rows.uptoBulk _ := B3; omega
  obtain ⟨k, hk⟩ := Pure.DistCompose x0 x1 x2 x3 G0 G1 G2 G3 hB
  refine (hushlaw2_DistCompose.calls k _ _ x0 _ _ x1 _ _ x2 _ _ x3 true W R0 c0 R1 c1 R2 c2 R3 c3 hk).mono fun e W' ⟨he, bel0⟩ => ?_
  have bel : Below W.heap.size W W' := bel0
  subst he
  exact ⟨_, rfl, _, _, _, [], _, [], hW', trodAll_mk1 (shut_bool Try.underlying4 _), (trodAll_cons_mk (Below.trod laidOut (by kernel_rfl) (of_decide_eq_true (by kernel_rfl)) k0 bel lt0) (trodAll_cons_mk (Below.trod laidOut (by kernel_rfl) (of_decide_eq_true (by kernel_rfl)) k1 bel lt1) (trodAll_cons_mk (Below.trod laidOut (by kernel_rfl) (of_decide_eq_true (by kernel_rfl)) k2 bel lt2) (trodAll_cons_mk (Below.trod laidOut (by kernel_rfl) (of_decide_eq_true (by kernel_rfl)) k3 bel lt3) trodAll_mk0)))), rfl, bel.frame _, fun h => by cases h⟩
theorem over : Rows.distComposeUptoRow.holds Try.pinned (Rows.OpenSpec.upto Rows.distComposeSpec) :=
  OpenClaim.holds_of_cond 9 Try.f9 rfl rfl rfl rfl rfl rfl rfl ⟨rfl, rfl, rfl, rfl, rfl⟩ rfl rfl rfl rfl rfl (by kernel_rfl) Try.func9 (by kernel_rfl)
    (of_decide_eq_true (by kernel_rfl)) (by unfold Func.isWrapper; first | (rw [if_pos (by decide +kernel)]; kernel_rfl) | (rw [if_neg (by decide +kernel)]; exact ⟨rfl, rfl⟩))
    (fun os started H enc _ F => lifted os started H enc F)
theorem proved : Rows.DistComposeUptoSaid := over
#print axioms proved
end Go.Proofs.Ytkemhfhmlcljjaa.distCompose
namespace Go.Proofs.Ytkemhfhmlcljjaa
/-- The row, under a short name, for the claim. -/
theorem distComposeUpto_holds : Rows.DistComposeUptoSaid := distCompose.proved
end Go.Proofs.Ytkemhfhmlcljjaa

/- The row of DistPost, out of its pure statement. Conditions: none. -/
import Derived.Test.YtkemhfhmlcljjaaRows
import Derived.Test.YtkemhfhmlcljjaaPPx11
import Derived.Test.YtkemhfhmlcljjaaPureDistPost
import Derived.Test.YtkemhfhmlcljjaaOpen
import Derived.WalkKit
import Derived.ProofKit
import Derived.OpenShut
import Derived.ShutString
import Derived.ChangeOld
import Derived.Below
import Derived.SizedLaws
import Derived.Carry
import Derived.JoinedCond
import Derived.Deep.CondSized
namespace Go.Proofs.Ytkemhfhmlcljjaa.distPost
open Go.ChangeShapes Go.WideShapes Go.ChangeAt Go.RowKit Go.Proofs.YtkemhfhmlcljjaaW.Opened Go.Proofs.YtkemhfhmlcljjaaW.PrintWords Go.Proofs.Ytkemhfhmlcljjaa.PP
open Go.ChangeMaps (open_string shut_string)
set_option linter.unusedVariables false
set_option linter.unusedSimpArgs false
theorem own : ownKnob Try.prog.godebug = none := by kernel_rfl
theorem laidOut : laidOutB Try.prog = true := by kernel_rfl
set_option maxRecDepth 100000 in
theorem opens_32 : Opens Try.prog 32 k32 (fun x : S32 => (x.f0.length ≤ maxLen ∧ x.f0.length * 8 ≤ 140737488351232 ∧ ∀ x_f0z ∈ x.f0, (Lit.int .i64 x_f0z).wf = true) ∧ (Lit.int .i64 x.f1).wf = true) (fun x : S32 => ((((x.f0.map (fun x_f0z => 1)).sum + 1) + 1) + 1)) :=
  Opens.iso (Opens.struct (OpensFs.cons (Opens.slice (B := 8) (Opens.int Try.underlying3 (by kernel_rfl)) Try.underlying24 (by kernel_rfl) (by kernel_rfl) (by decide)) rfl (OpensFs.one (Opens.int Try.underlying3 (by kernel_rfl)) rfl)) Try.underlying32 (by kernel_rfl)) _ (fun x => ⟨x.1, x.2⟩) (fun _ => rfl)
set_option maxRecDepth 100000 in
theorem opens_93 : Opens Try.prog 93 k93 (fun x : S93 => (x.f0.length ≤ maxLen ∧ x.f0.length * 8 ≤ 140737488351232 ∧ ∀ x_f0z ∈ x.f0, (Lit.int .i64 x_f0z).wf = true) ∧ (x.f1.length ≤ maxLen ∧ x.f1.length * 8 ≤ 140737488351232 ∧ ∀ x_f1z ∈ x.f1, (Lit.int .i64 x_f1z).wf = true)) (fun x : S93 => ((((x.f0.map (fun x_f0z => 1)).sum + 1) + ((x.f1.map (fun x_f1z => 1)).sum + 1)) + 1)) :=
  Opens.iso (Opens.struct (OpensFs.cons (Opens.slice (B := 8) (Opens.int Try.underlying3 (by kernel_rfl)) Try.underlying24 (by kernel_rfl) (by kernel_rfl) (by decide)) rfl (OpensFs.one (Opens.slice (B := 8) (Opens.int Try.underlying3 (by kernel_rfl)) Try.underlying24 (by kernel_rfl) (by kernel_rfl) (by decide)) rfl)) Try.underlying93 (by kernel_rfl)) _ (fun x => ⟨x.1, x.2⟩) (fun _ => rfl)
set_option maxRecDepth 100000 in
theorem lifted (os : Os) (started : os.Started) (H : Type) (enc : TypeId × Value → H) (F : Stop.Interp) :
    ReturnsInHanded {} Try.checked os 7 .any ((Rows.OpenSpec.upto Rows.distPostSpec).pre6 enc Try.prog Try.f7 Rows.distPostUptoRow.domain false) (((Rows.OpenSpec.upto Rows.distPostSpec).at F).post enc Try.prog Try.f7 false true false false) := by
  refine returnsInHanded_of_cond_sized (C := Try.checked) (s := Rows.OpenSpec.upto Rows.distPostSpec) (k := Rows.uptoSmall) rfl own started (by kernel_rfl) Try.func7
    (OpenSpec.witness (enc := enc) (C := Try.checked) (s := Rows.OpenSpec.upto Rows.distPostSpec) (k := Rows.uptoSmall) rfl false ⟨#[], #[.slice none 0 0, .slice none 0 0, .slice none 0 0], []⟩ 8 (by kernel_rfl) (by kernel_rfl) (by kernel_rfl)
      (x := ([.nil, .nil, .nil], [], [])) (by kernel_rfl) rfl (by kernel_rfl)) ?_
  intro W base args ds gs before hval0 hW hcnd hkk hsz0 _
  have hsz : (DataW.weightsEach Try.prog (Try.f7.params.toList ++ Rows.distPostSpec.plain.varTypes Try.prog) (ds ++ gs)).all (· ≤ reachBytes) = true := hsz0
  have hval : ∀ (j : Nat) t v, Try.f7.params[j]? = some t → args[j]? = some v → Value.okWide Try.prog W .any base t v := hval0
  have hW' := hW
  obtain ⟨p, q, hA0, hV, rfl, hfz, hnd⟩ := hW
  have hA : DataW.TrodAll enc Try.prog W 0 (fun _ => true) true Try.f7.params.toList args.toList ds p := hA0
  rw [Try.params7] at hA hval hsz
  obtain ⟨v0, vs0, d0, ds0, p0, q0, hargs, rfl, rfl, h0, r0⟩ := trodAll_cons hA
  obtain ⟨v1, vs1, d1, ds1, p1, q1, rfl, rfl, rfl, h1, r1⟩ := trodAll_cons r0
  obtain ⟨v2, vs2, d2, ds2, p2, q2, rfl, rfl, rfl, h2, r2⟩ := trodAll_cons r1
  obtain ⟨rfl, rfl, rfl⟩ := trodAll_nil r2
  obtain rfl : args = #[v0, v1, v2] := by cases args; simp_all
  obtain ⟨rfl, rfl⟩ := trodVars_none hV
  have k0 := h0
  have lt0 : ∀ x ∈ p0, x.block < W.heap.size := by obtain ⟨m, hm⟩ := k0; exact DataW.trod_lt m _ _ _ hm
  obtain ⟨x0, K0, G0, B0⟩ := Opens.arg (Opens.slice (B := 32) opens_32 Try.underlying23 (by kernel_rfl) (by kernel_rfl) (by decide)) (j := 0) hsz rfl rfl k0
  obtain ⟨a0, len0, cap0, rfl⟩ := okWide_slice Try.underlying23 (hval 0 23 v0 rfl rfl)
  obtain ⟨_, _, E0, c0, R0⟩ := K0
  simp [Value.cells] at E0
  obtain ⟨rfl, rfl, rfl⟩ := E0
  have k1 := h1
  have lt1 : ∀ x ∈ p1, x.block < W.heap.size := by obtain ⟨m, hm⟩ := k1; exact DataW.trod_lt m _ _ _ hm
  obtain ⟨x1, K1, G1, B1⟩ := Opens.arg (Opens.slice (B := 32) opens_32 Try.underlying23 (by kernel_rfl) (by kernel_rfl) (by decide)) (j := 1) hsz rfl rfl k1
  obtain ⟨a1, len1, cap1, rfl⟩ := okWide_slice Try.underlying23 (hval 1 23 v1 rfl rfl)
  obtain ⟨_, _, E1, c1, R1⟩ := K1
  simp [Value.cells] at E1
  obtain ⟨rfl, rfl, rfl⟩ := E1
  have k2 := h2
  have lt2 : ∀ x ∈ p2, x.block < W.heap.size := by obtain ⟨m, hm⟩ := k2; exact DataW.trod_lt m _ _ _ hm
  obtain ⟨x2, K2, G2, B2⟩ := Opens.arg (Opens.slice (B := 48) opens_93 Try.underlying51 (by kernel_rfl) (by kernel_rfl) (by decide)) (j := 2) hsz rfl rfl k2
  obtain ⟨a2, len2, cap2, rfl⟩ := okWide_slice Try.underlying51 (hval 2 51 v2 rfl rfl)
  obtain ⟨_, _, E2, c2, R2⟩ := K2
  simp [Value.cells] at E2
  obtain ⟨rfl, rfl, rfl⟩ := E2
  clear hA0 hval0 hsz0 hsz
  have hb := of_decide_eq_true hkk
  simp only [List.append_nil, List.cons_append, List.nil_append, Rows.uptoBulkAll] at hb
  have hB : ((x0.map (fun x0z => ((((x0z.f0.map (fun x0z_f0z => 1)).sum + 1) + 1) + 1))).sum + 1) + ((x1.map (fun x1z => ((((x1z.f0.map (fun x1z_f0z => 1)).sum + 1) + 1) + 1))).sum + 1) + ((x2.map (fun x2z => ((((x2z.f0.map (fun x2z_f0z => 1)).sum + 1) + ((x2z.f1.map (fun x2z_f1z => 1)).sum + 1)) + 1))).sum + 1) ≤ 1048576 := by have e0 : ((x0.map (fun x0z => ((((x0z.f0.map (fun x0z_f0z => 1)).sum + 1) + 1) + 1))).sum + 1) ≤ Rows.uptoBulk _ := B0; have e1 : ((x1.map (fun x1z => ((((x1z.f0.map (fun x1z_f0z => 1)).sum + 1) + 1) + 1))).sum + 1) ≤ Rows.uptoBulk _ := B1; have e2 : ((x2.map (fun x2z => ((((x2z.f0.map (fun x2z_f0z => 1)).sum + 1) + ((x2z.f1.map (fun x2z_f1z => 1)).sum + 1)) + 1))).sum + 1) ≤ Rows.uptoBulk _ := B2; omega
  obtain ⟨k, hk⟩ := Pure.DistPost x0 x1 x2 G0 G1 G2 hB
  refine (hushlaw2_DistPost.calls k _ _ x0 _ _ x1 _ _ x2 true W R0 c0 R1 c1 R2 c2 hk).mono fun e W' ⟨he, bel0⟩ => ?_
  have bel : Below W.heap.size W W' := bel0
  subst he
  exact ⟨_, rfl, _, _, _, [], _, [], hW', trodAll_mk1 (shut_bool Try.underlying4 _), (trodAll_cons_mk (Below.trod laidOut (by kernel_rfl) (of_decide_eq_true (by kernel_rfl)) k0 bel lt0) (trodAll_cons_mk (Below.trod laidOut (by kernel_rfl) (of_decide_eq_true (by kernel_rfl)) k1 bel lt1) (trodAll_cons_mk (Below.trod laidOut (by kernel_rfl) (of_decide_eq_true (by kernel_rfl)) k2 bel lt2) trodAll_mk0))), rfl, bel.frame _, fun h => by cases h⟩
theorem over : Rows.distPostUptoRow.holds Try.pinned (Rows.OpenSpec.upto Rows.distPostSpec) :=
  OpenClaim.holds_of_cond 7 Try.f7 rfl rfl rfl rfl rfl rfl rfl ⟨rfl, rfl, rfl, rfl, rfl⟩ rfl rfl rfl rfl rfl (by kernel_rfl) Try.func7 (by kernel_rfl)
    (of_decide_eq_true (by kernel_rfl)) (by unfold Func.isWrapper; first | (rw [if_pos (by decide +kernel)]; kernel_rfl) | (rw [if_neg (by decide +kernel)]; exact ⟨rfl, rfl⟩))
    (fun os started H enc _ F => lifted os started H enc F)
theorem proved : Rows.DistPostUptoSaid := over
#print axioms proved
end Go.Proofs.Ytkemhfhmlcljjaa.distPost
namespace Go.Proofs.Ytkemhfhmlcljjaa
/-- The row, under a short name, for the claim. -/
theorem distPostUpto_holds : Rows.DistPostUptoSaid := distPost.proved
end Go.Proofs.Ytkemhfhmlcljjaa

/- The row of WirePacks, out of its pure statement. Conditions: none. -/
import Derived.Test.YtdfeidpkdbleaaaRows
import Derived.Test.YtdfeidpkdbleaaaPCx21
import Derived.Test.YtdfeidpkdbleaaaPureWirePacks
import Derived.Test.YtdfeidpkdbleaaaOpen
import Derived.WalkKit
import Derived.ProofKit
import Derived.OpenShut
import Derived.ShutString
import Derived.ChangeOld
import Derived.Below
import Derived.SizedLaws
import Derived.Carry
import Derived.JoinedCond
import Derived.Deep.CondSized
namespace Go.Proofs.Ytdfeidpkdbleaaa.wirePacks
open Go.ChangeShapes Go.WideShapes Go.ChangeAt Go.RowKit Go.Proofs.YtdfeidpkdbleaaaW.Opened Go.Proofs.YtdfeidpkdbleaaaW.PrintWords Go.Proofs.Ytdfeidpkdbleaaa.PC
open Go.ChangeMaps (open_string shut_string)
set_option linter.unusedVariables false
set_option linter.unusedSimpArgs false
theorem own : ownKnob Try.prog.godebug = none := by kernel_rfl
theorem laidOut : laidOutB Try.prog = true := by kernel_rfl
theorem opens_38 : Opens Try.prog 38 k38 (fun x : S38 => (Lit.int .i64 x.f0).wf = true ∧ (Lit.int .i64 x.f1).wf = true) (fun x : S38 => ((1 + 1) + 1)) :=
  Opens.iso (Opens.struct (OpensFs.cons (Opens.int Try.underlying3 (by kernel_rfl)) rfl (OpensFs.one (Opens.int Try.underlying3 (by kernel_rfl)) rfl)) Try.underlying38 (by kernel_rfl)) _ (fun x => ⟨x.1, x.2⟩) (fun _ => rfl)
theorem opens_40 : Opens Try.prog 40 k40 (fun x : S40 => (Lit.int .i64 x.f0).wf = true ∧ x.f1.size ≤ 140737488351232 ∧ (Lit.int .i64 x.f2).wf = true ∧ x.f3.size ≤ 140737488351232 ∧ x.f4.size ≤ 140737488351232 ∧ ((Lit.int .i64 x.f5.f0).wf = true ∧ (Lit.int .i64 x.f5.f1).wf = true) ∧ (Lit.int .i64 x.f6).wf = true ∧ (Lit.int .i64 x.f7).wf = true ∧ (Lit.int .i64 x.f8).wf = true ∧ (x.f9.length ≤ maxLen ∧ x.f9.length * 8 ≤ 140737488351232 ∧ ∀ x_f9z ∈ x.f9, (Lit.int .i64 x_f9z).wf = true) ∧ ((Lit.int .i64 x.f10.f0).wf = true ∧ (Lit.int .i64 x.f10.f1).wf = true)) (fun x : S40 => ((1 + ((x.f1.size + 1) + (1 + ((x.f3.size + 1) + ((x.f4.size + 1) + (((1 + 1) + 1) + (1 + (1 + (1 + (((x.f9.map (fun x_f9z => 1)).sum + 1) + ((1 + 1) + 1))))))))))) + 1)) := by
  have h := Opens.iso (Opens.struct (OpensFs.cons (Opens.int Try.underlying3 (by kernel_rfl)) rfl (OpensFs.cons (Opens.string Try.underlying9 (by kernel_rfl)) rfl (OpensFs.cons (Opens.int Try.underlying3 (by kernel_rfl)) rfl (OpensFs.cons (Opens.string Try.underlying9 (by kernel_rfl)) rfl (OpensFs.cons (Opens.string Try.underlying9 (by kernel_rfl)) rfl (OpensFs.cons opens_38 rfl (OpensFs.cons (Opens.int Try.underlying3 (by kernel_rfl)) rfl (OpensFs.cons (Opens.int Try.underlying3 (by kernel_rfl)) rfl (OpensFs.cons (Opens.int Try.underlying25 (by kernel_rfl)) rfl (OpensFs.cons (Opens.slice (B := 8) (Opens.int Try.underlying3 (by kernel_rfl)) Try.underlying32 (by kernel_rfl) (by kernel_rfl) (by decide)) rfl (OpensFs.one opens_38 rfl))))))))))) Try.underlying40 (by kernel_rfl)) (fun x : S40 => (x.f0, x.f1, x.f2, x.f3, x.f4, x.f5, x.f6, x.f7, x.f8, x.f9, x.f10)) (fun x => ⟨x.1, x.2.1, x.2.2.1, x.2.2.2.1, x.2.2.2.2.1, x.2.2.2.2.2.1, x.2.2.2.2.2.2.1, x.2.2.2.2.2.2.2.1, x.2.2.2.2.2.2.2.2.1, x.2.2.2.2.2.2.2.2.2.1, x.2.2.2.2.2.2.2.2.2.2⟩) (fun _ => rfl)
  exact h
set_option maxRecDepth 100000 in
theorem lifted (os : Os) (started : os.Started) (H : Type) (enc : TypeId × Value → H) (F : Stop.Interp) :
    ReturnsInHanded {} Try.checked os 5 .any ((Rows.OpenSpec.upto Rows.wirePacksSpec).pre6 enc Try.prog Try.f5 Rows.wirePacksUptoRow.domain false) (((Rows.OpenSpec.upto Rows.wirePacksSpec).at F).post enc Try.prog Try.f5 false true false false) := by
  refine returnsInHanded_of_cond_sized (C := Try.checked) (s := Rows.OpenSpec.upto Rows.wirePacksSpec) (k := Rows.uptoSmall) rfl own started (by kernel_rfl) Try.func5
    (OpenSpec.witness (enc := enc) (C := Try.checked) (s := Rows.OpenSpec.upto Rows.wirePacksSpec) (k := Rows.uptoSmall) rfl false ⟨#[], #[.agg #[.int .i64 0, .string ByteArray.empty, .int .i64 0, .string ByteArray.empty, .string ByteArray.empty, .int .i64 0, .int .i64 0, .int .i64 0, .int .i64 0, .int .i64 0, .slice none 0 0, .int .i64 0, .int .i64 0], .string ByteArray.empty], []⟩ 8 (by kernel_rfl) (by kernel_rfl) (by kernel_rfl)
      (x := ([.agg [.lit (.int .i64 0), .lit (.string []), .lit (.int .i64 0), .lit (.string []), .lit (.string []), .agg [.lit (.int .i64 0), .lit (.int .i64 0)], .lit (.int .i64 0), .lit (.int .i64 0), .lit (.int .i64 0), .nil, .agg [.lit (.int .i64 0), .lit (.int .i64 0)]], .lit (.string [])], [], [])) (by kernel_rfl) rfl (by kernel_rfl)) ?_
  intro W base args ds gs before hval0 hW hcnd hkk hsz0 _
  have hsz : (DataW.weightsEach Try.prog (Try.f5.params.toList ++ Rows.wirePacksSpec.plain.varTypes Try.prog) (ds ++ gs)).all (· ≤ reachBytes) = true := hsz0
  have hval : ∀ (j : Nat) t v, Try.f5.params[j]? = some t → args[j]? = some v → Value.okWide Try.prog W .any base t v := hval0
  have hW' := hW
  obtain ⟨p, q, hA0, hV, rfl, hfz, hnd⟩ := hW
  have hA : DataW.TrodAll enc Try.prog W 0 (fun _ => true) true Try.f5.params.toList args.toList ds p := hA0
  rw [Try.params5] at hA hval hsz
  obtain ⟨v0, vs0, d0, ds0, p0, q0, hargs, rfl, rfl, h0, r0⟩ := trodAll_cons hA
  obtain ⟨v1, vs1, d1, ds1, p1, q1, rfl, rfl, rfl, h1, r1⟩ := trodAll_cons r0
  obtain ⟨rfl, rfl, rfl⟩ := trodAll_nil r1
  obtain rfl : args = #[v0, v1] := by cases args; simp_all
  obtain ⟨rfl, rfl⟩ := trodVars_none hV
  have k0 := h0
  have lt0 : ∀ x ∈ p0, x.block < W.heap.size := by obtain ⟨m, hm⟩ := k0; exact DataW.trod_lt m _ _ _ hm
  obtain ⟨x0, K0, G0, B0⟩ := Opens.arg opens_40 (j := 0) hsz rfl rfl k0
  obtain ⟨cs0, rfl, _⟩ := okWide_struct Try.underlying40 (hval 0 40 v0 rfl rfl)
  obtain ⟨A0_10, c0_10, E0, l0_10, R0_10⟩ := k40_open K0
  obtain rfl : cs0 = #[.int .i64 x0.f0, .string x0.f1, .int .i64 x0.f2, .string x0.f3, .string x0.f4, .int .i64 x0.f5.f0, .int .i64 x0.f5.f1, .int .i64 x0.f6, .int .i64 x0.f7, .int .i64 x0.f8, .slice A0_10 x0.f9.length c0_10, .int .i64 x0.f10.f0, .int .i64 x0.f10.f1] := by cases cs0; simp_all [Value.cells]
  have k1 := h1
  have lt1 : ∀ x ∈ p1, x.block < W.heap.size := by obtain ⟨m, hm⟩ := k1; exact DataW.trod_lt m _ _ _ hm
  obtain ⟨x1, K1, G1, B1⟩ := Opens.arg (Opens.string Try.underlying9 (by kernel_rfl)) (j := 1) hsz rfl rfl k1
  obtain ⟨b1, rfl, rfl, rfl, _⟩ := open_string Try.underlying9 (hval 1 9 v1 rfl rfl) h1
  obtain rfl : b1 = x1 := by have e : [_] = [_] := K1; injection e with e _; injection e
  clear hA0 hval0 hsz0 hsz
  have hb := of_decide_eq_true hkk
  simp only [List.append_nil, List.cons_append, List.nil_append, Rows.uptoBulkAll] at hb
  have hB : ((1 + ((x0.f1.size + 1) + (1 + ((x0.f3.size + 1) + ((x0.f4.size + 1) + (((1 + 1) + 1) + (1 + (1 + (1 + (((x0.f9.map (fun x0_f9z => 1)).sum + 1) + ((1 + 1) + 1))))))))))) + 1) + (b1.size + 1) ≤ 1048576 := by have e0 : ((1 + ((x0.f1.size + 1) + (1 + ((x0.f3.size + 1) + ((x0.f4.size + 1) + (((1 + 1) + 1) + (1 + (1 + (1 + (((x0.f9.map (fun x0_f9z => 1)).sum + 1) + ((1 + 1) + 1))))))))))) + 1) ≤ Rows.uptoBulk _ := B0; have e1 : (b1.size + 1) ≤ Rows.uptoBulk _ := B1; omega
  obtain ⟨k, hk⟩ := Pure.WirePacks x0 b1 G0 G1 hB
  refine (hushlaw16_WirePacks.calls k x0.f0 x0.f1 x0.f2 x0.f3 x0.f4 x0.f5.f0 x0.f5.f1 x0.f6 x0.f7 x0.f8 _ _ x0.f9 x0.f10.f0 x0.f10.f1 b1 true W R0_10 l0_10 hk).mono fun e W' ⟨he, bel0⟩ => ?_
  have bel : Below W.heap.size W W' := bel0
  subst he
  exact ⟨_, rfl, _, _, _, [], _, [], hW', trodAll_mk1 (shut_bool Try.underlying4 _), (trodAll_cons_mk (Below.trod laidOut (by kernel_rfl) (of_decide_eq_true (by kernel_rfl)) k0 bel lt0) (trodAll_cons_mk (Below.trod laidOut (by kernel_rfl) (of_decide_eq_true (by kernel_rfl)) k1 bel lt1) trodAll_mk0)), rfl, bel.frame _, fun h => by cases h⟩
theorem over : Rows.wirePacksUptoRow.holds Try.pinned (Rows.OpenSpec.upto Rows.wirePacksSpec) :=
  OpenClaim.holds_of_cond 5 Try.f5 rfl rfl rfl rfl rfl rfl rfl ⟨rfl, rfl, rfl, rfl, rfl⟩ rfl rfl rfl rfl rfl (by kernel_rfl) Try.func5 (by kernel_rfl)
    (of_decide_eq_true (by kernel_rfl)) (by unfold Func.isWrapper; first | (rw [if_pos (by decide +kernel)]; kernel_rfl) | (rw [if_neg (by decide +kernel)]; exact ⟨rfl, rfl⟩))
    (fun os started H enc _ F => lifted os started H enc F)
theorem proved : Rows.WirePacksUptoSaid := over
#print axioms proved
end Go.Proofs.Ytdfeidpkdbleaaa.wirePacks
namespace Go.Proofs.Ytdfeidpkdbleaaa
/-- The row, under a short name, for the claim. -/
theorem wirePacksUpto_holds : Rows.WirePacksUptoSaid := wirePacks.proved
end Go.Proofs.Ytdfeidpkdbleaaa

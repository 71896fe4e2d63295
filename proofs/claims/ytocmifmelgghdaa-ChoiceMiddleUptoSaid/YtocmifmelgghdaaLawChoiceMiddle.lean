/- The row of ChoiceMiddle, out of its pure statement. Conditions: none. -/
import Derived.Test.YtocmifmelgghdaaRows
import Derived.Test.YtocmifmelgghdaaPAx10
import Derived.Test.YtocmifmelgghdaaPureChoiceMiddle
import Derived.Test.YtocmifmelgghdaaOpen
import Derived.WalkKit
import Derived.ProofKit
import Derived.OpenShut
import Derived.ShutString
import Derived.ChangeOld
import Derived.Below
import Derived.SizedLaws
import Derived.Carry
import Derived.JoinedCond
import Derived.Deep.CondSized
namespace Go.Proofs.Ytocmifmelgghdaa.choiceMiddle
open Go.ChangeShapes Go.WideShapes Go.ChangeAt Go.RowKit Go.Proofs.YtocmifmelgghdaaW.Opened Go.Proofs.YtocmifmelgghdaaW.PrintWords Go.Proofs.Ytocmifmelgghdaa.PA
open Go.ChangeMaps (open_string shut_string)
set_option linter.unusedVariables false
set_option linter.unusedSimpArgs false
theorem own : ownKnob Try.prog.godebug = none := by kernel_rfl
theorem laidOut : laidOutB Try.prog = true := by kernel_rfl
set_option maxRecDepth 100000 in
theorem lifted (os : Os) (started : os.Started) (H : Type) (enc : TypeId × Value → H) (F : Stop.Interp) :
    ReturnsInHanded {} Try.checked os 3 .any ((Rows.OpenSpec.upto Rows.choiceMiddleSpec).pre6 enc Try.prog Try.f3 Rows.choiceMiddleUptoRow.domain false) (((Rows.OpenSpec.upto Rows.choiceMiddleSpec).at F).post enc Try.prog Try.f3 false true false false) := by
  refine returnsInHanded_of_cond_sized (C := Try.checked) (s := Rows.OpenSpec.upto Rows.choiceMiddleSpec) (k := Rows.uptoSmall) rfl own started (by kernel_rfl) Try.func3
    (OpenSpec.witness (enc := enc) (C := Try.checked) (s := Rows.OpenSpec.upto Rows.choiceMiddleSpec) (k := Rows.uptoSmall) rfl false ⟨#[], #[.slice none 0 0, .int .i64 0], []⟩ 8 (by kernel_rfl) (by kernel_rfl) (by kernel_rfl)
      (x := ([.nil, .lit (.int .i64 0)], [], [])) (by kernel_rfl) rfl (by kernel_rfl)) ?_
  intro W base args ds gs before hval0 hW hcnd hkk hsz0 _
  have hsz : (DataW.weightsEach Try.prog (Try.f3.params.toList ++ Rows.choiceMiddleSpec.plain.varTypes Try.prog) (ds ++ gs)).all (· ≤ reachBytes) = true := hsz0
  have hval : ∀ (j : Nat) t v, Try.f3.params[j]? = some t → args[j]? = some v → Value.okWide Try.prog W .any base t v := hval0
  have hW' := hW
  obtain ⟨p, q, hA0, hV, rfl, hfz, hnd⟩ := hW
  have hA : DataW.TrodAll enc Try.prog W 0 (fun _ => true) true Try.f3.params.toList args.toList ds p := hA0
  rw [Try.params3] at hA hval hsz
  obtain ⟨v0, vs0, d0, ds0, p0, q0, hargs, rfl, rfl, h0, r0⟩ := trodAll_cons hA
  obtain ⟨v1, vs1, d1, ds1, p1, q1, rfl, rfl, rfl, h1, r1⟩ := trodAll_cons r0
  obtain ⟨rfl, rfl, rfl⟩ := trodAll_nil r1
  obtain rfl : args = #[v0, v1] := by cases args; simp_all
  obtain ⟨rfl, rfl⟩ := trodVars_none hV
  have k0 := h0
  have lt0 : ∀ x ∈ p0, x.block < W.heap.size := by obtain ⟨m, hm⟩ := k0; exact DataW.trod_lt m _ _ _ hm
  obtain ⟨x0, K0, G0, B0⟩ := Opens.arg (Opens.slice (B := 8) (Opens.int Try.underlying3 (by kernel_rfl)) Try.underlying22 (by kernel_rfl) (by kernel_rfl) (by decide)) (j := 0) hsz rfl rfl k0
  obtain ⟨a0, len0, cap0, rfl⟩ := okWide_slice Try.underlying22 (hval 0 22 v0 rfl rfl)
  obtain ⟨_, _, E0, c0, R0⟩ := K0
  simp [Value.cells] at E0
  obtain ⟨rfl, rfl, rfl⟩ := E0
  have k1 := h1
  have lt1 : ∀ x ∈ p1, x.block < W.heap.size := by obtain ⟨m, hm⟩ := k1; exact DataW.trod_lt m _ _ _ hm
  obtain ⟨x1, K1, G1, B1⟩ := Opens.arg (Opens.int Try.underlying3 (by kernel_rfl)) (j := 1) hsz rfl rfl k1
  obtain ⟨b1, rfl, rfl, rfl, _⟩ := open_int Try.underlying3 (hval 1 3 v1 rfl rfl) h1
  obtain rfl : b1 = x1 := by have e : [_] = [_] := K1; injection e with e _; injection e
  clear hA0 hval0 hsz0 hsz
  have hb := of_decide_eq_true hkk
  simp only [List.append_nil, List.cons_append, List.nil_append, Rows.uptoBulkAll] at hb
  have hB : ((x0.map (fun x0z => 1)).sum + 1) + 1 ≤ 1048576 := by have e0 : ((x0.map (fun x0z => 1)).sum + 1) ≤ Rows.uptoBulk _ := B0; have e1 : 1 ≤ Rows.uptoBulk _ := B1; omega
  obtain ⟨k, hk⟩ := Pure.ChoiceMiddle x0 b1 G0 G1 hB
  refine (hushlaw7_ChoiceMiddle.calls k _ _ x0 b1 true W R0 c0 hk).mono fun e W' ⟨he, bel0⟩ => ?_
  have bel : Below W.heap.size W W' := bel0
  subst he
  exact ⟨_, rfl, _, _, _, [], _, [], hW', trodAll_mk1 (shut_bool Try.underlying4 _), (trodAll_cons_mk (Below.trod laidOut (by kernel_rfl) (of_decide_eq_true (by kernel_rfl)) k0 bel lt0) (trodAll_cons_mk (Below.trod laidOut (by kernel_rfl) (of_decide_eq_true (by kernel_rfl)) k1 bel lt1) trodAll_mk0)), rfl, bel.frame _, fun h => by cases h⟩
theorem over : Rows.choiceMiddleUptoRow.holds Try.pinned (Rows.OpenSpec.upto Rows.choiceMiddleSpec) :=
  OpenClaim.holds_of_cond 3 Try.f3 rfl rfl rfl rfl rfl rfl rfl ⟨rfl, rfl, rfl, rfl, rfl⟩ rfl rfl rfl rfl rfl (by kernel_rfl) Try.func3 (by kernel_rfl)
    (of_decide_eq_true (by kernel_rfl)) (by unfold Func.isWrapper; first | (rw [if_pos (by decide +kernel)]; kernel_rfl) | (rw [if_neg (by decide +kernel)]; exact ⟨rfl, rfl⟩))
    (fun os started H enc _ F => lifted os started H enc F)
theorem proved : Rows.ChoiceMiddleUptoSaid := over
#print axioms proved
end Go.Proofs.Ytocmifmelgghdaa.choiceMiddle
namespace Go.Proofs.Ytocmifmelgghdaa
/-- The row, under a short name, for the claim. -/
theorem choiceMiddleUpto_holds : Rows.ChoiceMiddleUptoSaid := choiceMiddle.proved
end Go.Proofs.Ytocmifmelgghdaa

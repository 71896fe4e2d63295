/- MaskSays' pure statement: Mask and Sum of the program and of the reference are the same. Conditions: none are used. -/
import Derived.Test.YtjehjjpejmdfiaaMaskSum
namespace Go.Proofs.Ytjehjjpejmdfiaa.Pure
set_option linter.unusedVariables false
set_option linter.unusedSimpArgs false
open Go.RowKit Go.Proofs.Ytjehjjpejmdfiaa.PA Go.Proofs.YtjehjjpejmdfiaaW.PrintWords Go.Proofs.YtjehjjpejmdfiaaW.PrintLast Go.Proofs.YtjehjjpejmdfiaaW.PrintMore Go.Proofs.YtjehjjpejmdfiaaW.EvKit

theorem MaskSays : hushlaw12_MaskSays.Pure := by
  intro p0 p1 p2 p3 p4 p5 p6 _ _ _ _ _ _ _
  refine (hushlaw12_MaskSays.F_is p0 p1 p2 p3 p4 p5 p6).rounds ?_
  rw [hushlaw12_MaskSays.F_eq, mask_prog, mask_ref]
  simp (disch := omega) only [↓if_pos, ↓if_neg, if_true, if_false, decide_eq_true_eq, Bool.false_eq_true, Bool.not_true, Bool.not_false, Bool.not_eq_true, Bool.true_eq, eq_self, Option.bind_some, Option.bind_none, beq_iff_eq, bne_iff_ne, ne_eq, not_true_eq_false, not_false_eq_true, hushlaw12_MaskSays.J0_eq, sum_prog, sum_ref, bne_self_eq_false, beq_self_eq_true]
end Go.Proofs.Ytjehjjpejmdfiaa.Pure

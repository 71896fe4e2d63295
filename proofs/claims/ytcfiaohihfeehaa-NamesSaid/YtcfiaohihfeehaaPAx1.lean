/- Functions of the translated program as Lean functions, and what their calls come to: written by this session's own program (wip/xprint.py) over the kit's print. Conditions stand in each theorem. -/
import Derived.Test.YtcfiaohihfeehaaPAx0
namespace Go.Proofs.Ytcfiaohihfeehaa.PA
open Go.RowKit Go.Proofs.YtcfiaohihfeehaaW.PrintWords Go.Proofs.YtcfiaohihfeehaaW.PrintLast Go.Proofs.YtcfiaohihfeehaaW.PrintMore
attribute [local go_sem] max2_int min2_int max_two min_two max_three min_three max_four min_four   -- for this text's walks alone
set_option linter.unusedVariables false
set_option linter.unusedSimpArgs false

/-! ### hushtop_Names: function 3 -/
def hushtop_Names.f  : Option (Bool) := some true
set_option maxHeartbeats 8000000 in
set_option maxRecDepth 100000 in
theorem hushtop_Names.calls  (r : Bool) (w : World) (h : hushtop_Names.f  = some r) :
    Calls Try.prog 3 #[] w fun e w' => e = .returned (.bool r) ∧ Drawn0 w w' := by
  have H : (some true) = some r := h
  clear h
  obtain rfl := Option.some.inj H
  go_enter Try.func3, Try.ntmps3
  go_wp2
  go_ret
  exact ⟨by first | rfl | (simp; done) | (simp [*]; done), by repeat (first | exact Drawn0.refl _ | apply Drawn0.step)⟩

/-- THE PURE STATEMENT of hushtop_Names. -/
def hushtop_Names.Pure : Prop := hushtop_Names.f  = some true

end Go.Proofs.Ytcfiaohihfeehaa.PA

/- Two lists of texts that are one are the same. Conditions: in the theorems. -/
import Derived.Test.YtdfeidpkdbleaaaPAx5
import Derived.Test.YtdfeidpkdbleaaaEvKit
namespace Go.Proofs.Ytdfeidpkdbleaaa.WireSame
open Go.RowKit Go.Proofs.Ytdfeidpkdbleaaa.PA Go.Proofs.YtdfeidpkdbleaaaW.PrintWords Go.Proofs.YtdfeidpkdbleaaaW.PrintLast Go.Proofs.YtdfeidpkdbleaaaW.PrintMore Go.Proofs.YtdfeidpkdbleaaaW.EvKit

theorem same_from (l : List ByteArray) (hl : l.length ≤ 1099511627776) : ∀ (d i : Nat), i + d = l.length → Ev (fun k => hushlaw16_sameTexts.l0 k l l (l.length : Int) (i : Int)) true := by
  intro d
  induction d with
  | zero =>
    intro i hi
    exact Ev.step (fun k => hushlaw16_sameTexts.l0.eq_2 _ _ _ _ k) (Ev.neg (by omega) (Ev.ret _))
  | succ d ih =>
    intro i hi
    have h := ih (i + 1) (by omega)
    have hw : wrap64 ((i : Int) + 1) = ((i + 1 : Nat) : Int) := by rw [wrap64_of (by omega) (by omega)]; omega
    refine Ev.step (fun k => hushlaw16_sameTexts.l0.eq_2 _ _ _ _ k) (Ev.pos (by omega) (Ev.pos (by omega) (Ev.pos (by omega) (Ev.pos (by omega) (Ev.pos rfl ?_)))))
    simp only [hw]
    exact h

theorem same_texts (l : List ByteArray) (hl : l.length ≤ 1099511627776) : Ev (fun k => hushlaw16_sameTexts.f k l l) true :=
  Ev.pos rfl (same_from l hl l.length 0 (by omega))
end Go.Proofs.Ytdfeidpkdbleaaa.WireSame

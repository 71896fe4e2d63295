/- Functions of the translated program as Lean functions, and what their calls come to: written by this session's own program (wip/xprint.py) over the kit's print. Conditions stand in each theorem. -/
import Derived.Test.YtcfiaohihfeehaaProg
import Derived.Below
import Derived.Deep.Draws
import Derived.Deep.AppendLies
import Derived.Maps.AppendAt
import Derived.OwnWalk
import Derived.Laws.BytesArg
import Derived.Laws.MakeOwn
import Derived.Laws.OwnMore
import Derived.Deep.OwnRows
import Derived.Tactics
import Derived.Lib.ConvBytes
import Derived.Laws.Slices
import Derived.WalkKit
import Derived.KernelRfl
import Derived.RowKit3
import Derived.Deep.LoopGhost
import Derived.Deep.QuietTactic
import Derived.BigQuiet
import Derived.WideLaws
import Derived.Deep.DeepCutAuto
import Derived.Deep.CutBlock
import Derived.Deep.RegionHeld3
import Derived.Laws.Rows
import Derived.Lib.AppendStr
import Derived.ArgAppend
import Derived.Laws.IdiomCopy
import Derived.OrdersHeld
import Derived.Laws.BitsLemmas
import Derived.RowKit
import Derived.Test.YtcfiaohihfeehaaWWords
import Derived.Test.YtcfiaohihfeehaaWLast
import Derived.Test.YtcfiaohihfeehaaWTab
import Derived.Test.YtcfiaohihfeehaaWFour
import Derived.Test.YtcfiaohihfeehaaWQPut
import Derived.Test.YtcfiaohihfeehaaWApart
import Derived.Test.YtcfiaohihfeehaaWArr
import Derived.Test.YtcfiaohihfeehaaWZeros
import Derived.Test.YtcfiaohihfeehaaWFoot
import Derived.Test.YtcfiaohihfeehaaWKept
import Derived.Test.YtcfiaohihfeehaaWShare
import Derived.Test.YtcfiaohihfeehaaWN
import Derived.Test.YtcfiaohihfeehaaWFootNe
import Derived.Test.YtcfiaohihfeehaaWAt
import Derived.Test.YtcfiaohihfeehaaWEqStruct
import Derived.Test.YtcfiaohihfeehaaWRepsOne
import Derived.Test.YtcfiaohihfeehaaWInv
import Derived.Test.YtcfiaohihfeehaaWInvWords
import Derived.Test.YtcfiaohihfeehaaWGuard
import Derived.Test.YtcfiaohihfeehaaWNEv
import Derived.Test.YtcfiaohihfeehaaWMore
namespace Go.Proofs.Ytcfiaohihfeehaa.PA
open Go.RowKit Go.Proofs.YtcfiaohihfeehaaW.PrintWords Go.Proofs.YtcfiaohihfeehaaW.PrintLast Go.Proofs.YtcfiaohihfeehaaW.PrintMore
attribute [local go_sem] max2_int min2_int max_two min_two max_three min_three max_four min_four   -- for this text's walks alone
set_option linter.unusedVariables false
set_option linter.unusedSimpArgs false



def errW : Option Int → Value
  | none => .nilIface
  | some c => .iface 0 (.int .i64 c)
theorem errW_none : errW none = .nilIface := rfl
theorem errW_some (c : Int) : errW (some c) = .iface 0 (.int .i64 c) := rfl

-- the values' own types

end Go.Proofs.Ytcfiaohihfeehaa.PA

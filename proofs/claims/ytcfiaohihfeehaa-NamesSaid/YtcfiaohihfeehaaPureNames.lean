/- Names' pure statement: each constant has its value. Conditions: none. -/
import Derived.Test.YtcfiaohihfeehaaPAx1
namespace Go.Proofs.Ytcfiaohihfeehaa.Pure
open Go.Proofs.Ytcfiaohihfeehaa.PA
theorem Names : hushtop_Names.Pure := rfl
end Go.Proofs.Ytcfiaohihfeehaa.Pure

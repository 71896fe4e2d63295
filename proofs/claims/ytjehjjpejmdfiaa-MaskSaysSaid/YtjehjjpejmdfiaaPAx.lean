/- Functions of the translated program as Lean functions, and what their calls come to: written by this session's own program (wip/xprint.py) over the kit's print. Conditions stand in each theorem. -/
import Derived.Test.YtjehjjpejmdfiaaPAx0
import Derived.Test.YtjehjjpejmdfiaaPAx1
import Derived.Test.YtjehjjpejmdfiaaPAx2
import Derived.Test.YtjehjjpejmdfiaaPAx3
import Derived.Test.YtjehjjpejmdfiaaPAx4
import Derived.Test.YtjehjjpejmdfiaaPAx5
import Derived.Test.YtjehjjpejmdfiaaPAx6
import Derived.Test.YtjehjjpejmdfiaaPAx7
import Derived.Test.YtjehjjpejmdfiaaPAx8
namespace Go.Proofs.Ytjehjjpejmdfiaa.PA
open Go.RowKit Go.Proofs.YtjehjjpejmdfiaaW.PrintWords Go.Proofs.YtjehjjpejmdfiaaW.PrintLast Go.Proofs.YtjehjjpejmdfiaaW.PrintMore
attribute [local go_sem] max2_int min2_int max_two min_two max_three min_three max_four min_four   -- for this text's walks alone
set_option linter.unusedVariables false
set_option linter.unusedSimpArgs false

end Go.Proofs.Ytjehjjpejmdfiaa.PA

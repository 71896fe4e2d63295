/- The functions of the printed module 1 behind all rounds, and their equations. Conditions: none. -/
import Derived.Test.YtnlkacmkakgaoaaPBx1
import Derived.Test.YtnlkacmkakgaoaaLim
import Derived.Test.YtnlkacmkakgaoaaFBx0
namespace Go.Proofs.Ytnlkacmkakgaoaa.PB
open Go.RowKit Go.Proofs.YtnlkacmkakgaoaaW.PrintWords Go.Proofs.YtnlkacmkakgaoaaW.PrintLast Go.Proofs.YtnlkacmkakgaoaaW.PrintMore
open Go.Proofs.YtnlkacmkakgaoaaW.EvKit
set_option linter.unusedVariables false

end Go.Proofs.Ytnlkacmkakgaoaa.PB

/- The functions of the printed module 0 behind all rounds, and their equations. Conditions: none. -/
import Derived.Test.YtnlkacmkakgaoaaPBx0
import Derived.Test.YtnlkacmkakgaoaaLim
namespace Go.Proofs.Ytnlkacmkakgaoaa.PB
open Go.RowKit Go.Proofs.YtnlkacmkakgaoaaW.PrintWords Go.Proofs.YtnlkacmkakgaoaaW.PrintLast Go.Proofs.YtnlkacmkakgaoaaW.PrintMore
open Go.Proofs.YtnlkacmkakgaoaaW.EvKit
set_option linter.unusedVariables false

end Go.Proofs.Ytnlkacmkakgaoaa.PB

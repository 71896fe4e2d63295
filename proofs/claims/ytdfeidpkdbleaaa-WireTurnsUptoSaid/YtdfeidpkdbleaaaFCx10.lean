/- The functions of the printed module 10 behind all rounds, and their equations. Conditions: none. -/
import Derived.Test.YtdfeidpkdbleaaaPCx10
import Derived.Test.YtdfeidpkdbleaaaLim
import Derived.Test.YtdfeidpkdbleaaaFCx0
import Derived.Test.YtdfeidpkdbleaaaFCx9
namespace Go.Proofs.Ytdfeidpkdbleaaa.PC
open Go.RowKit Go.Proofs.YtdfeidpkdbleaaaW.PrintWords Go.Proofs.YtdfeidpkdbleaaaW.PrintLast Go.Proofs.YtdfeidpkdbleaaaW.PrintMore
open Go.Proofs.YtdfeidpkdbleaaaW.EvKit
set_option linter.unusedVariables false

end Go.Proofs.Ytdfeidpkdbleaaa.PC

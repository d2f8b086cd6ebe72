/- A string turned to bytes: the new row as one of the call's own. No program in sight, no condition. -/
import Derived.Test.YtaiggfjkikfcbaaWMore
import Derived.Test.YtaiggfjkikfcbaaWMark
namespace Go.Proofs.Ytaiggfjkikfcbaa.Lib
open Go Go.RowKit Go.Proofs.YtaiggfjkikfcbaaW.PrintWords Go.Proofs.YtaiggfjkikfcbaaW.PrintLast Go.Proofs.YtaiggfjkikfcbaaW.PrintMore
set_option linter.unusedVariables false
section
variable {P : Program} {ops : Array Oper} {rest : List Oper} {o : Oper} {a : Act} {Q : Exit → Act → World → Prop} {Kc : Act → World → Prop}
end
end Go.Proofs.Ytaiggfjkikfcbaa.Lib

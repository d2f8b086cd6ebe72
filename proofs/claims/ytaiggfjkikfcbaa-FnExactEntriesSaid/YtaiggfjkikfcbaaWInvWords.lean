/- Words of this claim's texts: lemmas on rows, rounds and memory, as the print made them for this seat; here only those that its texts use. -/
import Derived.Test.YtaiggfjkikfcbaaWInv
import Derived.Test.YtaiggfjkikfcbaaWFootNe
namespace Go.Proofs.YtaiggfjkikfcbaaW.PrintWords
open Go.RowKit
end Go.Proofs.YtaiggfjkikfcbaaW.PrintWords
namespace Go.Proofs.YtaiggfjkikfcbaaW.PrintLast
section
variable {ops : Array Oper} {a : Act} {o og : Oper} {g : Nat} {t : Tmp} {u : Bool}
end
end Go.Proofs.YtaiggfjkikfcbaaW.PrintLast

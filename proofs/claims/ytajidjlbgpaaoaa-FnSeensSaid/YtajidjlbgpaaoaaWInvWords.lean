/- Words of this claim's texts: lemmas on rows, rounds and memory, as the print made them for this seat; here only those that its texts use. -/
import Derived.Test.YtajidjlbgpaaoaaWInv
import Derived.Test.YtajidjlbgpaaoaaWFootNe
namespace Go.Proofs.YtajidjlbgpaaoaaW.PrintWords
open Go.RowKit
end Go.Proofs.YtajidjlbgpaaoaaW.PrintWords
namespace Go.Proofs.YtajidjlbgpaaoaaW.PrintLast
section
variable {ops : Array Oper} {a : Act} {o og : Oper} {g : Nat} {t : Tmp} {u : Bool}
end
end Go.Proofs.YtajidjlbgpaaoaaW.PrintLast

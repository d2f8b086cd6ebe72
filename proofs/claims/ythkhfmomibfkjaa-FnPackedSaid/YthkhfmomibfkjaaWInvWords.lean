/- Words of this claim's texts: lemmas on rows, rounds and memory, as the print made them for this seat; here only those that its texts use. -/
import Derived.Test.YthkhfmomibfkjaaWInv
import Derived.Test.YthkhfmomibfkjaaWFootNe
namespace Go.Proofs.YthkhfmomibfkjaaW.PrintWords
open Go.RowKit
end Go.Proofs.YthkhfmomibfkjaaW.PrintWords
namespace Go.Proofs.YthkhfmomibfkjaaW.PrintLast
section
variable {ops : Array Oper} {a : Act} {o og : Oper} {g : Nat} {t : Tmp} {u : Bool}
end
end Go.Proofs.YthkhfmomibfkjaaW.PrintLast

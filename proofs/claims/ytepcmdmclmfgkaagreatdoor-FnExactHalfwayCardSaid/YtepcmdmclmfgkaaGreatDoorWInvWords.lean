/- Words of this claim's texts: lemmas on rows, rounds and memory, as the print made them for this seat; here only those that its texts use. -/
import Derived.Test.YtepcmdmclmfgkaaGreatDoorWInv
import Derived.Test.YtepcmdmclmfgkaaGreatDoorWFootNe
namespace Go.Proofs.YtepcmdmclmfgkaaGreatDoorW.PrintWords
open Go.RowKit
end Go.Proofs.YtepcmdmclmfgkaaGreatDoorW.PrintWords
namespace Go.Proofs.YtepcmdmclmfgkaaGreatDoorW.PrintLast
section
variable {ops : Array Oper} {a : Act} {o og : Oper} {g : Nat} {t : Tmp} {u : Bool}
end
end Go.Proofs.YtepcmdmclmfgkaaGreatDoorW.PrintLast

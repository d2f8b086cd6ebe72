/- Words of this claim's texts: lemmas on rows, rounds and memory, as the print made them for this seat; here only those that its texts use. -/
import Derived.Test.YtaiggfjkikfcbaaWTab
namespace Go.Proofs.YtaiggfjkikfcbaaW.PrintLast
section
variable {P : Program} {ops : Array Oper} {Q : Exit → Act → World → Prop} {md : Region.Mode} {S : World → Prop} {ds : List Nat} {T : Bool × List (List Nat × List Nat)}
end
end Go.Proofs.YtaiggfjkikfcbaaW.PrintLast

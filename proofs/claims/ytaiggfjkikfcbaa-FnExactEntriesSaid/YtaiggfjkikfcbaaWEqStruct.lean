/- Words of this claim's texts: lemmas on rows, rounds and memory, as the print made them for this seat; here only those that its texts use. -/
import Derived.Test.YtaiggfjkikfcbaaWWords
import Derived.Laws.StructEq
namespace Go.Proofs.YtaiggfjkikfcbaaW.PrintWords
open Go.RowKit
section
variable {P : Program} {d : Nat} {xs ys : Array Value} {f : Field} {fs : List Field} {a b : Value} {r s : Bool} {w : World}
end
end Go.Proofs.YtaiggfjkikfcbaaW.PrintWords

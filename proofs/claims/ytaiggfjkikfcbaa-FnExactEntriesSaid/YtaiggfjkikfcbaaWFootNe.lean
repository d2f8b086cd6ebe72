/- Words of this claim's texts: lemmas on rows, rounds and memory, as the print made them for this seat; here only those that its texts use. -/
import Derived.Test.YtaiggfjkikfcbaaWN
namespace Go.Proofs.YtaiggfjkikfcbaaW.PrintWords
open Go.RowKit
namespace Kd
section
variable {α : Type} {d : Kd α} {W : World} {g n : Nat} {S ok : Nat → Prop} {A : Option Addr} {ad : Addr} {xs : List α}
end
end Kd
end Go.Proofs.YtaiggfjkikfcbaaW.PrintWords

/- Words of this claim's texts: lemmas on rows, rounds and memory, as the print made them for this seat; here only those that its texts use. -/
-- by a program of this session (wip/print/mark/marks.py) for this claim
import Derived.Test.YtaiggfjkikfcbaaWWords
import Derived.Test.YtaiggfjkikfcbaaWLast
namespace Go.Proofs.YtaiggfjkikfcbaaW.PrintWords
open Go.RowKit
namespace Kd
section
variable {α : Type} {d : Kd α} {e base g o n cap : Nat} {ok okp : Nat → Prop} {w W : World} {v : Value} {xs : List α}
end
section
variable {α : Type} {enc : α → Value} {h1 : ∀ x, (enc x).oneCell' = true} {e base g o n cap : Nat} {ok : Nat → Prop} {W : World} {xs : List α}
end
end Kd
end Go.Proofs.YtaiggfjkikfcbaaW.PrintWords

/- Where a predicate first holds in a list, as a loop finds it. No condition. -/
import Derived.WalkKit
import Derived.Below
import Derived.Test.YtaiggfjkikfcbaaWLast
namespace Go.Proofs.Ytaiggfjkikfcbaa.Lib
open Go
set_option linter.unusedVariables false

end Go.Proofs.Ytaiggfjkikfcbaa.Lib
namespace Go.Proofs.Ytaiggfjkikfcbaa.Lib
open Go Go.Proofs.YtaiggfjkikfcbaaW.PrintLast
variable {P : Program} {ops : Array Oper} {Q : Exit → Act → World → Prop}
end Go.Proofs.Ytaiggfjkikfcbaa.Lib
namespace Go.Proofs.Ytaiggfjkikfcbaa
/-- The two Bools, said short in long rows (print: SMALL=2). -/
abbrev Y : Bool := true
abbrev X : Bool := false
end Go.Proofs.Ytaiggfjkikfcbaa

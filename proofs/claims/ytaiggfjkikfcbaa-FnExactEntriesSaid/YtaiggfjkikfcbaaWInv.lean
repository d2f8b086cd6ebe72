/- Words of this claim's texts: lemmas on rows, rounds and memory, as the print made them for this seat; here only those that its texts use. -/
import Derived.Test.YtaiggfjkikfcbaaWTab
namespace Go.Proofs.YtaiggfjkikfcbaaW.PrintLast
def up (b : Nat → Bool) (i : Nat) : Nat → Bool := fun j => if j = i then true else b j
section
variable {P : Program} {ops : Array Oper} {Q : Exit → Act → World → Prop} {md : Region.Mode} {T : Bool × List (List Nat × List Nat)} {B : List Nat} {O : List Nat} {b : Nat → Bool} {i j n : Nat}
end
end Go.Proofs.YtaiggfjkikfcbaaW.PrintLast

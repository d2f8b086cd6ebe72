/- Where a predicate first holds in a list, as a loop finds it. No condition. -/
import Derived.WalkKit
import Derived.Below
import Derived.Test.YtaiggfjkikfcbaaWLast
namespace Go.Proofs.Ytaiggfjkikfcbaa.Lib
open Go
set_option linter.unusedVariables false

end Go.Proofs.Ytaiggfjkikfcbaa.Lib
namespace Go.Proofs.Ytaiggfjkikfcbaa.Lib
open Go Go.Proofs.YtaiggfjkikfcbaaW.PrintLast
variable {P : Program} {ops : Array Oper} {Q : Exit → Act → World → Prop}
/-- A call of a function value that has captured nothing, as a step of a region. -/
theorem goesv_ {oi : Oper} {N : Option Tmp} {a : Act} {w : World} {K : Act → World → Prop} {f : FuncId} {fn : Func} {c : Operand} {as_ : Array Operand} {ts : Array TypeId} (hf : P.funcs[f]? = some fn) (hname : (fn.name == "runtime.NumGoroutine") = false) (hb : fn.body.isSome = true) (args : Array Value)
    (hw : Region.wanted oi (yielded ops a.tmps) = true) (hN : oi.dst = N) (hop : oi.op = .call { callee := .value c, args := as_, argTypes := ts }) (hargs : as_.map a.eval = args)
    (h : Calls P f args w fun e w' => ∃ v, e = .returned v ∧ K (a.put N v) w') (hc : a.eval c = .func (.func f) #[] #[] := by rfl) : if Region.wanted oi (yielded ops a.tmps) = true then Oper.wp P oi a w K Q else K (a.put N undef) w := by
  refine call_ f args hw hN ?_ h
  have he := enters_ hf hname hb args w
  unfold execOp
  simp [hop, resolve, Deferred.ofValue, invoke, hc, hargs, he]
end Go.Proofs.Ytaiggfjkikfcbaa.Lib
namespace Go.Proofs.Ytaiggfjkikfcbaa
/-- The two Bools, said short in long rows (print: SMALL=2). -/
abbrev Y : Bool := true
abbrev X : Bool := false
end Go.Proofs.Ytaiggfjkikfcbaa

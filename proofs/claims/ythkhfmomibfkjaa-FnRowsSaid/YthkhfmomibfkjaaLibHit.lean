/- Where a predicate first holds in a list, as a loop finds it. No condition. -/
import Derived.WalkKit
import Derived.Below
import Derived.Test.YthkhfmomibfkjaaWLast
namespace Go.Proofs.Ythkhfmomibfkjaa.Lib
open Go
set_option linter.unusedVariables false

def hit {α : Type} (p : α → Bool) : List α → Int → Int
  | [], _ => -1
  | x :: xs, i => if p x = true then i else hit p xs (i + 1)
theorem hit_drop {α : Type} (p : α → Bool) (d : α) (l : List α) (k : Nat) (h : k < l.length) : hit p (l.drop k) k = if p (l.getD k d) = true then (k : Int) else hit p (l.drop (k + 1)) ((k : Int) + 1) := by
  rw [List.drop_eq_getElem_cons h, hit]
  simp [List.getD_eq_getElem?_getD, List.getElem?_eq_getElem h]
theorem hit_end {α : Type} (p : α → Bool) (l : List α) (k : Nat) (h : l.length ≤ k) (i : Int) : hit p (l.drop k) i = -1 := by
  rw [List.drop_eq_nil_of_le h]; rfl
theorem hit_any {α : Type} (p : α → Bool) : ∀ (l : List α) (i : Int), 0 ≤ i → decide (0 ≤ hit p l i) = l.any p
  | [], i, h => by simp [hit]
  | x :: xs, i, h => by
    rw [hit, List.any_cons]
    by_cases e : p x = true
    · rw [if_pos e, e]; simpa using h
    · rw [if_neg e, hit_any p xs (i + 1) (by omega)]
      simp [e]
theorem hit_range {α : Type} (p : α → Bool) : ∀ (l : List α) (i : Int), 0 ≤ i → -1 ≤ hit p l i ∧ hit p l i < i + l.length + 1
  | [], i, h => by simp only [hit, List.length_nil]; omega
  | x :: xs, i, h => by
    rw [hit]
    have := hit_range p xs (i + 1) (by omega)
    simp only [List.length_cons]
    split <;> omega

/-- What a walk from the last element down to place k has told: places and elements. -/
def bwd {α : Type} (xs : List α) (d : α) (k : Nat) : List (Int × α) := (List.range' k (xs.length - k)).reverse.map fun (i : Nat) => ((i : Int), xs.getD i d)
theorem bwd_all {α : Type} (xs : List α) (d : α) : bwd xs d xs.length = [] := by simp [bwd]
theorem bwd_step {α : Type} (xs : List α) (d : α) (k : Nat) (h : k < xs.length) : bwd xs d k = bwd xs d (k + 1) ++ [((k : Int), xs.getD k d)] := by
  unfold bwd
  rw [show xs.length - k = (xs.length - (k + 1)) + 1 by omega, List.range'_succ]
  simp
theorem bwd_length {α : Type} (xs : List α) (d : α) (k : Nat) : (bwd xs d k).length = xs.length - k := by simp [bwd]
theorem bwd_vals {α : Type} (xs : List α) (d : α) (k : Nat) (h : k ≤ xs.length) : (bwd xs d k).map (·.2) = (xs.drop k).reverse := by
  unfold bwd
  rw [List.map_map, List.map_reverse]
  congr 1
  apply List.ext_getElem
  · simp
  · intro i h1 h2
    simp only [List.length_map, List.length_range'] at h1
    simp [List.getElem?_eq_getElem (show k + i < xs.length by omega)]
end Go.Proofs.Ythkhfmomibfkjaa.Lib
namespace Go.Proofs.Ythkhfmomibfkjaa.Lib
open Go Go.Proofs.YthkhfmomibfkjaaW.PrintLast
variable {P : Program} {ops : Array Oper} {Q : Exit → Act → World → Prop}
/-- A call of a function value that has captured nothing, as a step of a region. -/
theorem goesv_ {oi : Oper} {N : Option Tmp} {a : Act} {w : World} {K : Act → World → Prop} {f : FuncId} {fn : Func} {c : Operand} {as_ : Array Operand} {ts : Array TypeId} (hf : P.funcs[f]? = some fn) (hname : (fn.name == "runtime.NumGoroutine") = false) (hb : fn.body.isSome = true) (args : Array Value)
    (hw : Region.wanted oi (yielded ops a.tmps) = true) (hN : oi.dst = N) (hop : oi.op = .call { callee := .value c, args := as_, argTypes := ts }) (hargs : as_.map a.eval = args)
    (h : Calls P f args w fun e w' => ∃ v, e = .returned v ∧ K (a.put N v) w') (hc : a.eval c = .func (.func f) #[] #[] := by rfl) : if Region.wanted oi (yielded ops a.tmps) = true then Oper.wp P oi a w K Q else K (a.put N undef) w := by
  refine call_ f args hw hN ?_ h
  have he := enters_ hf hname hb args w
  unfold execOp
  simp [hop, resolve, Deferred.ofValue, invoke, hc, hargs, he]
end Go.Proofs.Ythkhfmomibfkjaa.Lib
namespace Go.Proofs.Ythkhfmomibfkjaa
/-- The two Bools, said short in long rows (print: SMALL=2). -/
abbrev Y : Bool := true
abbrev X : Bool := false
end Go.Proofs.Ythkhfmomibfkjaa

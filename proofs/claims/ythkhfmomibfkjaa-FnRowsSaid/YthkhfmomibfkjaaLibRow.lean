/- How arguments that came in are read as plain lists, texts and records: of each kind of type one lemma. No condition. -/
import Derived.Test.YthkhfmomibfkjaaWMore
import Derived.Deep.Slices
import Derived.ChangeArms
namespace Go.Proofs.Ythkhfmomibfkjaa.Lib
open Go Go.RowKit Go.Proofs.YthkhfmomibfkjaaW.PrintWords Go.Proofs.YthkhfmomibfkjaaW.PrintLast Go.Proofs.YthkhfmomibfkjaaW.PrintMore
set_option linter.unusedVariables false
set_option linter.unusedSimpArgs false

/-- What is read as data of type t is of the kind d, and well formed. -/
def Opens {α : Type} (P : Program) (d : Kd α) (wf : α → Prop) (t : TypeId) : Prop :=
  ∀ (H : Type) (enc : TypeId × Value → H) (w : World) (base : Nat) (spare : Nat → Bool) (held : Bool) (fuel : Nat) (cs : List Value) (x : DataW H × List MemPlace),
    DataW.trod enc P w base spare held fuel t cs = some x → ∃ a, d.K w a cs ∧ wf a
section
variable {P : Program} {t : TypeId}
theorem opens_string (ht : P.underlying t = some .string) : Opens P Kd.string (fun s => s.size ≤ maxLen) t := by
  intro H enc w base spare held fuel cs x h
  obtain ⟨s, rfl, _, hs⟩ := DataW.trod_string ht h
  exact ⟨s, rfl, hs⟩
theorem opens_int {k : IntKind} (ht : P.underlying t = some (.int k)) : Opens P (Kd.int k) (fun n => (Lit.int k n).wf = true) t := by
  intro H enc w base spare held fuel cs x h
  obtain ⟨n, rfl, _, hn⟩ := DataW.trod_int ht h
  exact ⟨n, rfl, hn⟩
theorem opens_bool (ht : P.underlying t = some .bool) : Opens P Kd.bool (fun _ => True) t := by
  intro H enc w base spare held fuel cs x h
  obtain ⟨b, rfl, _⟩ := DataW.trod_bool ht h
  exact ⟨b, rfl, trivial⟩
theorem build_list {α : Type} {p : Nat → α → Prop} : ∀ n, (∀ i, i < n → ∃ x, p i x) → ∃ xs : List α, xs.length = n ∧ ∀ j x, xs[j]? = some x → p j x
  | 0, _ => ⟨[], rfl, fun j x h => by simp at h⟩
  | n + 1, h => by
    obtain ⟨xs, hl, hx⟩ := build_list n (fun i hi => h i (by omega))
    obtain ⟨y, hy⟩ := h n (by omega)
    refine ⟨xs ++ [y], by simp [hl], fun j x hj => ?_⟩
    by_cases hjn : j < xs.length
    · rw [List.getElem?_append_left hjn] at hj
      exact hx j x hj
    · rw [List.getElem?_append_right (by omega)] at hj
      have : j - xs.length = 0 := by
        by_cases h0 : j - xs.length = 0
        · exact h0
        · rw [List.getElem?_eq_none (by simp; omega)] at hj; cases hj
      have hjj : j = n := by omega
      rw [this] at hj
      simp at hj
      rw [hjj, ← hj]
      exact hy
theorem opens_slice {α : Type} {d : Kd α} {wf : α → Prop} {e : TypeId} (ht : P.underlying t = some (.slice e)) (hc : P.cellsOf e = d.sz) (ho : Opens P d wf e) : Opens P (Kd.slice e d) (fun xs => xs.length ≤ maxLen ∧ ∀ x ∈ xs, wf x) t := by
  intro H enc w base spare held fuel cs x h
  rcases Go.Deep.open_slice ht h with ⟨rfl, _⟩ | ⟨a, len, cap, m, n, D, Pl, rfl, hb, hl, hm, hmm, _, hx⟩
  · exact ⟨[], ⟨none, 0, rfl, by simp, rfl, by simp, fun h => by simp at h⟩, by simp, fun x hx => by simp at hx⟩
  · have hle : len ≤ m := by rw [hmm]; split <;> omega
    obtain ⟨xs, hxl, hxs⟩ := build_list (p := fun i y => ∃ cs', w.cells? base (a.add (i * P.cellsOf e)) (P.cellsOf e) = some cs' ∧ d.K w y cs' ∧ wf y) len (fun i hi => by
      obtain ⟨cs', h1, h2⟩ := hx i (by omega)
      obtain ⟨y, hy, hw⟩ := ho H enc w base spare held n cs' _ h2
      exact ⟨y, cs', h1, hy, hw⟩)
    have hml : maxLen = 9223372036854775807 := rfl
    refine ⟨xs, ⟨some a, cap, by rw [hxl], by omega, rfl, by omega, fun _ => ⟨a, rfl, fun j y hj => ?_⟩⟩, by omega, fun y hy => ?_⟩
    · obtain ⟨cs', h1, h2, _⟩ := hxs j y hj
      obtain ⟨_, hlen, hcell⟩ := World.cells?_some h1
      refine ⟨cs', by rw [hlen, hc], h2, fun i u hi => ?_⟩
      have hi' : i < cs'.length := (List.getElem?_eq_some_iff.1 hi).1
      rw [← hc, ← Go.Deep.add_add, hcell i (by omega)]
      exact hi
    · obtain ⟨j, hj⟩ := List.getElem?_of_mem hy
      obtain ⟨_, _, _, h3⟩ := hxs j y hj
      exact h3
/-- The fields of a struct from one on, their cells from 'off' on. -/
def OpensF {α : Type} (P : Program) (d : Kd α) (wf : α → Prop) (fs : List Field) (off : Nat) : Prop :=
  ∀ (H : Type) (enc : TypeId × Value → H) (w : World) (base : Nat) (spare : Nat → Bool) (held : Bool) (fuel : Nat) (cs : List Value) (xs : List (DataW H × List MemPlace)),
    cs.length = off + d.sz → xs.length = fs.length → (∀ (i : Nat) (f : Field), fs[i]? = some f → DataW.trod enc P w base spare held fuel f.type ((cs.drop f.offset).take (P.cellsOf f.type)) = xs[i]?) →
    ∃ a, d.K w a (cs.drop off) ∧ wf a
theorem opensF_one {α : Type} {d : Kd α} {wf : α → Prop} {f : Field} {off : Nat} (hoff : f.offset = off) (hc : P.cellsOf f.type = d.sz) (h : Opens P d wf f.type) : OpensF P d wf [f] off := by
  intro H enc w base spare held fuel cs xs hl hxl hx
  obtain ⟨x, rfl⟩ : ∃ x, xs = [x] := by
    match xs, hxl with
    | [x], _ => exact ⟨x, rfl⟩
  have h1 := hx 0 f rfl
  rw [hoff, hc, List.take_of_length_le (by simp; omega)] at h1
  exact h H enc w base spare held fuel _ _ h1
theorem opensF_cons {α β : Type} {d : Kd α} {d' : Kd β} {wf : α → Prop} {wf' : β → Prop} {f : Field} {fs : List Field} {off : Nat} (hoff : f.offset = off) (hc : P.cellsOf f.type = d.sz) (h : Opens P d wf f.type) (h' : OpensF P d' wf' fs (off + d.sz)) :
    OpensF P (Kd.pair d d') (fun x => wf x.1 ∧ wf' x.2) (f :: fs) off := by
  intro H enc w base spare held fuel cs xs hl hxl hx
  obtain ⟨x, xs, rfl⟩ : ∃ x ys, xs = x :: ys := by
    match xs, hxl with
    | x :: ys, _ => exact ⟨x, ys, rfl⟩
  have h1 := hx 0 f rfl
  rw [hoff, hc] at h1
  have hsz : (Kd.pair d d').sz = d.sz + d'.sz := rfl
  obtain ⟨a, ha, hwa⟩ := h H enc w base spare held fuel _ _ h1
  obtain ⟨b, hb, hwb⟩ := h' H enc w base spare held fuel cs xs (by omega) (by simpa using hxl) (fun i g hg => by simpa using hx (i + 1) g (by simpa using hg))
  refine ⟨(a, b), ⟨(cs.drop off).take d.sz, cs.drop (off + d.sz), ?_, ha, hb⟩, hwa, hwb⟩
  rw [← List.drop_drop, List.take_append_drop]
theorem opens_struct {α β : Type} {d : Kd α} {wf : α → Prop} {fs : Array Field} (g : β → α) (mk : α → β) (hg : ∀ a, g (mk a) = a) (ht : P.underlying t = some (.struct fs)) (hc : P.cellsOf t = d.sz) (h : OpensF P d wf fs.toList 0) :
    Opens P (Kd.iso d g) (fun x => wf (g x)) t := by
  intro H enc w base spare held fuel cs x hx
  obtain ⟨xs, n, _, _, hl, hxl, hf⟩ := DataW.trod_struct ht hx
  obtain ⟨a, ha, hw⟩ := h H enc w base spare held n cs xs (by omega) (by simpa using hxl) (fun i f hi => hf i f (by simpa using hi))
  refine ⟨mk a, ?_, by show wf (g (mk a)); rw [hg]; exact hw⟩
  show d.K w (g (mk a)) cs
  rw [hg]
  exact ha
end
/-- A slice that came in, as an argument. -/
theorem open_arg {α : Type} {d : Kd α} {wf : α → Prop} {P : Program} {t e : TypeId} {H : Type} {enc : TypeId × Value → H} {w : World} {base : Nat} {spare : Nat → Bool} {held : Bool} {a : Option Addr} {len cap : Nat} {dd : DataW H} {ps : List MemPlace}
    (ho : Opens P (Kd.slice e d) (fun xs => xs.length ≤ maxLen ∧ ∀ x ∈ xs, wf x) t) (h : DataW.Trod enc P w base spare held t (.slice a len cap) dd ps) :
    ∃ xs : List α, len = xs.length ∧ Kd.C d w a xs.length xs ∧ xs.length ≤ cap ∧ xs.length ≤ maxLen ∧ ∀ x ∈ xs, wf x := by
  obtain ⟨fuel, hf⟩ := h
  obtain ⟨xs, ⟨A, c, he, hl, hC⟩, hm, hw⟩ := ho H enc w base spare held fuel _ _ hf
  simp [Value.cells] at he
  obtain ⟨rfl, rfl, rfl⟩ := he
  exact ⟨xs, rfl, hC, hl, hm, hw⟩
/-- A struct by value, as an argument: its cells. -/
theorem open_args {α : Type} {d : Kd α} {wf : α → Prop} {P : Program} {t : TypeId} {H : Type} {enc : TypeId × Value → H} {w : World} {base : Nat} {spare : Nat → Bool} {held : Bool} {cs : Array Value} {dd : DataW H} {ps : List MemPlace}
    (ho : Opens P d wf t) (h : DataW.Trod enc P w base spare held t (.agg cs) dd ps) :
    ∃ x : α, d.K w x cs.toList ∧ wf x := by
  obtain ⟨fuel, hf⟩ := h
  obtain ⟨x, h1, h2⟩ := ho H enc w base spare held fuel _ _ hf
  exact ⟨x, by simpa [Value.cells] using h1, h2⟩
end Go.Proofs.Ythkhfmomibfkjaa.Lib

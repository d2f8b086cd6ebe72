/- Plain lemmas on whole numbers, lists and rounds that the proofs of this seat share. No program in sight. -/
import Derived.Test.YtaiggfjkikfcbaaWMore
import Derived.Laws.BitsLemmas
namespace Go.Proofs.Ytaiggfjkikfcbaa.Lib
open Go Go.RowKit Go.Proofs.YtaiggfjkikfcbaaW.PrintWords Go.Proofs.YtaiggfjkikfcbaaW.PrintLast Go.Proofs.YtaiggfjkikfcbaaW.PrintMore
set_option linter.unusedVariables false
set_option linter.unusedSimpArgs false

theorem w64 {x : Int} (h1 : -9223372036854775808 ≤ x) (h2 : x ≤ 9223372036854775807) : wrap64 x = x := by unfold wrap64; omega
theorem w64s {i : Nat} (h : i ≤ 1000000000000000000) : wrap64 ((i : Int) + 1) = ((i + 1 : Nat) : Int) := by unfold wrap64; omega

theorem evPos {α : Type} {c : Prop} [Decidable c] {f g : Nat → Option α} {r : α} (hc : c) (h : Ev f r) : Ev (fun k => if c then f k else g k) r := by
  obtain ⟨K, h⟩ := h
  exact ⟨K, fun k hk => (if_pos hc).trans (h k hk)⟩
theorem evNeg {α : Type} {c : Prop} [Decidable c] {f g : Nat → Option α} {r : α} (hc : ¬ c) (h : Ev g r) : Ev (fun k => if c then f k else g k) r := by
  obtain ⟨K, h⟩ := h
  exact ⟨K, fun k hk => (if_neg hc).trans (h k hk)⟩
theorem evEq {α : Type} {g : Nat → Option α} {r s : α} (h : Ev g r) (e : r = s) : Ev g s := e ▸ h
theorem evId {α : Type} {g : Nat → Option α} {r : α} (h : ∀ k, g k = some r) : Ev g r := ⟨0, fun k _ => h k⟩
theorem drop_end {α : Type} (xs : List α) (i : Nat) (h : xs.length ≤ i) : xs.drop i = [] := by
  rw [List.drop_eq_nil_iff]; exact h
theorem drop_nil {α : Type} {xs : List α} {i : Nat} (h : xs.drop i = []) : xs.length ≤ i := by simpa using h
theorem drop_cons {α : Type} {xs ys : List α} {i : Nat} {y : α} (h : xs.drop i = y :: ys) : i < xs.length ∧ xs.drop (i + 1) = ys ∧ xs[i]? = some y := by
  have hi : i < xs.length := by
    by_cases hi : i < xs.length
    · exact hi
    · rw [drop_end xs i (by omega)] at h; cases h
  rw [List.drop_eq_getElem_cons hi] at h
  injection h with h1 h2
  exact ⟨hi, h2, by rw [List.getElem?_eq_getElem hi, h1]⟩
theorem getD_at {α : Type} {xs : List α} {i : Nat} {y d : α} (h : xs[i]? = some y) : xs.getD ((i : Int)).toNat d = y := by
  simp [List.getD_eq_getElem?_getD, h]
/-- p is 128 to the i. -/
def PW (i : Nat) (p : Int) : Prop := p = 128 ^ i
theorem PW.zero : PW 0 1 := rfl
theorem PW.step {i : Nat} {p : Int} (h : PW i p) : PW (i + 1) (p * 128) := by
  unfold PW at h ⊢
  rw [h, Int.pow_succ]
theorem self_loop {α : Type} (L : Nat → List α → List α → Int → Option Bool)
    (stop : ∀ k xs (i : Nat), xs.length ≤ i → L (k + 1) xs xs (i : Int) = some true)
    (step : ∀ k xs (i : Nat) a, i < 1000000000000000000 → xs[i]? = some a → i < xs.length → L (k + 1) xs xs (i : Int) = L k xs xs ((i + 1 : Nat) : Int))
    (xs : List α) (hl : xs.length ≤ 1000000000000000000) : Ev (fun k => L k xs xs 0) true := by
  have key : ∀ (bs : List α) (i : Nat), xs.drop i = bs → Ev (fun k => L k xs xs (i : Int)) true := by
    intro bs
    induction bs with
    | nil =>
      intro i h
      exact Ev.step (f := fun _ => some true) (fun k => stop _ _ _ (drop_nil h)) (Ev.now _)
    | cons b bs ih =>
      intro i h
      obtain ⟨h1, h2, h3⟩ := drop_cons h
      exact Ev.step (f := fun k => L k xs xs ((i + 1 : Nat) : Int)) (fun k => step _ _ _ b (by omega) h3 h1) (ih _ h2)
  exact key xs 0 rfl
def within (a b c : Int) : Bool := decide (b ≤ a) && decide (a ≤ c)
end Go.Proofs.Ytaiggfjkikfcbaa.Lib

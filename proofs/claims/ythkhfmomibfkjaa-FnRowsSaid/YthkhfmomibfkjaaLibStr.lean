/- The order of texts, and how the walk reads 'x > y' and 'x <= y' of two texts. No condition. -/
import Derived.Laws.Strings
import Derived.WalkKit
namespace Go.Proofs.Ythkhfmomibfkjaa.Lib
open Go

theorem less_irrefl : ∀ (x : List UInt8), Op.bytesLess x x = false
  | [] => rfl
  | a :: x => by
    have h : ¬ a < a := by rw [UInt8.lt_iff_toNat_lt]; omega
    simp [Op.bytesLess, h, less_irrefl x]
theorem less_asymm : ∀ (x y : List UInt8), Op.bytesLess x y = true → Op.bytesLess y x = false
  | _, [], h => by cases ‹List UInt8› <;> simp [Op.bytesLess] at h
  | [], b :: y, h => rfl
  | a :: x, b :: y, h => by
    simp only [Op.bytesLess, Bool.or_eq_true, decide_eq_true_eq, Bool.and_eq_true, beq_iff_eq] at h
    simp only [Op.bytesLess, Bool.or_eq_false_iff, decide_eq_false_iff_not, Bool.and_eq_false_iff]
    rcases h with h | ⟨rfl, h⟩
    · rw [UInt8.lt_iff_toNat_lt] at h ⊢
      refine ⟨by omega, Or.inl ?_⟩
      rw [beq_eq_false_iff_ne]
      rintro rfl
      omega
    · exact ⟨by rw [UInt8.lt_iff_toNat_lt]; omega, Or.inr (less_asymm x y h)⟩
theorem less_tri : ∀ (x y : List UInt8), Op.bytesLess x y = false → Op.bytesLess y x = false → x = y
  | [], [], _, _ => rfl
  | [], b :: y, h, _ => by simp [Op.bytesLess] at h
  | a :: x, [], _, h => by simp [Op.bytesLess] at h
  | a :: x, b :: y, h, h' => by
    simp only [Op.bytesLess, Bool.or_eq_false_iff, decide_eq_false_iff_not, Bool.and_eq_false_iff] at h h'
    obtain ⟨h1, h2⟩ := h
    obtain ⟨h3, h4⟩ := h'
    have e : a = b := by
      rw [UInt8.lt_iff_toNat_lt] at h1 h3
      exact UInt8.toNat_inj.1 (by omega)
    subst e
    have h2' : Op.bytesLess x y = false := by simpa using h2
    have h4' : Op.bytesLess y x = false := by simpa using h4
    rw [less_tri x y h2' h4']
theorem less_trans : ∀ (x y z : List UInt8), Op.bytesLess x y = true → Op.bytesLess y z = true → Op.bytesLess x z = true
  | _, [], _, h, _ => by cases ‹List UInt8› <;> simp [Op.bytesLess] at h
  | _, _ :: _, [], _, h => by simp [Op.bytesLess] at h
  | [], _ :: _, _ :: _, _, _ => rfl
  | a :: x, b :: y, c :: z, h, h' => by
    simp only [Op.bytesLess, Bool.or_eq_true, decide_eq_true_eq, Bool.and_eq_true, beq_iff_eq, UInt8.lt_iff_toNat_lt] at h h' ⊢
    rcases h with h | ⟨rfl, h⟩ <;> rcases h' with h' | ⟨rfl, h'⟩
    · left; omega
    · left; exact h
    · left; exact h'
    · right; exact ⟨rfl, less_trans x y z h h'⟩
theorem less_gtr (x y : List UInt8) : (!(Op.bytesLess x y || x == y)) = Op.bytesLess y x := by
  cases h : Op.bytesLess x y with
  | true => rw [less_asymm x y h]; rfl
  | false =>
    by_cases e : x = y
    · subst e; rw [h]; simp
    · have e' : (x == y) = false := by simpa using e
      rw [e']
      cases h' : Op.bytesLess y x with
      | true => rfl
      | false => exact absurd (less_tri x y h h') e
@[go_sem] theorem binOp_string_gtr_ (t : TypeId) (a b : ByteArray) : binOp .gtr t (.string a) (.string b) = pure (.bool (Op.bytesLess b.toList a.toList)) := by
  rw [← less_gtr]
  simp [binOp, Op.stringOp]
@[go_sem] theorem binOp_string_leq_ (t : TypeId) (a b : ByteArray) : binOp .leq t (.string a) (.string b) = pure (.bool (!(Op.bytesLess b.toList a.toList))) := by
  rw [← less_gtr]
  simp [binOp, Op.stringOp]
end Go.Proofs.Ythkhfmomibfkjaa.Lib

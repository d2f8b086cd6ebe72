/- Plain lemmas on whole numbers, lists and rounds that the proofs of this seat share. No program in sight. -/
import Derived.Test.YtmckieiahgegoaaWMore
import Derived.Laws.BitsLemmas
namespace Go.Proofs.Ytmckieiahgegoaa.Lib
open Go Go.RowKit Go.Proofs.YtmckieiahgegoaaW.PrintWords Go.Proofs.YtmckieiahgegoaaW.PrintLast Go.Proofs.YtmckieiahgegoaaW.PrintMore
set_option linter.unusedVariables false
set_option linter.unusedSimpArgs false

theorem w64 {x : Int} (h1 : -9223372036854775808 ≤ x) (h2 : x ≤ 9223372036854775807) : wrap64 x = x := by unfold wrap64; omega
theorem w64s {i : Nat} (h : i ≤ 1000000000000000000) : wrap64 ((i : Int) + 1) = ((i + 1 : Nat) : Int) := by unfold wrap64; omega

theorem evPos {α : Type} {c : Prop} [Decidable c] {f g : Nat → Option α} {r : α} (hc : c) (h : Ev f r) : Ev (fun k => if c then f k else g k) r := by
  obtain ⟨K, h⟩ := h
  exact ⟨K, fun k hk => (if_pos hc).trans (h k hk)⟩
theorem evNeg {α : Type} {c : Prop} [Decidable c] {f g : Nat → Option α} {r : α} (hc : ¬ c) (h : Ev g r) : Ev (fun k => if c then f k else g k) r := by
  obtain ⟨K, h⟩ := h
  exact ⟨K, fun k hk => (if_neg hc).trans (h k hk)⟩
theorem evIte {α : Type} {c : Prop} [Decidable c] {f g : Nat → Option α} {r s : α} (h1 : c → Ev f r) (h2 : ¬ c → Ev g s) : Ev (fun k => if c then f k else g k) (if c then r else s) := by
  by_cases hc : c
  · rw [if_pos hc]; exact evPos hc (h1 hc)
  · rw [if_neg hc]; exact evNeg hc (h2 hc)
theorem evLe {α : Type} {g f : Nat → Option α} {r : α} (h : ∀ k, LeO (f k) (g (k + 1))) (k : Ev f r) : Ev g r := by
  obtain ⟨K, k⟩ := k
  refine ⟨K + 1, fun n hn => ?_⟩
  obtain ⟨m, rfl⟩ : ∃ m, n = m + 1 := ⟨n - 1, by omega⟩
  exact h m r (k m (by omega))
theorem evEq {α : Type} {g : Nat → Option α} {r s : α} (h : Ev g r) (e : r = s) : Ev g s := e ▸ h
theorem evId {α : Type} {g : Nat → Option α} {r : α} (h : ∀ k, g k = some r) : Ev g r := ⟨0, fun k _ => h k⟩
theorem evUniq {α : Type} {g : Nat → Option α} {r s : α} (h : Ev g r) (h' : Ev g s) : r = s := by
  obtain ⟨K, h⟩ := h
  obtain ⟨K', h'⟩ := h'
  have h1 := h (max K K') (by omega)
  have h2 := h' (max K K') (by omega)
  rw [h1] at h2
  exact Option.some.inj h2

/-! bytes -/
def Byte (x : Int) : Prop := 0 ≤ x ∧ x < 256
theorem bt_byte (s : ByteArray) (i : Int) : 0 ≤ bt s i ∧ bt s i < 256 := by
  unfold bt
  split
  · have := UInt8.toNat_lt (s[i.toNat]'(by assumption)); omega
  · omega
theorem byte_wf {x : Int} (h : (Lit.int .u8 x).wf = true) : 0 ≤ x ∧ x < 256 := by
  simp only [Lit.wf, IntKind.min, IntKind.max, IntKind.signed, IntKind.bits, Bool.and_eq_true, decide_eq_true_eq] at h
  simp at h
  omega
theorem i64_wf {x : Int} (h : (Lit.int .i64 x).wf = true) : -9223372036854775808 ≤ x ∧ x ≤ 9223372036854775807 := by
  simp only [Lit.wf, IntKind.min, IntKind.max, IntKind.signed, IntKind.bits, Bool.and_eq_true, decide_eq_true_eq] at h
  simp at h
  omega
theorem bytesOf_length (s : ByteArray) : (bytesOf s).length = s.size := by simp [bytesOf]
theorem bytesOf_byte (s : ByteArray) : ∀ x ∈ bytesOf s, 0 ≤ x ∧ x < 256 := by
  intro x hx
  simp only [bytesOf, List.mem_map] at hx
  obtain ⟨b, _, rfl⟩ := hx
  have := UInt8.toNat_lt b
  omega
theorem bytesOf_get (s : ByteArray) (i : Nat) (h : i < s.size) : (bytesOf s)[i]'(by rw [bytesOf_length]; exact h) = bt s i := by
  unfold bt
  rw [dif_pos (by simpa using h)]
  simp [bytesOf]
  rfl
theorem bytesOf_drop (s : ByteArray) (i : Nat) (h : i < s.size) : (bytesOf s).drop i = bt s i :: (bytesOf s).drop (i + 1) := by
  rw [List.drop_eq_getElem_cons (by rw [bytesOf_length]; exact h), bytesOf_get s i h]
theorem bytesOf_drop_nil (s : ByteArray) (i : Nat) (h : s.size ≤ i) : (bytesOf s).drop i = [] := by
  rw [List.drop_eq_nil_iff, bytesOf_length]; exact h
theorem rd_nat (xs : List Int) (i : Nat) (h : i < xs.length) : rd xs i = xs[i] := by
  simp [rd, List.getD_eq_getElem?_getD, h]
theorem drop_rd (xs : List Int) (i : Nat) (h : i < xs.length) : xs.drop i = rd xs i :: xs.drop (i + 1) := by
  rw [List.drop_eq_getElem_cons h, rd_nat xs i h]
theorem drop_end {α : Type} (xs : List α) (i : Nat) (h : xs.length ≤ i) : xs.drop i = [] := by
  rw [List.drop_eq_nil_iff]; exact h
theorem rd_mem (xs : List Int) (i : Nat) (h : i < xs.length) : rd xs i ∈ xs := by
  rw [rd_nat xs i h]; exact List.getElem_mem h
theorem str_eq {a b : ByteArray} : a.toList = b.toList ↔ a = b := by
  constructor
  · intro h
    rw [ByteArray.toList_eq, ByteArray.toList_eq] at h
    cases a; cases b; simp_all [Array.toList_inj]
  · intro h; rw [h]

theorem drop_nil {α : Type} {xs : List α} {i : Nat} (h : xs.drop i = []) : xs.length ≤ i := by simpa using h
theorem drop_cons {α : Type} {xs ys : List α} {i : Nat} {y : α} (h : xs.drop i = y :: ys) : i < xs.length ∧ xs.drop (i + 1) = ys ∧ xs[i]? = some y := by
  have hi : i < xs.length := by
    by_cases hi : i < xs.length
    · exact hi
    · rw [drop_end xs i (by omega)] at h; cases h
  rw [List.drop_eq_getElem_cons hi] at h
  injection h with h1 h2
  exact ⟨hi, h2, by rw [List.getElem?_eq_getElem hi, h1]⟩
theorem getD_at {α : Type} {xs : List α} {i : Nat} {y d : α} (h : xs[i]? = some y) : xs.getD ((i : Int)).toNat d = y := by
  simp [List.getD_eq_getElem?_getD, h]
theorem rd_at {xs : List Int} {i : Nat} {y : Int} (h : xs[i]? = some y) : rd xs i = y := getD_at h
theorem bt_rd (s : ByteArray) (i : Nat) (h : i < s.size) : bt s i = rd (bytesOf s) i := by
  rw [rd_nat _ _ (by rw [bytesOf_length]; exact h), bytesOf_get s i h]
theorem bt_at {s : ByteArray} {i : Nat} {y : Int} (h : (bytesOf s)[i]? = some y) : bt s i = y := by
  have hi : i < s.size := by
    have := (List.getElem?_eq_some_iff.1 h).1
    rwa [bytesOf_length] at this
  rw [bt_rd s i hi]; exact rd_at h
theorem bdrop_nil {s : ByteArray} {i : Nat} (h : (bytesOf s).drop i = []) : s.size ≤ i := by
  have := drop_nil h; rwa [bytesOf_length] at this
theorem bdrop_cons {s : ByteArray} {ys : List Int} {i : Nat} {y : Int} (h : (bytesOf s).drop i = y :: ys) : i < s.size ∧ (bytesOf s).drop (i + 1) = ys ∧ bt s i = y ∧ 0 ≤ y ∧ y < 256 := by
  obtain ⟨h1, h2, h3⟩ := drop_cons h
  rw [bytesOf_length] at h1
  exact ⟨h1, h2, bt_at h3, bytesOf_byte s y (List.mem_of_getElem? h3)⟩

/-! the digest -/
def dstep (h b : Int) : Int := (h * 1000003 + b + 1) % 2147483647
def dig (h : Int) : List Int → Int
  | [] => h
  | b :: bs => dig (dstep h b) bs
def digest (s : ByteArray) : Int := dig 1 (bytesOf s)
theorem dstep_bd (h b : Int) : 0 ≤ dstep h b ∧ dstep h b < 2147483647 := by unfold dstep; omega
theorem dig_bd : ∀ (bs : List Int) (h : Int), 0 ≤ h → h < 2147483647 → 0 ≤ dig h bs ∧ dig h bs < 2147483647
  | [], h, h0, h1 => ⟨h0, h1⟩
  | b :: bs, h, h0, h1 => dig_bd bs _ (dstep_bd h b).1 (dstep_bd h b).2
theorem digest_bd (s : ByteArray) : 0 ≤ digest s ∧ digest s < 2147483647 := dig_bd _ _ (by decide) (by decide)
theorem dstep_eq {h b : Int} (h0 : 0 ≤ h) (h1 : h < 2147483647) (b0 : 0 ≤ b) (b1 : b < 256) :
    Int.tmod (wrap64 ((wrap64 ((wrap64 (h * 1000003)) + (wrap64 b))) + 1)) 2147483647 = dstep h b := by
  rw [w64 (x := h * 1000003) (by omega) (by omega), w64 (x := b) (by omega) (by omega), w64 (x := h * 1000003 + b) (by omega) (by omega), w64 (by omega) (by omega), Int.tmod_eq_emod_of_nonneg (by omega)]
  rfl
/-! what is alike at the begin -/
def common : List Int → List Int → Nat
  | a :: as, b :: bs => if a = b then common as bs + 1 else 0
  | _, _ => 0
/-! numbers in a row: seven bits to a byte -/
/-- p is 128 to the i. -/
def PW (i : Nat) (p : Int) : Prop := p = 128 ^ i
def rnum (i : Nat) (p n : Int) : List Int → Int × Int
  | [] => (0, 0)
  | b :: bs => if i < 6 then
      (if b < 128 then (if n + b % 128 * p > 1099511627776 ∨ (0 < i ∧ b = 0) then (0, 0) else (n + b % 128 * p, (i : Int) + 1))
       else rnum (i + 1) (p * 128) (n + b % 128 * p) bs)
    else (0, 0)
def readNumber (xs : List Int) : Int × Int := rnum 0 1 0 xs
theorem PW.zero : PW 0 1 := rfl
theorem PW.step {i : Nat} {p : Int} (h : PW i p) : PW (i + 1) (p * 128) := by
  unfold PW at h ⊢
  rw [h, Int.pow_succ]
theorem PW.pos {i : Nat} {p : Int} (h : PW i p) : 1 ≤ p := by
  unfold PW at h
  subst h
  induction i with
  | zero => simp
  | succ i ih => rw [Int.pow_succ]; omega
theorem PW.le {i : Nat} {p : Int} (h : PW i p) (hi : i ≤ 5) : p ≤ 34359738368 := by
  unfold PW at h
  subst h
  have : i = 0 ∨ i = 1 ∨ i = 2 ∨ i = 3 ∨ i = 4 ∨ i = 5 := by omega
  rcases this with rfl | rfl | rfl | rfl | rfl | rfl <;> decide
theorem digit_mul (b : Int) (p : Int) (hp : 1 ≤ p) : 0 ≤ b % 128 * p ∧ b % 128 * p ≤ 127 * p := by
  have h1 : 0 ≤ b % 128 := by omega
  have h2 : b % 128 ≤ 127 := by omega
  exact ⟨Int.mul_nonneg h1 (by omega), Int.mul_le_mul_of_nonneg_right h2 (by omega)⟩
theorem wraps_i64 (n : Int) (h₀ : 0 ≤ n) (h₁ : n < 2 ^ 62) : IntKind.i64.wrap n = n := by rw [IntKind.wrap_i64]; omega
theorem bits_or_comm (k : IntKind) (x y : Int) : bits .or k x y = bits .or k y x := by
  simp only [bits, BitVec.or_comm]
theorem u8_and127 {x : Int} (h₀ : 0 ≤ x) (h₁ : x < 256) : bits .and .u8 x 127 = x % 128 := bits_mask .u8 8 (by decide) wraps_u8 7 (by decide) x h₀ h₁
/-- One step of the reader that joins by bits. -/
theorem join_eq {n b p : Int} {i : Nat} (hP : PW i p) (hi : i ≤ 5) (hn0 : 0 ≤ n) (hn : n < p) (b0 : 0 ≤ b) (b1 : b < 256) :
    bits .or .i64 n (shl .i64 (wrap64 (bits .and .u8 b 127)) (wrap64 (7 * (i : Int)))) = n + b % 128 * p := by
  have hp := hP.pos
  have hq := hP.le hi
  have hm := digit_mul b p hp
  have hpw : (2 : Int) ^ (7 * i) = p := by rw [hP, Int.pow_mul]; rfl
  have e1 : shl .i64 (wrap64 (bits .and .u8 b 127)) (wrap64 (7 * (i : Int))) = b % 128 * p := by
    rw [u8_and127 b0 b1, w64 (x := b % 128) (by omega) (by omega), w64 (x := 7 * (i : Int)) (by omega) (by omega)]
    unfold shl
    rw [show (7 * (i : Int)).toNat = 7 * i by omega, Nat.min_eq_left (by show 7 * i ≤ 64; omega), hpw]
    rw [IntKind.wrap_i64]
    generalize b % 128 * p = q at hm ⊢
    omega
  rw [e1, bits_or_comm]
  generalize hgq : b % 128 * p = q at hm ⊢
  rw [bits_join .i64 62 (by decide) wraps_i64 (7 * i) q n hm.1 (by rw [hpw, ← hgq]; exact Int.mul_emod_left _ _) (by omega) hn0 (by rw [hpw]; exact hn) (by omega)]
  omega
theorem set_mid {α : Type} (pre : List α) (n : Nat) (z b : α) : (pre ++ List.replicate (n + 1) z).set pre.length b = (pre ++ [b]) ++ List.replicate n z := by
  rw [List.replicate_succ, List.set_append_right _ _ (Nat.le_refl _), Nat.sub_self, List.set_cons_zero, List.append_assoc]
  rfl
end Go.Proofs.Ytmckieiahgegoaa.Lib

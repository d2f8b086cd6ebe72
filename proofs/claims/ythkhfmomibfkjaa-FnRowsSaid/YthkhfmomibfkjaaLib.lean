/- Plain lemmas on whole numbers, lists and rounds that the proofs of this seat share. No program in sight. -/
import Derived.Test.YthkhfmomibfkjaaWMore
import Derived.Laws.BitsLemmas
namespace Go.Proofs.Ythkhfmomibfkjaa.Lib
open Go Go.RowKit Go.Proofs.YthkhfmomibfkjaaW.PrintWords Go.Proofs.YthkhfmomibfkjaaW.PrintLast Go.Proofs.YthkhfmomibfkjaaW.PrintMore
set_option linter.unusedVariables false
set_option linter.unusedSimpArgs false

theorem w64 {x : Int} (h1 : -9223372036854775808 ≤ x) (h2 : x ≤ 9223372036854775807) : wrap64 x = x := by unfold wrap64; omega
theorem w64s {i : Nat} (h : i ≤ 1000000000000000000) : wrap64 ((i : Int) + 1) = ((i + 1 : Nat) : Int) := by unfold wrap64; omega

theorem evPos {α : Type} {c : Prop} [Decidable c] {f g : Nat → Option α} {r : α} (hc : c) (h : Ev f r) : Ev (fun k => if c then f k else g k) r := by
  obtain ⟨K, h⟩ := h
  exact ⟨K, fun k hk => (if_pos hc).trans (h k hk)⟩
theorem evNeg {α : Type} {c : Prop} [Decidable c] {f g : Nat → Option α} {r : α} (hc : ¬ c) (h : Ev g r) : Ev (fun k => if c then f k else g k) r := by
  obtain ⟨K, h⟩ := h
  exact ⟨K, fun k hk => (if_neg hc).trans (h k hk)⟩
theorem evIte {α : Type} {c : Prop} [Decidable c] {f g : Nat → Option α} {r s : α} (h1 : c → Ev f r) (h2 : ¬ c → Ev g s) : Ev (fun k => if c then f k else g k) (if c then r else s) := by
  by_cases hc : c
  · rw [if_pos hc]; exact evPos hc (h1 hc)
  · rw [if_neg hc]; exact evNeg hc (h2 hc)
theorem evLe {α : Type} {g f : Nat → Option α} {r : α} (h : ∀ k, LeO (f k) (g (k + 1))) (k : Ev f r) : Ev g r := by
  obtain ⟨K, k⟩ := k
  refine ⟨K + 1, fun n hn => ?_⟩
  obtain ⟨m, rfl⟩ : ∃ m, n = m + 1 := ⟨n - 1, by omega⟩
  exact h m r (k m (by omega))
theorem evEq {α : Type} {g : Nat → Option α} {r s : α} (h : Ev g r) (e : r = s) : Ev g s := e ▸ h
theorem evId {α : Type} {g : Nat → Option α} {r : α} (h : ∀ k, g k = some r) : Ev g r := ⟨0, fun k _ => h k⟩
theorem evUniq {α : Type} {g : Nat → Option α} {r s : α} (h : Ev g r) (h' : Ev g s) : r = s := by
  obtain ⟨K, h⟩ := h
  obtain ⟨K', h'⟩ := h'
  have h1 := h (max K K') (by omega)
  have h2 := h' (max K K') (by omega)
  rw [h1] at h2
  exact Option.some.inj h2

/-! bytes -/
def Byte (x : Int) : Prop := 0 ≤ x ∧ x < 256
theorem bt_byte (s : ByteArray) (i : Int) : 0 ≤ bt s i ∧ bt s i < 256 := by
  unfold bt
  split
  · have := UInt8.toNat_lt (s[i.toNat]'(by assumption)); omega
  · omega
theorem byte_wf {x : Int} (h : (Lit.int .u8 x).wf = true) : 0 ≤ x ∧ x < 256 := by
  simp only [Lit.wf, IntKind.min, IntKind.max, IntKind.signed, IntKind.bits, Bool.and_eq_true, decide_eq_true_eq] at h
  simp at h
  omega
theorem i64_wf {x : Int} (h : (Lit.int .i64 x).wf = true) : -9223372036854775808 ≤ x ∧ x ≤ 9223372036854775807 := by
  simp only [Lit.wf, IntKind.min, IntKind.max, IntKind.signed, IntKind.bits, Bool.and_eq_true, decide_eq_true_eq] at h
  simp at h
  omega
theorem bytesOf_byte (s : ByteArray) : ∀ x ∈ bytesOf s, 0 ≤ x ∧ x < 256 := by
  intro x hx
  simp only [bytesOf, List.mem_map] at hx
  obtain ⟨b, _, rfl⟩ := hx
  have := UInt8.toNat_lt b
  omega
theorem bytesOf_get (s : ByteArray) (i : Nat) (h : i < s.size) : (bytesOf s)[i]'(by rw [bytesOf_length]; exact h) = bt s i := by
  unfold bt
  rw [dif_pos (by simpa using h)]
  simp [bytesOf]
  rfl
theorem bytesOf_drop (s : ByteArray) (i : Nat) (h : i < s.size) : (bytesOf s).drop i = bt s i :: (bytesOf s).drop (i + 1) := by
  rw [List.drop_eq_getElem_cons (by rw [bytesOf_length]; exact h), bytesOf_get s i h]
theorem bytesOf_drop_nil (s : ByteArray) (i : Nat) (h : s.size ≤ i) : (bytesOf s).drop i = [] := by
  rw [List.drop_eq_nil_iff, bytesOf_length]; exact h
theorem rd_nat (xs : List Int) (i : Nat) (h : i < xs.length) : rd xs i = xs[i] := by
  simp [rd, List.getD_eq_getElem?_getD, h]
theorem drop_rd (xs : List Int) (i : Nat) (h : i < xs.length) : xs.drop i = rd xs i :: xs.drop (i + 1) := by
  rw [List.drop_eq_getElem_cons h, rd_nat xs i h]
theorem drop_end {α : Type} (xs : List α) (i : Nat) (h : xs.length ≤ i) : xs.drop i = [] := by
  rw [List.drop_eq_nil_iff]; exact h
theorem rd_mem (xs : List Int) (i : Nat) (h : i < xs.length) : rd xs i ∈ xs := by
  rw [rd_nat xs i h]; exact List.getElem_mem h
theorem str_eq {a b : ByteArray} : a.toList = b.toList ↔ a = b := by
  constructor
  · intro h
    rw [ByteArray.toList_eq, ByteArray.toList_eq] at h
    cases a; cases b; simp_all [Array.toList_inj]
  · intro h; rw [h]

theorem drop_nil {α : Type} {xs : List α} {i : Nat} (h : xs.drop i = []) : xs.length ≤ i := by simpa using h
theorem drop_cons {α : Type} {xs ys : List α} {i : Nat} {y : α} (h : xs.drop i = y :: ys) : i < xs.length ∧ xs.drop (i + 1) = ys ∧ xs[i]? = some y := by
  have hi : i < xs.length := by
    by_cases hi : i < xs.length
    · exact hi
    · rw [drop_end xs i (by omega)] at h; cases h
  rw [List.drop_eq_getElem_cons hi] at h
  injection h with h1 h2
  exact ⟨hi, h2, by rw [List.getElem?_eq_getElem hi, h1]⟩
theorem getD_at {α : Type} {xs : List α} {i : Nat} {y d : α} (h : xs[i]? = some y) : xs.getD ((i : Int)).toNat d = y := by
  simp [List.getD_eq_getElem?_getD, h]
theorem rd_at {xs : List Int} {i : Nat} {y : Int} (h : xs[i]? = some y) : rd xs i = y := getD_at h
theorem bt_rd (s : ByteArray) (i : Nat) (h : i < s.size) : bt s i = rd (bytesOf s) i := by
  rw [rd_nat _ _ (by rw [bytesOf_length]; exact h), bytesOf_get s i h]
theorem bt_at {s : ByteArray} {i : Nat} {y : Int} (h : (bytesOf s)[i]? = some y) : bt s i = y := by
  have hi : i < s.size := by
    have := (List.getElem?_eq_some_iff.1 h).1
    rwa [bytesOf_length] at this
  rw [bt_rd s i hi]; exact rd_at h
theorem bdrop_nil {s : ByteArray} {i : Nat} (h : (bytesOf s).drop i = []) : s.size ≤ i := by
  have := drop_nil h; rwa [bytesOf_length] at this
theorem bdrop_cons {s : ByteArray} {ys : List Int} {i : Nat} {y : Int} (h : (bytesOf s).drop i = y :: ys) : i < s.size ∧ (bytesOf s).drop (i + 1) = ys ∧ bt s i = y ∧ 0 ≤ y ∧ y < 256 := by
  obtain ⟨h1, h2, h3⟩ := drop_cons h
  rw [bytesOf_length] at h1
  exact ⟨h1, h2, bt_at h3, bytesOf_byte s y (List.mem_of_getElem? h3)⟩

/-! the digest -/
def dstep (h b : Int) : Int := (h * 1000003 + b + 1) % 2147483647
def dig (h : Int) : List Int → Int
  | [] => h
  | b :: bs => dig (dstep h b) bs
def digest (s : ByteArray) : Int := dig 1 (bytesOf s)
theorem dstep_bd (h b : Int) : 0 ≤ dstep h b ∧ dstep h b < 2147483647 := by unfold dstep; omega
theorem dig_bd : ∀ (bs : List Int) (h : Int), 0 ≤ h → h < 2147483647 → 0 ≤ dig h bs ∧ dig h bs < 2147483647
  | [], h, h0, h1 => ⟨h0, h1⟩
  | b :: bs, h, h0, h1 => dig_bd bs _ (dstep_bd h b).1 (dstep_bd h b).2
theorem digest_bd (s : ByteArray) : 0 ≤ digest s ∧ digest s < 2147483647 := dig_bd _ _ (by decide) (by decide)
theorem dstep_eq {h b : Int} (h0 : 0 ≤ h) (h1 : h < 2147483647) (b0 : 0 ≤ b) (b1 : b < 256) :
    Int.tmod (wrap64 ((wrap64 ((wrap64 (h * 1000003)) + (wrap64 b))) + 1)) 2147483647 = dstep h b := by
  rw [w64 (x := h * 1000003) (by omega) (by omega), w64 (x := b) (by omega) (by omega), w64 (x := h * 1000003 + b) (by omega) (by omega), w64 (by omega) (by omega), Int.tmod_eq_emod_of_nonneg (by omega)]
  rfl
/-! what is alike at the begin -/
def common : List Int → List Int → Nat
  | a :: as, b :: bs => if a = b then common as bs + 1 else 0
  | _, _ => 0
/-! numbers in a row: seven bits to a byte -/
/-- p is 128 to the i. -/
def PW (i : Nat) (p : Int) : Prop := p = 128 ^ i
def rnum (i : Nat) (p n : Int) : List Int → Int × Int
  | [] => (0, 0)
  | b :: bs => if i < 6 then
      (if b < 128 then (if n + b % 128 * p > 1099511627776 ∨ (0 < i ∧ b = 0) then (0, 0) else (n + b % 128 * p, (i : Int) + 1))
       else rnum (i + 1) (p * 128) (n + b % 128 * p) bs)
    else (0, 0)
def readNumber (xs : List Int) : Int × Int := rnum 0 1 0 xs
theorem PW.zero : PW 0 1 := rfl
theorem PW.step {i : Nat} {p : Int} (h : PW i p) : PW (i + 1) (p * 128) := by
  unfold PW at h ⊢
  rw [h, Int.pow_succ]
theorem PW.pos {i : Nat} {p : Int} (h : PW i p) : 1 ≤ p := by
  unfold PW at h
  subst h
  induction i with
  | zero => simp
  | succ i ih => rw [Int.pow_succ]; omega
theorem PW.le {i : Nat} {p : Int} (h : PW i p) (hi : i ≤ 5) : p ≤ 34359738368 := by
  unfold PW at h
  subst h
  have : i = 0 ∨ i = 1 ∨ i = 2 ∨ i = 3 ∨ i = 4 ∨ i = 5 := by omega
  rcases this with rfl | rfl | rfl | rfl | rfl | rfl <;> decide
theorem digit_mul (b : Int) (p : Int) (hp : 1 ≤ p) : 0 ≤ b % 128 * p ∧ b % 128 * p ≤ 127 * p := by
  have h1 : 0 ≤ b % 128 := by omega
  have h2 : b % 128 ≤ 127 := by omega
  exact ⟨Int.mul_nonneg h1 (by omega), Int.mul_le_mul_of_nonneg_right h2 (by omega)⟩
theorem wraps_i64 (n : Int) (h₀ : 0 ≤ n) (h₁ : n < 2 ^ 62) : IntKind.i64.wrap n = n := by rw [IntKind.wrap_i64]; omega
theorem bits_or_comm (k : IntKind) (x y : Int) : bits .or k x y = bits .or k y x := by
  simp only [bits, BitVec.or_comm]
theorem u8_and127 {x : Int} (h₀ : 0 ≤ x) (h₁ : x < 256) : bits .and .u8 x 127 = x % 128 := bits_mask .u8 8 (by decide) wraps_u8 7 (by decide) x h₀ h₁
/-- One step of the reader that joins by bits. -/
theorem join_eq {n b p : Int} {i : Nat} (hP : PW i p) (hi : i ≤ 5) (hn0 : 0 ≤ n) (hn : n < p) (b0 : 0 ≤ b) (b1 : b < 256) :
    bits .or .i64 n (shl .i64 (wrap64 (bits .and .u8 b 127)) (wrap64 (7 * (i : Int)))) = n + b % 128 * p := by
  have hp := hP.pos
  have hq := hP.le hi
  have hm := digit_mul b p hp
  have hpw : (2 : Int) ^ (7 * i) = p := by rw [hP, Int.pow_mul]; rfl
  have e1 : shl .i64 (wrap64 (bits .and .u8 b 127)) (wrap64 (7 * (i : Int))) = b % 128 * p := by
    rw [u8_and127 b0 b1, w64 (x := b % 128) (by omega) (by omega), w64 (x := 7 * (i : Int)) (by omega) (by omega)]
    unfold shl
    rw [show (7 * (i : Int)).toNat = 7 * i by omega, Nat.min_eq_left (by show 7 * i ≤ 64; omega), hpw]
    rw [IntKind.wrap_i64]
    generalize b % 128 * p = q at hm ⊢
    omega
  rw [e1, bits_or_comm]
  generalize hgq : b % 128 * p = q at hm ⊢
  rw [bits_join .i64 62 (by decide) wraps_i64 (7 * i) q n hm.1 (by rw [hpw, ← hgq]; exact Int.mul_emod_left _ _) (by omega) hn0 (by rw [hpw]; exact hn) (by omega)]
  omega
theorem set_mid {α : Type} (pre : List α) (n : Nat) (z b : α) : (pre ++ List.replicate (n + 1) z).set pre.length b = (pre ++ [b]) ++ List.replicate n z := by
  rw [List.replicate_succ, List.set_append_right _ _ (Nat.le_refl _), Nat.sub_self, List.set_cons_zero, List.append_assoc]
  rfl

/-! strings and bytes -/
theorem bytesOf_strOfNums {xs : List Int} (h : ∀ x ∈ xs, 0 ≤ x ∧ x < 256) : bytesOf (strOfNums xs) = xs := by
  unfold bytesOf
  rw [strOfNums_data, List.map_map]
  conv => rhs; rw [← List.map_id xs]
  refine List.map_congr_left fun x hx => ?_
  obtain ⟨h0, h1⟩ := h x hx
  simp only [Function.comp, id]
  rw [UInt8.toNat_ofNat']
  omega
theorem strOfNums_bytesOf (s : ByteArray) : strOfNums (bytesOf s) = s := by
  apply Go.WideShapes.bytes_inj
  rw [strOfNums_data]
  unfold bytesOf
  rw [List.map_map]
  conv => rhs; rw [← List.map_id s.data.toList]
  refine List.map_congr_left fun x hx => ?_
  simp
theorem bytesOf_inj {s t : ByteArray} (h : bytesOf s = bytesOf t) : s = t := by
  rw [← strOfNums_bytesOf s, ← strOfNums_bytesOf t, h]
theorem bytesOf_empty : bytesOf (⟨#[]⟩ : ByteArray) = [] := rfl
theorem wf64 {x : Int} (h1 : -9223372036854775808 ≤ x) (h2 : x ≤ 9223372036854775807) : (Lit.int .i64 x).wf = true := by
  simp only [Lit.wf, IntKind.min, IntKind.max, IntKind.signed, IntKind.bits, Bool.and_eq_true, decide_eq_true_eq, if_true]
  omega

/-! loops of one form: copying, comparing with itself, marking, asking for the marks -/
theorem copy_loop {α β : Type} (L : Nat → List α → List β → Int → Option (List β)) (g : α → β) (z : β)
    (stop : ∀ k xs ys (i : Nat), xs.length ≤ i → L (k + 1) xs ys (i : Int) = some ys)
    (step : ∀ k xs ys (i : Nat) a, i < 1000000000000000000 → xs[i]? = some a → i < xs.length → i < ys.length → L (k + 1) xs ys (i : Int) = L k xs (ys.set i (g a)) ((i + 1 : Nat) : Int))
    (xs : List α) (hl : xs.length ≤ 1000000000000000000) : Ev (fun k => L k xs (List.replicate xs.length z) 0) (xs.map g) := by
  have key : ∀ (bs pre : List α), xs = pre ++ bs → Ev (fun k => L k xs (pre.map g ++ List.replicate bs.length z) (pre.length : Int)) (xs.map g) := by
    intro bs
    induction bs with
    | nil =>
      intro pre h
      refine Ev.step (f := fun _ => some (xs.map g)) (fun k => ?_) (Ev.now _)
      rw [stop _ _ _ _ (by rw [h]; simp)]
      simp [h]
    | cons b bs ih =>
      intro pre h
      have hlen : xs.length = pre.length + (bs.length + 1) := by rw [h]; simp
      refine Ev.step (f := fun k => L k xs ((pre ++ [b]).map g ++ List.replicate bs.length z) ((pre ++ [b]).length : Int)) (fun k => ?_) (ih (pre ++ [b]) (by rw [h]; simp))
      rw [step _ _ _ _ b (by omega) (by rw [h]; simp) (by omega) (by simp)]
      have e := set_mid (pre.map g) bs.length z (g b)
      rw [List.length_map] at e
      rw [List.length_cons, e]
      simp
  have := key xs [] rfl
  simpa using this
theorem self_loop {α : Type} (L : Nat → List α → List α → Int → Option Bool)
    (stop : ∀ k xs (i : Nat), xs.length ≤ i → L (k + 1) xs xs (i : Int) = some true)
    (step : ∀ k xs (i : Nat) a, i < 1000000000000000000 → xs[i]? = some a → i < xs.length → L (k + 1) xs xs (i : Int) = L k xs xs ((i + 1 : Nat) : Int))
    (xs : List α) (hl : xs.length ≤ 1000000000000000000) : Ev (fun k => L k xs xs 0) true := by
  have key : ∀ (bs : List α) (i : Nat), xs.drop i = bs → Ev (fun k => L k xs xs (i : Int)) true := by
    intro bs
    induction bs with
    | nil =>
      intro i h
      exact Ev.step (f := fun _ => some true) (fun k => stop _ _ _ (drop_nil h)) (Ev.now _)
    | cons b bs ih =>
      intro i h
      obtain ⟨h1, h2, h3⟩ := drop_cons h
      exact Ev.step (f := fun k => L k xs xs ((i + 1 : Nat) : Int)) (fun k => step _ _ _ b (by omega) h3 h1) (ih _ h2)
  exact key xs 0 rfl
/-- As self_loop, where a round calls others. -/
theorem self_loop_ev {α : Type} (L : Nat → List α → List α → Int → Option Bool) (xs : List α) (hl : xs.length ≤ 1000000000000000000)
    (stop : ∀ k (i : Nat), xs.length ≤ i → L (k + 1) xs xs (i : Int) = some true)
    (step : ∀ (i : Nat) a, i < 1000000000000000000 → xs[i]? = some a → i < xs.length → Ev (fun k => L k xs xs ((i + 1 : Nat) : Int)) true → Ev (fun k => L k xs xs (i : Int)) true) :
    Ev (fun k => L k xs xs 0) true := by
  have key : ∀ (bs : List α) (i : Nat), xs.drop i = bs → Ev (fun k => L k xs xs (i : Int)) true := by
    intro bs
    induction bs with
    | nil =>
      intro i h
      exact Ev.step (f := fun _ => some true) (fun k => stop _ _ (drop_nil h)) (Ev.now _)
    | cons b bs ih =>
      intro i h
      obtain ⟨h1, h2, h3⟩ := drop_cons h
      exact step _ b (by omega) h3 h1 (ih _ h2)
  exact key xs 0 rfl
/-- The marks: of n places, from a on, c apart. -/
def marksOf {α : Type} (v : Int → α) (c : Int) : Nat → Int → List α
  | 0, _ => []
  | n + 1, a => v a :: marksOf v c n (a + c)
theorem marksOf_length {α : Type} (v : Int → α) (c : Int) : ∀ n a, (marksOf v c n a).length = n
  | 0, _ => rfl
  | n + 1, a => by rw [marksOf, List.length_cons, marksOf_length v c n]
theorem mark_loop {α : Type} (L : Nat → List α → Int → Int → Option (Int × List α)) (v : Int → α) (c : Int) (hc : 0 ≤ c ∧ c ≤ 8)
    (stop : ∀ k xs a (i : Nat), xs.length ≤ i → L (k + 1) xs a (i : Int) = some (a, xs))
    (step : ∀ xs a (i : Nat) r, i < xs.length → i < 1000000000000000 → 1 ≤ a → a ≤ 1000000000000000000 → Ev (fun k => L k (xs.set i (v a)) (a + c) ((i + 1 : Nat) : Int)) r → Ev (fun k => L k xs a (i : Int)) r)
    (xs : List α) (hl : xs.length ≤ 1000000000000000) (a : Int) (h1 : 1 ≤ a) (h2 : a ≤ 10000000000000000) : Ev (fun k => L k xs a 0) (a + c * xs.length, marksOf v c xs.length a) := by
  have key : ∀ (n : Nat) (bs pre : List α) (b : Int), bs.length = n → pre.length + n ≤ 1000000000000000 → 1 ≤ b → b + 8 * n ≤ 100000000000000000 → Ev (fun k => L k (pre ++ bs) b (pre.length : Int)) (b + c * bs.length, pre ++ marksOf v c bs.length b) := by
    intro n
    induction n with
    | zero =>
      intro bs pre b hb hn h1 h2
      obtain rfl : bs = [] := List.length_eq_zero_iff.1 hb
      refine Ev.step (f := fun _ => some _) (fun k => ?_) (Ev.now _)
      rw [stop _ _ _ _ (by simp)]
      simp [marksOf]
    | succ n ih =>
      intro bs pre b hb hn h1 h2
      obtain ⟨y, bs, rfl⟩ : ∃ y ys, bs = y :: ys := by
        cases bs with
        | nil => simp at hb
        | cons y ys => exact ⟨y, ys, rfl⟩
      simp only [List.length_cons] at hb
      refine step _ _ _ _ (by simp) (by omega) h1 (by omega) ?_
      have e1 : (pre ++ y :: bs).set pre.length (v b) = (pre ++ [v b]) ++ bs := by
        rw [List.set_append_right _ _ (Nat.le_refl _), Nat.sub_self, List.set_cons_zero]
        simp
      rw [e1]
      have := ih bs (pre ++ [v b]) (b + c) (by omega) (by simp; omega) (by omega) (by omega)
      rw [List.length_append, List.length_singleton] at this
      rw [List.length_cons, marksOf]
      have e2 : b + c * ((bs.length + 1 : Nat) : Int) = b + c + c * (bs.length : Int) := by
        rw [Int.natCast_add, Int.mul_add]; omega
      rw [e2]
      simpa using this
  have := key xs.length xs [] a rfl (by simpa using hl) h1 (by omega)
  simpa using this
theorem held_loop {α : Type} (L : Nat → List α → Int → Int → Option Int) (v : Int → α) (c : Int) (hc : 0 ≤ c ∧ c ≤ 8)
    (stop : ∀ k xs a (i : Nat), xs.length ≤ i → L (k + 1) xs a (i : Int) = some a)
    (step : ∀ xs a (i : Nat) r, xs[i]? = some (v a) → i < xs.length → i < 1000000000000000 → 1 ≤ a → a ≤ 1000000000000000000 → Ev (fun k => L k xs (a + c) ((i + 1 : Nat) : Int)) r → Ev (fun k => L k xs a (i : Int)) r)
    (n : Nat) (hl : n ≤ 1000000000000000) (a : Int) (h1 : 1 ≤ a) (h2 : a ≤ 10000000000000000) : Ev (fun k => L k (marksOf v c n a) a 0) (a + c * n) := by
  have key : ∀ (n : Nat) (pre : List α) (b : Int), pre.length + n ≤ 1000000000000000 → 1 ≤ b → b + 8 * n ≤ 100000000000000000 → Ev (fun k => L k (pre ++ marksOf v c n b) b (pre.length : Int)) (b + c * n) := by
    intro n
    induction n with
    | zero =>
      intro pre b hn h1 h2
      refine Ev.step (f := fun _ => some _) (fun k => ?_) (Ev.now _)
      rw [stop _ _ _ _ (by simp [marksOf])]
      simp
    | succ n ih =>
      intro pre b hn h1 h2
      rw [marksOf]
      refine step _ _ _ _ (by simp) (by simp) (by omega) h1 (by omega) ?_
      have := ih (pre ++ [v b]) (b + c) (by simp; omega) (by omega) (by omega)
      rw [List.length_append, List.length_singleton] at this
      have e2 : b + c * ((n + 1 : Nat) : Int) = b + c + c * (n : Int) := by
        rw [Int.natCast_add, Int.mul_add]; omega
      rw [e2]
      simpa using this
  have := key n [] a (by simpa using hl) h1 (by omega)
  simpa using this

/-! numbers laid in a row -/
def numN (n : Nat) : List Int := if n < 128 then [(n : Int)] else ((n % 128 + 128 : Nat) : Int) :: numN (n / 128)
termination_by n
decreasing_by omega
theorem numN_small {n : Nat} (h : n < 128) : numN n = [(n : Int)] := by rw [numN, if_pos h]
theorem numN_big {n : Nat} (h : ¬ n < 128) : numN n = ((n % 128 + 128 : Nat) : Int) :: numN (n / 128) := by rw [numN, if_neg h]
theorem numN_byte (n : Nat) : ∀ x ∈ numN n, 0 ≤ x ∧ x < 256 := by
  induction n using Nat.strongRecOn with
  | ind n ih =>
    intro x hx
    by_cases h : n < 128
    · rw [numN_small h] at hx
      simp at hx
      omega
    · rw [numN_big h] at hx
      rcases List.mem_cons.1 hx with rfl | hx
      · omega
      · exact ih (n / 128) (by omega) x hx
theorem numN_pos (n : Nat) : 0 < (numN n).length := by rw [numN]; split <;> simp
/-- Of a number below 128 to the i at most i bytes. -/
theorem numN_le : ∀ (i n : Nat), n < 128 ^ (i + 1) → (numN n).length ≤ i + 1
  | 0, n, h => by rw [numN_small (by simpa using h)]; simp
  | i + 1, n, h => by
    by_cases hn : n < 128
    · rw [numN_small hn]; simp
    · rw [numN_big hn, List.length_cons]
      have := numN_le i (n / 128) (by rw [Nat.pow_succ] at h; omega)
      omega
theorem numN_le10 {n : Nat} (h : n ≤ 1099511627776000) : (numN n).length ≤ 8 := numN_le 7 n (by omega)
/-- The text of a number: how it is laid, and these bytes. -/
def textN (s : ByteArray) : List Int := numN s.size ++ bytesOf s
def within (a b c : Int) : Bool := decide (b ≤ a) && decide (a ≤ c)
def number (n : Int) : List Int := if within n 0 1099511627776 = true then numN n.toNat else []
def text (s : ByteArray) : List Int := if (s.size : Int) > 3000 then [] else textN s
theorem or128 {x : Int} (h0 : 0 ≤ x) (h1 : x < 256) : bits .or .u8 x 128 = x % 128 + 128 := by
  obtain ⟨a, rfl⟩ := Int.eq_ofNat_of_zero_le h0
  have e : bits .or .u8 (a : Int) 128 = ((a ||| 128 : Nat) : Int) := (bits_nat .u8 8 (by decide) wraps_u8 a 128 (by omega) (by omega)).2
  have d : ∀ a : Nat, a < 256 → a ||| 128 = a % 128 + 128 := by decide +kernel
  show bits .or .u8 (a : Int) 128 = (a : Int) % 128 + 128
  rw [e, d a (by omega)]
  omega
theorem textN_length (s : ByteArray) : (textN s).length = (numN s.size).length + s.size := by
  unfold textN; rw [List.length_append, bytesOf_length]
theorem text_le (s : ByteArray) : (text s).length ≤ 3008 := by
  unfold text
  split
  · simp
  · rw [textN_length]
    have := numN_le10 (n := s.size) (by omega)
    omega
theorem textN_byte (s : ByteArray) : ∀ x ∈ textN s, 0 ≤ x ∧ x < 256 := by
  intro x hx
  rcases List.mem_append.1 hx with h | h
  · exact numN_byte _ x h
  · exact bytesOf_byte _ x h
theorem rnum_bd : ∀ (xs : List Int) (i : Nat) (p n : Int), (∀ x ∈ xs, 0 ≤ x ∧ x < 256) → PW i p → i ≤ 6 → 0 ≤ n → (0 ≤ (rnum i p n xs).1 ∧ (rnum i p n xs).1 ≤ 1099511627776) ∧ (0 ≤ (rnum i p n xs).2 ∧ (rnum i p n xs).2 ≤ i + xs.length ∧ (rnum i p n xs).2 ≤ 6)
  | [], i, p, n, hx, hP, hi, hn => by simp only [rnum, List.length_nil]; omega
  | b :: bs, i, p, n, hx, hP, hi, hn => by
    have hp := hP.pos
    have hm := digit_mul b p hp
    unfold rnum
    by_cases h6 : i < 6
    · rw [if_pos h6]
      generalize hq : n + b % 128 * p = q
      have hq0 : 0 ≤ q := by rw [← hq]; generalize b % 128 * p = z at hm; omega
      by_cases hb : b < 128
      · rw [if_pos hb]
        by_cases hc : q > 1099511627776 ∨ (0 < i ∧ b = 0)
        · rw [if_pos hc]; simp only [List.length_cons]; omega
        · rw [if_neg hc]
          have : ¬ q > 1099511627776 := fun h => hc (Or.inl h)
          simp only [List.length_cons]
          omega
      · rw [if_neg hb]
        have := rnum_bd bs (i + 1) (p * 128) q (fun x h => hx x (List.mem_cons_of_mem _ h)) hP.step (by omega) hq0
        rw [List.length_cons]
        omega
    · rw [if_neg h6]; simp only [List.length_cons]; omega
theorem readNumber_bd (xs : List Int) (hx : ∀ x ∈ xs, 0 ≤ x ∧ x < 256) : (0 ≤ (readNumber xs).1 ∧ (readNumber xs).1 ≤ 1099511627776) ∧ (0 ≤ (readNumber xs).2 ∧ (readNumber xs).2 ≤ xs.length ∧ (readNumber xs).2 ≤ 6) := by
  have := rnum_bd xs 0 1 0 hx PW.zero (by decide) (by decide)
  unfold readNumber
  omega
/-- A text with which the bytes begin. -/
def readText (xs : List Int) : ByteArray × Int :=
  if (readNumber xs).2 = 0 ∨ (readNumber xs).1 > 3000 ∨ (readNumber xs).1 > (xs.length : Int) - (readNumber xs).2 then ((⟨#[]⟩ : ByteArray), 0)
  else (strOfNums ((xs.take ((readNumber xs).2 + (readNumber xs).1).toNat).drop (readNumber xs).2.toNat), (readNumber xs).2 + (readNumber xs).1)
theorem readText_bd (xs : List Int) (hx : ∀ x ∈ xs, 0 ≤ x ∧ x < 256) : 0 ≤ (readText xs).2 ∧ (readText xs).2 ≤ xs.length := by
  have h := readNumber_bd xs hx
  unfold readText
  split
  · simp
  · simp only
    omega
/-- So many texts from the begin on, and what is left. -/
def rts : Nat → List Int → Option (List ByteArray × List Int)
  | 0, xs => some ([], xs)
  | n + 1, xs => if (readText xs).2 = 0 then none else (rts n (xs.drop (readText xs).2.toNat)).map fun p => ((readText xs).1 :: p.1, p.2)
def readTexts (xs : List Int) : List ByteArray × Bool :=
  if (readNumber xs).2 = 0 ∨ (readNumber xs).1 > 200 then ([], false)
  else match rts (readNumber xs).1.toNat (xs.drop (readNumber xs).2.toNat) with
    | some (l, []) => (l, true)
    | _ => ([], false)
theorem rts_len : ∀ (n : Nat) (xs : List Int) (l : List ByteArray) (r : List Int), rts n xs = some (l, r) → l.length = n ∧ r.length ≤ xs.length
  | 0, xs, l, r, h => by
    simp only [rts, Option.some.injEq, Prod.mk.injEq] at h
    obtain ⟨rfl, rfl⟩ := h
    exact ⟨rfl, Nat.le_refl _⟩
  | n + 1, xs, l, r, h => by
    unfold rts at h
    split at h
    · cases h
    · obtain ⟨⟨l', r'⟩, h1, h2⟩ := Option.map_eq_some_iff.1 h
      simp only [Prod.mk.injEq] at h2
      obtain ⟨rfl, rfl⟩ := h2
      have := rts_len n _ _ _ h1
      simp only [List.length_cons, List.length_drop] at this ⊢
      omega
theorem readTexts_len (xs : List Int) : (readTexts xs).1.length ≤ 200 := by
  unfold readTexts
  split
  · simp
  · rename_i h
    split
    · rename_i l h1
      have := (rts_len _ _ _ _ h1).1
      simp only
      omega
    · simp
theorem drop_byte {xs : List Int} (hx : ∀ x ∈ xs, 0 ≤ x ∧ x < 256) (n : Nat) : ∀ x ∈ xs.drop n, 0 ≤ x ∧ x < 256 := fun x h => hx x (List.mem_of_mem_drop h)
end Go.Proofs.Ythkhfmomibfkjaa.Lib

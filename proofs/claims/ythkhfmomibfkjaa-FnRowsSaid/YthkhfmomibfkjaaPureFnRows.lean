/- Proves the plain law behind this statement of the seat (what its functions come to, over numbers and lists): that it answers true. No condition beyond the statement's own. -/
import Derived.Test.YthkhfmomibfkjaaPFnRowsx
import Derived.Test.YthkhfmomibfkjaaLib
import Derived.Test.YthkhfmomibfkjaaLibHit
import Derived.Test.YthkhfmomibfkjaaLibPu
import Derived.Test.YthkhfmomibfkjaaLibRow
import Derived.Test.YthkhfmomibfkjaaLibStr
namespace Go.Proofs.Ythkhfmomibfkjaa.Pure
open Go Go.RowKit Go.Proofs.Ythkhfmomibfkjaa.PFnRows Go.Proofs.YthkhfmomibfkjaaW.PrintWords Go.Proofs.YthkhfmomibfkjaaW.PrintLast Go.Proofs.YthkhfmomibfkjaaW.PrintMore Go.Proofs.Ythkhfmomibfkjaa.Lib
set_option linter.unusedVariables false
set_option linter.unusedSimpArgs false
/-! numbers and texts are read from what they are laid as, and laid as what they are read from -/
theorem mulsplit (n : Nat) (p : Int) : ((n % 128 : Nat) : Int) * p + ((n / 128 : Nat) : Int) * (p * 128) = (n : Int) * p := by
  have h : (n : Int) = ((n % 128 : Nat) : Int) + 128 * ((n / 128 : Nat) : Int) := by omega
  generalize ((n % 128 : Nat) : Int) = a at h ⊢
  generalize ((n / 128 : Nat) : Int) = b at h ⊢
  rw [h, Int.add_mul, Int.mul_comm p 128, ← Int.mul_assoc, Int.mul_comm b 128]
theorem rnum_numN : ∀ (n : Nat) (i : Nat) (p acc : Int) (ys : List Int), PW i p → 0 ≤ acc → i + (numN n).length ≤ 6 → acc + (n : Int) * p ≤ 1099511627776 → (0 < i → n ≠ 0) → rnum i p acc (numN n ++ ys) = (acc + (n : Int) * p, ((i + (numN n).length : Nat) : Int)) := by
  intro n
  induction n using Nat.strongRecOn with
  | ind n ih =>
    intro i p acc ys hP ha hl hm hz
    by_cases h : n < 128
    · rw [numN_small h] at hl ⊢
      rw [List.singleton_append, rnum, if_pos (by simp at hl; omega), if_pos (by omega)]
      have e : (n : Int) % 128 = n := by omega
      rw [e, if_neg (fun hh => hh.elim (fun hh => by omega) (fun h12 => hz h12.1 (by have := h12.2; omega)))]
      simp
    · rw [numN_big h] at hl ⊢
      simp only [List.length_cons] at hl ⊢
      have e : (((n % 128 + 128 : Nat) : Int)) % 128 = ((n % 128 : Nat) : Int) := by omega
      have hs := mulsplit n p
      have hp := hP.pos
      have hq : 0 ≤ ((n % 128 : Nat) : Int) * p := Int.mul_nonneg (by omega) (by omega)
      rw [List.cons_append, rnum, if_pos (by omega), if_neg (by omega), e]
      rw [ih (n / 128) (by omega) (i + 1) (p * 128) _ ys hP.step (by omega) (by omega) (by omega) (by omega)]
      congr 1
      · omega
      · omega
theorem numN_len6 {n : Nat} (h : n ≤ 1099511627776) : (numN n).length ≤ 6 := numN_le 5 n (by omega)
theorem readNumber_numN (n : Nat) (h : n ≤ 1099511627776) (ys : List Int) : readNumber (numN n ++ ys) = ((n : Int), ((numN n).length : Int)) := by
  unfold readNumber
  rw [rnum_numN n 0 1 0 ys PW.zero (by decide) (by have := numN_len6 h; omega) (by omega) (fun h => absurd h (by decide))]
  simp
theorem rnum_back : ∀ (xs : List Int) (i : Nat) (p acc : Int), (∀ x ∈ xs, 0 ≤ x ∧ x < 256) → PW i p → 0 ≤ acc → (rnum i p acc xs).2 ≠ 0 →
    ∃ n : Nat, (rnum i p acc xs).1 = acc + (n : Int) * p ∧ (rnum i p acc xs).2 = ((i + (numN n).length : Nat) : Int) ∧ xs.take (numN n).length = numN n ∧ (0 < i → n ≠ 0)
  | [], i, p, acc, hx, hP, ha, h => absurd rfl h
  | b :: bs, i, p, acc, hx, hP, ha, h => by
    obtain ⟨b0, b1⟩ := hx b List.mem_cons_self
    rw [rnum] at h ⊢
    by_cases h6 : i < 6
    · rw [if_pos h6] at h ⊢
      by_cases hb : b < 128
      · rw [if_pos hb] at h ⊢
        by_cases hc : acc + b % 128 * p > 1099511627776 ∨ (0 < i ∧ b = 0)
        · rw [if_pos hc] at h; exact absurd rfl h
        · rw [if_neg hc] at h ⊢
          refine ⟨b.toNat, ?_, ?_, ?_, ?_⟩
          · have e : b % 128 = (b.toNat : Int) := by omega
            rw [e]
          · rw [numN_small (by omega)]; simp
          · rw [numN_small (by omega)]; simp; omega
          · intro h1 h2
            exact hc (Or.inr ⟨h1, by omega⟩)
      · rw [if_neg hb] at h ⊢
        have hm : 0 ≤ b % 128 * p := (digit_mul b p hP.pos).1
        obtain ⟨n, h1, h2, h3, h4⟩ := rnum_back bs (i + 1) (p * 128) (acc + b % 128 * p) (fun x hx' => hx x (List.mem_cons_of_mem _ hx')) hP.step (by generalize b % 128 * p = q at hm ⊢; omega) h
        have hn : n ≠ 0 := h4 (by omega)
        have hbig : ¬ (b % 128).toNat + 128 * n < 128 := by omega
        have ed : ((b % 128).toNat + 128 * n) / 128 = n := by omega
        have em : ((b % 128).toNat + 128 * n) % 128 = (b % 128).toNat := by omega
        have e5 : numN ((b % 128).toNat + 128 * n) = b :: numN n := by
          rw [numN_big hbig, ed, em]
          congr 1
          omega
        refine ⟨(b % 128).toNat + 128 * n, ?_, ?_, ?_, fun _ => by omega⟩
        · rw [h1]
          have hs := mulsplit ((b % 128).toNat + 128 * n) p
          rw [ed, em, show (((b % 128).toNat : Nat) : Int) = b % 128 by omega] at hs
          rw [← hs, Int.add_assoc]
        · rw [h2, e5, List.length_cons]
          congr 1
          omega
        · rw [e5, List.length_cons, List.take_succ_cons, h3]
    · rw [if_neg h6] at h; exact absurd rfl h
theorem readNumber_back {xs : List Int} (hx : ∀ x ∈ xs, 0 ≤ x ∧ x < 256) (h : (readNumber xs).2 ≠ 0) :
    ∃ n : Nat, n ≤ 1099511627776 ∧ readNumber xs = ((n : Int), ((numN n).length : Int)) ∧ xs = numN n ++ xs.drop (numN n).length := by
  obtain ⟨n, h1, h2, h3, _⟩ := rnum_back xs 0 1 0 hx PW.zero (by decide) h
  have hb := readNumber_bd xs hx
  have e1 : (readNumber xs).1 = (n : Int) := by unfold readNumber; rw [h1]; omega
  have e2 : (readNumber xs).2 = ((numN n).length : Int) := by unfold readNumber; rw [h2]; omega
  refine ⟨n, by omega, by rw [← e1, ← e2], ?_⟩
  conv => lhs; rw [← List.take_append_drop (numN n).length xs, h3]
theorem readText_textN (s : ByteArray) (h : s.size ≤ 3000) (ys : List Int) : readText (textN s ++ ys) = (s, ((textN s).length : Int)) := by
  have hl := textN_length s
  have hp := numN_pos s.size
  have e : readNumber (textN s ++ ys) = ((s.size : Int), ((numN s.size).length : Int)) := by
    unfold textN
    rw [List.append_assoc]
    exact readNumber_numN s.size (by omega) _
  unfold readText
  rw [e]
  simp only
  rw [if_neg (fun hh => by rw [List.length_append] at hh; omega)]
  rw [show (((numN s.size).length : Int) + (s.size : Int)).toNat = (textN s).length by omega, show (((numN s.size).length : Int)).toNat = (numN s.size).length by omega]
  rw [List.take_left]
  have e2 : (textN s).drop (numN s.size).length = bytesOf s := by unfold textN; rw [List.drop_left]
  rw [e2, strOfNums_bytesOf]
  congr 1
  omega
theorem readText_back {xs : List Int} (hx : ∀ x ∈ xs, 0 ≤ x ∧ x < 256) (h : (readText xs).2 ≠ 0) :
    ∃ s : ByteArray, s.size ≤ 3000 ∧ readText xs = (s, ((textN s).length : Int)) ∧ xs = textN s ++ xs.drop (textN s).length := by
  by_cases hc : (readNumber xs).2 = 0 ∨ (readNumber xs).1 > 3000 ∨ (readNumber xs).1 > (xs.length : Int) - (readNumber xs).2
  · unfold readText at h
    rw [if_pos hc] at h; exact absurd rfl h
  · have hc1 : ¬ (readNumber xs).2 = 0 := fun hh => hc (Or.inl hh)
    have hc2 : ¬ (readNumber xs).1 > 3000 := fun hh => hc (Or.inr (Or.inl hh))
    have hc3 : ¬ (readNumber xs).1 > (xs.length : Int) - (readNumber xs).2 := fun hh => hc (Or.inr (Or.inr hh))
    obtain ⟨n, hn, e, hxs⟩ := readNumber_back hx hc1
    rw [e] at hc2 hc3
    simp only at hc2 hc3
    have ea : (((numN n).length : Int) + (n : Int)).toNat = (numN n).length + n := by omega
    have eb : (((numN n).length : Int)).toNat = (numN n).length := by omega
    have hy : ∀ x ∈ (xs.take ((numN n).length + n)).drop (numN n).length, 0 ≤ x ∧ x < 256 := fun x h' => hx x (List.mem_of_mem_take (List.mem_of_mem_drop h'))
    have hlen : ((xs.take ((numN n).length + n)).drop (numN n).length).length = n := by simp; omega
    have hsz : (strOfNums ((xs.take ((numN n).length + n)).drop (numN n).length)).size = n := by rw [strOfNums_size, hlen]
    have et : textN (strOfNums ((xs.take ((numN n).length + n)).drop (numN n).length)) = xs.take ((numN n).length + n) := by
      have h1 : xs.take (numN n).length = numN n := by
        conv => lhs; rw [hxs]
        exact List.take_left
      unfold textN
      rw [hsz, bytesOf_strOfNums hy]
      conv => rhs; rw [← List.take_append_drop (numN n).length (xs.take ((numN n).length + n))]
      rw [List.take_take, Nat.min_eq_left (by omega), h1]
    have el : (textN (strOfNums ((xs.take ((numN n).length + n)).drop (numN n).length))).length = (numN n).length + n := by rw [textN_length, hsz]
    refine ⟨strOfNums ((xs.take ((numN n).length + n)).drop (numN n).length), by rw [hsz]; omega, ?_, ?_⟩
    · unfold readText
      rw [if_neg hc, e]
      simp only
      rw [ea, eb, el]
      rfl
    · rw [el]
      conv => lhs; rw [← List.take_append_drop ((numN n).length + n) xs]
      rw [et]

theorem spec_l1Number_l0_ev (n : Nat) : ∀ (acc : List Int), acc.length + n ≤ 100000000000000 → Ev (fun k => spec_l1Number.l0 k (n : Int) acc) (acc ++ numN n) := by
  induction n using Nat.strongRecOn with
  | ind n ih =>
    intro acc hl
    by_cases h : n < 128
    · refine Ev.step (f := fun _ => some _) (fun k => ?_) (Ev.now _)
      simp only [spec_l1Number.l0]
      rw [if_neg (by omega), if_pos (by omega), numN_small h, Int.emod_eq_of_lt (by omega) (by omega)]
    · have := ih (n / 128) (by omega) (acc ++ [((n % 128 + 128 : Nat) : Int)]) (by simp; omega)
      rw [List.append_assoc, List.singleton_append, ← numN_big h] at this
      refine Ev.step (f := fun k => spec_l1Number.l0 k ((n / 128 : Nat) : Int) (acc ++ [((n % 128 + 128 : Nat) : Int)])) (fun k => ?_) this
      simp only [spec_l1Number.l0]
      rw [if_pos (by omega), if_pos (by omega), Int.tdiv_eq_ediv_of_nonneg (by omega), Int.tmod_eq_emod_of_nonneg (by omega), w64 (by omega) (by omega), w64 (by omega) (by omega)]
      congr 1
      rw [Int.emod_eq_of_lt (by omega) (by omega)]
      congr 1
theorem spec_l1Number_ev (n : Nat) (h : n ≤ 100000000000000) : Ev (fun k => spec_l1Number.f k (n : Int)) (numN n) := by
  have := spec_l1Number_l0_ev n [] (by simpa using h)
  exact this

theorem spec_l1In_ev (a b c : Int) : Ev (fun _ => spec_l1In.f a b c) (within a b c) := by
  refine evId (fun _ => ?_)
  unfold spec_l1In.f within
  by_cases h : a ≥ b
  · rw [if_pos h, decide_eq_true (show b ≤ a from h), Bool.true_and]
  · rw [if_neg h, decide_eq_false (show ¬ b ≤ a from h), Bool.false_and]

theorem spec_Number_ev (n : Int) : Ev (fun k => spec_Number.f k n) (number n) := by
  simp only [spec_Number.f]
  refine Ev.bind (spec_l1In_ev n 0 1099511627776) ?_
  unfold number
  by_cases h : within n 0 1099511627776 = true
  · rw [if_pos h]
    refine evPos h ?_
    simp only [within, Bool.and_eq_true, decide_eq_true_eq] at h
    have e := spec_l1Number_ev n.toNat (by omega)
    rw [show ((n.toNat : Nat) : Int) = n by omega] at e
    exact Ev.bind e (Ev.now _)
  · rw [if_neg h]
    exact evNeg h (Ev.now _)

theorem impl_within_ev (a b c : Int) : Ev (fun _ => impl_within.f a b c) (within a b c) := by
  refine evId (fun _ => ?_)
  unfold impl_within.f within
  by_cases h : a ≥ b
  · rw [if_pos h, decide_eq_true (show b ≤ a from h), Bool.true_and]
  · rw [if_neg h, decide_eq_false (show ¬ b ≤ a from h), Bool.false_and]

theorem impl_Number_l0_ev (n : Nat) : ∀ (acc : List Int), acc.length + n ≤ 100000000000000 → Ev (fun k => impl_Number.l0 k (n : Int) acc) (acc ++ numN n) := by
  induction n using Nat.strongRecOn with
  | ind n ih =>
    intro acc hl
    by_cases h : n < 128
    · refine Ev.step (f := fun _ => some _) (fun k => ?_) (Ev.now _)
      simp only [impl_Number.l0]
      rw [if_neg (by omega), if_pos (by omega), numN_small h, Int.emod_eq_of_lt (by omega) (by omega)]
    · have := ih (n / 128) (by omega) (acc ++ [((n % 128 + 128 : Nat) : Int)]) (by simp; omega)
      rw [List.append_assoc, List.singleton_append, ← numN_big h] at this
      refine Ev.step (f := fun k => impl_Number.l0 k ((n / 128 : Nat) : Int) (acc ++ [((n % 128 + 128 : Nat) : Int)])) (fun k => ?_) this
      simp only [impl_Number.l0]
      rw [if_pos (by omega), if_pos (by omega), or128 (by omega) (by omega)]
      congr 3
      omega
theorem impl_Number_ev (n : Int) : Ev (fun k => impl_Number.f k n) (number n) := by
  simp only [impl_Number.f]
  refine Ev.bind (impl_within_ev n 0 1099511627776) ?_
  unfold number
  by_cases h : within n 0 1099511627776 = true
  · rw [if_pos h]
    refine evPos h ?_
    simp only [within, Bool.and_eq_true, decide_eq_true_eq] at h
    have e := impl_Number_l0_ev n.toNat [] (by simp; omega)
    rw [show ((n.toNat : Nat) : Int) = n by omega] at e
    exact e
  · rw [if_neg h]
    exact evNeg h (Ev.now _)
theorem impl_Number_nat (n : Nat) (h : n ≤ 1099511627776) : Ev (fun k => impl_Number.f k (n : Int)) (numN n) := by
  have e := impl_Number_ev (n : Int)
  unfold number at e
  rw [if_pos (by simp [within]; omega)] at e
  exact e

theorem spec_l1Text_ev (s : ByteArray) (h : s.size ≤ 1099511627776) : Ev (fun k => spec_l1Text.f k s) (textN s) := by
  simp only [spec_l1Text.f]
  have hl := numN_le10 (n := s.size) (by omega)
  exact Ev.bind (spec_l1Number_ev s.size (by omega)) (evPos (by omega) (Ev.now _))
theorem impl_Text_ev (s : ByteArray) : Ev (fun k => impl_Text.f k s) (text s) := by
  simp only [impl_Text.f]
  unfold text
  by_cases h : (s.size : Int) > 3000
  · rw [if_pos h]; exact evPos h (Ev.now _)
  · rw [if_neg h]
    have hl := numN_le10 (n := s.size) (by omega)
    exact evNeg h (Ev.bind (impl_Number_nat s.size (by omega)) (evPos (by omega) (Ev.now _)))

theorem spec_Text_ev (s : ByteArray) : Ev (fun k => spec_Text.f k s) (text s) := by
  simp only [spec_Text.f]
  unfold text
  by_cases h : (s.size : Int) > 3000
  · rw [if_pos h]; exact evPos h (Ev.now _)
  · rw [if_neg h]
    exact evNeg h (Ev.bind (spec_l1Text_ev s (by omega)) (Ev.now _))

theorem spec_ReadNumber_l0_ev (xs : List Int) (hx : ∀ x ∈ xs, 0 ≤ x ∧ x < 256) : ∀ (bs : List Int) (i : Nat) (p n : Int), xs.drop i = bs → PW i p → i ≤ 6 → 0 ≤ n → n < p → Ev (fun k => spec_ReadNumber.l0 k xs n p i) (rnum i p n bs)
  | [], i, p, n, hd, hP, hi, h0, h1 => by
    have := drop_nil hd
    refine Ev.step (f := fun k => spec_ReadNumber.j1 k xs n p i false) (fun k => ?_) (Ev.step (f := fun _ => some (0, 0)) (fun k => ?_) (Ev.now _))
    · simp only [spec_ReadNumber.l0]
      rw [if_neg (by omega)]
    · simp only [spec_ReadNumber.j1]
      rw [if_neg (by decide)]
  | b :: bs, i, p, n, hd, hP, hi, h0, h1 => by
    obtain ⟨h2, h3, h4⟩ := drop_cons hd
    obtain ⟨b0, b1⟩ := hx b (List.mem_of_getElem? h4)
    by_cases h6 : i < 6
    · have hp := hP.pos
      have hq := hP.le (by omega)
      have hm := digit_mul b p hp
      have e2 : wrap64 (rd xs i) = b := by rw [rd_at h4, w64 (by omega) (by omega)]
      have e3 : Int.tmod b 128 = b % 128 := Int.tmod_eq_emod_of_nonneg (by omega)
      have ih := spec_ReadNumber_l0_ev xs hx bs (i + 1) (p * 128) (n + b % 128 * p) h3 hP.step (by omega)
      have hi1 : wrap64 ((i : Int) + 1) = (i : Int) + 1 := w64 (by omega) (by omega)
      have hip : (0 : Int) ≤ i := by omega
      have hil : (i : Int) < xs.length := by omega
      simp only [rnum, if_pos h6]
      have e4 : wrap64 (b % 128 * p) = b % 128 * p := by
        generalize b % 128 * p = q at hm; exact w64 (by omega) (by omega)
      have e1 : wrap64 (n + b % 128 * p) = n + b % 128 * p := by
        generalize b % 128 * p = q at hm; exact w64 (by omega) (by omega)
      have e5 : wrap64 (p * 128) = p * 128 := w64 (by omega) (by omega)
      have ih' : Ev (fun k => spec_ReadNumber.l0 k xs (n + b % 128 * p) (p * 128) ((i + 1 : Nat) : Int)) (rnum (i + 1) (p * 128) (n + b % 128 * p) bs) := by
        generalize b % 128 * p = q at hm ih ⊢; exact ih (by omega) (by omega)
      clear ih
      refine Ev.step (f := fun k => spec_ReadNumber.j1 k xs n p i true) (fun k => ?_) ?_
      · simp only [spec_ReadNumber.l0]
        rw [if_pos hil, decide_eq_true (by omega : (i : Int) < 6)]
      · by_cases hb : b < 128
        · rw [if_pos hb]
          refine Ev.step (f := fun _ => some _) (fun k => ?_) (Ev.now _)
          simp only [spec_ReadNumber.j1]
          rw [if_pos trivial, if_pos hip, if_pos hil, e2, e3, e4, e1, if_pos hb, hi1]
          generalize n + b % 128 * p = q
          by_cases hn : q > 1099511627776
          · rw [if_pos hn, if_pos (Or.inl hn)]
          · rw [if_neg hn]
            by_cases hi0 : 0 < i
            · rw [if_pos (by omega)]
              by_cases hb0 : b = 0
              · rw [if_pos hb0, if_pos (Or.inr ⟨hi0, hb0⟩)]
              · rw [if_neg hb0, if_neg (fun h => h.elim hn (fun h => hb0 h.2))]
            · rw [if_neg (by omega), if_neg (fun h => h.elim hn (fun h => hi0 h.1))]
        · rw [if_neg hb]
          refine Ev.step (f := fun k => spec_ReadNumber.l0 k xs (n + b % 128 * p) (p * 128) ((i + 1 : Nat) : Int)) (fun k => ?_) ih'
          simp only [spec_ReadNumber.j1]
          rw [if_pos trivial, if_pos hip, if_pos hil, e2, e3, e4, e1, if_neg hb, e5, hi1]
          rfl
    · refine Ev.step (f := fun k => spec_ReadNumber.j1 k xs n p i false) (fun k => ?_) (Ev.step (f := fun _ => some (0, 0)) (fun k => ?_) (evEq (Ev.now _) ?_))
      · simp only [spec_ReadNumber.l0]
        rw [if_pos (by omega), decide_eq_false (by omega : ¬ (i : Int) < 6)]
      · simp only [spec_ReadNumber.j1]
        rw [if_neg (by decide)]
      · simp only [rnum, if_neg h6]
theorem spec_ReadNumber_ev (xs : List Int) (hx : ∀ x ∈ xs, 0 ≤ x ∧ x < 256) : Ev (fun k => spec_ReadNumber.f k xs) (readNumber xs) :=
  spec_ReadNumber_l0_ev xs hx xs 0 1 0 rfl PW.zero (by decide) (by decide) (by decide)

theorem spec_ReadText_ev (xs : List Int) (hl : xs.length ≤ 1000000000000000000) (hx : ∀ x ∈ xs, 0 ≤ x ∧ x < 256) : Ev (fun k => spec_ReadText.f k xs) (readText xs) := by
  simp only [spec_ReadText.f]
  refine Ev.bind (spec_ReadNumber_ev xs hx) ?_
  have hb := readNumber_bd xs hx
  unfold readText
  generalize readNumber xs = p at hb ⊢
  obtain ⟨n, t⟩ := p
  simp only at hb ⊢
  by_cases h0 : t = 0
  · rw [if_pos (Or.inl h0)]; exact evPos h0 (Ev.now _)
  refine evNeg h0 ?_
  by_cases h1 : n > 3000
  · rw [if_pos (Or.inr (Or.inl h1))]; exact evPos h1 (Ev.now _)
  refine evNeg h1 ?_
  have e1 : wrap64 ((xs.length : Int) - t) = (xs.length : Int) - t := w64 (by omega) (by omega)
  rw [e1]
  by_cases h2 : n > (xs.length : Int) - t
  · rw [if_pos (Or.inr (Or.inr h2))]; exact evPos h2 (Ev.now _)
  refine evNeg h2 ?_
  have e2 : wrap64 (t + n) = t + n := w64 (by omega) (by omega)
  rw [e2]
  exact evEq (evPos (by omega) (evPos (by omega) (evPos (by omega) (Ev.now _)))) (if_neg (fun h => by rcases h with h | h | h <;> omega)).symm

theorem impl_ReadNumber_l0_ev (xs : List Int) (hl : xs.length ≤ 1000000000000000000) (hx : ∀ x ∈ xs, 0 ≤ x ∧ x < 256) : ∀ (bs : List Int) (i : Nat) (p n : Int), xs.drop i = bs → PW i p → i ≤ 6 → 0 ≤ n → n < p → Ev (fun k => impl_ReadNumber.l0 k n xs (xs.length : Int) i) (rnum i p n bs)
  | [], i, p, n, hd, hP, hi, h0, h1 => by
    have := drop_nil hd
    refine Ev.step (f := fun _ => some (0, 0)) (fun k => ?_) (Ev.now _)
    simp only [impl_ReadNumber.l0]
    rw [if_neg (by omega)]
  | b :: bs, i, p, n, hd, hP, hi, h0, h1 => by
    obtain ⟨h2, h3, h4⟩ := drop_cons hd
    obtain ⟨b0, b1⟩ := hx b (List.mem_of_getElem? h4)
    have hip : (0 : Int) ≤ i := by omega
    have hil : (i : Int) < xs.length := by omega
    by_cases h6 : i < 6
    · have hp := hP.pos
      have hq := hP.le (by omega)
      have hm := digit_mul b p hp
      have e1 := join_eq (n := n) (b := b) (i := i) hP (by omega) h0 h1 b0 b1
      have e3 : (0 : Int) ≤ wrap64 (7 * (i : Int)) := by rw [w64 (by omega) (by omega)]; omega
      have hi1 : wrap64 ((i : Int) + 1) = (i : Int) + 1 := w64 (by omega) (by omega)
      have ih := impl_ReadNumber_l0_ev xs hl hx bs (i + 1) (p * 128) (n + b % 128 * p) h3 hP.step (by omega)
      have ih' : Ev (fun k => impl_ReadNumber.l0 k (n + b % 128 * p) xs (xs.length : Int) ((i + 1 : Nat) : Int)) (rnum (i + 1) (p * 128) (n + b % 128 * p) bs) := by
        generalize b % 128 * p = q at hm ih ⊢; exact ih (by omega) (by omega)
      clear ih
      simp only [rnum, if_pos h6]
      by_cases hb : b < 128
      · rw [if_pos hb]
        refine Ev.step (f := fun _ => some _) (fun k => ?_) (Ev.now _)
        simp only [impl_ReadNumber.l0]
        rw [if_pos hil, if_pos hip, if_pos hil, if_neg (by omega), if_pos e3, rd_at h4, e1, if_pos hb, hi1]
        generalize n + b % 128 * p = q
        by_cases hi0 : 0 < i
        · rw [if_pos (by omega)]
          by_cases hb0 : b = 0
          · rw [if_pos hb0, if_pos (Or.inr ⟨hi0, hb0⟩)]
          · rw [if_neg hb0]
            by_cases hn : q > 1099511627776
            · rw [if_pos hn, if_pos (Or.inl hn)]
            · rw [if_neg hn, if_neg (fun h => h.elim hn (fun h => hb0 h.2))]
        · rw [if_neg (by omega)]
          by_cases hn : q > 1099511627776
          · rw [if_pos hn, if_pos (Or.inl hn)]
          · rw [if_neg hn, if_neg (fun h => h.elim hn (fun h => hi0 h.1))]
      · rw [if_neg hb]
        refine Ev.step (f := fun k => impl_ReadNumber.l0 k (n + b % 128 * p) xs (xs.length : Int) ((i + 1 : Nat) : Int)) (fun k => ?_) ih'
        simp only [impl_ReadNumber.l0]
        rw [if_pos hil, if_pos hip, if_pos hil, if_neg (by omega), if_pos e3, rd_at h4, e1, if_neg hb, hi1]
        rfl
    · refine Ev.step (f := fun _ => some (0, 0)) (fun k => ?_) (evEq (Ev.now _) ?_)
      · simp only [impl_ReadNumber.l0]
        rw [if_pos hil, if_pos hip, if_pos hil, if_pos (by omega)]
      · simp only [rnum, if_neg h6]
theorem impl_ReadNumber_ev (xs : List Int) (hl : xs.length ≤ 1000000000000000000) (hx : ∀ x ∈ xs, 0 ≤ x ∧ x < 256) : Ev (fun k => impl_ReadNumber.f k xs) (readNumber xs) :=
  impl_ReadNumber_l0_ev xs hl hx xs 0 1 0 rfl PW.zero (by decide) (by decide) (by decide)

theorem impl_ReadText_ev (xs : List Int) (hl : xs.length ≤ 1000000000000000000) (hx : ∀ x ∈ xs, 0 ≤ x ∧ x < 256) : Ev (fun k => impl_ReadText.f k xs) (readText xs) := by
  simp only [impl_ReadText.f]
  refine Ev.bind (impl_ReadNumber_ev xs hl hx) ?_
  have hb := readNumber_bd xs hx
  unfold readText
  generalize readNumber xs = p at hb ⊢
  obtain ⟨n, t⟩ := p
  simp only at hb ⊢
  by_cases h0 : t = 0
  · rw [if_pos (Or.inl h0)]; exact evPos h0 (Ev.now _)
  refine evNeg h0 ?_
  by_cases h1 : n > 3000
  · rw [if_pos (Or.inr (Or.inl h1))]; exact evPos h1 (Ev.now _)
  refine evNeg h1 ?_
  have e1 : wrap64 ((xs.length : Int) - t) = (xs.length : Int) - t := w64 (by omega) (by omega)
  rw [e1]
  by_cases h2 : n > (xs.length : Int) - t
  · rw [if_pos (Or.inr (Or.inr h2))]; exact evPos h2 (Ev.now _)
  refine evNeg h2 ?_
  have e2 : wrap64 (t + n) = t + n := w64 (by omega) (by omega)
  rw [e2]
  exact evEq (evPos (by omega) (evPos (by omega) (evPos (by omega) (Ev.now _)))) (if_neg (fun h => by rcases h with h | h | h <;> omega)).symm

theorem and255 (y : Int) : 0 ≤ Go.bits .and .i64 y 255 ∧ Go.bits .and .i64 y 255 ≤ 255 := by
  have e : ((BitVec.ofInt IntKind.i64.bits y) &&& (BitVec.ofInt IntKind.i64.bits 255)).toNat ≤ 255 := by
    rw [BitVec.toNat_and]
    exact Nat.le_trans Nat.and_le_right (by decide)
  have e2 : Go.bits .and .i64 y 255 = (((BitVec.ofInt IntKind.i64.bits y) &&& (BitVec.ofInt IntKind.i64.bits 255)).toNat : Int) := by
    simp only [Go.bits]
    rw [IntKind.wrap_i64]
    generalize ((BitVec.ofInt IntKind.i64.bits y) &&& (BitVec.ofInt IntKind.i64.bits 255)).toNat = n at e ⊢
    omega
  rw [e2]
  generalize ((BitVec.ofInt IntKind.i64.bits y) &&& (BitVec.ofInt IntKind.i64.bits 255)).toNat = n at e ⊢
  omega
theorem spec_l1New_l0_ev (b : List Int) (hl : b.length ≤ 1000000000000000000) : ∀ (bs : List Int) (i : Nat) (h : Int), b.drop i = bs → ∃ h', Ev (fun k => spec_l1New.l0 k b h i) (b, 0, h')
  | [], i, h, hd => by
    have := drop_nil hd
    refine ⟨h, Ev.step (f := fun _ => some _) (fun k => ?_) (Ev.now _)⟩
    simp only [spec_l1New.l0]
    rw [if_neg (by omega)]
  | x :: bs, i, h, hd => by
    obtain ⟨h2, h3, h4⟩ := drop_cons hd
    obtain ⟨h', hh⟩ := spec_l1New_l0_ev b hl bs (i + 1) (Go.bits .and .i64 (wrap64 ((wrap64 ((wrap64 (h * 137)) + (wrap64 (rd b i)))) + 11)) 1073741823) h3
    refine ⟨h', Ev.step (fun k => ?_) hh⟩
    simp only [spec_l1New.l0]
    rw [if_pos (by omega), if_pos (by omega), w64s (by omega)]
theorem spec_l1New_ev (b : List Int) (hl : b.length ≤ 1000000000000000000) : ∃ h, Ev (fun k => spec_l1New.f k b) (b, 0, h) := spec_l1New_l0_ev b hl b 0 _ rfl
theorem spec_l1Byte_eq (b : List Int) (hl : b.length ≤ 1000000000000000000) (i h : Int) (hi : 0 ≤ i) : ∃ x i' h', spec_l1Byte.f b i h = some (x, i', h') ∧ 0 ≤ x ∧ x ≤ 255 ∧ 0 ≤ i' := by
  unfold spec_l1Byte.f
  by_cases hx : i < (b.length : Int)
  · rw [if_pos hx, if_pos hi]
    refine ⟨_, _, _, rfl, (and255 _).1, (and255 _).2, ?_⟩
    rw [w64 (by omega) (by omega)]
    omega
  · rw [if_neg hx]
    exact ⟨_, _, _, rfl, (and255 _).1, (and255 _).2, hi⟩
theorem spec_l1Below_eq (b : List Int) (hl : b.length ≤ 1000000000000000000) (i h : Int) (hi : 0 ≤ i) (n : Int) : ∃ x i' h', spec_l1Below.f b i h n = some (x, i', h') ∧ 0 ≤ x ∧ (0 < n → x < n) ∧ 0 ≤ i' := by
  unfold spec_l1Below.f
  by_cases h0 : n ≤ 0
  · rw [if_pos h0]
    exact ⟨_, _, _, rfl, Int.le_refl _, fun h => absurd h (by omega), hi⟩
  rw [if_neg h0]
  obtain ⟨x, i1, h1, e1, x0, x1, hi1⟩ := spec_l1Byte_eq b hl i h hi
  rw [e1]
  simp only [Option.bind_some]
  have fin : ∀ y : Int, 0 ≤ y → 0 ≤ Int.tmod y n ∧ (0 < n → Int.tmod y n < n) := fun y hy => ⟨Int.tmod_nonneg _ hy, fun hn => Int.tmod_lt_of_pos _ hn⟩
  by_cases h2 : n ≤ 256
  · rw [if_pos h2, if_neg (by omega)]
    exact ⟨_, _, _, rfl, (fin x x0).1, (fin x x0).2, hi1⟩
  rw [if_neg h2]
  obtain ⟨y, i2, g2, e2, y0, y1, hi2⟩ := spec_l1Byte_eq b hl i1 h1 hi1
  rw [e2]
  simp only [Option.bind_some]
  obtain ⟨z, i3, g3, e3, z0, z1, hi3⟩ := spec_l1Byte_eq b hl i2 g2 hi2
  rw [e3]
  simp only [Option.bind_some]
  obtain ⟨w, i4, g4, e4, w0, w1, hi4⟩ := spec_l1Byte_eq b hl i3 g3 hi3
  rw [e4]
  simp only [Option.bind_some]
  rw [if_neg (by omega)]
  have ee : (wrap64 ((wrap64 ((wrap64 ((wrap64 (x * 16777216)) + (wrap64 (y * 65536)))) + (wrap64 (z * 256)))) + w)) = x * 16777216 + y * 65536 + z * 256 + w := by
    rw [w64 (x := x * 16777216) (by omega) (by omega), w64 (x := y * 65536) (by omega) (by omega), w64 (x := z * 256) (by omega) (by omega), w64 (x := x * 16777216 + y * 65536) (by omega) (by omega), w64 (x := x * 16777216 + y * 65536 + z * 256) (by omega) (by omega), w64 (by omega) (by omega)]
  rw [ee]
  exact ⟨_, _, _, rfl, (fin _ (by omega)).1, (fin _ (by omega)).2, hi4⟩
theorem spec_l1Once_eq (b : List Int) (hl : b.length ≤ 1000000000000000000) (i h : Int) (hi : 0 ≤ i) (n : Int) : ∃ x i' h', spec_l1Once.f b i h n = some (x, i', h') ∧ 0 ≤ i' := by
  obtain ⟨x, i1, h1, e1, _, _, hi1⟩ := spec_l1Below_eq b hl i h hi n
  unfold spec_l1Once.f
  rw [e1]
  exact ⟨_, _, _, rfl, hi1⟩
theorem strOfNums_le (xs : List Int) : (strOfNums xs).size = xs.length := by rw [strOfNums_size]

theorem cut_len (xs : List Int) (p : Nat) : (([] ++ xs.take p) ++ xs.drop (p + 1)).length ≤ xs.length ∧ ([] ++ xs.take p).length ≤ xs.length ∧ (xs.drop (p + 1)).length ≤ xs.length := by
  rw [List.nil_append, List.length_append, List.length_take, List.length_drop]; omega

theorem spec_l1Bend_l0_ev (b : List Int) (hl : b.length ≤ 1000000000000000000) (sg : ByteArray) (hs : 0 < sg.size) : ∀ (n : Nat) (xs : List Int) (i h : Int), 0 ≤ i → xs.length + n ≤ 100000000 →
    ∃ s i' h', Ev (fun k => spec_l1Bend.l0 k sg xs (n : Int) b i h) (s, i', h') ∧ s.size ≤ xs.length + n ∧ 0 ≤ i' := by
  intro n
  induction n with
  | zero =>
    intro xs i h hi hx
    refine ⟨strOfNums xs, i, h, Ev.step (fun k => by simp only [spec_l1Bend.l0]; exact rfl) (evNeg (by omega) (Ev.step (fun k => by simp only [spec_l1Bend.j1]; exact rfl) (evNeg Bool.false_ne_true (Ev.now _)))), by rw [strOfNums_le]; omega, hi⟩
  | succ n ih =>
    intro xs i h hi hx
    by_cases h0 : (xs.length : Int) > 0
    · obtain ⟨x, i1, h1, e1, x0, x1, hi1⟩ := spec_l1Below_eq b hl i h hi (xs.length : Int)
      obtain ⟨v, i2, h2, e2, v0, v1, hi2⟩ := spec_l1Below_eq b hl i1 h1 hi1 4
      have hxl := x1 h0
      have hv := v1 (by decide)
      have hw : wrap64 (((n + 1 : Nat) : Int) - 1) = (n : Int) := by rw [w64 (by omega) (by omega)]; omega
      have hd : (decide ((xs.length : Int) > 0)) = true := decide_eq_true h0
      obtain ⟨m, rfl⟩ := Int.eq_ofNat_of_zero_le v0
      obtain ⟨p, rfl⟩ := Int.eq_ofNat_of_zero_le x0
      match m, hv, e2 with
      | 0, _, e2 =>
        obtain ⟨y, i3, h3, e3, y0, y1, hi3⟩ := spec_l1Below_eq b hl i2 h2 hi2 (sg.size : Int)
        obtain ⟨s, i4, h4, hs4, hz, hi4⟩ := ih (xs.set p (bt sg y)) i3 h3 hi3 (by rw [List.length_set]; omega)
        refine ⟨s, i4, h4, Ev.step (fun k => by simp only [spec_l1Bend.l0]; exact rfl) (evPos (by omega) ?_), by rw [List.length_set] at hz; omega, hi4⟩
        rw [hd]
        refine Ev.step (fun k => by simp only [spec_l1Bend.j1, hw]; exact rfl) (evPos trivial ?_)
        exact Ev.bind (evId (fun _ => e1)) (Ev.bind (evId (fun _ => e2)) (evPos rfl (Ev.bind (evId (fun _ => e3)) (evPos y0 (evPos (y1 (by omega)) (evPos x0 (evPos hxl hs4)))))))
      | 1, _, e2 =>
        obtain ⟨s, i4, h4, hs4, hz, hi4⟩ := ih (xs.take p) i2 h2 hi2 (by rw [List.length_take]; omega)
        refine ⟨s, i4, h4, Ev.step (fun k => by simp only [spec_l1Bend.l0]; exact rfl) (evPos (by omega) ?_), by rw [List.length_take] at hz; omega, hi4⟩
        rw [hd]
        refine Ev.step (fun k => by simp only [spec_l1Bend.j1, hw]; exact rfl) (evPos trivial ?_)
        exact Ev.bind (evId (fun _ => e1)) (Ev.bind (evId (fun _ => e2)) (evNeg (show ¬ ((1 : Nat) : Int) = 0 by decide) (evPos rfl (evPos x0 (evPos (show (p : Int) ≤ (xs.length : Int) by omega) hs4)))))
      | 2, _, e2 =>
        obtain ⟨hlen, hlen2, hlen3⟩ := cut_len xs p
        have f1 : (p : Int) ≤ (xs.length : Int) := by omega
        have f2 : (0 : Int) ≤ ((p + 1 : Nat) : Int) ∧ ((p + 1 : Nat) : Int) ≤ (xs.length : Int) := by omega
        have f3 : ([] : List Int).length + (xs.take p).length < 140737488355328 := by rw [List.length_take, List.length_nil]; omega
        have f4 : ([] ++ xs.take p).length + (xs.drop (p + 1)).length < 140737488355328 := by omega
        obtain ⟨s, i4, h4, hs4, hz, hi4⟩ := ih (([] ++ xs.take p) ++ xs.drop (p + 1)) i2 h2 hi2 (by omega)
        refine ⟨s, i4, h4, Ev.step (fun k => by simp only [spec_l1Bend.l0]; exact rfl) (evPos (by omega) ?_), by omega, hi4⟩
        rw [hd]
        refine Ev.step (fun k => by simp only [spec_l1Bend.j1, hw]; exact rfl) (evPos trivial ?_)
        refine Ev.bind (evId (fun _ => e1)) (Ev.bind (evId (fun _ => e2)) (evNeg (show ¬ ((2 : Nat) : Int) = 0 by decide) (evNeg (show ¬ ((2 : Nat) : Int) = 1 by decide) (evPos rfl (Ev.bind (evId (fun _ => rfl)) ?_)))))
        simp only [show wrap64 ((p : Int) + 1) = ((p + 1 : Nat) : Int) from w64s (by omega), Int.toNat_natCast]
        exact evPos x0 (evPos f1 (Ev.bind (evId (fun _ => rfl)) (evPos f3 (Ev.bind (evId (fun _ => rfl)) (evPos f2.1 (evPos f2.2 (Ev.bind (evId (fun _ => rfl)) (evPos f4 hs4))))))))
      | 3, _, e2 =>
        obtain ⟨y, i3, h3, e3, y0, y1, hi3⟩ := spec_l1Below_eq b hl i2 h2 hi2 (sg.size : Int)
        have hlen2 : ([] ++ xs.take p).length ≤ xs.length := by rw [List.nil_append, List.length_take]; omega
        have hlen4 : (([] ++ xs.take p) ++ [bt sg y]).length ≤ xs.length + 1 := by rw [List.length_append, List.length_singleton]; omega
        have hlen3 : (xs.drop p).length ≤ xs.length := by rw [List.length_drop]; omega
        have hlen : ((([] ++ xs.take p) ++ [bt sg y]) ++ xs.drop p).length ≤ xs.length + 1 := by rw [List.nil_append, List.length_append, List.length_append, List.length_singleton, List.length_take, List.length_drop]; omega
        obtain ⟨s, i4, h4, hs4, hz, hi4⟩ := ih ((([] ++ xs.take p) ++ [bt sg y]) ++ xs.drop p) i3 h3 hi3 (by omega)
        refine ⟨s, i4, h4, Ev.step (fun k => by simp only [spec_l1Bend.l0]; exact rfl) (evPos (by omega) ?_), by omega, hi4⟩
        rw [hd]
        refine Ev.step (fun k => by simp only [spec_l1Bend.j1, hw]; exact rfl) (evPos trivial ?_)
        refine Ev.bind (evId (fun _ => e1)) (Ev.bind (evId (fun _ => e2)) (evNeg (show ¬ ((3 : Nat) : Int) = 0 by decide) (evNeg (show ¬ ((3 : Nat) : Int) = 1 by decide) (evNeg (show ¬ ((3 : Nat) : Int) = 2 by decide) (evPos rfl (Ev.bind (evId (fun _ => rfl)) (evPos x0 (evPos (show (p : Int) ≤ (xs.length : Int) by omega) (Ev.bind (evId (fun _ => rfl)) (evPos ?_ (Ev.bind (evId (fun _ => rfl)) (Ev.bind (evId (fun _ => e3)) (evPos y0 (evPos (y1 (by omega)) (evPos ?_ (Ev.bind (evId (fun _ => rfl)) (Ev.bind (evId (fun _ => rfl)) (evPos ?_ hs4))))))))))))))))))
        · show ([] : List Int).length + (xs.take p).length < _
          rw [List.length_take, List.length_nil]; omega
        · show ([] ++ xs.take p).length < _
          omega
        · show (([] ++ xs.take p) ++ [bt sg y]).length + (xs.drop p).length < _
          omega
      | m + 4, hv, _ => omega
    · have hd : (decide ((xs.length : Int) > 0)) = false := decide_eq_false h0
      refine ⟨strOfNums xs, i, h, Ev.step (fun k => by simp only [spec_l1Bend.l0]; exact rfl) (evPos (by omega) ?_), by rw [strOfNums_le]; omega, hi⟩
      rw [hd]
      exact Ev.step (fun k => by simp only [spec_l1Bend.j1]; exact rfl) (evNeg Bool.false_ne_true (Ev.now _))
theorem spec_l1Bend_ev (b : List Int) (hl : b.length ≤ 1000000000000000000) (i h : Int) (hi : 0 ≤ i) (t sg : ByteArray) (ht : t.size ≤ 90000000) (hs : 0 < sg.size) :
    ∃ s i' h', Ev (fun k => spec_l1Bend.f k b i h t sg) (s, i', h') ∧ s.size ≤ t.size + 2 ∧ 0 ≤ i' := by
  obtain ⟨x, i1, h1, e1, x0, x1, hi1⟩ := spec_l1Below_eq b hl i h hi 3
  have hx := x1 (by decide)
  obtain ⟨n, rfl⟩ := Int.eq_ofNat_of_zero_le x0
  obtain ⟨s, i2, h2, hs2, hz, hi2⟩ := spec_l1Bend_l0_ev b hl sg hs n (bytesOf t) i1 h1 hi1 (by rw [bytesOf_length]; omega)
  rw [bytesOf_length] at hz
  refine ⟨s, i2, h2, ?_, by omega, hi2⟩
  simp only [spec_l1Bend.f]
  exact evPos (by omega) (Ev.bind (evId (fun _ => e1)) hs2)

theorem spec_l1DrawText_l0_ev (b : List Int) (hl : b.length ≤ 1000000000000000000) : ∀ (n : Nat) (acc : List Int) (i h : Int), 0 ≤ i → acc.length + n ≤ 1000 →
    ∃ s i' h', Ev (fun k => spec_l1DrawText.l0 k acc (n : Int) b i h) (s, i', h') ∧ s.size ≤ acc.length + n + 1 ∧ 0 ≤ i'
  | 0, acc, i, h, hi, ha => by
    obtain ⟨x, i1, h1, e1, hi1⟩ := spec_l1Once_eq b hl i h hi 6
    obtain ⟨y, i2, h2, e2, _, _, hi2⟩ := spec_l1Byte_eq b hl i1 h1 hi1
    cases x with
    | true =>
      refine ⟨_, _, _, Ev.step (f := fun _ => some (strOfNums (acc ++ [y % 256]), i2, h2)) (fun k => ?_) (Ev.now _), ?_, hi2⟩
      · simp only [spec_l1DrawText.l0]
        rw [if_neg (by omega), e1]
        simp only [Option.bind_some]
        rw [if_pos trivial, e2]
        simp only [Option.bind_some]
        rw [if_pos (by omega)]
      · rw [strOfNums_le, List.length_append, List.length_singleton]; omega
    | false =>
      refine ⟨_, _, _, Ev.step (f := fun _ => some (strOfNums acc, i1, h1)) (fun k => ?_) (Ev.now _), ?_, hi1⟩
      · simp only [spec_l1DrawText.l0]
        rw [if_neg (by omega), e1]
        simp only [Option.bind_some]
        rw [if_neg (by decide)]
      · rw [strOfNums_le]; omega
  | n + 1, acc, i, h, hi, ha => by
    obtain ⟨x, i1, h1, e1, x0, x1, hi1⟩ := spec_l1Below_eq b hl i h hi 4
    obtain ⟨s, i2, h2, hs, hz, hi2⟩ := spec_l1DrawText_l0_ev b hl n (acc ++ [(wrap64 (97 + x)) % 256]) i1 h1 hi1 (by rw [List.length_append, List.length_singleton]; omega)
    rw [List.length_append, List.length_singleton] at hz
    refine ⟨s, i2, h2, Ev.step (fun k => ?_) hs, by omega, hi2⟩
    simp only [spec_l1DrawText.l0]
    rw [if_pos (by omega), e1]
    simp only [Option.bind_some]
    rw [if_pos (by omega), w64 (x := ((n + 1 : Nat) : Int) - 1) (by omega) (by omega), show ((n + 1 : Nat) : Int) - 1 = (n : Int) by omega]
theorem spec_l1DrawText_ev (b : List Int) (hl : b.length ≤ 1000000000000000000) (i h : Int) (hi : 0 ≤ i) :
    ∃ s i' h', Ev (fun k => spec_l1DrawText.f k b i h) (s, i', h') ∧ s.size ≤ 8 ∧ 0 ≤ i' := by
  obtain ⟨x, i1, h1, e1, x0, x1, hi1⟩ := spec_l1Below_eq b hl i h hi 8
  obtain ⟨n, rfl⟩ := Int.eq_ofNat_of_zero_le x0
  have hn := x1 (by decide)
  obtain ⟨s, i2, h2, hs, hz, hi2⟩ := spec_l1DrawText_l0_ev b hl n [] i1 h1 hi1 (by simp; omega)
  simp only [List.length_nil] at hz
  refine ⟨s, i2, h2, ?_, by omega, hi2⟩
  simp only [spec_l1DrawText.f]
  exact Ev.bind (evId (fun _ => e1)) hs

theorem number_nat (n : Nat) (h : n ≤ 1099511627776) : number (n : Int) = numN n := by
  unfold number
  rw [if_pos (by unfold within; simp only [Bool.and_eq_true, decide_eq_true_eq]; omega), Int.toNat_natCast]
theorem number_le (n : Int) : (number n).length ≤ 6 := by
  unfold number
  by_cases h : within n 0 1099511627776 = true
  · rw [if_pos h]
    have := h
    unfold within at this
    simp only [Bool.and_eq_true, decide_eq_true_eq] at this
    exact numN_len6 (by omega)
  · rw [if_neg h]
    decide
theorem drawNumber_ev (l : List Int) (hl : l.length ≤ 1000000000000000000) : ∃ n : Int, Ev (fun k => spec_DrawNumber.f k l) n := by
  obtain ⟨h, hn⟩ := spec_l1New_ev l hl
  obtain ⟨g, i2, h2, e2, hi2⟩ := spec_l1Once_eq l hl 0 h (Int.le_refl _) 4
  simp only [spec_DrawNumber.f]
  cases g with
  | true =>
    obtain ⟨x, i3, h3, e3, x0, x1, hi3⟩ := spec_l1Below_eq l hl i2 h2 hi2 9
    have hx := x1 (by decide)
    exact ⟨_, Ev.bind hn (Ev.bind (evId (fun _ => e2)) (evPos rfl (Ev.bind (Ev.now _) (Ev.bind (evId (fun _ => e3)) (evPos x0 (evPos (by simpa using hx) (Ev.now _)))))))⟩
  | false =>
    obtain ⟨x, i3, h3, e3, x0, x1, hi3⟩ := spec_l1Below_eq l hl i2 h2 hi2 30
    obtain ⟨y, i4, h4, e4, y0, y1, hi4⟩ := spec_l1Below_eq l hl i3 h3 hi3 (shl .i64 1 (IntKind.u64.wrap (wrap64 (1 + x))))
    have hx := x1 (by decide)
    have hw : 0 ≤ IntKind.u64.wrap (wrap64 (1 + x)) := by
      rw [w64 (by omega) (by omega)]
      simp only [IntKind.wrap, IntKind.signed, IntKind.bits, Bool.false_and, Bool.false_eq_true, if_false]
      omega
    exact ⟨_, Ev.bind hn (Ev.bind (evId (fun _ => e2)) (evNeg Bool.false_ne_true (Ev.bind (evId (fun _ => e3)) (evPos hw (Ev.bind (evId (fun _ => e4)) (Ev.now _))))))⟩
theorem drawReadNumber_ev (l : List Int) (hl : l.length ≤ 1000000000000000000) : ∃ d : List Int, Ev (fun k => spec_DrawReadNumber.f k l) d ∧ (∀ x ∈ d, 0 ≤ x ∧ x < 256) ∧ d.length ≤ 1000000 := by
  obtain ⟨h, hn⟩ := spec_l1New_ev l hl
  obtain ⟨n, hd⟩ := drawNumber_ev l hl
  obtain ⟨s, i1, h1, hs, hz, hi1⟩ := spec_l1DrawText_ev l hl 0 h (Int.le_refl _)
  have hle := number_le n
  have hsz : (strOfNums (number n)).size = (number n).length := strOfNums_le _
  obtain ⟨t, i3, h3, ht, htz, hi3⟩ := spec_l1Bend_ev l hl i1 h1 hi1 (strOfNums (number n) ++ s) (⟨#[0, 128, 255, 1]⟩ : ByteArray) (by rw [ByteArray.size_append]; omega) (by decide)
  rw [ByteArray.size_append] at htz
  simp only [spec_DrawReadNumber.f]
  exact ⟨bytesOf t, Ev.bind hn (Ev.bind hd (Ev.bind (spec_Number_ev n) (Ev.bind hs (evPos (show (strOfNums (number n)).size + s.size ≤ 9223372036854775807 by omega) (Ev.bind ht (evPos (show (t.size : Int) ≤ 140737488351232 by omega) (Ev.now _))))))), bytesOf_byte t, by rw [bytesOf_length]; omega⟩
theorem drawText_ev (l : List Int) (hl : l.length ≤ 1000000000000000000) : ∃ s : ByteArray, Ev (fun k => spec_DrawText.f k l) s ∧ s.size ≤ 3001 := by
  obtain ⟨h, hn⟩ := spec_l1New_ev l hl
  obtain ⟨g, i2, h2, e2, hi2⟩ := spec_l1Once_eq l hl 0 h (Int.le_refl _) 20
  simp only [spec_DrawText.f]
  cases g with
  | true =>
    obtain ⟨x, i3, h3, e3, x0, x1, hi3⟩ := spec_l1Below_eq l hl i2 h2 hi2 2
    have hx := x1 (by decide)
    have hw : wrap64 (3000 + x) = 3000 + x := w64 (by omega) (by omega)
    refine ⟨_, Ev.bind hn (Ev.bind (evId (fun _ => e2)) (evPos rfl (Ev.bind (evId (fun _ => e3)) (evPos ?_ (evPos ?_ (Ev.now _)))))), ?_⟩
    · rw [hw]; omega
    · rw [hw]; omega
    · rw [strOfNums_le, List.length_replicate, hw]; omega
  | false =>
    obtain ⟨s, i1, h1, hs, hz, hi1⟩ := spec_l1DrawText_ev l hl i2 h2 hi2
    exact ⟨s, Ev.bind hn (Ev.bind (evId (fun _ => e2)) (evNeg Bool.false_ne_true (Ev.bind hs (Ev.now _)))), by omega⟩
theorem drawReadText_ev (l : List Int) (hl : l.length ≤ 1000000000000000000) : ∃ d : List Int, Ev (fun k => spec_DrawReadText.f k l) d ∧ (∀ x ∈ d, 0 ≤ x ∧ x < 256) ∧ d.length ≤ 1000000 := by
  obtain ⟨h, hn⟩ := spec_l1New_ev l hl
  obtain ⟨n, hd, _⟩ := drawText_ev l hl
  obtain ⟨s, i1, h1, hs, hz, hi1⟩ := spec_l1DrawText_ev l hl 0 h (Int.le_refl _)
  have hle := text_le n
  have hsz : (strOfNums (text n)).size = (text n).length := strOfNums_le _
  obtain ⟨g, i2, h2, e2, hi2⟩ := spec_l1Once_eq l hl i1 h1 hi1 2
  simp only [spec_DrawReadText.f]
  have ha : (strOfNums (text n) ++ s).size = (strOfNums (text n)).size + s.size := ByteArray.size_append
  cases g with
  | true =>
    obtain ⟨t, i3, h3, ht, htz, hi3⟩ := spec_l1Bend_ev l hl i2 h2 hi2 (strOfNums (text n) ++ s) (⟨#[0, 128, 255, 3, 97]⟩ : ByteArray) (by omega) (by decide)
    exact ⟨bytesOf t, Ev.bind hn (Ev.bind hd (Ev.bind (spec_Text_ev n) (Ev.bind hs (evPos (show (strOfNums (text n)).size + s.size ≤ 9223372036854775807 by omega) (Ev.bind (evId (fun _ => e2)) (evPos rfl (Ev.bind ht (evPos (show (t.size : Int) ≤ 140737488351232 by omega) (Ev.now _))))))))), bytesOf_byte t, by rw [bytesOf_length]; omega⟩
  | false =>
    exact ⟨bytesOf (strOfNums (text n) ++ s), Ev.bind hn (Ev.bind hd (Ev.bind (spec_Text_ev n) (Ev.bind hs (evPos (show (strOfNums (text n)).size + s.size ≤ 9223372036854775807 by omega) (Ev.bind (evId (fun _ => e2)) (evNeg Bool.false_ne_true (evPos (show ((strOfNums (text n) ++ s).size : Int) ≤ 140737488351232 by omega) (Ev.now _)))))))), bytesOf_byte _, by rw [bytesOf_length]; omega⟩
theorem FnRows (l : List Int) (hl : l.length ≤ maxLen) (hw : ∀ e ∈ l, (Lit.int .u8 e).wf = true) : ∃ k, laws_FnRows.f k l = some true := by
  refine Ev.rounds (g := fun k => laws_FnRows.f k l) ?_
  simp only [laws_FnRows.f]
  refine Ev.bind (evId (fun _ => rfl)) ?_
  by_cases hb : (l.length : Int) > 4096
  · exact evPos (decide_eq_true hb) (Ev.now _)
  refine evNeg (by simpa using hb) ?_
  have hl2 : l.length ≤ 1000000000000000000 := by omega
  obtain ⟨n, hn⟩ := drawNumber_ev l hl2
  obtain ⟨d, hd, hdb, hdl⟩ := drawReadNumber_ev l hl2
  obtain ⟨s, hs, hsz⟩ := drawText_ev l hl2
  obtain ⟨e, he, heb, hel⟩ := drawReadText_ev l hl2
  have hnl := number_le n
  have htl := text_le s
  refine Ev.bind hn (Ev.bind (impl_Number_ev n) (Ev.bind hd (Ev.bind (impl_ReadNumber_ev d (by omega) hdb) (Ev.bind hs (Ev.bind (impl_Text_ev s) (Ev.bind he (Ev.bind (impl_ReadText_ev e (by omega) heb) (Ev.bind (spec_ReadNumber_ev d hdb) (evPos rfl (evPos rfl (Ev.bind (spec_Number_ev n) ?_)))))))))))
  refine Ev.step (fun k => by simp only [laws_FnRows.j0]; exact rfl) (evNeg (by simp) (Ev.bind (spec_ReadText_ev e (by omega) heb) (evPos rfl (evPos rfl (Ev.bind (spec_Text_ev s) ?_)))))
  -- how it ends: what was read stands for the bytes it was read from, and a number is laid just where it may be
  have fin : Ev (fun _ : Nat => if n ≥ 0 then (some ((decide (((number n).length : Int) > 0)) == (decide (n ≤ 1099511627776)))) else (some ((decide (((number n).length : Int) > 0)) == false))) true := by
    by_cases h0 : n ≥ 0
    · refine evPos h0 (evEq (Ev.now _) ?_)
      unfold number
      by_cases h1 : n ≤ 1099511627776
      · have hp := numN_pos n.toNat
        rw [if_pos (by unfold within; simp only [Bool.and_eq_true, decide_eq_true_eq]; omega), decide_eq_true h1, decide_eq_true (by omega)]
        rfl
      · rw [if_neg (by unfold within; simp only [Bool.and_eq_true, decide_eq_true_eq]; omega), decide_eq_false h1]
        rfl
    · refine evNeg h0 (evEq (Ev.now _) ?_)
      unfold number
      rw [if_neg (by unfold within; simp only [Bool.and_eq_true, decide_eq_true_eq]; omega)]
      rfl
  have inner : Ev (fun k => if (readText e).2 = 0 then (if n ≥ 0 then (some ((decide (((number n).length : Int) > 0)) == (decide (n ≤ 1099511627776)))) else (some ((decide (((number n).length : Int) > 0)) == false))) else ((impl_Text.f k (readText e).1).bind fun t => (if 0 ≤ (readText e).2 then (if (readText e).2 ≤ (e.length : Int) then (if (strOfNums t).toList = (strOfNums (e.take ((readText e).2 : Int).toNat)).toList then (if n ≥ 0 then (some ((decide (((number n).length : Int) > 0)) == (decide (n ≤ 1099511627776)))) else (some ((decide (((number n).length : Int) > 0)) == false))) else (some false)) else (none)) else (none)))) true := by
    by_cases h0 : (readText e).2 = 0
    · exact evPos h0 fin
    · obtain ⟨u, hu, hr, hxs⟩ := readText_back heb h0
      have hbd := readText_bd e heb
      refine evNeg h0 (Ev.bind (impl_Text_ev _) (evPos hbd.1 (evPos hbd.2 (evPos ?_ fin))))
      rw [hr]
      simp only [Int.toNat_natCast]
      have e1 : text u = textN u := by unfold text; rw [if_neg (by omega)]
      have e2 : e.take (textN u).length = textN u := by
        conv => lhs; rw [hxs]
        exact List.take_left
      rw [e1, e2]
  have tail : Ev (fun k => if (readNumber d).2 = 0 then (if (readText e).2 = 0 then (if n ≥ 0 then (some ((decide (((number n).length : Int) > 0)) == (decide (n ≤ 1099511627776)))) else (some ((decide (((number n).length : Int) > 0)) == false))) else ((impl_Text.f k (readText e).1).bind fun t => (if 0 ≤ (readText e).2 then (if (readText e).2 ≤ (e.length : Int) then (if (strOfNums t).toList = (strOfNums (e.take ((readText e).2 : Int).toNat)).toList then (if n ≥ 0 then (some ((decide (((number n).length : Int) > 0)) == (decide (n ≤ 1099511627776)))) else (some ((decide (((number n).length : Int) > 0)) == false))) else (some false)) else (none)) else (none)))) else ((impl_Number.f k (readNumber d).1).bind fun t => (if 0 ≤ (readNumber d).2 then (if (readNumber d).2 ≤ (d.length : Int) then (if (strOfNums t).toList = (strOfNums (d.take ((readNumber d).2 : Int).toNat)).toList then (if (readText e).2 = 0 then (if n ≥ 0 then (some ((decide (((number n).length : Int) > 0)) == (decide (n ≤ 1099511627776)))) else (some ((decide (((number n).length : Int) > 0)) == false))) else ((impl_Text.f k (readText e).1).bind fun t => (if 0 ≤ (readText e).2 then (if (readText e).2 ≤ (e.length : Int) then (if (strOfNums t).toList = (strOfNums (e.take ((readText e).2 : Int).toNat)).toList then (if n ≥ 0 then (some ((decide (((number n).length : Int) > 0)) == (decide (n ≤ 1099511627776)))) else (some ((decide (((number n).length : Int) > 0)) == false))) else (some false)) else (none)) else (none)))) else (some false)) else (none)) else (none)))) true := by
    by_cases h0 : (readNumber d).2 = 0
    · exact evPos h0 inner
    · obtain ⟨u, hu, hr, hxs⟩ := readNumber_back hdb h0
      have hbd := readNumber_bd d hdb
      refine evNeg h0 (Ev.bind (impl_Number_ev _) (evPos hbd.2.1 (evPos hbd.2.2.1 (evPos ?_ inner))))
      rw [hr]
      simp only [Int.toNat_natCast]
      have e2 : d.take (numN u).length = numN u := by
        conv => lhs; rw [hxs]
        exact List.take_left
      rw [number_nat u hu, e2]
  have t3 : Ev (fun k => laws_FnRows.j3 k n (number n) d (readNumber d).1 (readNumber d).2 e (readText e).1 (readText e).2) true := Ev.step (fun k => by simp only [laws_FnRows.j3]) tail
  -- a text is read from what it is laid as
  have t2 : Ev (fun k => laws_FnRows.j2 k n (number n) d (readNumber d).1 (readNumber d).2 s (text s) e (readText e).1 (readText e).2) true := by
    refine Ev.step (fun k => by simp only [laws_FnRows.j2]; exact rfl) ?_
    by_cases h0 : ((text s).length : Int) > 0
    · have hs3 : ¬ (s.size : Int) > 3000 := by
        intro h
        unfold text at h0
        rw [if_pos h] at h0
        simp at h0
      have e1 : text s = textN s := by unfold text; rw [if_neg hs3]
      have hr : readText (text s ++ d) = (s, ((text s).length : Int)) := by rw [e1]; exact readText_textN s (by omega) d
      have hby : ∀ x ∈ ([] ++ text s) ++ d, 0 ≤ x ∧ x < 256 := by
        intro x hx
        rw [List.nil_append, List.mem_append] at hx
        rcases hx with h | h
        · rw [e1] at h; exact textN_byte s x h
        · exact hdb x h
      have ir := impl_ReadText_ev (([] ++ text s) ++ d) (by simp; omega) hby
      rw [List.nil_append, hr] at ir
      refine evPos h0 (Ev.bind (Ev.now _) (evPos (by simp; omega) (Ev.bind (Ev.now _) (evPos (by simp; omega) (Ev.bind ir (evPos rfl (evPos rfl t3)))))))
    · exact evNeg h0 t3
  -- a number is read from what it is laid as
  refine Ev.step (fun k => by simp only [laws_FnRows.j1]; exact rfl) (evNeg (by simp) ?_)
  by_cases h0 : ((number n).length : Int) > 0
  · have hin : 0 ≤ n ∧ n ≤ 1099511627776 := by
      unfold number at h0
      by_cases h : within n 0 1099511627776 = true
      · unfold within at h
        simp only [Bool.and_eq_true, decide_eq_true_eq] at h
        exact h
      · rw [if_neg h] at h0
        simp at h0
    obtain ⟨m, rfl⟩ := Int.eq_ofNat_of_zero_le hin.1
    have hm : m ≤ 1099511627776 := by omega
    have hr : readNumber (number (m : Int) ++ d) = ((m : Int), ((number (m : Int)).length : Int)) := by rw [number_nat m hm]; exact readNumber_numN m hm d
    have hby : ∀ x ∈ ([] ++ number (m : Int)) ++ d, 0 ≤ x ∧ x < 256 := by
      intro x hx
      rw [List.nil_append, List.mem_append, number_nat m hm] at hx
      rcases hx with h | h
      · exact numN_byte m x h
      · exact hdb x h
    have ir := impl_ReadNumber_ev (([] ++ number (m : Int)) ++ d) (by simp; omega) hby
    rw [List.nil_append, hr] at ir
    exact evPos h0 (Ev.bind (Ev.now _) (evPos (by simp; omega) (Ev.bind (Ev.now _) (evPos (by simp; omega) (Ev.bind ir (evPos rfl (evPos rfl t2)))))))
  · exact evNeg h0 t2
end Go.Proofs.Ythkhfmomibfkjaa.Pure

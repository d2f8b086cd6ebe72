/- Proves the plain law behind this statement of the seat (what its functions come to, over numbers and lists): that it answers true. No condition beyond the statement's own. -/
import Derived.Test.YthkhfmomibfkjaaPFnTextsx
import Derived.Test.YthkhfmomibfkjaaLib
import Derived.Test.YthkhfmomibfkjaaLibHit
import Derived.Test.YthkhfmomibfkjaaLibRow
import Derived.Test.YthkhfmomibfkjaaLibStr
namespace Go.Proofs.Ythkhfmomibfkjaa.Pure
open Go Go.RowKit Go.Proofs.Ythkhfmomibfkjaa.PFnTexts Go.Proofs.YthkhfmomibfkjaaW.PrintWords Go.Proofs.YthkhfmomibfkjaaW.PrintLast Go.Proofs.YthkhfmomibfkjaaW.PrintMore Go.Proofs.Ythkhfmomibfkjaa.Lib
set_option linter.unusedVariables false
set_option linter.unusedSimpArgs false
theorem spec_l1Number_l0_ev (n : Nat) : ∀ (acc : List Int), acc.length + n ≤ 100000000000000 → Ev (fun k => spec_l1Number.l0 k (n : Int) acc) (acc ++ numN n) := by
  induction n using Nat.strongRecOn with
  | ind n ih =>
    intro acc hl
    by_cases h : n < 128
    · refine Ev.step (f := fun _ => some _) (fun k => ?_) (Ev.now _)
      simp only [spec_l1Number.l0]
      rw [if_neg (by omega), if_pos (by omega), numN_small h, Int.emod_eq_of_lt (by omega) (by omega)]
    · have := ih (n / 128) (by omega) (acc ++ [((n % 128 + 128 : Nat) : Int)]) (by simp; omega)
      rw [List.append_assoc, List.singleton_append, ← numN_big h] at this
      refine Ev.step (f := fun k => spec_l1Number.l0 k ((n / 128 : Nat) : Int) (acc ++ [((n % 128 + 128 : Nat) : Int)])) (fun k => ?_) this
      simp only [spec_l1Number.l0]
      rw [if_pos (by omega), if_pos (by omega), Int.tdiv_eq_ediv_of_nonneg (by omega), Int.tmod_eq_emod_of_nonneg (by omega), w64 (by omega) (by omega), w64 (by omega) (by omega)]
      congr 1
      rw [Int.emod_eq_of_lt (by omega) (by omega)]
      congr 1
theorem spec_l1Number_ev (n : Nat) (h : n ≤ 100000000000000) : Ev (fun k => spec_l1Number.f k (n : Int)) (numN n) := by
  have := spec_l1Number_l0_ev n [] (by simpa using h)
  exact this

theorem impl_within_ev (a b c : Int) : Ev (fun _ => impl_within.f a b c) (within a b c) := by
  refine evId (fun _ => ?_)
  unfold impl_within.f within
  by_cases h : a ≥ b
  · rw [if_pos h, decide_eq_true (show b ≤ a from h), Bool.true_and]
  · rw [if_neg h, decide_eq_false (show ¬ b ≤ a from h), Bool.false_and]

theorem impl_Number_l0_ev (n : Nat) : ∀ (acc : List Int), acc.length + n ≤ 100000000000000 → Ev (fun k => impl_Number.l0 k (n : Int) acc) (acc ++ numN n) := by
  induction n using Nat.strongRecOn with
  | ind n ih =>
    intro acc hl
    by_cases h : n < 128
    · refine Ev.step (f := fun _ => some _) (fun k => ?_) (Ev.now _)
      simp only [impl_Number.l0]
      rw [if_neg (by omega), if_pos (by omega), numN_small h, Int.emod_eq_of_lt (by omega) (by omega)]
    · have := ih (n / 128) (by omega) (acc ++ [((n % 128 + 128 : Nat) : Int)]) (by simp; omega)
      rw [List.append_assoc, List.singleton_append, ← numN_big h] at this
      refine Ev.step (f := fun k => impl_Number.l0 k ((n / 128 : Nat) : Int) (acc ++ [((n % 128 + 128 : Nat) : Int)])) (fun k => ?_) this
      simp only [impl_Number.l0]
      rw [if_pos (by omega), if_pos (by omega), or128 (by omega) (by omega)]
      congr 3
      omega
theorem impl_Number_ev (n : Int) : Ev (fun k => impl_Number.f k n) (number n) := by
  simp only [impl_Number.f]
  refine Ev.bind (impl_within_ev n 0 1099511627776) ?_
  unfold number
  by_cases h : within n 0 1099511627776 = true
  · rw [if_pos h]
    refine evPos h ?_
    simp only [within, Bool.and_eq_true, decide_eq_true_eq] at h
    have e := impl_Number_l0_ev n.toNat [] (by simp; omega)
    rw [show ((n.toNat : Nat) : Int) = n by omega] at e
    exact e
  · rw [if_neg h]
    exact evNeg h (Ev.now _)
theorem impl_Number_nat (n : Nat) (h : n ≤ 1099511627776) : Ev (fun k => impl_Number.f k (n : Int)) (numN n) := by
  have e := impl_Number_ev (n : Int)
  unfold number at e
  rw [if_pos (by simp [within]; omega)] at e
  exact e

theorem spec_l1Text_ev (s : ByteArray) (h : s.size ≤ 1099511627776) : Ev (fun k => spec_l1Text.f k s) (textN s) := by
  simp only [spec_l1Text.f]
  have hl := numN_le10 (n := s.size) (by omega)
  exact Ev.bind (spec_l1Number_ev s.size (by omega)) (evPos (by omega) (Ev.now _))
theorem impl_Text_ev (s : ByteArray) : Ev (fun k => impl_Text.f k s) (text s) := by
  simp only [impl_Text.f]
  unfold text
  by_cases h : (s.size : Int) > 3000
  · rw [if_pos h]; exact evPos h (Ev.now _)
  · rw [if_neg h]
    have hl := numN_le10 (n := s.size) (by omega)
    exact evNeg h (Ev.bind (impl_Number_nat s.size (by omega)) (evPos (by omega) (Ev.now _)))

def texL (acc : List Int) : List ByteArray → List Int
  | [] => acc
  | s :: xs => if (s.size : Int) > 3000 then [] else texL (acc ++ textN s) xs
def texts (xs : List ByteArray) : List Int := if (xs.length : Int) > 200 then [] else texL (numN xs.length) xs
theorem texL_le : ∀ (xs : List ByteArray) (acc : List Int), (texL acc xs).length ≤ acc.length + 3008 * xs.length
  | [], acc => by simp [texL]
  | s :: xs, acc => by
    unfold texL
    split
    · simp
    · have := texL_le xs (acc ++ textN s)
      have h2 := numN_le10 (n := s.size) (by omega)
      rw [List.length_append, textN_length] at this
      rw [List.length_cons]
      omega
theorem texts_le (xs : List ByteArray) : (texts xs).length ≤ 700000 := by
  unfold texts
  split
  · simp
  · have := texL_le xs (numN xs.length)
    have h2 := numN_le10 (n := xs.length) (by omega)
    omega
theorem textN_le {s : ByteArray} (h : ¬ (s.size : Int) > 3000) : (textN s).length ≤ 3008 := by
  rw [textN_length]
  have := numN_le10 (n := s.size) (by omega)
  omega
theorem spec_Texts_l0_ev (xs : List ByteArray) (hl : xs.length ≤ 1000) : ∀ (bs : List ByteArray) (i : Nat) (acc : List Int), xs.drop i = bs → acc.length + 3008 * bs.length ≤ 100000000 → Ev (fun k => spec_Texts.l0 k xs acc i) (texL acc bs)
  | [], i, acc, hd, ha => by
    have := drop_nil hd
    refine Ev.step (f := fun _ => some acc) (fun k => ?_) (Ev.now _)
    simp only [spec_Texts.l0]
    rw [if_neg (by omega)]
  | s :: bs, i, acc, hd, ha => by
    obtain ⟨h2, h3, h4⟩ := drop_cons hd
    have e1 : rdOf ByteArray.empty xs (i : Int) = s := getD_at h4
    rw [List.length_cons] at ha
    unfold texL
    by_cases hs : (s.size : Int) > 3000
    · rw [if_pos hs]
      refine Ev.step (f := fun _ => some []) (fun k => ?_) (Ev.now _)
      simp only [spec_Texts.l0]
      rw [if_pos (by omega), if_pos (by omega), e1, if_pos hs]
    · rw [if_neg hs]
      have hle := textN_le hs
      refine Ev.step (f := fun k => (spec_l1Text.f k s).bind fun t => if acc.length + t.length < 140737488355328 then spec_Texts.l0 k xs (acc ++ t) ((i + 1 : Nat) : Int) else none) (fun k => ?_) (Ev.bind (spec_l1Text_ev s (by omega)) (evPos (by omega) (spec_Texts_l0_ev xs hl bs (i + 1) _ h3 (by rw [List.length_append]; omega))))
      simp only [spec_Texts.l0]
      rw [if_pos (by omega), if_pos (by omega), e1, if_neg hs, w64s (by omega)]
theorem spec_Texts_ev (xs : List ByteArray) : Ev (fun k => spec_Texts.f k xs) (texts xs) := by
  simp only [spec_Texts.f]
  unfold texts
  by_cases h : (xs.length : Int) > 200
  · rw [if_pos h]; exact evPos h (Ev.now _)
  · rw [if_neg h]
    have h2 := numN_le10 (n := xs.length) (by omega)
    exact evNeg h (Ev.bind (spec_l1Number_ev xs.length (by omega)) (spec_Texts_l0_ev xs (by omega) xs 0 _ rfl (by omega)))
theorem impl_Texts_l0_ev (xs : List ByteArray) (hl : xs.length ≤ 1000) : ∀ (bs : List ByteArray) (i : Nat) (acc : List Int), xs.drop i = bs → acc.length + 3008 * bs.length ≤ 100000000 → Ev (fun k => impl_Texts.l0 k acc xs (xs.length : Int) i) (texL acc bs)
  | [], i, acc, hd, ha => by
    have := drop_nil hd
    refine Ev.step (f := fun _ => some acc) (fun k => ?_) (Ev.now _)
    simp only [impl_Texts.l0]
    rw [if_neg (by omega)]
  | s :: bs, i, acc, hd, ha => by
    obtain ⟨h2, h3, h4⟩ := drop_cons hd
    have e1 : rdOf ByteArray.empty xs (i : Int) = s := getD_at h4
    rw [List.length_cons] at ha
    unfold texL
    by_cases hs : (s.size : Int) > 3000
    · rw [if_pos hs]
      refine Ev.step (f := fun _ => some []) (fun k => ?_) (Ev.now _)
      simp only [impl_Texts.l0]
      rw [if_pos (by omega), if_pos (by omega), if_pos (by omega), e1, if_pos hs]
    · rw [if_neg hs]
      have hle := textN_le hs
      have ht : text s = textN s := if_neg hs
      refine Ev.step (f := fun k => (impl_Text.f k s).bind fun t => if acc.length + t.length < 140737488355328 then impl_Texts.l0 k (acc ++ t) xs (xs.length : Int) ((i + 1 : Nat) : Int) else none) (fun k => ?_) (Ev.bind (evEq (impl_Text_ev s) ht) (evPos (by omega) (impl_Texts_l0_ev xs hl bs (i + 1) _ h3 (by rw [List.length_append]; omega))))
      simp only [impl_Texts.l0]
      rw [if_pos (by omega), if_pos (by omega), if_pos (by omega), e1, if_neg hs, w64s (by omega)]
theorem impl_Texts_ev (xs : List ByteArray) : Ev (fun k => impl_Texts.f k xs) (texts xs) := by
  simp only [impl_Texts.f]
  unfold texts
  by_cases h : (xs.length : Int) > 200
  · rw [if_pos h]; exact evPos h (Ev.now _)
  · rw [if_neg h]
    have h2 := numN_le10 (n := xs.length) (by omega)
    exact evNeg h (Ev.bind (impl_Number_nat xs.length (by omega)) (impl_Texts_l0_ev xs (by omega) xs 0 _ rfl (by omega)))

/-! numbers and texts are read from what they are laid as, and laid as what they are read from -/
theorem mulsplit (n : Nat) (p : Int) : ((n % 128 : Nat) : Int) * p + ((n / 128 : Nat) : Int) * (p * 128) = (n : Int) * p := by
  have h : (n : Int) = ((n % 128 : Nat) : Int) + 128 * ((n / 128 : Nat) : Int) := by omega
  generalize ((n % 128 : Nat) : Int) = a at h ⊢
  generalize ((n / 128 : Nat) : Int) = b at h ⊢
  rw [h, Int.add_mul, Int.mul_comm p 128, ← Int.mul_assoc, Int.mul_comm b 128]
theorem rnum_numN : ∀ (n : Nat) (i : Nat) (p acc : Int) (ys : List Int), PW i p → 0 ≤ acc → i + (numN n).length ≤ 6 → acc + (n : Int) * p ≤ 1099511627776 → (0 < i → n ≠ 0) → rnum i p acc (numN n ++ ys) = (acc + (n : Int) * p, ((i + (numN n).length : Nat) : Int)) := by
  intro n
  induction n using Nat.strongRecOn with
  | ind n ih =>
    intro i p acc ys hP ha hl hm hz
    by_cases h : n < 128
    · rw [numN_small h] at hl ⊢
      rw [List.singleton_append, rnum, if_pos (by simp at hl; omega), if_pos (by omega)]
      have e : (n : Int) % 128 = n := by omega
      rw [e, if_neg (fun hh => hh.elim (fun hh => by omega) (fun h12 => hz h12.1 (by have := h12.2; omega)))]
      simp
    · rw [numN_big h] at hl ⊢
      simp only [List.length_cons] at hl ⊢
      have e : (((n % 128 + 128 : Nat) : Int)) % 128 = ((n % 128 : Nat) : Int) := by omega
      have hs := mulsplit n p
      have hp := hP.pos
      have hq : 0 ≤ ((n % 128 : Nat) : Int) * p := Int.mul_nonneg (by omega) (by omega)
      rw [List.cons_append, rnum, if_pos (by omega), if_neg (by omega), e]
      rw [ih (n / 128) (by omega) (i + 1) (p * 128) _ ys hP.step (by omega) (by omega) (by omega) (by omega)]
      congr 1
      · omega
      · omega
theorem numN_len6 {n : Nat} (h : n ≤ 1099511627776) : (numN n).length ≤ 6 := numN_le 5 n (by omega)
theorem readNumber_numN (n : Nat) (h : n ≤ 1099511627776) (ys : List Int) : readNumber (numN n ++ ys) = ((n : Int), ((numN n).length : Int)) := by
  unfold readNumber
  rw [rnum_numN n 0 1 0 ys PW.zero (by decide) (by have := numN_len6 h; omega) (by omega) (fun h => absurd h (by decide))]
  simp
theorem rnum_back : ∀ (xs : List Int) (i : Nat) (p acc : Int), (∀ x ∈ xs, 0 ≤ x ∧ x < 256) → PW i p → 0 ≤ acc → (rnum i p acc xs).2 ≠ 0 →
    ∃ n : Nat, (rnum i p acc xs).1 = acc + (n : Int) * p ∧ (rnum i p acc xs).2 = ((i + (numN n).length : Nat) : Int) ∧ xs.take (numN n).length = numN n ∧ (0 < i → n ≠ 0)
  | [], i, p, acc, hx, hP, ha, h => absurd rfl h
  | b :: bs, i, p, acc, hx, hP, ha, h => by
    obtain ⟨b0, b1⟩ := hx b List.mem_cons_self
    rw [rnum] at h ⊢
    by_cases h6 : i < 6
    · rw [if_pos h6] at h ⊢
      by_cases hb : b < 128
      · rw [if_pos hb] at h ⊢
        by_cases hc : acc + b % 128 * p > 1099511627776 ∨ (0 < i ∧ b = 0)
        · rw [if_pos hc] at h; exact absurd rfl h
        · rw [if_neg hc] at h ⊢
          refine ⟨b.toNat, ?_, ?_, ?_, ?_⟩
          · have e : b % 128 = (b.toNat : Int) := by omega
            rw [e]
          · rw [numN_small (by omega)]; simp
          · rw [numN_small (by omega)]; simp; omega
          · intro h1 h2
            exact hc (Or.inr ⟨h1, by omega⟩)
      · rw [if_neg hb] at h ⊢
        have hm : 0 ≤ b % 128 * p := (digit_mul b p hP.pos).1
        obtain ⟨n, h1, h2, h3, h4⟩ := rnum_back bs (i + 1) (p * 128) (acc + b % 128 * p) (fun x hx' => hx x (List.mem_cons_of_mem _ hx')) hP.step (by generalize b % 128 * p = q at hm ⊢; omega) h
        have hn : n ≠ 0 := h4 (by omega)
        have hbig : ¬ (b % 128).toNat + 128 * n < 128 := by omega
        have ed : ((b % 128).toNat + 128 * n) / 128 = n := by omega
        have em : ((b % 128).toNat + 128 * n) % 128 = (b % 128).toNat := by omega
        have e5 : numN ((b % 128).toNat + 128 * n) = b :: numN n := by
          rw [numN_big hbig, ed, em]
          congr 1
          omega
        refine ⟨(b % 128).toNat + 128 * n, ?_, ?_, ?_, fun _ => by omega⟩
        · rw [h1]
          have hs := mulsplit ((b % 128).toNat + 128 * n) p
          rw [ed, em, show (((b % 128).toNat : Nat) : Int) = b % 128 by omega] at hs
          rw [← hs, Int.add_assoc]
        · rw [h2, e5, List.length_cons]
          congr 1
          omega
        · rw [e5, List.length_cons, List.take_succ_cons, h3]
    · rw [if_neg h6] at h; exact absurd rfl h
theorem readNumber_back {xs : List Int} (hx : ∀ x ∈ xs, 0 ≤ x ∧ x < 256) (h : (readNumber xs).2 ≠ 0) :
    ∃ n : Nat, n ≤ 1099511627776 ∧ readNumber xs = ((n : Int), ((numN n).length : Int)) ∧ xs = numN n ++ xs.drop (numN n).length := by
  obtain ⟨n, h1, h2, h3, _⟩ := rnum_back xs 0 1 0 hx PW.zero (by decide) h
  have hb := readNumber_bd xs hx
  have e1 : (readNumber xs).1 = (n : Int) := by unfold readNumber; rw [h1]; omega
  have e2 : (readNumber xs).2 = ((numN n).length : Int) := by unfold readNumber; rw [h2]; omega
  refine ⟨n, by omega, by rw [← e1, ← e2], ?_⟩
  conv => lhs; rw [← List.take_append_drop (numN n).length xs, h3]
theorem readText_textN (s : ByteArray) (h : s.size ≤ 3000) (ys : List Int) : readText (textN s ++ ys) = (s, ((textN s).length : Int)) := by
  have hl := textN_length s
  have hp := numN_pos s.size
  have e : readNumber (textN s ++ ys) = ((s.size : Int), ((numN s.size).length : Int)) := by
    unfold textN
    rw [List.append_assoc]
    exact readNumber_numN s.size (by omega) _
  unfold readText
  rw [e]
  simp only
  rw [if_neg (fun hh => by rw [List.length_append] at hh; omega)]
  rw [show (((numN s.size).length : Int) + (s.size : Int)).toNat = (textN s).length by omega, show (((numN s.size).length : Int)).toNat = (numN s.size).length by omega]
  rw [List.take_left]
  have e2 : (textN s).drop (numN s.size).length = bytesOf s := by unfold textN; rw [List.drop_left]
  rw [e2, strOfNums_bytesOf]
  congr 1
  omega
theorem readText_back {xs : List Int} (hx : ∀ x ∈ xs, 0 ≤ x ∧ x < 256) (h : (readText xs).2 ≠ 0) :
    ∃ s : ByteArray, s.size ≤ 3000 ∧ readText xs = (s, ((textN s).length : Int)) ∧ xs = textN s ++ xs.drop (textN s).length := by
  by_cases hc : (readNumber xs).2 = 0 ∨ (readNumber xs).1 > 3000 ∨ (readNumber xs).1 > (xs.length : Int) - (readNumber xs).2
  · unfold readText at h
    rw [if_pos hc] at h; exact absurd rfl h
  · have hc1 : ¬ (readNumber xs).2 = 0 := fun hh => hc (Or.inl hh)
    have hc2 : ¬ (readNumber xs).1 > 3000 := fun hh => hc (Or.inr (Or.inl hh))
    have hc3 : ¬ (readNumber xs).1 > (xs.length : Int) - (readNumber xs).2 := fun hh => hc (Or.inr (Or.inr hh))
    obtain ⟨n, hn, e, hxs⟩ := readNumber_back hx hc1
    rw [e] at hc2 hc3
    simp only at hc2 hc3
    have ea : (((numN n).length : Int) + (n : Int)).toNat = (numN n).length + n := by omega
    have eb : (((numN n).length : Int)).toNat = (numN n).length := by omega
    have hy : ∀ x ∈ (xs.take ((numN n).length + n)).drop (numN n).length, 0 ≤ x ∧ x < 256 := fun x h' => hx x (List.mem_of_mem_take (List.mem_of_mem_drop h'))
    have hlen : ((xs.take ((numN n).length + n)).drop (numN n).length).length = n := by simp; omega
    have hsz : (strOfNums ((xs.take ((numN n).length + n)).drop (numN n).length)).size = n := by rw [strOfNums_size, hlen]
    have et : textN (strOfNums ((xs.take ((numN n).length + n)).drop (numN n).length)) = xs.take ((numN n).length + n) := by
      have h1 : xs.take (numN n).length = numN n := by
        conv => lhs; rw [hxs]
        exact List.take_left
      unfold textN
      rw [hsz, bytesOf_strOfNums hy]
      conv => rhs; rw [← List.take_append_drop (numN n).length (xs.take ((numN n).length + n))]
      rw [List.take_take, Nat.min_eq_left (by omega), h1]
    have el : (textN (strOfNums ((xs.take ((numN n).length + n)).drop (numN n).length))).length = (numN n).length + n := by rw [textN_length, hsz]
    refine ⟨strOfNums ((xs.take ((numN n).length + n)).drop (numN n).length), by rw [hsz]; omega, ?_, ?_⟩
    · unfold readText
      rw [if_neg hc, e]
      simp only
      rw [ea, eb, el]
      rfl
    · rw [el]
      conv => lhs; rw [← List.take_append_drop ((numN n).length + n) xs]
      rw [et]

theorem texL_flat : ∀ (xs : List ByteArray) (acc : List Int), (∀ s ∈ xs, s.size ≤ 3000) → texL acc xs = acc ++ (xs.map textN).flatten
  | [], acc, _ => by simp [texL]
  | s :: xs, acc, h => by
    have hs := h s List.mem_cons_self
    unfold texL
    rw [if_neg (by omega), texL_flat xs _ (fun x hx => h x (List.mem_cons_of_mem _ hx))]
    simp
theorem texL_ne : ∀ (xs : List ByteArray) (acc : List Int), texL acc xs ≠ [] → ∀ s ∈ xs, s.size ≤ 3000
  | [], acc, _ => by simp
  | s :: xs, acc, h => by
    unfold texL at h
    by_cases hs : (s.size : Int) > 3000
    · rw [if_pos hs] at h; exact absurd rfl h
    · rw [if_neg hs] at h
      intro x hx
      rcases List.mem_cons.1 hx with rfl | hx
      · omega
      · exact texL_ne xs _ h x hx
theorem texts_some {l : List ByteArray} (h : texts l ≠ []) : l.length ≤ 200 ∧ (∀ s ∈ l, s.size ≤ 3000) ∧ texts l = numN l.length ++ (l.map textN).flatten := by
  unfold texts at h ⊢
  by_cases hl : (l.length : Int) > 200
  · rw [if_pos hl] at h; exact absurd rfl h
  · rw [if_neg hl] at h ⊢
    have hs := texL_ne l _ h
    exact ⟨by omega, hs, texL_flat l _ hs⟩
theorem texts_of {l : List ByteArray} (h1 : l.length ≤ 200) (h2 : ∀ s ∈ l, s.size ≤ 3000) : texts l = numN l.length ++ (l.map textN).flatten := by
  unfold texts
  rw [if_neg (by omega), texL_flat l _ h2]
theorem textN_pos (s : ByteArray) : 0 < (textN s).length := by
  have := numN_pos s.size
  rw [textN_length]; omega
theorem rts_flat : ∀ (l : List ByteArray) (r : List Int), (∀ s ∈ l, s.size ≤ 3000) → rts l.length ((l.map textN).flatten ++ r) = some (l, r)
  | [], r, _ => rfl
  | s :: l, r, h => by
    have e := readText_textN s (h s List.mem_cons_self) ((l.map textN).flatten ++ r)
    have hp := textN_pos s
    rw [List.map_cons, List.flatten_cons, List.append_assoc, List.length_cons, rts, e]
    simp only
    rw [if_neg (by omega), Int.toNat_natCast, List.drop_left, rts_flat l r (fun x hx => h x (List.mem_cons_of_mem _ hx))]
    rfl
theorem rts_back : ∀ (n : Nat) (xs : List Int) (l : List ByteArray) (r : List Int), (∀ x ∈ xs, 0 ≤ x ∧ x < 256) → rts n xs = some (l, r) → xs = (l.map textN).flatten ++ r ∧ l.length = n ∧ ∀ s ∈ l, s.size ≤ 3000
  | 0, xs, l, r, _, h => by
    simp only [rts, Option.some.injEq, Prod.mk.injEq] at h
    obtain ⟨rfl, rfl⟩ := h
    exact ⟨rfl, rfl, by simp⟩
  | n + 1, xs, l, r, hx, h => by
    rw [rts] at h
    by_cases h0 : (readText xs).2 = 0
    · rw [if_pos h0] at h; cases h
    · rw [if_neg h0] at h
      obtain ⟨⟨l', r'⟩, h1, h2⟩ := Option.map_eq_some_iff.1 h
      simp only [Prod.mk.injEq] at h2
      obtain ⟨rfl, rfl⟩ := h2
      obtain ⟨s, hs, e, hxs⟩ := readText_back hx h0
      rw [e] at h1
      simp only [Int.toNat_natCast] at h1
      obtain ⟨h3, h4, h5⟩ := rts_back n _ l' r' (fun x h' => hx x (List.mem_of_mem_drop h')) h1
      rw [e]
      simp only
      refine ⟨?_, by rw [List.length_cons, h4], ?_⟩
      · rw [List.map_cons, List.flatten_cons, List.append_assoc, ← h3, ← hxs]
      · intro x hx'
        rcases List.mem_cons.1 hx' with rfl | hx'
        · exact hs
        · exact h5 x hx'
theorem readTexts_texts {l : List ByteArray} (h : texts l ≠ []) : readTexts (texts l) = (l, true) := by
  obtain ⟨h1, h2, h3⟩ := texts_some h
  have hp := numN_pos l.length
  have e := readNumber_numN l.length (by omega) (l.map textN).flatten
  have e2 := rts_flat l [] h2
  rw [List.append_nil] at e2
  rw [h3]
  unfold readTexts
  rw [e]
  simp only
  rw [if_neg (fun h => by omega), Int.toNat_natCast, Int.toNat_natCast, List.drop_left, e2]
theorem readTexts_back {d : List Int} (hd : ∀ x ∈ d, 0 ≤ x ∧ x < 256) : readTexts d = ([], false) ∨ ∃ l, readTexts d = (l, true) ∧ texts l = d ∧ l.length ≤ 200 ∧ ∀ s ∈ l, s.size ≤ 3000 := by
  unfold readTexts
  by_cases h0 : (readNumber d).2 = 0 ∨ (readNumber d).1 > 200
  · rw [if_pos h0]; exact Or.inl rfl
  · rw [if_neg h0]
    obtain ⟨n, hn, e, hxs⟩ := readNumber_back hd (fun h => h0 (Or.inl h))
    rw [e] at h0 ⊢
    simp only [Int.toNat_natCast] at h0 ⊢
    cases hr : rts n (d.drop (numN n).length) with
    | none => exact Or.inl rfl
    | some p =>
      obtain ⟨l, r⟩ := p
      cases r with
      | cons y r => exact Or.inl rfl
      | nil =>
        obtain ⟨h1, h2, h3⟩ := rts_back n _ l [] (fun x h' => hd x (List.mem_of_mem_drop h')) hr
        rw [List.append_nil] at h1
        have hl : l.length ≤ 200 := by
          have : ¬ ((n : Int) > 200) := fun h => h0 (Or.inr h)
          omega
        refine Or.inr ⟨l, rfl, ?_, hl, h3⟩
        rw [texts_of hl h3, ← h1, h2, ← hxs]
theorem texts_byte (l : List ByteArray) : ∀ x ∈ texts l, 0 ≤ x ∧ x < 256 := by
  by_cases h : texts l = []
  · rw [h]; simp
  · obtain ⟨_, _, e⟩ := texts_some h
    rw [e]
    intro x hx
    rcases List.mem_append.1 hx with hx | hx
    · exact numN_byte _ x hx
    · obtain ⟨q, hq, hx⟩ := List.mem_flatten.1 hx
      obtain ⟨s, _, rfl⟩ := List.mem_map.1 hq
      exact textN_byte s x hx
theorem readTexts_part {l : List ByteArray} (h : texts l ≠ []) (i : Nat) (hi : i < (texts l).length) : (readTexts ((texts l).take i)).2 = false := by
  rcases readTexts_back (d := (texts l).take i) (fun x hx => texts_byte l x (List.mem_of_mem_take hx)) with h1 | ⟨m, h1, h2, h3, h4⟩
  · rw [h1]
  · exfalso
    obtain ⟨k1, k2, k3⟩ := texts_some h
    have e1 : texts l = texts m ++ (texts l).drop i := by rw [h2, List.take_append_drop]
    rw [texts_of h3 h4, List.append_assoc] at e1
    have r1 := readNumber_numN l.length (by omega) (l.map textN).flatten
    rw [← k3, e1, readNumber_numN m.length (by omega)] at r1
    have hlen : m.length = l.length := by
      have := congrArg Prod.fst r1
      simp only at this
      omega
    have e2 := k3.symm.trans e1
    rw [hlen] at e2
    have e3 := List.append_cancel_left e2
    have q1 := rts_flat l [] k2
    rw [List.append_nil, e3, ← hlen, rts_flat m _ h4] at q1
    simp only [Option.some.injEq, Prod.mk.injEq] at q1
    have := congrArg List.length q1.2
    rw [List.length_drop, List.length_nil] at this
    omega

theorem spec_ReadNumber_l0_ev (xs : List Int) (hx : ∀ x ∈ xs, 0 ≤ x ∧ x < 256) : ∀ (bs : List Int) (i : Nat) (p n : Int), xs.drop i = bs → PW i p → i ≤ 6 → 0 ≤ n → n < p → Ev (fun k => spec_ReadNumber.l0 k xs n p i) (rnum i p n bs)
  | [], i, p, n, hd, hP, hi, h0, h1 => by
    have := drop_nil hd
    refine Ev.step (f := fun k => spec_ReadNumber.j1 k xs n p i false) (fun k => ?_) (Ev.step (f := fun _ => some (0, 0)) (fun k => ?_) (Ev.now _))
    · simp only [spec_ReadNumber.l0]
      rw [if_neg (by omega)]
    · simp only [spec_ReadNumber.j1]
      rw [if_neg (by decide)]
  | b :: bs, i, p, n, hd, hP, hi, h0, h1 => by
    obtain ⟨h2, h3, h4⟩ := drop_cons hd
    obtain ⟨b0, b1⟩ := hx b (List.mem_of_getElem? h4)
    by_cases h6 : i < 6
    · have hp := hP.pos
      have hq := hP.le (by omega)
      have hm := digit_mul b p hp
      have e2 : wrap64 (rd xs i) = b := by rw [rd_at h4, w64 (by omega) (by omega)]
      have e3 : Int.tmod b 128 = b % 128 := Int.tmod_eq_emod_of_nonneg (by omega)
      have ih := spec_ReadNumber_l0_ev xs hx bs (i + 1) (p * 128) (n + b % 128 * p) h3 hP.step (by omega)
      have hi1 : wrap64 ((i : Int) + 1) = (i : Int) + 1 := w64 (by omega) (by omega)
      have hip : (0 : Int) ≤ i := by omega
      have hil : (i : Int) < xs.length := by omega
      simp only [rnum, if_pos h6]
      have e4 : wrap64 (b % 128 * p) = b % 128 * p := by
        generalize b % 128 * p = q at hm; exact w64 (by omega) (by omega)
      have e1 : wrap64 (n + b % 128 * p) = n + b % 128 * p := by
        generalize b % 128 * p = q at hm; exact w64 (by omega) (by omega)
      have e5 : wrap64 (p * 128) = p * 128 := w64 (by omega) (by omega)
      have ih' : Ev (fun k => spec_ReadNumber.l0 k xs (n + b % 128 * p) (p * 128) ((i + 1 : Nat) : Int)) (rnum (i + 1) (p * 128) (n + b % 128 * p) bs) := by
        generalize b % 128 * p = q at hm ih ⊢; exact ih (by omega) (by omega)
      clear ih
      refine Ev.step (f := fun k => spec_ReadNumber.j1 k xs n p i true) (fun k => ?_) ?_
      · simp only [spec_ReadNumber.l0]
        rw [if_pos hil, decide_eq_true (by omega : (i : Int) < 6)]
      · by_cases hb : b < 128
        · rw [if_pos hb]
          refine Ev.step (f := fun _ => some _) (fun k => ?_) (Ev.now _)
          simp only [spec_ReadNumber.j1]
          rw [if_pos trivial, if_pos hip, if_pos hil, e2, e3, e4, e1, if_pos hb, hi1]
          generalize n + b % 128 * p = q
          by_cases hn : q > 1099511627776
          · rw [if_pos hn, if_pos (Or.inl hn)]
          · rw [if_neg hn]
            by_cases hi0 : 0 < i
            · rw [if_pos (by omega)]
              by_cases hb0 : b = 0
              · rw [if_pos hb0, if_pos (Or.inr ⟨hi0, hb0⟩)]
              · rw [if_neg hb0, if_neg (fun h => h.elim hn (fun h => hb0 h.2))]
            · rw [if_neg (by omega), if_neg (fun h => h.elim hn (fun h => hi0 h.1))]
        · rw [if_neg hb]
          refine Ev.step (f := fun k => spec_ReadNumber.l0 k xs (n + b % 128 * p) (p * 128) ((i + 1 : Nat) : Int)) (fun k => ?_) ih'
          simp only [spec_ReadNumber.j1]
          rw [if_pos trivial, if_pos hip, if_pos hil, e2, e3, e4, e1, if_neg hb, e5, hi1]
          rfl
    · refine Ev.step (f := fun k => spec_ReadNumber.j1 k xs n p i false) (fun k => ?_) (Ev.step (f := fun _ => some (0, 0)) (fun k => ?_) (evEq (Ev.now _) ?_))
      · simp only [spec_ReadNumber.l0]
        rw [if_pos (by omega), decide_eq_false (by omega : ¬ (i : Int) < 6)]
      · simp only [spec_ReadNumber.j1]
        rw [if_neg (by decide)]
      · simp only [rnum, if_neg h6]
theorem spec_ReadNumber_ev (xs : List Int) (hx : ∀ x ∈ xs, 0 ≤ x ∧ x < 256) : Ev (fun k => spec_ReadNumber.f k xs) (readNumber xs) :=
  spec_ReadNumber_l0_ev xs hx xs 0 1 0 rfl PW.zero (by decide) (by decide) (by decide)

theorem spec_ReadText_ev (xs : List Int) (hl : xs.length ≤ 1000000000000000000) (hx : ∀ x ∈ xs, 0 ≤ x ∧ x < 256) : Ev (fun k => spec_ReadText.f k xs) (readText xs) := by
  simp only [spec_ReadText.f]
  refine Ev.bind (spec_ReadNumber_ev xs hx) ?_
  have hb := readNumber_bd xs hx
  unfold readText
  generalize readNumber xs = p at hb ⊢
  obtain ⟨n, t⟩ := p
  simp only at hb ⊢
  by_cases h0 : t = 0
  · rw [if_pos (Or.inl h0)]; exact evPos h0 (Ev.now _)
  refine evNeg h0 ?_
  by_cases h1 : n > 3000
  · rw [if_pos (Or.inr (Or.inl h1))]; exact evPos h1 (Ev.now _)
  refine evNeg h1 ?_
  have e1 : wrap64 ((xs.length : Int) - t) = (xs.length : Int) - t := w64 (by omega) (by omega)
  rw [e1]
  by_cases h2 : n > (xs.length : Int) - t
  · rw [if_pos (Or.inr (Or.inr h2))]; exact evPos h2 (Ev.now _)
  refine evNeg h2 ?_
  have e2 : wrap64 (t + n) = t + n := w64 (by omega) (by omega)
  rw [e2]
  exact evEq (evPos (by omega) (evPos (by omega) (evPos (by omega) (Ev.now _)))) (if_neg (fun h => by rcases h with h | h | h <;> omega)).symm

theorem spec_l1ReadTexts_l0_ev (xs : List Int) (hl : xs.length ≤ 1000000000000) (hx : ∀ x ∈ xs, 0 ≤ x ∧ x < 256) : ∀ (n at_ : Nat) (out : List ByteArray), at_ ≤ xs.length → n ≤ 1000 → out.length + n ≤ 100000 →
    Ev (fun k => spec_l1ReadTexts.l0 k xs (n : Int) (at_ : Int) out) (match rts n (xs.drop at_) with | none => ([], 0) | some p => (out ++ p.1, (xs.length : Int) - p.2.length))
  | 0, at_, out, ha, hn, ho => by
    refine Ev.step (f := fun _ => some (out, (at_ : Int))) (fun k => ?_) (evEq (Ev.now _) ?_)
    · simp only [spec_l1ReadTexts.l0]
      rw [if_neg (by simp)]
    · simp only [rts, List.append_nil, List.length_drop]
      congr 1
      omega
  | n + 1, at_, out, ha, hn, ho => by
    have hd := drop_byte hx at_
    have hb := readText_bd (xs.drop at_) hd
    rw [List.length_drop] at hb
    have hr := spec_ReadText_ev (xs.drop at_) (by rw [List.length_drop]; omega) hd
    refine Ev.step (f := fun k => (spec_ReadText.f k (xs.drop at_)).bind fun bt => (if bt.2 = 0 then (some ((([] : List ByteArray)), 0)) else (if out.length < 8796093022208 then (spec_l1ReadTexts.l0 k xs (wrap64 (((n + 1 : Nat) : Int) - 1)) (wrap64 ((at_ : Int) + bt.2)) (out ++ [bt.1])) else (none)))) (fun k => ?_) (Ev.bind hr ?_)
    · simp only [spec_l1ReadTexts.l0]
      rw [if_pos (by omega), if_pos (by omega), if_pos (by omega), Int.toNat_natCast]
    · unfold rts
      by_cases h0 : (readText (xs.drop at_)).2 = 0
      · rw [if_pos h0]
        exact evPos h0 (Ev.now _)
      · rw [if_neg h0]
        refine evNeg h0 (evPos (by omega) ?_)
        obtain ⟨t, ht⟩ : ∃ t : Nat, (readText (xs.drop at_)).2 = t := ⟨(readText (xs.drop at_)).2.toNat, by omega⟩
        have ih := spec_l1ReadTexts_l0_ev xs hl hx n (at_ + t) (out ++ [(readText (xs.drop at_)).1]) (by omega) (by omega) (by simp; omega)
        rw [ht, w64 (x := ((n + 1 : Nat) : Int) - 1) (by omega) (by omega), w64 (x := (at_ : Int) + t) (by omega) (by omega), Int.toNat_natCast, List.drop_drop]
        rw [show ((n + 1 : Nat) : Int) - 1 = (n : Int) by omega, show (at_ : Int) + t = ((at_ + t : Nat) : Int) by omega]
        refine evEq ih ?_
        cases rts n (xs.drop (at_ + t)) with
        | none => rfl
        | some p => simp
theorem spec_ReadTexts_ev (xs : List Int) (hl : xs.length ≤ 1000000000000) (hx : ∀ x ∈ xs, 0 ≤ x ∧ x < 256) : Ev (fun k => spec_ReadTexts.f k xs) (readTexts xs) := by
  have hb := readNumber_bd xs hx
  simp only [spec_ReadTexts.f, spec_l1ReadTexts.f]
  unfold readTexts
  obtain ⟨n, hn⟩ : ∃ n : Nat, (readNumber xs).1 = n := ⟨(readNumber xs).1.toNat, by omega⟩
  obtain ⟨t, ht⟩ : ∃ t : Nat, (readNumber xs).2 = t := ⟨(readNumber xs).2.toNat, by omega⟩
  by_cases h : (readNumber xs).2 = 0 ∨ (readNumber xs).1 > 200
  · rw [if_pos h]
    refine Ev.bind (a := ([], 0)) (Ev.bind (spec_ReadNumber_ev xs hx) ?_) (evPos rfl (Ev.now _))
    simp only [Option.bind_some]
    have j0 : Ev (fun k => spec_l1ReadTexts.j0 k xs (readNumber xs).1 (readNumber xs).2 ([] : List ByteArray) true) ([], 0) := by
      refine Ev.step (f := fun _ => some ([], 0)) (fun k => ?_) (Ev.now _)
      simp only [spec_l1ReadTexts.j0]
      rw [if_pos trivial]
    by_cases h0 : (readNumber xs).2 = 0
    · exact evPos h0 j0
    · refine evNeg h0 ?_
      rw [decide_eq_true (h.resolve_left h0)]
      exact j0
  · rw [if_neg h]
    have h0 : ¬ (readNumber xs).2 = 0 := fun e => h (Or.inl e)
    have h1 : ¬ (readNumber xs).1 > 200 := fun e => h (Or.inr e)
    refine Ev.bind (a := match rts n (xs.drop t) with | none => ([], 0) | some p => (([] : List ByteArray) ++ p.1, (xs.length : Int) - p.2.length)) (Ev.bind (spec_ReadNumber_ev xs hx) ?_) ?_
    · simp only [Option.bind_some]
      refine evNeg h0 ?_
      rw [decide_eq_false h1]
      refine Ev.step (f := fun k => spec_l1ReadTexts.l0 k xs (n : Int) (t : Int) []) (fun k => ?_) (spec_l1ReadTexts_l0_ev xs hl hx n t [] (by omega) (by omega) (by simp; omega))
      simp only [spec_l1ReadTexts.j0]
      rw [if_neg (by decide), hn, ht]
    · rw [hn, ht, Int.toNat_natCast, Int.toNat_natCast]
      cases hr : rts n (xs.drop t) with
      | none => exact evPos rfl (Ev.now _)
      | some p =>
        obtain ⟨l, r⟩ := p
        have hlen := (rts_len _ _ _ _ hr).2
        rw [List.length_drop] at hlen
        simp only
        refine evNeg (by omega) ?_
        cases r with
        | nil => exact evPos (by simp) (evEq (Ev.now _) (by simp))
        | cons y r => exact evNeg (by simp; omega) (Ev.now _)

theorem impl_ReadNumber_l0_ev (xs : List Int) (hl : xs.length ≤ 1000000000000000000) (hx : ∀ x ∈ xs, 0 ≤ x ∧ x < 256) : ∀ (bs : List Int) (i : Nat) (p n : Int), xs.drop i = bs → PW i p → i ≤ 6 → 0 ≤ n → n < p → Ev (fun k => impl_ReadNumber.l0 k n xs (xs.length : Int) i) (rnum i p n bs)
  | [], i, p, n, hd, hP, hi, h0, h1 => by
    have := drop_nil hd
    refine Ev.step (f := fun _ => some (0, 0)) (fun k => ?_) (Ev.now _)
    simp only [impl_ReadNumber.l0]
    rw [if_neg (by omega)]
  | b :: bs, i, p, n, hd, hP, hi, h0, h1 => by
    obtain ⟨h2, h3, h4⟩ := drop_cons hd
    obtain ⟨b0, b1⟩ := hx b (List.mem_of_getElem? h4)
    have hip : (0 : Int) ≤ i := by omega
    have hil : (i : Int) < xs.length := by omega
    by_cases h6 : i < 6
    · have hp := hP.pos
      have hq := hP.le (by omega)
      have hm := digit_mul b p hp
      have e1 := join_eq (n := n) (b := b) (i := i) hP (by omega) h0 h1 b0 b1
      have e3 : (0 : Int) ≤ wrap64 (7 * (i : Int)) := by rw [w64 (by omega) (by omega)]; omega
      have hi1 : wrap64 ((i : Int) + 1) = (i : Int) + 1 := w64 (by omega) (by omega)
      have ih := impl_ReadNumber_l0_ev xs hl hx bs (i + 1) (p * 128) (n + b % 128 * p) h3 hP.step (by omega)
      have ih' : Ev (fun k => impl_ReadNumber.l0 k (n + b % 128 * p) xs (xs.length : Int) ((i + 1 : Nat) : Int)) (rnum (i + 1) (p * 128) (n + b % 128 * p) bs) := by
        generalize b % 128 * p = q at hm ih ⊢; exact ih (by omega) (by omega)
      clear ih
      simp only [rnum, if_pos h6]
      by_cases hb : b < 128
      · rw [if_pos hb]
        refine Ev.step (f := fun _ => some _) (fun k => ?_) (Ev.now _)
        simp only [impl_ReadNumber.l0]
        rw [if_pos hil, if_pos hip, if_pos hil, if_neg (by omega), if_pos e3, rd_at h4, e1, if_pos hb, hi1]
        generalize n + b % 128 * p = q
        by_cases hi0 : 0 < i
        · rw [if_pos (by omega)]
          by_cases hb0 : b = 0
          · rw [if_pos hb0, if_pos (Or.inr ⟨hi0, hb0⟩)]
          · rw [if_neg hb0]
            by_cases hn : q > 1099511627776
            · rw [if_pos hn, if_pos (Or.inl hn)]
            · rw [if_neg hn, if_neg (fun h => h.elim hn (fun h => hb0 h.2))]
        · rw [if_neg (by omega)]
          by_cases hn : q > 1099511627776
          · rw [if_pos hn, if_pos (Or.inl hn)]
          · rw [if_neg hn, if_neg (fun h => h.elim hn (fun h => hi0 h.1))]
      · rw [if_neg hb]
        refine Ev.step (f := fun k => impl_ReadNumber.l0 k (n + b % 128 * p) xs (xs.length : Int) ((i + 1 : Nat) : Int)) (fun k => ?_) ih'
        simp only [impl_ReadNumber.l0]
        rw [if_pos hil, if_pos hip, if_pos hil, if_neg (by omega), if_pos e3, rd_at h4, e1, if_neg hb, hi1]
        rfl
    · refine Ev.step (f := fun _ => some (0, 0)) (fun k => ?_) (evEq (Ev.now _) ?_)
      · simp only [impl_ReadNumber.l0]
        rw [if_pos hil, if_pos hip, if_pos hil, if_pos (by omega)]
      · simp only [rnum, if_neg h6]
theorem impl_ReadNumber_ev (xs : List Int) (hl : xs.length ≤ 1000000000000000000) (hx : ∀ x ∈ xs, 0 ≤ x ∧ x < 256) : Ev (fun k => impl_ReadNumber.f k xs) (readNumber xs) :=
  impl_ReadNumber_l0_ev xs hl hx xs 0 1 0 rfl PW.zero (by decide) (by decide) (by decide)

theorem impl_ReadText_ev (xs : List Int) (hl : xs.length ≤ 1000000000000000000) (hx : ∀ x ∈ xs, 0 ≤ x ∧ x < 256) : Ev (fun k => impl_ReadText.f k xs) (readText xs) := by
  simp only [impl_ReadText.f]
  refine Ev.bind (impl_ReadNumber_ev xs hl hx) ?_
  have hb := readNumber_bd xs hx
  unfold readText
  generalize readNumber xs = p at hb ⊢
  obtain ⟨n, t⟩ := p
  simp only at hb ⊢
  by_cases h0 : t = 0
  · rw [if_pos (Or.inl h0)]; exact evPos h0 (Ev.now _)
  refine evNeg h0 ?_
  by_cases h1 : n > 3000
  · rw [if_pos (Or.inr (Or.inl h1))]; exact evPos h1 (Ev.now _)
  refine evNeg h1 ?_
  have e1 : wrap64 ((xs.length : Int) - t) = (xs.length : Int) - t := w64 (by omega) (by omega)
  rw [e1]
  by_cases h2 : n > (xs.length : Int) - t
  · rw [if_pos (Or.inr (Or.inr h2))]; exact evPos h2 (Ev.now _)
  refine evNeg h2 ?_
  have e2 : wrap64 (t + n) = t + n := w64 (by omega) (by omega)
  rw [e2]
  exact evEq (evPos (by omega) (evPos (by omega) (evPos (by omega) (Ev.now _)))) (if_neg (fun h => by rcases h with h | h | h <;> omega)).symm

theorem impl_cursor_goes_ev (xs : List Int) (b : Bool) (t : Int) (h0 : 0 ≤ t) (h1 : t ≤ xs.length) : Ev (fun _ => impl_cursor_goes.f xs b t) (xs.drop t.toNat, (b || t == 0)) := by
  simp only [impl_cursor_goes.f]
  exact evPos h0 (evPos h1 (Ev.now _))
theorem impl_cursor_number_ev (xs : List Int) (b : Bool) (hl : xs.length ≤ 1000000000000000000) (hx : ∀ x ∈ xs, 0 ≤ x ∧ x < 256) : Ev (fun k => impl_cursor_number.f k xs b) ((readNumber xs).1, xs.drop (readNumber xs).2.toNat, (b || (readNumber xs).2 == 0)) := by
  have hb := readNumber_bd xs hx
  simp only [impl_cursor_number.f]
  exact Ev.bind (impl_ReadNumber_ev xs hl hx) (Ev.bind (impl_cursor_goes_ev xs b _ (by omega) (by omega)) (Ev.now _))
theorem impl_cursor_text_ev (xs : List Int) (b : Bool) (hl : xs.length ≤ 1000000000000000000) (hx : ∀ x ∈ xs, 0 ≤ x ∧ x < 256) : Ev (fun k => impl_cursor_text.f k xs b) ((readText xs).1, xs.drop (readText xs).2.toNat, (b || (readText xs).2 == 0)) := by
  have hb := readText_bd xs hx
  simp only [impl_cursor_text.f]
  exact Ev.bind (impl_ReadText_ev xs hl hx) (Ev.bind (impl_cursor_goes_ev xs b _ (by omega) (by omega)) (Ev.now _))
theorem impl_cursor_ended_ev (xs : List Int) (b : Bool) : Ev (fun _ => impl_cursor_ended.f xs b) (!b && decide (xs = []), xs, b) := by
  simp only [impl_cursor_ended.f]
  cases b with
  | true => exact evPos rfl (Ev.now _)
  | false =>
    refine evNeg (by decide) (evEq (Ev.now _) ?_)
    cases xs with
    | nil => rfl
    | cons y ys =>
      have : ((((y :: ys).length : Nat) : Int) == 0) = false := by
        rw [beq_eq_false_iff_ne]; simp; omega
      rw [this]; simp

theorem impl_cursor_texts_bad (k : Nat) (n : Int) (out : List ByteArray) (xs : List Int) : impl_cursor_texts.l0 (k + 1) n out xs true = some (out, xs, true) := by
  simp only [impl_cursor_texts.l0]
  split <;> rfl
theorem impl_cursor_texts_l0_ev : ∀ (n : Nat) (xs : List Int) (out : List ByteArray), xs.length ≤ 1000000000000 → (∀ x ∈ xs, 0 ≤ x ∧ x < 256) → n ≤ 1000 → out.length + n ≤ 100000 →
    (∀ l r, rts n xs = some (l, r) → Ev (fun k => impl_cursor_texts.l0 k (n : Int) out xs false) (out ++ l, r, false)) ∧ (rts n xs = none → ∃ o x, Ev (fun k => impl_cursor_texts.l0 k (n : Int) out xs false) (o, x, true))
  | 0, xs, out, hl, hx, hn, ho => by
    refine ⟨fun l r h => ?_, fun h => by simp [rts] at h⟩
    simp only [rts, Option.some.injEq, Prod.mk.injEq] at h
    obtain ⟨rfl, rfl⟩ := h
    refine Ev.step (f := fun _ => some (out, xs, false)) (fun k => ?_) (evEq (Ev.now _) (by simp))
    simp only [impl_cursor_texts.l0]
    rw [if_neg (by simp)]
  | n + 1, xs, out, hl, hx, hn, ho => by
    have hb := readText_bd xs hx
    have step : ∀ r, Ev (fun k => impl_cursor_texts.l0 k (n : Int) (out ++ [(readText xs).1]) (xs.drop (readText xs).2.toNat) (false || (readText xs).2 == 0)) r → Ev (fun k => impl_cursor_texts.l0 k ((n + 1 : Nat) : Int) out xs false) r := by
      intro r hr
      refine Ev.step (f := fun k => (impl_cursor_text.f k xs false).bind fun bt => (if out.length < 8796093022208 then (impl_cursor_texts.l0 k (wrap64 (((n + 1 : Nat) : Int) - 1)) (out ++ [bt.1]) bt.2.1 bt.2.2) else (none))) (fun k => ?_) (Ev.bind (impl_cursor_text_ev xs false (by omega) hx) (evPos (by omega) ?_))
      · simp only [impl_cursor_texts.l0]
        rw [if_pos (by omega), if_neg (by decide)]
      · rw [w64 (by omega) (by omega), show ((n + 1 : Nat) : Int) - 1 = (n : Int) by omega]
        exact hr
    obtain ⟨ih1, ih2⟩ := impl_cursor_texts_l0_ev n (xs.drop (readText xs).2.toNat) (out ++ [(readText xs).1]) (by rw [List.length_drop]; omega) (drop_byte hx _) (by omega) (by simp; omega)
    unfold rts
    by_cases h0 : (readText xs).2 = 0
    · rw [if_pos h0]
      refine ⟨fun l r h => (by cases h), fun _ => ⟨out ++ [(readText xs).1], xs.drop (readText xs).2.toNat, step _ ?_⟩⟩
      have e : (false || (readText xs).2 == 0) = true := by rw [h0]; rfl
      rw [e]
      exact Ev.step (f := fun _ => some _) (fun k => impl_cursor_texts_bad k _ _ _) (Ev.now _)
    · rw [if_neg h0]
      have e : (false || (readText xs).2 == 0) = false := by rw [Bool.false_or, beq_eq_false_iff_ne]; exact h0
      rw [e] at step
      refine ⟨fun l r h => ?_, fun h => ?_⟩
      · obtain ⟨⟨l', r'⟩, h1, h2⟩ := Option.map_eq_some_iff.1 h
        simp only [Prod.mk.injEq] at h2
        obtain ⟨rfl, rfl⟩ := h2
        refine step _ (evEq (ih1 _ _ h1) (by simp))
      · rw [Option.map_eq_none_iff] at h
        obtain ⟨o, x, hh⟩ := ih2 h
        exact ⟨o, x, step _ hh⟩
theorem impl_ReadTexts_ev (xs : List Int) (hl : xs.length ≤ 1000000000000) (hx : ∀ x ∈ xs, 0 ≤ x ∧ x < 256) : Ev (fun k => impl_ReadTexts.f k xs) (readTexts xs) := by
  have hb := readNumber_bd xs hx
  obtain ⟨n, hn⟩ : ∃ n : Nat, (readNumber xs).1 = n := ⟨(readNumber xs).1.toNat, by omega⟩
  have bad : ∀ (m : Int) (ys : List Int), Ev (fun k => impl_cursor_texts.j0 k m ([] : List ByteArray) ys true) ([], ys, true) := fun m ys =>
    Ev.step (f := fun k => impl_cursor_texts.l0 k m [] ys true) (fun k => by simp only [impl_cursor_texts.j0]) (Ev.step (f := fun _ => some _) (fun k => impl_cursor_texts_bad k _ _ _) (Ev.now _))
  have fin : ∀ (o : List ByteArray) (ys : List Int), Ev (fun k => (impl_cursor_ended.f ys true).bind fun bt166 => (if bt166.1 = true then (some (o, true)) else (some (([] : List ByteArray), false)))) ([], false) := fun o ys =>
    Ev.bind (impl_cursor_ended_ev ys true) (evNeg (by simp) (Ev.now _))
  simp only [impl_ReadTexts.f, impl_cursor_texts.f]
  unfold readTexts
  by_cases h : (readNumber xs).2 = 0 ∨ (readNumber xs).1 > 200
  · rw [if_pos h]
    refine Ev.bind (a := ([], xs.drop (readNumber xs).2.toNat, true)) (Ev.bind (impl_cursor_number_ev xs false (by omega) hx) ?_) (fin [] _)
    simp only [Option.bind_some]
    by_cases h1 : (readNumber xs).1 > 200
    · exact evPos h1 (bad _ _)
    · refine evNeg h1 ?_
      have e : (false || (readNumber xs).2 == 0) = true := by rw [h.resolve_right h1]; rfl
      rw [e]
      exact bad _ _
  · rw [if_neg h]
    have h0 : ¬ (readNumber xs).2 = 0 := fun e => h (Or.inl e)
    have h1 : ¬ (readNumber xs).1 > 200 := fun e => h (Or.inr e)
    have e : (false || (readNumber xs).2 == 0) = false := by rw [Bool.false_or, beq_eq_false_iff_ne]; exact h0
    have num := impl_cursor_number_ev xs false (by omega) hx
    rw [e] at num
    obtain ⟨ih1, ih2⟩ := impl_cursor_texts_l0_ev n (xs.drop (readNumber xs).2.toNat) [] (by rw [List.length_drop]; omega) (drop_byte hx _) (by omega) (by simp; omega)
    have j0 : ∀ r, Ev (fun k => impl_cursor_texts.l0 k (n : Int) ([] : List ByteArray) (xs.drop (readNumber xs).2.toNat) false) r → Ev (fun k => (impl_cursor_number.f k xs false).bind fun bt148 => ((some (([] : List ByteArray) : List ByteArray)).bind fun y151 => (if bt148.1 > 200 then (impl_cursor_texts.j0 k bt148.1 y151 bt148.2.1 true) else (impl_cursor_texts.j0 k bt148.1 y151 bt148.2.1 bt148.2.2)))) r := by
      intro r hr
      refine Ev.bind num ?_
      simp only [Option.bind_some]
      refine evNeg h1 (Ev.step (f := fun k => impl_cursor_texts.l0 k (n : Int) ([] : List ByteArray) (xs.drop (readNumber xs).2.toNat) false) (fun k => ?_) hr)
      simp only [impl_cursor_texts.j0]
      rw [hn]
    rw [hn, Int.toNat_natCast]
    cases hr : rts n (xs.drop (readNumber xs).2.toNat) with
    | none =>
      obtain ⟨o, x, hh⟩ := ih2 hr
      exact Ev.bind (j0 _ hh) (fin o x)
    | some p =>
      obtain ⟨l, r⟩ := p
      refine Ev.bind (j0 _ (ih1 l r hr)) (Ev.bind (impl_cursor_ended_ev r false) ?_)
      cases r with
      | nil => exact evPos (by simp) (evEq (Ev.now _) (by simp))
      | cons y r => exact evNeg (by simp) (Ev.now _)

theorem and255 (y : Int) : 0 ≤ Go.bits .and .i64 y 255 ∧ Go.bits .and .i64 y 255 ≤ 255 := by
  have e : ((BitVec.ofInt IntKind.i64.bits y) &&& (BitVec.ofInt IntKind.i64.bits 255)).toNat ≤ 255 := by
    rw [BitVec.toNat_and]
    exact Nat.le_trans Nat.and_le_right (by decide)
  have e2 : Go.bits .and .i64 y 255 = (((BitVec.ofInt IntKind.i64.bits y) &&& (BitVec.ofInt IntKind.i64.bits 255)).toNat : Int) := by
    simp only [Go.bits]
    rw [IntKind.wrap_i64]
    generalize ((BitVec.ofInt IntKind.i64.bits y) &&& (BitVec.ofInt IntKind.i64.bits 255)).toNat = n at e ⊢
    omega
  rw [e2]
  generalize ((BitVec.ofInt IntKind.i64.bits y) &&& (BitVec.ofInt IntKind.i64.bits 255)).toNat = n at e ⊢
  omega
theorem spec_l1New_l0_ev (b : List Int) (hl : b.length ≤ 1000000000000000000) : ∀ (bs : List Int) (i : Nat) (h : Int), b.drop i = bs → ∃ h', Ev (fun k => spec_l1New.l0 k b h i) (b, 0, h')
  | [], i, h, hd => by
    have := drop_nil hd
    refine ⟨h, Ev.step (f := fun _ => some _) (fun k => ?_) (Ev.now _)⟩
    simp only [spec_l1New.l0]
    rw [if_neg (by omega)]
  | x :: bs, i, h, hd => by
    obtain ⟨h2, h3, h4⟩ := drop_cons hd
    obtain ⟨h', hh⟩ := spec_l1New_l0_ev b hl bs (i + 1) (Go.bits .and .i64 (wrap64 ((wrap64 ((wrap64 (h * 137)) + (wrap64 (rd b i)))) + 11)) 1073741823) h3
    refine ⟨h', Ev.step (fun k => ?_) hh⟩
    simp only [spec_l1New.l0]
    rw [if_pos (by omega), if_pos (by omega), w64s (by omega)]
theorem spec_l1New_ev (b : List Int) (hl : b.length ≤ 1000000000000000000) : ∃ h, Ev (fun k => spec_l1New.f k b) (b, 0, h) := spec_l1New_l0_ev b hl b 0 _ rfl
theorem spec_l1Byte_eq (b : List Int) (hl : b.length ≤ 1000000000000000000) (i h : Int) (hi : 0 ≤ i) : ∃ x i' h', spec_l1Byte.f b i h = some (x, i', h') ∧ 0 ≤ x ∧ x ≤ 255 ∧ 0 ≤ i' := by
  unfold spec_l1Byte.f
  by_cases hx : i < (b.length : Int)
  · rw [if_pos hx, if_pos hi]
    refine ⟨_, _, _, rfl, (and255 _).1, (and255 _).2, ?_⟩
    rw [w64 (by omega) (by omega)]
    omega
  · rw [if_neg hx]
    exact ⟨_, _, _, rfl, (and255 _).1, (and255 _).2, hi⟩
theorem spec_l1Below_eq (b : List Int) (hl : b.length ≤ 1000000000000000000) (i h : Int) (hi : 0 ≤ i) (n : Int) : ∃ x i' h', spec_l1Below.f b i h n = some (x, i', h') ∧ 0 ≤ x ∧ (0 < n → x < n) ∧ 0 ≤ i' := by
  unfold spec_l1Below.f
  by_cases h0 : n ≤ 0
  · rw [if_pos h0]
    exact ⟨_, _, _, rfl, Int.le_refl _, fun h => absurd h (by omega), hi⟩
  rw [if_neg h0]
  obtain ⟨x, i1, h1, e1, x0, x1, hi1⟩ := spec_l1Byte_eq b hl i h hi
  rw [e1]
  simp only [Option.bind_some]
  have fin : ∀ y : Int, 0 ≤ y → 0 ≤ Int.tmod y n ∧ (0 < n → Int.tmod y n < n) := fun y hy => ⟨Int.tmod_nonneg _ hy, fun hn => Int.tmod_lt_of_pos _ hn⟩
  by_cases h2 : n ≤ 256
  · rw [if_pos h2, if_neg (by omega)]
    exact ⟨_, _, _, rfl, (fin x x0).1, (fin x x0).2, hi1⟩
  rw [if_neg h2]
  obtain ⟨y, i2, g2, e2, y0, y1, hi2⟩ := spec_l1Byte_eq b hl i1 h1 hi1
  rw [e2]
  simp only [Option.bind_some]
  obtain ⟨z, i3, g3, e3, z0, z1, hi3⟩ := spec_l1Byte_eq b hl i2 g2 hi2
  rw [e3]
  simp only [Option.bind_some]
  obtain ⟨w, i4, g4, e4, w0, w1, hi4⟩ := spec_l1Byte_eq b hl i3 g3 hi3
  rw [e4]
  simp only [Option.bind_some]
  rw [if_neg (by omega)]
  have ee : (wrap64 ((wrap64 ((wrap64 ((wrap64 (x * 16777216)) + (wrap64 (y * 65536)))) + (wrap64 (z * 256)))) + w)) = x * 16777216 + y * 65536 + z * 256 + w := by
    rw [w64 (x := x * 16777216) (by omega) (by omega), w64 (x := y * 65536) (by omega) (by omega), w64 (x := z * 256) (by omega) (by omega), w64 (x := x * 16777216 + y * 65536) (by omega) (by omega), w64 (x := x * 16777216 + y * 65536 + z * 256) (by omega) (by omega), w64 (by omega) (by omega)]
  rw [ee]
  exact ⟨_, _, _, rfl, (fin _ (by omega)).1, (fin _ (by omega)).2, hi4⟩
theorem spec_l1Once_eq (b : List Int) (hl : b.length ≤ 1000000000000000000) (i h : Int) (hi : 0 ≤ i) (n : Int) : ∃ x i' h', spec_l1Once.f b i h n = some (x, i', h') ∧ 0 ≤ i' := by
  obtain ⟨x, i1, h1, e1, _, _, hi1⟩ := spec_l1Below_eq b hl i h hi n
  unfold spec_l1Once.f
  rw [e1]
  exact ⟨_, _, _, rfl, hi1⟩
theorem strOfNums_le (xs : List Int) : (strOfNums xs).size = xs.length := by rw [strOfNums_size]

theorem cut_len (xs : List Int) (p : Nat) : (([] ++ xs.take p) ++ xs.drop (p + 1)).length ≤ xs.length ∧ ([] ++ xs.take p).length ≤ xs.length ∧ (xs.drop (p + 1)).length ≤ xs.length := by
  rw [List.nil_append, List.length_append, List.length_take, List.length_drop]; omega

theorem spec_l1Bend_l0_ev (b : List Int) (hl : b.length ≤ 1000000000000000000) (sg : ByteArray) (hs : 0 < sg.size) : ∀ (n : Nat) (xs : List Int) (i h : Int), 0 ≤ i → xs.length + n ≤ 100000000 →
    ∃ s i' h', Ev (fun k => spec_l1Bend.l0 k sg xs (n : Int) b i h) (s, i', h') ∧ s.size ≤ xs.length + n ∧ 0 ≤ i' := by
  intro n
  induction n with
  | zero =>
    intro xs i h hi hx
    refine ⟨strOfNums xs, i, h, Ev.step (fun k => by simp only [spec_l1Bend.l0]; exact rfl) (evNeg (by omega) (Ev.step (fun k => by simp only [spec_l1Bend.j1]; exact rfl) (evNeg Bool.false_ne_true (Ev.now _)))), by rw [strOfNums_le]; omega, hi⟩
  | succ n ih =>
    intro xs i h hi hx
    by_cases h0 : (xs.length : Int) > 0
    · obtain ⟨x, i1, h1, e1, x0, x1, hi1⟩ := spec_l1Below_eq b hl i h hi (xs.length : Int)
      obtain ⟨v, i2, h2, e2, v0, v1, hi2⟩ := spec_l1Below_eq b hl i1 h1 hi1 4
      have hxl := x1 h0
      have hv := v1 (by decide)
      have hw : wrap64 (((n + 1 : Nat) : Int) - 1) = (n : Int) := by rw [w64 (by omega) (by omega)]; omega
      have hd : (decide ((xs.length : Int) > 0)) = true := decide_eq_true h0
      obtain ⟨m, rfl⟩ := Int.eq_ofNat_of_zero_le v0
      obtain ⟨p, rfl⟩ := Int.eq_ofNat_of_zero_le x0
      match m, hv, e2 with
      | 0, _, e2 =>
        obtain ⟨y, i3, h3, e3, y0, y1, hi3⟩ := spec_l1Below_eq b hl i2 h2 hi2 (sg.size : Int)
        obtain ⟨s, i4, h4, hs4, hz, hi4⟩ := ih (xs.set p (bt sg y)) i3 h3 hi3 (by rw [List.length_set]; omega)
        refine ⟨s, i4, h4, Ev.step (fun k => by simp only [spec_l1Bend.l0]; exact rfl) (evPos (by omega) ?_), by rw [List.length_set] at hz; omega, hi4⟩
        rw [hd]
        refine Ev.step (fun k => by simp only [spec_l1Bend.j1, hw]; exact rfl) (evPos trivial ?_)
        exact Ev.bind (evId (fun _ => e1)) (Ev.bind (evId (fun _ => e2)) (evPos rfl (Ev.bind (evId (fun _ => e3)) (evPos y0 (evPos (y1 (by omega)) (evPos x0 (evPos hxl hs4)))))))
      | 1, _, e2 =>
        obtain ⟨s, i4, h4, hs4, hz, hi4⟩ := ih (xs.take p) i2 h2 hi2 (by rw [List.length_take]; omega)
        refine ⟨s, i4, h4, Ev.step (fun k => by simp only [spec_l1Bend.l0]; exact rfl) (evPos (by omega) ?_), by rw [List.length_take] at hz; omega, hi4⟩
        rw [hd]
        refine Ev.step (fun k => by simp only [spec_l1Bend.j1, hw]; exact rfl) (evPos trivial ?_)
        exact Ev.bind (evId (fun _ => e1)) (Ev.bind (evId (fun _ => e2)) (evNeg (show ¬ ((1 : Nat) : Int) = 0 by decide) (evPos rfl (evPos x0 (evPos (show (p : Int) ≤ (xs.length : Int) by omega) hs4)))))
      | 2, _, e2 =>
        obtain ⟨hlen, hlen2, hlen3⟩ := cut_len xs p
        have f1 : (p : Int) ≤ (xs.length : Int) := by omega
        have f2 : (0 : Int) ≤ ((p + 1 : Nat) : Int) ∧ ((p + 1 : Nat) : Int) ≤ (xs.length : Int) := by omega
        have f3 : ([] : List Int).length + (xs.take p).length < 140737488355328 := by rw [List.length_take, List.length_nil]; omega
        have f4 : ([] ++ xs.take p).length + (xs.drop (p + 1)).length < 140737488355328 := by omega
        obtain ⟨s, i4, h4, hs4, hz, hi4⟩ := ih (([] ++ xs.take p) ++ xs.drop (p + 1)) i2 h2 hi2 (by omega)
        refine ⟨s, i4, h4, Ev.step (fun k => by simp only [spec_l1Bend.l0]; exact rfl) (evPos (by omega) ?_), by omega, hi4⟩
        rw [hd]
        refine Ev.step (fun k => by simp only [spec_l1Bend.j1, hw]; exact rfl) (evPos trivial ?_)
        refine Ev.bind (evId (fun _ => e1)) (Ev.bind (evId (fun _ => e2)) (evNeg (show ¬ ((2 : Nat) : Int) = 0 by decide) (evNeg (show ¬ ((2 : Nat) : Int) = 1 by decide) (evPos rfl (Ev.bind (evId (fun _ => rfl)) ?_)))))
        simp only [show wrap64 ((p : Int) + 1) = ((p + 1 : Nat) : Int) from w64s (by omega), Int.toNat_natCast]
        exact evPos x0 (evPos f1 (Ev.bind (evId (fun _ => rfl)) (evPos f3 (Ev.bind (evId (fun _ => rfl)) (evPos f2.1 (evPos f2.2 (Ev.bind (evId (fun _ => rfl)) (evPos f4 hs4))))))))
      | 3, _, e2 =>
        obtain ⟨y, i3, h3, e3, y0, y1, hi3⟩ := spec_l1Below_eq b hl i2 h2 hi2 (sg.size : Int)
        have hlen2 : ([] ++ xs.take p).length ≤ xs.length := by rw [List.nil_append, List.length_take]; omega
        have hlen4 : (([] ++ xs.take p) ++ [bt sg y]).length ≤ xs.length + 1 := by rw [List.length_append, List.length_singleton]; omega
        have hlen3 : (xs.drop p).length ≤ xs.length := by rw [List.length_drop]; omega
        have hlen : ((([] ++ xs.take p) ++ [bt sg y]) ++ xs.drop p).length ≤ xs.length + 1 := by rw [List.nil_append, List.length_append, List.length_append, List.length_singleton, List.length_take, List.length_drop]; omega
        obtain ⟨s, i4, h4, hs4, hz, hi4⟩ := ih ((([] ++ xs.take p) ++ [bt sg y]) ++ xs.drop p) i3 h3 hi3 (by omega)
        refine ⟨s, i4, h4, Ev.step (fun k => by simp only [spec_l1Bend.l0]; exact rfl) (evPos (by omega) ?_), by omega, hi4⟩
        rw [hd]
        refine Ev.step (fun k => by simp only [spec_l1Bend.j1, hw]; exact rfl) (evPos trivial ?_)
        refine Ev.bind (evId (fun _ => e1)) (Ev.bind (evId (fun _ => e2)) (evNeg (show ¬ ((3 : Nat) : Int) = 0 by decide) (evNeg (show ¬ ((3 : Nat) : Int) = 1 by decide) (evNeg (show ¬ ((3 : Nat) : Int) = 2 by decide) (evPos rfl (Ev.bind (evId (fun _ => rfl)) (evPos x0 (evPos (show (p : Int) ≤ (xs.length : Int) by omega) (Ev.bind (evId (fun _ => rfl)) (evPos ?_ (Ev.bind (evId (fun _ => rfl)) (Ev.bind (evId (fun _ => e3)) (evPos y0 (evPos (y1 (by omega)) (evPos ?_ (Ev.bind (evId (fun _ => rfl)) (Ev.bind (evId (fun _ => rfl)) (evPos ?_ hs4))))))))))))))))))
        · show ([] : List Int).length + (xs.take p).length < _
          rw [List.length_take, List.length_nil]; omega
        · show ([] ++ xs.take p).length < _
          omega
        · show (([] ++ xs.take p) ++ [bt sg y]).length + (xs.drop p).length < _
          omega
      | m + 4, hv, _ => omega
    · have hd : (decide ((xs.length : Int) > 0)) = false := decide_eq_false h0
      refine ⟨strOfNums xs, i, h, Ev.step (fun k => by simp only [spec_l1Bend.l0]; exact rfl) (evPos (by omega) ?_), by rw [strOfNums_le]; omega, hi⟩
      rw [hd]
      exact Ev.step (fun k => by simp only [spec_l1Bend.j1]; exact rfl) (evNeg Bool.false_ne_true (Ev.now _))
theorem spec_l1Bend_ev (b : List Int) (hl : b.length ≤ 1000000000000000000) (i h : Int) (hi : 0 ≤ i) (t sg : ByteArray) (ht : t.size ≤ 90000000) (hs : 0 < sg.size) :
    ∃ s i' h', Ev (fun k => spec_l1Bend.f k b i h t sg) (s, i', h') ∧ s.size ≤ t.size + 2 ∧ 0 ≤ i' := by
  obtain ⟨x, i1, h1, e1, x0, x1, hi1⟩ := spec_l1Below_eq b hl i h hi 3
  have hx := x1 (by decide)
  obtain ⟨n, rfl⟩ := Int.eq_ofNat_of_zero_le x0
  obtain ⟨s, i2, h2, hs2, hz, hi2⟩ := spec_l1Bend_l0_ev b hl sg hs n (bytesOf t) i1 h1 hi1 (by rw [bytesOf_length]; omega)
  rw [bytesOf_length] at hz
  refine ⟨s, i2, h2, ?_, by omega, hi2⟩
  simp only [spec_l1Bend.f]
  exact evPos (by omega) (Ev.bind (evId (fun _ => e1)) hs2)

theorem laws_pick_l0_ev (xs : List Int) (hl : xs.length ≤ 1000000) (hx : ∀ x ∈ xs, 0 ≤ x ∧ x < 256) (n : Nat) (hn : 0 < n) : ∀ (bs : List Int) (i : Nat) (a : Int), xs.drop i = bs → 0 ≤ a → a ≤ 10000000 → ∃ p : Nat, p < n ∧ Ev (fun k => laws_pick.l0 k xs 1 (n : Int) a (i : Int)) (p : Int)
  | [], i, a, hd, h0, h1 => by
    have := drop_nil hd
    refine ⟨(Int.tmod a n).toNat, ?_, Ev.step (f := fun _ => some (Int.tmod a n)) (fun k => ?_) (evEq (Ev.now _) ?_)⟩
    · have := Int.tmod_lt_of_pos a (show (0 : Int) < n by omega)
      have := Int.tmod_nonneg (n : Int) h0
      omega
    · simp only [laws_pick.l0]
      rw [if_neg (by omega), if_neg (by omega)]
    · have := Int.tmod_nonneg (n : Int) h0
      omega
  | x :: bs, i, a, hd, h0, h1 => by
    obtain ⟨h2, h3, h4⟩ := drop_cons hd
    obtain ⟨b0, b1⟩ := hx x (List.mem_of_getElem? h4)
    have e : wrap64 ((wrap64 ((wrap64 (a * 131)) + (wrap64 x))) + 1) = a * 131 + x + 1 := by
      rw [w64 (x := a * 131) (by omega) (by omega), w64 (x := x) (by omega) (by omega), w64 (x := a * 131 + x) (by omega) (by omega), w64 (by omega) (by omega)]
    have m0 := Int.tmod_nonneg (1000003 : Int) (show 0 ≤ a * 131 + x + 1 by omega)
    have m1 := Int.tmod_lt_of_pos (a * 131 + x + 1) (show (0 : Int) < 1000003 by decide)
    obtain ⟨p, hp, he⟩ := laws_pick_l0_ev xs hl hx n hn bs (i + 1) (Int.tmod (a * 131 + x + 1) 1000003) h3 m0 (by omega)
    refine ⟨p, hp, Ev.step (fun k => ?_) he⟩
    simp only [laws_pick.l0]
    rw [if_pos (by omega), if_pos (by omega), rd_at h4, e, w64s (by omega)]
theorem laws_pick_ev (xs : List Int) (hl : xs.length ≤ 4096) (hx : ∀ x ∈ xs, 0 ≤ x ∧ x < 256) (n : Nat) (hn : 0 < n) : ∃ p : Nat, p < n ∧ Ev (fun k => laws_pick.f k xs 1 (n : Int)) (p : Int) := by
  have e : wrap64 ((xs.length : Int) + (wrap64 (7919 * 1))) = (xs.length : Int) + 7919 := by
    rw [w64 (x := 7919 * 1) (by decide) (by decide), w64 (by omega) (by omega), Int.mul_one]
  obtain ⟨p, hp, he⟩ := laws_pick_l0_ev xs (by omega) hx n hn xs 0 ((xs.length : Int) + 7919) rfl (by omega) (by omega)
  refine ⟨p, hp, ?_⟩
  simp only [laws_pick.f, e]
  exact he

theorem laws_likeTexts_self (xs : List ByteArray) (hl : xs.length ≤ 1000000000000000000) : Ev (fun k => laws_likeTexts.f k xs xs) true := by
  simp only [laws_likeTexts.f]
  refine evPos trivial (self_loop laws_likeTexts.l0 (fun k xs i h => by simp only [laws_likeTexts.l0]; rw [if_neg (by omega)]) (fun k xs i a hi ha h1 => ?_) xs hl)
  simp only [laws_likeTexts.l0]
  rw [if_pos (by omega), if_pos (by omega), if_pos (by omega), if_pos trivial, w64s (by omega)]

theorem spec_l1DrawText_l0_ev (b : List Int) (hl : b.length ≤ 1000000000000000000) : ∀ (n : Nat) (acc : List Int) (i h : Int), 0 ≤ i → acc.length + n ≤ 1000 →
    ∃ s i' h', Ev (fun k => spec_l1DrawText.l0 k acc (n : Int) b i h) (s, i', h') ∧ s.size ≤ acc.length + n + 1 ∧ 0 ≤ i'
  | 0, acc, i, h, hi, ha => by
    obtain ⟨x, i1, h1, e1, hi1⟩ := spec_l1Once_eq b hl i h hi 6
    obtain ⟨y, i2, h2, e2, _, _, hi2⟩ := spec_l1Byte_eq b hl i1 h1 hi1
    cases x with
    | true =>
      refine ⟨_, _, _, Ev.step (f := fun _ => some (strOfNums (acc ++ [y % 256]), i2, h2)) (fun k => ?_) (Ev.now _), ?_, hi2⟩
      · simp only [spec_l1DrawText.l0]
        rw [if_neg (by omega), e1]
        simp only [Option.bind_some]
        rw [if_pos trivial, e2]
        simp only [Option.bind_some]
        rw [if_pos (by omega)]
      · rw [strOfNums_le, List.length_append, List.length_singleton]; omega
    | false =>
      refine ⟨_, _, _, Ev.step (f := fun _ => some (strOfNums acc, i1, h1)) (fun k => ?_) (Ev.now _), ?_, hi1⟩
      · simp only [spec_l1DrawText.l0]
        rw [if_neg (by omega), e1]
        simp only [Option.bind_some]
        rw [if_neg (by decide)]
      · rw [strOfNums_le]; omega
  | n + 1, acc, i, h, hi, ha => by
    obtain ⟨x, i1, h1, e1, x0, x1, hi1⟩ := spec_l1Below_eq b hl i h hi 4
    obtain ⟨s, i2, h2, hs, hz, hi2⟩ := spec_l1DrawText_l0_ev b hl n (acc ++ [(wrap64 (97 + x)) % 256]) i1 h1 hi1 (by rw [List.length_append, List.length_singleton]; omega)
    rw [List.length_append, List.length_singleton] at hz
    refine ⟨s, i2, h2, Ev.step (fun k => ?_) hs, by omega, hi2⟩
    simp only [spec_l1DrawText.l0]
    rw [if_pos (by omega), e1]
    simp only [Option.bind_some]
    rw [if_pos (by omega), w64 (x := ((n + 1 : Nat) : Int) - 1) (by omega) (by omega), show ((n + 1 : Nat) : Int) - 1 = (n : Int) by omega]
theorem spec_l1DrawText_ev (b : List Int) (hl : b.length ≤ 1000000000000000000) (i h : Int) (hi : 0 ≤ i) :
    ∃ s i' h', Ev (fun k => spec_l1DrawText.f k b i h) (s, i', h') ∧ s.size ≤ 8 ∧ 0 ≤ i' := by
  obtain ⟨x, i1, h1, e1, x0, x1, hi1⟩ := spec_l1Below_eq b hl i h hi 8
  obtain ⟨n, rfl⟩ := Int.eq_ofNat_of_zero_le x0
  have hn := x1 (by decide)
  obtain ⟨s, i2, h2, hs, hz, hi2⟩ := spec_l1DrawText_l0_ev b hl n [] i1 h1 hi1 (by simp; omega)
  simp only [List.length_nil] at hz
  refine ⟨s, i2, h2, ?_, by omega, hi2⟩
  simp only [spec_l1DrawText.f]
  exact Ev.bind (evId (fun _ => e1)) hs

theorem spec_l1DrawTexts_l0_ev (b : List Int) (hl : b.length ≤ 1000000000000000000) : ∀ (n : Nat) (acc : List ByteArray) (i h : Int), 0 ≤ i → acc.length + n ≤ 1000 →
    ∃ l i' h', Ev (fun k => spec_l1DrawTexts.l0 k acc (n : Int) b i h) (l, i', h') ∧ l.length ≤ 1200 ∧ 0 ≤ i'
  | 0, acc, i, h, hi, ha => by
    obtain ⟨g, i1, h1, e1, hi1⟩ := spec_l1Once_eq b hl i h hi 30
    cases g with
    | false => exact ⟨acc, i1, h1, Ev.step (fun k => by simp only [spec_l1DrawTexts.l0]; exact rfl) (evNeg (by omega) (Ev.bind (evId (fun _ => e1)) (evNeg Bool.false_ne_true (Ev.now _)))), by omega, hi1⟩
    | true =>
      obtain ⟨v, i2, h2, e2, v0, v1, hi2⟩ := spec_l1Below_eq b hl i1 h1 hi1 2
      have hv := v1 (by decide)
      obtain ⟨m, rfl⟩ := Int.eq_ofNat_of_zero_le v0
      match m, hv, e2 with
      | 0, _, e2 =>
        obtain ⟨x, i3, h3, e3, x0, x1, hi3⟩ := spec_l1Below_eq b hl i2 h2 hi2 2
        have hx := x1 (by decide)
        have hw : wrap64 (200 + x) = 200 + x := w64 (by omega) (by omega)
        refine ⟨List.replicate (200 + x).toNat (⟨#[]⟩ : ByteArray), i3, h3, Ev.step (fun k => by simp only [spec_l1DrawTexts.l0]; exact rfl) (evNeg (by omega) (Ev.bind (evId (fun _ => e1)) (evPos rfl (Ev.bind (evId (fun _ => e2)) (evPos rfl (Ev.bind (evId (fun _ => e3)) ?_)))))), by simp; omega, hi3⟩
        simp only [hw]
        exact evPos (by omega) (evPos (by omega) (Ev.now _))
      | 1, _, e2 =>
        exact ⟨acc ++ [strOfNums (List.replicate 3001 0)], i2, h2, Ev.step (fun k => by simp only [spec_l1DrawTexts.l0]; exact rfl) (evNeg (by omega) (Ev.bind (evId (fun _ => e1)) (evPos rfl (Ev.bind (evId (fun _ => e2)) (evNeg (show ¬ ((1 : Nat) : Int) = 0 by decide) (evPos rfl (evPos (show 3001 ≤ 281474976710656 by decide) (evPos (show acc.length < 8796093022208 by omega) (Ev.now _))))))))), by rw [List.length_append, List.length_singleton]; omega, hi2⟩
      | m + 2, hv, _ => omega
  | n + 1, acc, i, h, hi, ha => by
    obtain ⟨t, i1, h1, e1, _, hi1⟩ := spec_l1DrawText_ev b hl i h hi
    obtain ⟨l, i2, h2, hl2, hz, hi2⟩ := spec_l1DrawTexts_l0_ev b hl n (acc ++ [t]) i1 h1 hi1 (by rw [List.length_append, List.length_singleton]; omega)
    have hw : wrap64 (((n + 1 : Nat) : Int) - 1) = (n : Int) := by rw [w64 (by omega) (by omega)]; omega
    exact ⟨l, i2, h2, Ev.step (fun k => by simp only [spec_l1DrawTexts.l0, hw]; exact rfl) (evPos (by omega) (Ev.bind e1 (evPos (show acc.length < 8796093022208 by omega) hl2))), hz, hi2⟩
theorem spec_l1DrawTexts_ev (b : List Int) (hl : b.length ≤ 1000000000000000000) (i h : Int) (hi : 0 ≤ i) :
    ∃ l i' h', Ev (fun k => spec_l1DrawTexts.f k b i h) (l, i', h') ∧ l.length ≤ 1200 ∧ 0 ≤ i' := by
  obtain ⟨x, i1, h1, e1, x0, x1, hi1⟩ := spec_l1Below_eq b hl i h hi 6
  have hx := x1 (by decide)
  obtain ⟨n, rfl⟩ := Int.eq_ofNat_of_zero_le x0
  obtain ⟨l, i2, h2, hl2, hz, hi2⟩ := spec_l1DrawTexts_l0_ev b hl n [] i1 h1 hi1 (by simp; omega)
  refine ⟨l, i2, h2, ?_, hz, hi2⟩
  simp only [spec_l1DrawTexts.f]
  exact Ev.bind (evId (fun _ => e1)) hl2

theorem FnTexts (l : List Int) (hl : l.length ≤ maxLen) (hw : ∀ e ∈ l, (Lit.int .u8 e).wf = true) : ∃ k, laws_FnTexts.f k l = some true := by
  refine Ev.rounds (g := fun k => laws_FnTexts.f k l) ?_
  simp only [laws_FnTexts.f]
  refine Ev.bind (evId (fun _ => rfl)) ?_
  by_cases hb : (l.length : Int) > 4096
  · exact evPos (decide_eq_true hb) (Ev.now _)
  refine evNeg (by simpa using hb) ?_
  have hl2 : l.length ≤ 1000000000000000000 := by omega
  have hx : ∀ x ∈ l, 0 ≤ x ∧ x < 256 := fun x h => byte_wf (hw x h)
  obtain ⟨h, hn⟩ := spec_l1New_ev l hl2
  obtain ⟨ts, i1, h1, hts, htl, hi1⟩ := spec_l1DrawTexts_ev l hl2 0 h (Int.le_refl _)
  have hd1 : Ev (fun k => spec_DrawTexts.f k l) ts := by
    simp only [spec_DrawTexts.f]
    exact Ev.bind hn (Ev.bind hts (Ev.now _))
  have hd2 : ∃ d : List Int, Ev (fun k => spec_DrawReadTexts.f k l) d ∧ (∀ x ∈ d, 0 ≤ x ∧ x < 256) ∧ d.length ≤ 1000000 := by
    have hle := texts_le ts
    obtain ⟨g, i2, h2, e2, hi2⟩ := spec_l1Once_eq l hl2 i1 h1 hi1 2
    have hsz : (strOfNums (texts ts)).size = (texts ts).length := strOfNums_le _
    simp only [spec_DrawReadTexts.f]
    cases g with
    | true =>
      obtain ⟨s, i3, h3, hs, hz, hi3⟩ := spec_l1Bend_ev l hl2 i2 h2 hi2 (strOfNums (texts ts)) (⟨#[0, 128, 2, 3, 97]⟩ : ByteArray) (by omega) (by decide)
      exact ⟨bytesOf s, Ev.bind hn (Ev.bind hts (Ev.bind (spec_Texts_ev ts) (Ev.bind (evId (fun _ => e2)) (evPos rfl (Ev.bind hs (evPos (show (s.size : Int) ≤ 140737488351232 by omega) (Ev.now _))))))), bytesOf_byte s, by rw [bytesOf_length]; omega⟩
    | false =>
      exact ⟨bytesOf (strOfNums (texts ts)), Ev.bind hn (Ev.bind hts (Ev.bind (spec_Texts_ev ts) (Ev.bind (evId (fun _ => e2)) (evNeg Bool.false_ne_true (evPos (by omega) (Ev.now _)))))), bytesOf_byte _, by rw [bytesOf_length]; omega⟩
  obtain ⟨d, hd2, hdb, hdl⟩ := hd2
  have rl : (readTexts d).1.length ≤ 200 := readTexts_len d
  refine Ev.bind hd1 (Ev.bind (impl_Texts_ev ts) (Ev.bind hd2 (Ev.bind (impl_ReadTexts_ev d (by omega) hdb) (Ev.bind (spec_ReadTexts_ev d (by omega) hdb) (evNeg ?_ (Ev.bind (laws_likeTexts_self _ (by omega)) (evPos rfl (Ev.bind (spec_Texts_ev ts) ?_))))))))
  · simp
  refine Ev.step (fun k => by simp only [laws_FnTexts.j0]; exact rfl) (evNeg ?_ ?_)
  · simp
  -- what was read stands for the bytes it was read from
  have tail : ∀ (f g : Nat → Option Bool), (∀ m, readTexts d = (m, true) → texts m = d → Ev f true) → (readTexts d = ([], false) → Ev g true) → Ev (fun k => if (readTexts d).2 = true then f k else g k) true := by
    intro f g hf hg
    rcases readTexts_back hdb with hr | ⟨m, hr, hm, _, _⟩
    · rw [hr]; exact evNeg Bool.false_ne_true (hg hr)
    · rw [hr]; exact evPos rfl (hf m hr hm)
  have fin : ∀ m, readTexts d = (m, true) → texts m = d → Ev (fun k => (impl_Texts.f k (readTexts d).1).bind fun t => some ((strOfNums t).toList == (strOfNums d).toList)) true := by
    intro m hr hm
    rw [hr]
    refine Ev.bind (impl_Texts_ev m) (evEq (Ev.now _) ?_)
    rw [hm]
    simp
  have emp : readTexts d = ([], false) → Ev (fun _ : Nat => if ((readTexts d).1.length : Int) = 0 then some true else some false) true := by
    intro hr
    rw [hr]
    exact evPos rfl (Ev.now _)
  by_cases h0 : ((texts ts).length : Int) > 0
  · have hne : texts ts ≠ [] := fun h => by rw [h] at h0; simp at h0
    have hle := texts_le ts
    obtain ⟨p, hp, he⟩ := laws_pick_ev l (by omega) hx (texts ts).length (by omega)
    have hpart := readTexts_part hne p hp
    have r1 := impl_ReadTexts_ev (texts ts) (by omega) (texts_byte ts)
    rw [readTexts_texts hne] at r1
    refine evPos h0 (Ev.bind r1 (Ev.bind he (evPos (by omega) (evPos (by omega) (Ev.bind (impl_ReadTexts_ev ((texts ts).take p) (by rw [List.length_take]; omega) (fun x hx' => texts_byte ts x (List.mem_of_mem_take hx'))) (evPos rfl (evNeg ?_ (Ev.bind (laws_likeTexts_self ts (by omega)) (evPos rfl ?_)))))))))
    · rw [hpart]; exact Bool.false_ne_true
    · exact tail _ _ fin emp
  · exact evNeg h0 (tail _ _ fin emp)
end Go.Proofs.Ythkhfmomibfkjaa.Pure

/- Proves the plain law behind this statement of the seat (what its functions come to, over numbers and lists): that it answers true. No condition beyond the statement's own. -/
import Derived.Test.YthkhfmomibfkjaaPFnPackedx
import Derived.Test.YthkhfmomibfkjaaLib
import Derived.Test.YthkhfmomibfkjaaLibHit
import Derived.Test.YthkhfmomibfkjaaLibPu
import Derived.Test.YthkhfmomibfkjaaLibRow
import Derived.Test.YthkhfmomibfkjaaLibStr
namespace Go.Proofs.Ythkhfmomibfkjaa.Pure
open Go Go.RowKit Go.Proofs.Ythkhfmomibfkjaa.PFnPacked Go.Proofs.YthkhfmomibfkjaaW.PrintWords Go.Proofs.YthkhfmomibfkjaaW.PrintLast Go.Proofs.YthkhfmomibfkjaaW.PrintMore Go.Proofs.Ythkhfmomibfkjaa.Lib
set_option linter.unusedVariables false
set_option linter.unusedSimpArgs false
theorem spec_l1Number_l0_ev (n : Nat) : ∀ (acc : List Int), acc.length + n ≤ 100000000000000 → Ev (fun k => spec_l1Number.l0 k (n : Int) acc) (acc ++ numN n) := by
 induction n using Nat.strongRecOn with
 | ind n ih =>
  intro acc hl
  by_cases h : n < 128
  ·refine Ev.step (f := fun _ => some _) (fun k => ?_) (Ev.now _)
   simp only [spec_l1Number.l0]
   rw [if_neg (by omega), if_pos (by omega), numN_small h, Int.emod_eq_of_lt (by omega) (by omega)]
  ·have := ih (n / 128) (by omega) (acc ++ [((n % 128 + 128 : Nat) : Int)]) (by simp; omega)
   rw [List.append_assoc, List.singleton_append, ← numN_big h] at this
   refine Ev.step (f := fun k => spec_l1Number.l0 k ((n / 128 : Nat) : Int) (acc ++ [((n % 128 + 128 : Nat) : Int)])) (fun k => ?_) this
   simp only [spec_l1Number.l0]
   rw [if_pos (by omega), if_pos (by omega), Int.tdiv_eq_ediv_of_nonneg (by omega), Int.tmod_eq_emod_of_nonneg (by omega), w64 (by omega) (by omega), w64 (by omega) (by omega)]
   congr 1
   rw [Int.emod_eq_of_lt (by omega) (by omega)]
   congr 1
theorem spec_l1Number_ev (n : Nat) (h : n ≤ 100000000000000) : Ev (fun k => spec_l1Number.f k (n : Int)) (numN n) := by
 have := spec_l1Number_l0_ev n [] (by simpa using h)
 exact this

theorem impl_within_ev (a b c : Int) : Ev (fun _ => impl_within.f a b c) (within a b c) := by
 refine evId (fun _ => ?_)
 unfold impl_within.f within
 by_cases h : a ≥ b
 ·rw [if_pos h, decide_eq_true (show b ≤ a from h), Bool.true_and]
 ·rw [if_neg h, decide_eq_false (show ¬ b ≤ a from h), Bool.false_and]

theorem impl_Number_l0_ev (n : Nat) : ∀ (acc : List Int), acc.length + n ≤ 100000000000000 → Ev (fun k => impl_Number.l0 k (n : Int) acc) (acc ++ numN n) := by
 induction n using Nat.strongRecOn with
 | ind n ih =>
  intro acc hl
  by_cases h : n < 128
  ·refine Ev.step (f := fun _ => some _) (fun k => ?_) (Ev.now _)
   simp only [impl_Number.l0]
   rw [if_neg (by omega), if_pos (by omega), numN_small h, Int.emod_eq_of_lt (by omega) (by omega)]
  ·have := ih (n / 128) (by omega) (acc ++ [((n % 128 + 128 : Nat) : Int)]) (by simp; omega)
   rw [List.append_assoc, List.singleton_append, ← numN_big h] at this
   refine Ev.step (f := fun k => impl_Number.l0 k ((n / 128 : Nat) : Int) (acc ++ [((n % 128 + 128 : Nat) : Int)])) (fun k => ?_) this
   simp only [impl_Number.l0]
   rw [if_pos (by omega), if_pos (by omega), or128 (by omega) (by omega)]
   congr 3
   omega
theorem impl_Number_ev (n : Int) : Ev (fun k => impl_Number.f k n) (number n) := by
 simp only [impl_Number.f]
 refine Ev.bind (impl_within_ev n 0 1099511627776) ?_
 unfold number
 by_cases h : within n 0 1099511627776 = true
 ·rw [if_pos h]
  refine evPos h ?_
  simp only [within, Bool.and_eq_true, decide_eq_true_eq] at h
  have e := impl_Number_l0_ev n.toNat [] (by simp; omega)
  rw [show ((n.toNat : Nat) : Int) = n by omega] at e
  exact e
 ·rw [if_neg h]
  exact evNeg h (Ev.now _)
theorem impl_Number_nat (n : Nat) (h : n ≤ 1099511627776) : Ev (fun k => impl_Number.f k (n : Int)) (numN n) := by
 have e := impl_Number_ev (n : Int)
 unfold number at e
 rw [if_pos (by simp [within]; omega)] at e
 exact e

theorem spec_l1Text_ev (s : ByteArray) (h : s.size ≤ 1099511627776) : Ev (fun k => spec_l1Text.f k s) (textN s) := by
 simp only [spec_l1Text.f]
 have hl := numN_le10 (n := s.size) (by omega)
 exact Ev.bind (spec_l1Number_ev s.size (by omega)) (evPos (by omega) (Ev.now _))
theorem impl_Text_ev (s : ByteArray) : Ev (fun k => impl_Text.f k s) (text s) := by
 simp only [impl_Text.f]
 unfold text
 by_cases h : (s.size : Int) > 3000
 ·rw [if_pos h]; exact evPos h (Ev.now _)
 ·rw [if_neg h]
  have hl := numN_le10 (n := s.size) (by omega)
  exact evNeg h (Ev.bind (impl_Number_nat s.size (by omega)) (evPos (by omega) (Ev.now _)))

theorem spec_Common_l0_ev (s t : ByteArray) (hs : s.size ≤ 140737488351232) : ∀ (av bs : List Int) (i : Nat), (bytesOf s).drop i = av → (bytesOf t).drop i = bs → Ev (fun k => spec_Common.l0 k s t i) (((i + common av bs : Nat) : Int))
 | [], bs, i, ha, hb => by
  have := bdrop_nil ha
  refine Ev.step (f := fun _ => some (i : Int)) (fun k => ?_) (by simpa [common] using Ev.now (i : Int))
  simp only [spec_Common.l0]
  rw [if_neg (by omega)]
 | a :: av, [], i, ha, hb => by
  obtain ⟨h2, h3, h4, h5, h6⟩ := bdrop_cons ha
  have := bdrop_nil hb
  refine Ev.step (f := fun _ => some (i : Int)) (fun k => ?_) (by simpa [common] using Ev.now (i : Int))
  simp only [spec_Common.l0]
  rw [if_pos (by omega), if_neg (by omega)]
 | a :: av, b :: bs, i, ha, hb => by
  obtain ⟨h2, h3, h4, h5, h6⟩ := bdrop_cons ha
  obtain ⟨g2, g3, g4, g5, g6⟩ := bdrop_cons hb
  by_cases e : a = b
  ·have ih := spec_Common_l0_ev s t hs av bs (i + 1) h3 g3
   rw [show i + common (a :: av) (b :: bs) = i + 1 + common av bs by simp only [common, if_pos e]; omega]
   refine Ev.step (f := fun k => spec_Common.l0 k s t ((i + 1 : Nat) : Int)) (fun k => ?_) ih
   simp only [spec_Common.l0]
   rw [if_pos (by omega), if_pos (by omega), if_pos (by omega), h4, g4, if_pos e, w64s (by omega)]
  ·rw [show i + common (a :: av) (b :: bs) = i by simp only [common, if_neg e]; omega]
   refine Ev.step (f := fun _ => some (i : Int)) (fun k => ?_) (Ev.now _)
   simp only [spec_Common.l0]
   rw [if_pos (by omega), if_pos (by omega), if_pos (by omega), h4, g4, if_neg e]
theorem spec_Common_ev (s t : ByteArray) (hs : s.size ≤ 140737488351232) : Ev (fun k => spec_Common.f k s t) (common (bytesOf s) (bytesOf t) : Int) := by
 have := spec_Common_l0_ev s t hs (bytesOf s) (bytesOf t) 0 rfl rfl
 rw [Nat.zero_add] at this
 exact this
theorem impl_Common_same : ∀ k s t i, impl_Common.l0 k s t i = spec_Common.l0 k s t i
 | 0, _, _, _ => rfl
 | k + 1, s, t, i => by simp only [impl_Common.l0, spec_Common.l0, impl_Common_same k]
theorem impl_Common_ev (s t : ByteArray) (hs : s.size ≤ 140737488351232) : Ev (fun k => impl_Common.f k s t) (common (bytesOf s) (bytesOf t) : Int) :=
 Ev.congr (fun k => impl_Common_same k s t 0) (spec_Common_ev s t hs)

/-- Is an entry right? -/
def entOk (e : S49) : Bool := within e.f0.size 1 40 && (decide ((e.f1.size : Int) ≤ 200) && ((!e.f3 || decide (e.f1.toList = ([] : List UInt8))) && within e.f2 1 1000000))
/-- Is the one ahead of the other? -/
def ahead (a b : S49) : Bool := Op.bytesLess a.f0.toList b.f0.toList || (decide (a.f0.toList = b.f0.toList) && decide (a.f2 > b.f2))
def okL : Option S49 → List S49 → Bool
 | _, [] => true
 | p, e :: es => entOk e && ((match p with | none => true | some q => ahead q e) && okL (some e) es)
def entriesOk (xs : List S49) : Bool := decide (xs.length ≤ 300) && okL none xs
theorem entOk_iff {e : S49} : entOk e = true ↔ (1 ≤ e.f0.size ∧ e.f0.size ≤ 40) ∧ e.f1.size ≤ 200 ∧ (e.f3 = true → e.f1.toList = []) ∧ 1 ≤ e.f2 ∧ e.f2 ≤ 1000000 := by
 unfold entOk within
 simp only [Bool.and_eq_true, Bool.or_eq_true, decide_eq_true_eq, Bool.not_eq_true']
 constructor
 ·rintro ⟨⟨h1, h2⟩, h3, h4, h5, h6⟩
  refine ⟨⟨by omega, by omega⟩, by omega, fun hg => ?_, h5, h6⟩
  rcases h4 with h4 | h4
  ·rw [hg] at h4; cases h4
  ·exact h4
 ·rintro ⟨⟨h1, h2⟩, h3, h4, h5, h6⟩
  refine ⟨⟨by omega, by omega⟩, by omega, ?_, h5, h6⟩
  cases h : e.f3 with
  | false => exact Or.inl rfl
  | true => exact Or.inr (h4 h)
/-- The entry ahead of place i. -/
def prev (xs : List S49) (i : Nat) : Option S49 := if i = 0 then none else xs[i - 1]?
theorem prev_succ {xs : List S49} {i : Nat} {e : S49} (h : xs[i]? = some e) : prev xs (i + 1) = some e := by
 unfold prev
 rw [if_neg (by omega), show i + 1 - 1 = i by omega, h]

def flagI (b : Bool) : Int := if b = true then 1 else 0
/-- The mark of an entry: its number twice, and whether it is gone. -/
def markE (e : S49) : Nat := (2 * e.f2 + flagI e.f3).toNat
/-- One entry, the key ahead being 'last'. -/
def packE (last : ByteArray) (e : S49) : List Int :=
 numN (common (bytesOf last) (bytesOf e.f0)) ++ (textN (e.f0.extract (common (bytesOf last) (bytesOf e.f0)) e.f0.size) ++ (numN (markE e) ++ textN e.f1))
def packL (last : ByteArray) : Nat → List S49 → List Int
 | _, [] => []
 | i, e :: es => packE (if i % 8 = 0 then (⟨#[]⟩ : ByteArray) else last) e ++ packL e.f0 (i + 1) es
def packed (xs : List S49) : List Int := numN xs.length ++ packL (⟨#[]⟩ : ByteArray) 0 xs
theorem common_le : ∀ (as_ bs : List Int), common as_ bs ≤ as_.length ∧ common as_ bs ≤ bs.length
 | [], bs => by cases bs <;> simp [common]
 | a :: as_, [] => by simp [common]
 | a :: as_, b :: bs => by
  unfold common
  split
  ·have := common_le as_ bs
   simp only [List.length_cons]
   omega
  ·simp
theorem extract_size (s : ByteArray) (n : Nat) : (s.extract n s.size).size ≤ s.size := by
 simp [ByteArray.size_extract]
theorem packE_le (last : ByteArray) (e : S49) (h : entOk e = true) : (packE last e).length ≤ 300 := by
 obtain ⟨⟨h1, h2⟩, h3, h4, h5, h6⟩ := entOk_iff.1 h
 have c1 := (common_le (bytesOf last) (bytesOf e.f0)).2
 rw [bytesOf_length] at c1
 have n1 := numN_le10 (n := common (bytesOf last) (bytesOf e.f0)) (by omega)
 have x1 := extract_size e.f0 (common (bytesOf last) (bytesOf e.f0))
 have n2 := numN_le10 (n := (e.f0.extract (common (bytesOf last) (bytesOf e.f0)) e.f0.size).size) (by omega)
 have n3 := numN_le10 (n := markE e) (by unfold markE flagI; split <;> omega)
 have n4 := numN_le10 (n := e.f1.size) (by omega)
 unfold packE
 simp only [List.length_append, textN_length]
 omega
theorem packL_le : ∀ (xs : List S49) (last : ByteArray) (i : Nat), (∀ e ∈ xs, entOk e = true) → (packL last i xs).length ≤ 300 * xs.length
 | [], _, _, _ => by simp [packL]
 | e :: es, last, i, h => by
  unfold packL
  have h1 := packE_le (if i % 8 = 0 then (⟨#[]⟩ : ByteArray) else last) e (h e List.mem_cons_self)
  have h2 := packL_le es e.f0 (i + 1) (fun x hx => h x (List.mem_cons_of_mem _ hx))
  rw [List.length_append, List.length_cons]
  omega
theorem okL_all : ∀ (xs : List S49) (p : Option S49), okL p xs = true → ∀ e ∈ xs, entOk e = true
 | [], _, _, e, he => by simp at he
 | x :: xs, p, h, e, he => by
  unfold okL at h
  simp only [Bool.and_eq_true] at h
  rcases List.mem_cons.1 he with rfl | he
  ·exact h.1
  ·exact okL_all xs _ h.2.2 e he
theorem entriesOk_all {xs : List S49} (h : entriesOk xs = true) : ∀ e ∈ xs, entOk e = true := by
 unfold entriesOk at h
 simp only [Bool.and_eq_true] at h
 exact okL_all xs none h.2
theorem entriesOk_le {xs : List S49} (h : entriesOk xs = true) : xs.length ≤ 300 := by
 unfold entriesOk at h
 simp only [Bool.and_eq_true, decide_eq_true_eq] at h
 exact h.1
theorem packed_le {xs : List S49} (hl : xs.length ≤ 300) (h : ∀ e ∈ xs, entOk e = true) : (packed xs).length ≤ 100000 := by
 have h1 := packL_le xs (⟨#[]⟩ : ByteArray) 0 h
 have h2 := numN_le10 (n := xs.length) (by omega)
 unfold packed
 rw [List.length_append]
 omega
theorem common_empty (bs : List Int) : common [] bs = 0 := by cases bs <;> rfl

theorem spec_ReadNumber_l0_ev (xs : List Int) (hx : ∀ x ∈ xs, 0 ≤ x ∧ x < 256) : ∀ (bs : List Int) (i : Nat) (p n : Int), xs.drop i = bs → PW i p → i ≤ 6 → 0 ≤ n → n < p → Ev (fun k => spec_ReadNumber.l0 k xs n p i) (rnum i p n bs)
 | [], i, p, n, hd, hP, hi, h0, h1 => by
  have := drop_nil hd
  refine Ev.step (f := fun k => spec_ReadNumber.j1 k xs n p i false) (fun k => ?_) (Ev.step (f := fun _ => some (0, 0)) (fun k => ?_) (Ev.now _))
  ·simp only [spec_ReadNumber.l0]
   rw [if_neg (by omega)]
  ·simp only [spec_ReadNumber.j1]
   rw [if_neg (by decide)]
 | b :: bs, i, p, n, hd, hP, hi, h0, h1 => by
  obtain ⟨h2, h3, h4⟩ := drop_cons hd
  obtain ⟨b0, b1⟩ := hx b (List.mem_of_getElem? h4)
  by_cases h6 : i < 6
  ·have hp := hP.pos
   have hq := hP.le (by omega)
   have hm := digit_mul b p hp
   have e2 : wrap64 (rd xs i) = b := by rw [rd_at h4, w64 (by omega) (by omega)]
   have e3 : Int.tmod b 128 = b % 128 := Int.tmod_eq_emod_of_nonneg (by omega)
   have ih := spec_ReadNumber_l0_ev xs hx bs (i + 1) (p * 128) (n + b % 128 * p) h3 hP.step (by omega)
   have hi1 : wrap64 ((i : Int) + 1) = (i : Int) + 1 := w64 (by omega) (by omega)
   have hip : (0 : Int) ≤ i := by omega
   have hil : (i : Int) < xs.length := by omega
   simp only [rnum, if_pos h6]
   have e4 : wrap64 (b % 128 * p) = b % 128 * p := by
    generalize b % 128 * p = q at hm; exact w64 (by omega) (by omega)
   have e1 : wrap64 (n + b % 128 * p) = n + b % 128 * p := by
    generalize b % 128 * p = q at hm; exact w64 (by omega) (by omega)
   have e5 : wrap64 (p * 128) = p * 128 := w64 (by omega) (by omega)
   have ih' : Ev (fun k => spec_ReadNumber.l0 k xs (n + b % 128 * p) (p * 128) ((i + 1 : Nat) : Int)) (rnum (i + 1) (p * 128) (n + b % 128 * p) bs) := by
    generalize b % 128 * p = q at hm ih ⊢; exact ih (by omega) (by omega)
   clear ih
   refine Ev.step (f := fun k => spec_ReadNumber.j1 k xs n p i true) (fun k => ?_) ?_
   ·simp only [spec_ReadNumber.l0]
    rw [if_pos hil, decide_eq_true (by omega : (i : Int) < 6)]
   ·by_cases hb : b < 128
    ·rw [if_pos hb]
     refine Ev.step (f := fun _ => some _) (fun k => ?_) (Ev.now _)
     simp only [spec_ReadNumber.j1]
     rw [if_pos trivial, if_pos hip, if_pos hil, e2, e3, e4, e1, if_pos hb, hi1]
     generalize n + b % 128 * p = q
     by_cases hn : q > 1099511627776
     ·rw [if_pos hn, if_pos (Or.inl hn)]
     ·rw [if_neg hn]
      by_cases hi0 : 0 < i
      ·rw [if_pos (by omega)]
       by_cases hb0 : b = 0
       ·rw [if_pos hb0, if_pos (Or.inr ⟨hi0, hb0⟩)]
       ·rw [if_neg hb0, if_neg (fun h => h.elim hn (fun h => hb0 h.2))]
      ·rw [if_neg (by omega), if_neg (fun h => h.elim hn (fun h => hi0 h.1))]
    ·rw [if_neg hb]
     refine Ev.step (f := fun k => spec_ReadNumber.l0 k xs (n + b % 128 * p) (p * 128) ((i + 1 : Nat) : Int)) (fun k => ?_) ih'
     simp only [spec_ReadNumber.j1]
     rw [if_pos trivial, if_pos hip, if_pos hil, e2, e3, e4, e1, if_neg hb, e5, hi1]
     rfl
  ·refine Ev.step (f := fun k => spec_ReadNumber.j1 k xs n p i false) (fun k => ?_) (Ev.step (f := fun _ => some (0, 0)) (fun k => ?_) (evEq (Ev.now _) ?_))
   ·simp only [spec_ReadNumber.l0]
    rw [if_pos (by omega), decide_eq_false (by omega : ¬ (i : Int) < 6)]
   ·simp only [spec_ReadNumber.j1]
    rw [if_neg (by decide)]
   ·simp only [rnum, if_neg h6]
theorem spec_ReadNumber_ev (xs : List Int) (hx : ∀ x ∈ xs, 0 ≤ x ∧ x < 256) : Ev (fun k => spec_ReadNumber.f k xs) (readNumber xs) :=
 spec_ReadNumber_l0_ev xs hx xs 0 1 0 rfl PW.zero (by decide) (by decide) (by decide)

theorem spec_ReadText_ev (xs : List Int) (hl : xs.length ≤ 1000000000000000000) (hx : ∀ x ∈ xs, 0 ≤ x ∧ x < 256) : Ev (fun k => spec_ReadText.f k xs) (readText xs) := by
 simp only [spec_ReadText.f]
 refine Ev.bind (spec_ReadNumber_ev xs hx) ?_
 have hb := readNumber_bd xs hx
 unfold readText
 generalize readNumber xs = p at hb ⊢
 obtain ⟨n, t⟩ := p
 simp only at hb ⊢
 by_cases h0 : t = 0
 ·rw [if_pos (Or.inl h0)]; exact evPos h0 (Ev.now _)
 refine evNeg h0 ?_
 by_cases h1 : n > 3000
 ·rw [if_pos (Or.inr (Or.inl h1))]; exact evPos h1 (Ev.now _)
 refine evNeg h1 ?_
 have e1 : wrap64 ((xs.length : Int) - t) = (xs.length : Int) - t := w64 (by omega) (by omega)
 rw [e1]
 by_cases h2 : n > (xs.length : Int) - t
 ·rw [if_pos (Or.inr (Or.inr h2))]; exact evPos h2 (Ev.now _)
 refine evNeg h2 ?_
 have e2 : wrap64 (t + n) = t + n := w64 (by omega) (by omega)
 rw [e2]
 exact evEq (evPos (by omega) (evPos (by omega) (evPos (by omega) (Ev.now _)))) (if_neg (fun h => by rcases h with h | h | h <;> omega)).symm

theorem evThen {α : Type} {c : Prop} [Decidable c] {f g : Nat → Option α} {r : α} (hc : c) (h : Ev (fun k => if c then f k else g k) r) : Ev f r := by
 obtain ⟨K, h⟩ := h
 exact ⟨K, fun k hk => (if_pos (e := g k) hc).symm.trans (h k hk)⟩
theorem evElse {α : Type} {c : Prop} [Decidable c] {f g : Nat → Option α} {r : α} (hc : ¬ c) (h : Ev (fun k => if c then f k else g k) r) : Ev g r := by
 obtain ⟨K, h⟩ := h
 exact ⟨K, fun k hk => (if_neg (t := f k) hc).symm.trans (h k hk)⟩
theorem rnum_numN (n : Nat) : ∀ (i : Nat) (p acc : Int) (r : List Int), PW i p → i ≤ 6 → 0 ≤ acc → (i = 0 ∨ 1 ≤ n) → acc + n * p ≤ 1099511627776 → rnum i p acc (numN n ++ r) = (acc + n * p, ((i + (numN n).length : Nat) : Int)) := by
 induction n using Nat.strongRecOn with
 | ind n ih =>
  intro i p acc r hP hi h0 hn hle
  have hp := hP.pos
  have h6 : i < 6 := by
   rcases hn with h | h
   ·omega
   ·by_cases h6 : i = 6
    ·exfalso
     unfold PW at hP
     subst h6
     have e : p = 4398046511104 := hP
     subst e
     omega
    ·omega
  by_cases h : n < 128
  ·rw [numN_small h, List.singleton_append]
   unfold rnum
   rw [if_pos h6, if_pos (by omega), Int.emod_eq_of_lt (by omega) (by omega), if_neg ?_]
   ·simp
   ·rintro (hc | ⟨hc, hd⟩)
    ·omega
    ·omega
  ·rw [numN_big h, List.cons_append]
   unfold rnum
   rw [if_pos h6, if_neg (by omega)]
   have e1 : (((n % 128 + 128 : Nat) : Int)) % 128 = ((n % 128 : Nat) : Int) := by omega
   rw [e1]
   have e2 : acc + ((n % 128 : Nat) : Int) * p + ((n / 128 : Nat) : Int) * (p * 128) = acc + n * p := by
    have e3 : (n : Int) = ((n / 128 : Nat) : Int) * 128 + ((n % 128 : Nat) : Int) := by omega
    rw [e3]
    generalize ((n / 128 : Nat) : Int) = a
    generalize ((n % 128 : Nat) : Int) = b
    rw [Int.add_mul, Int.mul_assoc, Int.mul_comm 128 p]
    omega
   have hm : 0 ≤ ((n % 128 : Nat) : Int) * p := Int.mul_nonneg (by omega) (by omega)
   rw [ih (n / 128) (by omega) (i + 1) (p * 128) _ r hP.step (by omega) (by omega) (Or.inr (by omega)) (by omega), e2]
   simp only [List.length_cons]
   congr 1
   omega
theorem readNumber_numN (n : Nat) (r : List Int) (h : n ≤ 1099511627776) : readNumber (numN n ++ r) = ((n : Int), ((numN n).length : Int)) := by
 unfold readNumber
 rw [rnum_numN n 0 1 0 r PW.zero (by decide) (by decide) (Or.inl rfl) (by omega)]
 simp
theorem readText_textN (s : ByteArray) (r : List Int) (h : s.size ≤ 3000) : readText (textN s ++ r) = (s, ((textN s).length : Int)) := by
 have hp := numN_pos s.size
 have hn : readNumber (textN s ++ r) = ((s.size : Int), ((numN s.size).length : Int)) := by
  unfold textN
  rw [List.append_assoc]
  exact readNumber_numN s.size _ (by omega)
 unfold readText
 rw [hn]
 have hl := textN_length s
 simp only
 rw [if_neg ?_]
 ·have e : ((numN s.size).length : Int) + (s.size : Int) = (((textN s).length : Nat) : Int) := by omega
  rw [e, Int.toNat_natCast, Int.toNat_natCast, List.take_left]
  unfold textN
  rw [List.drop_left, strOfNums_bytesOf]
 ·simp only [List.length_append]
  rintro (hc | hc | hc) <;> omega
theorem readText_size (xs : List Int) (hx : ∀ x ∈ xs, 0 ≤ x ∧ x < 256) : (readText xs).1.size ≤ 3000 := by
 have h := readNumber_bd xs hx
 unfold readText
 split
 ·decide
 ·rename_i hc
  simp only
  rw [← bytesOf_length, bytesOf_strOfNums (fun x hm => hx x (List.mem_of_mem_take (List.mem_of_mem_drop hm))), List.length_drop, List.length_take]
  omega
theorem common_take : ∀ (as_ bs : List Int), as_.take (common as_ bs) = bs.take (common as_ bs)
 | [], bs => by rw [common_empty]; rfl
 | a :: as_, [] => by simp [common]
 | a :: as_, b :: bs => by
  unfold common
  split
  ·rename_i h
   rw [List.take_succ_cons, List.take_succ_cons, common_take as_ bs, h]
  ·rfl
theorem bytesOf_append (s t : ByteArray) : bytesOf (s ++ t) = bytesOf s ++ bytesOf t := by
 unfold bytesOf
 simp
theorem bytesOf_extract (s : ByteArray) (a b : Nat) : bytesOf (s.extract a b) = ((bytesOf s).take b).drop a := by
 unfold bytesOf
 simp [List.map_take, List.map_drop, List.drop_take]
theorem common_key (l s : ByteArray) : l.extract 0 (common (bytesOf l) (bytesOf s)) ++ s.extract (common (bytesOf l) (bytesOf s)) s.size = s := by
 apply bytesOf_inj
 rw [bytesOf_append, bytesOf_extract, bytesOf_extract, List.drop_zero, common_take]
 rw [List.take_of_length_le (l := bytesOf s) (i := s.size) (by rw [bytesOf_length]; omega), List.take_append_drop]
/-- One entry off the begin, the key ahead being l. -/
def unStep (l : ByteArray) (ys : List Int) : Option (S49 × List Int) :=
 if (readNumber ys).2 = 0 ∨ (readText (ys.drop (readNumber ys).2.toNat)).2 = 0 ∨ (readNumber ys).1 > l.size then none
 else if (readNumber ((ys.drop (readNumber ys).2.toNat).drop (readText (ys.drop (readNumber ys).2.toNat)).2.toNat)).2 = 0 ∨ (readText (((ys.drop (readNumber ys).2.toNat).drop (readText (ys.drop (readNumber ys).2.toNat)).2.toNat).drop (readNumber ((ys.drop (readNumber ys).2.toNat).drop (readText (ys.drop (readNumber ys).2.toNat)).2.toNat)).2.toNat)).2 = 0 then none
 else some (⟨l.extract 0 (readNumber ys).1.toNat ++ (readText (ys.drop (readNumber ys).2.toNat)).1,
   (readText (((ys.drop (readNumber ys).2.toNat).drop (readText (ys.drop (readNumber ys).2.toNat)).2.toNat).drop (readNumber ((ys.drop (readNumber ys).2.toNat).drop (readText (ys.drop (readNumber ys).2.toNat)).2.toNat)).2.toNat)).1,
   wrap64 (Int.tdiv (readNumber ((ys.drop (readNumber ys).2.toNat).drop (readText (ys.drop (readNumber ys).2.toNat)).2.toNat)).1 2), (Int.tmod (readNumber ((ys.drop (readNumber ys).2.toNat).drop (readText (ys.drop (readNumber ys).2.toNat)).2.toNat)).1 2 == 1)⟩,
  (((ys.drop (readNumber ys).2.toNat).drop (readText (ys.drop (readNumber ys).2.toNat)).2.toNat).drop (readNumber ((ys.drop (readNumber ys).2.toNat).drop (readText (ys.drop (readNumber ys).2.toNat)).2.toNat)).2.toNat).drop (readText (((ys.drop (readNumber ys).2.toNat).drop (readText (ys.drop (readNumber ys).2.toNat)).2.toNat).drop (readNumber ((ys.drop (readNumber ys).2.toNat).drop (readText (ys.drop (readNumber ys).2.toNat)).2.toNat)).2.toNat)).2.toNat)
theorem markE_back (e : S49) (h : 1 ≤ e.f2) (h2 : e.f2 ≤ 1000000) : wrap64 (Int.tdiv ((markE e : Nat) : Int) 2) = e.f2 ∧ (Int.tmod ((markE e : Nat) : Int) 2 == 1) = e.f3 := by
 unfold markE flagI
 cases hg : e.f3 with
 | true =>
  rw [if_pos rfl, show (((2 * e.f2 + 1).toNat : Nat) : Int) = 2 * e.f2 + 1 by omega, Int.tdiv_eq_ediv_of_nonneg (by omega), Int.tmod_eq_emod_of_nonneg (by omega)]
  refine ⟨by rw [w64 (by omega) (by omega)]; omega, ?_⟩
  rw [beq_iff_eq]; omega
 | false =>
  rw [if_neg (by decide), show (((2 * e.f2 + 0).toNat : Nat) : Int) = 2 * e.f2 by omega, Int.tdiv_eq_ediv_of_nonneg (by omega), Int.tmod_eq_emod_of_nonneg (by omega)]
  refine ⟨by rw [w64 (by omega) (by omega)]; omega, ?_⟩
  rw [beq_eq_false_iff_ne]; omega
theorem unStep_laid (l : ByteArray) (e : S49) (c : Nat) (r : List Int) (he : entOk e = true) (hc : c ≤ l.size) (hce : c ≤ e.f0.size) (hk : l.extract 0 c ++ e.f0.extract c e.f0.size = e.f0) :
  unStep l (numN c ++ (textN (e.f0.extract c e.f0.size) ++ (numN (markE e) ++ (textN e.f1 ++ r)))) = some (e, r) := by
 obtain ⟨⟨h1, h2⟩, h3, h4, h5, h6⟩ := entOk_iff.1 he
 have x1 := extract_size e.f0 c
 have hm : markE e ≤ 100000000 := by unfold markE flagI; split <;> omega
 obtain ⟨b1, b2⟩ := markE_back e h5 h6
 have e1 := readNumber_numN c (textN (e.f0.extract c e.f0.size) ++ (numN (markE e) ++ (textN e.f1 ++ r))) (by omega)
 have e2 := readText_textN (e.f0.extract c e.f0.size) (numN (markE e) ++ (textN e.f1 ++ r)) (by omega)
 have e3 := readNumber_numN (markE e) (textN e.f1 ++ r) (by omega)
 have e4 := readText_textN e.f1 r (by omega)
 have p1 := numN_pos c
 have p2 := numN_pos (markE e)
 have p3 := numN_pos (e.f0.extract c e.f0.size).size
 have p4 := numN_pos e.f1.size
 have q1 := textN_length (e.f0.extract c e.f0.size)
 have q2 := textN_length e.f1
 unfold unStep
 simp only [e1, e2, e3, e4, Int.toNat_natCast, List.drop_left]
 rw [if_neg (by omega), if_neg (by omega), b1, b2, hk]
theorem unStep_packE (l : ByteArray) (e : S49) (r : List Int) (he : entOk e = true) : unStep l (packE l e ++ r) = some (e, r) := by
 unfold packE
 have c1 := common_le (bytesOf l) (bytesOf e.f0)
 rw [bytesOf_length, bytesOf_length] at c1
 have := unStep_laid l e (common (bytesOf l) (bytesOf e.f0)) r he c1.1 c1.2 (common_key l e.f0)
 simpa only [List.append_assoc] using this
theorem unStep_packE0 (l : ByteArray) (e : S49) (r : List Int) (he : entOk e = true) : unStep l (packE (⟨#[]⟩ : ByteArray) e ++ r) = some (e, r) := by
 unfold packE
 rw [bytesOf_empty, common_empty]
 have hk : l.extract 0 0 ++ e.f0.extract 0 e.f0.size = e.f0 := by
  apply bytesOf_inj
  rw [bytesOf_append, bytesOf_extract, bytesOf_extract, List.drop_zero, List.drop_zero, List.take_zero, List.nil_append, List.take_of_length_le (by rw [bytesOf_length]; omega)]
 have := unStep_laid l e 0 r he (by omega) (by omega) hk
 simpa only [List.append_assoc] using this
theorem packE_byte (l : ByteArray) (e : S49) : ∀ x ∈ packE l e, 0 ≤ x ∧ x < 256 := by
 intro x hx
 unfold packE at hx
 simp only [List.mem_append] at hx
 rcases hx with h | h | h | h
 ·exact numN_byte _ x h
 ·exact textN_byte _ x h
 ·exact numN_byte _ x h
 ·exact textN_byte _ x h
theorem packL_byte : ∀ (xs : List S49) (l : ByteArray) (i : Nat), ∀ x ∈ packL l i xs, 0 ≤ x ∧ x < 256
 | [], _, _, x, hx => by simp [packL] at hx
 | e :: es, l, i, x, hx => by
  unfold packL at hx
  rcases List.mem_append.1 hx with h | h
  ·exact packE_byte _ e x h
  ·exact packL_byte es _ _ x h
theorem packed_byte (xs : List S49) : ∀ x ∈ packed xs, 0 ≤ x ∧ x < 256 := by
 intro x hx
 unfold packed at hx
 rcases List.mem_append.1 hx with h | h
 ·exact numN_byte _ x h
 ·exact packL_byte _ _ _ x h
theorem strNums_eq {xs ys : List Int} (hx : ∀ x ∈ xs, 0 ≤ x ∧ x < 256) (hy : ∀ x ∈ ys, 0 ≤ x ∧ x < 256) : (strOfNums xs).toList = (strOfNums ys).toList ↔ xs = ys := by
 constructor
 ·intro h
  have := str_eq.1 h
  rw [← bytesOf_strOfNums hx, ← bytesOf_strOfNums hy, this]
 ·intro h; rw [h]
/-- Is it a list that these bytes stand for? -/
def Unp (xs : List Int) (L : List S49) : Prop := entriesOk L = true ∧ packed L = xs
open Classical in
noncomputable def unpacked (xs : List Int) : List S49 × Bool := if h : ∃ L, Unp xs L then (Classical.choose h, true) else ([], false)
theorem unpacked_le (xs : List Int) : (unpacked xs).1.length ≤ 300 := by
 unfold unpacked
 split
 ·rename_i h
  exact entriesOk_le (Classical.choose_spec h).1
 ·simp
theorem unpacked_ev {g : Nat → Option (List S49 × Bool)} {xs : List Int} (h1 : ∃ r, Ev g r ∧ (r = ([], false) ∨ ∃ L, r = (L, true) ∧ Unp xs L)) (h2 : ∀ L, Unp xs L → Ev g (L, true)) : Ev g (unpacked xs) := by
 unfold unpacked
 split
 ·rename_i h
  exact h2 _ (Classical.choose_spec h)
 ·rename_i h
  obtain ⟨r, hr, h3 | ⟨L, _, h4⟩⟩ := h1
  ·rw [← h3]; exact hr
  ·exact absurd ⟨L, h4⟩ h
theorem wadd {a b : Nat} (h : a + b ≤ 1000000000000000000) : wrap64 ((a : Int) + (b : Int)) = ((a + b : Nat) : Int) := by rw [w64 (by omega) (by omega)]; omega
theorem rdN (ys : List Int) (hy : ∀ x ∈ ys, 0 ≤ x ∧ x < 256) : ∃ c t : Nat, readNumber ys = ((c : Int), (t : Int)) ∧ c ≤ 1099511627776 ∧ t ≤ ys.length := by
 have b := readNumber_bd ys hy
 generalize readNumber ys = p at b
 obtain ⟨a, t⟩ := p
 simp only at b
 exact ⟨a.toNat, t.toNat, by rw [Int.toNat_of_nonneg b.1.1, Int.toNat_of_nonneg b.2.1], by omega, by omega⟩
theorem rdT (ys : List Int) (hy : ∀ x ∈ ys, 0 ≤ x ∧ x < 256) : ∃ (s : ByteArray) (t : Nat), readText ys = (s, (t : Int)) ∧ s.size ≤ 3000 ∧ t ≤ ys.length := by
 have b := readText_bd ys hy
 have s := readText_size ys hy
 generalize readText ys = p at b s
 obtain ⟨a, t⟩ := p
 simp only at b s
 exact ⟨a, t.toNat, by rw [Int.toNat_of_nonneg b.1], s, by omega⟩

theorem packL_inj : ∀ (ls ms : List S49) (last : ByteArray) (i : Nat) (r r' : List Int), ls.length = ms.length → (∀ e ∈ ls, entOk e = true) → (∀ e ∈ ms, entOk e = true) → packL last i ls ++ r = packL last i ms ++ r' → ls = ms ∧ r = r'
 | [], [], _, _, r, r', _, _, _, h => ⟨rfl, by simpa [packL] using h⟩
 | e :: es, [], _, _, _, _, hl, _, _, _ => by simp at hl
 | [], e :: es, _, _, _, _, hl, _, _, _ => by simp at hl
 | e :: es, e' :: es', last, i, r, r', hl, h1, h2, h => by
  unfold packL at h
  rw [List.append_assoc, List.append_assoc] at h
  generalize (if i % 8 = 0 then (⟨#[]⟩ : ByteArray) else last) = b at h
  have u1 := unStep_packE b e (packL e.f0 (i + 1) es ++ r) (h1 e List.mem_cons_self)
  have u2 := unStep_packE b e' (packL e'.f0 (i + 1) es' ++ r') (h2 e' List.mem_cons_self)
  rw [h, u2] at u1
  simp only [Option.some.injEq, Prod.mk.injEq] at u1
  obtain ⟨rfl, u3⟩ := u1
  obtain ⟨k1, k2⟩ := packL_inj es es' e'.f0 (i + 1) r r' (by simpa using hl) (fun x hx => h1 x (List.mem_cons_of_mem _ hx)) (fun x hx => h2 x (List.mem_cons_of_mem _ hx)) u3.symm
  exact ⟨by rw [k1], k2⟩
theorem packed_inj {l m : List S49} {r r' : List Int} (hl : entriesOk l = true) (hm : entriesOk m = true) (h : packed l ++ r = packed m ++ r') : l = m ∧ r = r' := by
 have l1 := entriesOk_le hl
 have l2 := entriesOk_le hm
 unfold packed at h
 rw [List.append_assoc, List.append_assoc] at h
 have r1 := readNumber_numN l.length (packL (⟨#[]⟩ : ByteArray) 0 l ++ r) (by omega)
 rw [h, readNumber_numN m.length _ (by omega)] at r1
 have hlen : m.length = l.length := by
  have := congrArg Prod.fst r1
  simp only at this
  omega
 rw [hlen] at h
 exact packL_inj l m _ 0 r r' hlen.symm (entriesOk_all hl) (entriesOk_all hm) (List.append_cancel_left h)
theorem unpacked_packed {l : List S49} (hl : entriesOk l = true) : unpacked (packed l) = (l, true) := by
 unfold unpacked
 have hx : ∃ L, Unp (packed l) L := ⟨l, hl, rfl⟩
 rw [dif_pos hx]
 obtain ⟨h1, h2⟩ := Classical.choose_spec hx
 have := packed_inj (r := []) (r' := []) h1 hl (by rw [h2])
 rw [this.1]
theorem unpacked_part {l : List S49} (hl : entriesOk l = true) (i : Nat) (hi : i < (packed l).length) : (unpacked ((packed l).take i)).2 = false := by
 unfold unpacked
 split
 ·rename_i hx
  exfalso
  obtain ⟨h1, h2⟩ := Classical.choose_spec hx
  have := packed_inj (r := (packed l).drop i) (r' := []) h1 hl (by rw [h2, List.take_append_drop, List.append_nil])
  have h3 := congrArg List.length this.2
  rw [List.length_drop, List.length_nil] at h3
  omega
 ·rfl
theorem unpacked_back (d : List Int) : unpacked d = ([], false) ∨ ∃ L, unpacked d = (L, true) ∧ Unp d L := by
 unfold unpacked
 split
 ·rename_i h
  exact Or.inr ⟨_, rfl, Classical.choose_spec h⟩
 ·exact Or.inl rfl
theorem packed_ne (l : List S49) : 0 < (packed l).length := by
 have := numN_pos l.length
 unfold packed
 rw [List.length_append]; omega

theorem spec_l1In_ev (a b c : Int) : Ev (fun _ => spec_l1In.f a b c) (within a b c) := by
 refine evId (fun _ => ?_)
 unfold spec_l1In.f within
 by_cases h : a ≥ b
 ·rw [if_pos h, decide_eq_true (show b ≤ a from h), Bool.true_and]
 ·rw [if_neg h, decide_eq_false (show ¬ b ≤ a from h), Bool.false_and]

theorem spec_l3Entry_ev (e : S49) : Ev (fun _ => spec_l3Entry.f e.f0 e.f1 e.f2 e.f3) (entOk e) := by
 obtain ⟨a, b, c, g⟩ := e
 refine evId (fun _ => ?_)
 have hin : spec_l1In.f c 1 1000000 = some (within c 1 1000000) := by
  obtain ⟨k, h⟩ := (spec_l1In_ev c 1 1000000).rounds
  exact h
 unfold spec_l3Entry.f entOk
 simp only [hin, Option.bind_some]
 by_cases h1 : (a.size : Int) ≥ 1
 ·by_cases h2 : (a.size : Int) ≤ 40
  ·by_cases h3 : (b.size : Int) ≤ 200
   ·rw [if_pos h1, if_pos h2, if_pos h3]
    have : within (a.size : Int) 1 40 = true := by simp [within]; omega
    rw [this, decide_eq_true h3]
    cases g with
    | false => simp
    | true =>
     rw [if_pos rfl]
     by_cases h4 : b.toList = ([] : List UInt8)
     ·rw [if_pos h4]; simp [h4]
     ·rw [if_neg h4]; simp [h4]
   ·rw [if_pos h1, if_pos h2, if_neg h3, decide_eq_false h3]; simp
  ·rw [if_pos h1, if_neg h2]
   have : within (a.size : Int) 1 40 = false := by simp [within]; omega
   rw [this]; simp
 ·rw [if_neg h1]
  have : within (a.size : Int) 1 40 = false := by simp [within]; omega
  rw [this]; simp
theorem spec_l3Ahead_ev (a b : S49) : Ev (fun _ => spec_l3Ahead.f a.f0 a.f1 a.f2 a.f3 b.f0 b.f1 b.f2 b.f3) (ahead a b) := by
 refine evId (fun _ => ?_)
 unfold spec_l3Ahead.f ahead
 cases h : Op.bytesLess a.f0.toList b.f0.toList with
 | true => simp
 | false =>
  rw [if_neg (by simp)]
  by_cases h2 : a.f0.toList = b.f0.toList
  ·rw [if_pos h2]; simp [h2]
  ·rw [if_neg h2]; simp [h2]
theorem spec_EntriesOk_l0_ev (xs : List S49) (hl : xs.length ≤ 1000000000000000000) : ∀ (bs : List S49) (i : Nat), xs.drop i = bs → Ev (fun k => spec_EntriesOk.l0 k xs i) (okL (prev xs i) bs)
 | [], i, hd => by
  have := drop_nil hd
  refine Ev.step (f := fun _ => some true) (fun k => ?_) (Ev.now _)
  simp only [spec_EntriesOk.l0]
  rw [if_neg (by omega)]
 | e :: bs, i, hd => by
  obtain ⟨h2, h3, h4⟩ := drop_cons hd
  have e1 : rd_T49 xs (i : Int) = e := getD_at h4
  have ih := spec_EntriesOk_l0_ev xs hl bs (i + 1) h3
  rw [prev_succ h4] at ih
  refine Ev.step (f := fun k => (spec_l3Entry.f e.f0 e.f1 e.f2 e.f3).bind fun t127 => (if t127 = true then (if (i : Int) > 0 then ((spec_l3Ahead.f (rd_T49 xs (wrap64 ((i : Int) - 1))).f0 (rd_T49 xs (wrap64 ((i : Int) - 1))).f1 (rd_T49 xs (wrap64 ((i : Int) - 1))).f2 (rd_T49 xs (wrap64 ((i : Int) - 1))).f3 e.f0 e.f1 e.f2 e.f3).bind fun t130 => (if t130 = true then (spec_EntriesOk.l0 k xs ((i + 1 : Nat) : Int)) else (some false))) else (spec_EntriesOk.l0 k xs ((i + 1 : Nat) : Int))) else (some false))) (fun k => ?_) (Ev.bind (spec_l3Entry_ev e) ?_)
  ·simp only [spec_EntriesOk.l0]
   rw [if_pos (by omega), if_pos (by omega), e1, w64s (by omega)]
   by_cases hi : (i : Int) > 0
   ·simp only [if_pos hi, if_pos (show (0 : Int) ≤ wrap64 ((i : Int) - 1) by rw [w64 (by omega) (by omega)]; omega), if_pos (show wrap64 ((i : Int) - 1) < (xs.length : Int) by rw [w64 (by omega) (by omega)]; omega)]
   ·simp only [if_neg hi]
  ·unfold okL
   cases he : entOk e with
   | false => exact evNeg (by simp) (Ev.now _)
   | true =>
    refine evPos rfl ?_
    rw [Bool.true_and]
    by_cases hi : i = 0
    ·subst hi
     refine evNeg (by omega) (evEq ih ?_)
     simp [prev]
    ·obtain ⟨q, hq⟩ : ∃ q, xs[i - 1]? = some q := ⟨_, List.getElem?_eq_getElem (by omega)⟩
     have e2 : rd_T49 xs (wrap64 ((i : Int) - 1)) = q := by
      rw [w64 (by omega) (by omega), show (i : Int) - 1 = ((i - 1 : Nat) : Int) by omega]
      exact getD_at hq
     refine evPos (by omega) ?_
     rw [e2]
     refine Ev.bind (spec_l3Ahead_ev q e) ?_
     simp only [prev, if_neg hi, hq]
     cases ahead q e with
     | false => exact evNeg (by simp) (Ev.now _)
     | true => exact evPos rfl (evEq ih (by rw [Bool.true_and]))
theorem spec_EntriesOk_ev (xs : List S49) : Ev (fun k => spec_EntriesOk.f k xs) (entriesOk xs) := by
 simp only [spec_EntriesOk.f]
 unfold entriesOk
 by_cases h : (xs.length : Int) > 300
 ·rw [decide_eq_false (by omega)]; exact evPos h (Ev.now _)
 ·rw [decide_eq_true (by omega), Bool.true_and]
  exact evNeg h (spec_EntriesOk_l0_ev xs (by omega) xs 0 rfl)

theorem spec_l4Packed_l0_ev (xs : List S49) (hl : xs.length ≤ 300) (hok : ∀ e ∈ xs, entOk e = true) : ∀ (bs : List S49) (i : Nat) (acc : List Int) (last : ByteArray), xs.drop i = bs → last.size ≤ 40 → acc.length + 300 * bs.length ≤ 1000000000 → Ev (fun k => spec_l4Packed.l0 k xs acc last i) (acc ++ packL last i bs)
 | [], i, acc, last, hd, hla, ha => by
  have := drop_nil hd
  refine Ev.step (f := fun _ => some acc) (fun k => ?_) (evEq (Ev.now _) (by simp [packL]))
  simp only [spec_l4Packed.l0]
  rw [if_neg (by omega)]
 | e :: bs, i, acc, last, hd, hla, ha => by
  obtain ⟨h2, h3, h4⟩ := drop_cons hd
  have e1 : rd_T49 xs (i : Int) = e := getD_at h4
  have he := hok e (List.mem_of_getElem? h4)
  obtain ⟨⟨g1, g2⟩, g3, g4, g5, g6⟩ := entOk_iff.1 he
  rw [List.length_cons] at ha
  have key : ∀ l : ByteArray, l.size ≤ 40 → Ev (fun k => spec_l4Packed.j1 k xs acc l i e.f0 e.f1 e.f2 e.f3) (acc ++ (packE l e ++ packL e.f0 (i + 1) bs)) := by
   intro l hl40
   have hp := packE_le l e he
   unfold packE at hp ⊢
   have c1 := (common_le (bytesOf l) (bytesOf e.f0)).2
   rw [bytesOf_length] at c1
   generalize hc : common (bytesOf l) (bytesOf e.f0) = c at hp c1 ⊢
   have x1 := extract_size e.f0 c
   have hm : wrap64 (wrap64 (2 * e.f2) + flagI e.f3) = ((markE e : Nat) : Int) := by
    unfold markE flagI
    rw [w64 (x := 2 * e.f2) (by omega) (by omega)]
    split
    ·rw [w64 (by omega) (by omega)]; omega
    ·rw [w64 (by omega) (by omega)]; omega
   have hm2 : markE e ≤ 100000000000 := by unfold markE flagI; split <;> omega
   simp only [List.length_append] at hp
   refine Ev.step (fun k => by simp only [spec_l4Packed.j1]; exact rfl) ?_
   have hcm := spec_Common_ev l e.f0 (by omega)
   rw [hc] at hcm
   refine Ev.bind hcm (Ev.bind (spec_l1Number_ev c (by omega)) (evPos (by omega) ?_))
   simp only [Option.bind_some, Int.toNat_natCast]
   refine evPos (by omega) (evPos (by omega) (Ev.bind (spec_l1Text_ev _ (by omega)) (evPos (by rw [List.length_append]; omega) ?_)))
   have hflag : ∀ (b : Bool), Ev (fun _ => spec_l4Flag.f b) (flagI b) := fun b => evId (fun _ => by unfold spec_l4Flag.f flagI; split <;> rfl)
   refine Ev.bind (hflag e.f3) ?_
   rw [hm]
   refine Ev.bind (spec_l1Number_ev (markE e) (by omega)) (evPos (by simp only [List.length_append]; omega) (Ev.bind (spec_l1Text_ev e.f1 (by omega)) (evPos (by simp only [List.length_append]; omega) ?_)))
   have ih := spec_l4Packed_l0_ev xs hl hok bs (i + 1) (acc ++ (numN c ++ (textN (e.f0.extract c e.f0.size) ++ (numN (markE e) ++ textN e.f1)))) e.f0 h3 (by omega) (by simp only [List.length_append]; omega)
   rw [w64s (by omega)]
   simpa [List.append_assoc] using ih
  unfold packL
  by_cases h8 : i % 8 = 0
  ·rw [if_pos h8]
   refine Ev.step (fun k => ?_) (key (⟨#[]⟩ : ByteArray) (by decide))
   simp only [spec_l4Packed.l0]
   rw [if_pos (by omega), if_pos (by omega), e1, if_pos (by rw [Int.tmod_eq_emod_of_nonneg (by omega)]; omega)]
  ·rw [if_neg h8]
   refine Ev.step (fun k => ?_) (key last hla)
   simp only [spec_l4Packed.l0]
   rw [if_pos (by omega), if_pos (by omega), e1, if_neg (by rw [Int.tmod_eq_emod_of_nonneg (by omega)]; omega)]
theorem spec_l4Packed_ev (xs : List S49) (hl : xs.length ≤ 300) (hok : ∀ e ∈ xs, entOk e = true) : Ev (fun k => spec_l4Packed.f k xs) (packed xs) := by
 simp only [spec_l4Packed.f]
 have h2 := numN_le10 (n := xs.length) (by omega)
 exact Ev.bind (spec_l1Number_ev xs.length (by omega)) (spec_l4Packed_l0_ev xs hl hok xs 0 _ _ rfl (by decide) (by omega))
theorem spec_Packed_ev (xs : List S49) : Ev (fun k => spec_Packed.f k xs) (if entriesOk xs = true then packed xs else []) := by
 simp only [spec_Packed.f]
 refine Ev.bind (spec_EntriesOk_ev xs) ?_
 by_cases h : entriesOk xs = true
 ·rw [if_pos h]
  exact evPos h (Ev.bind (spec_l4Packed_ev xs (entriesOk_le h) (entriesOk_all h)) (Ev.now _))
 ·rw [if_neg h]
  exact evNeg h (Ev.now _)

theorem spec_Unpacked_second (xs : List Int) (out : List S49) (l p2a p4a : ByteArray) (p3a : Int) (n at_ c t1 t2 t3 t4 : Nat) (hl : xs.length ≤ 1000000000000) (hn : n ≤ 1000) (ho : out.length ≤ 100000) (hs : p2a.size ≤ 3000) (hc : c ≤ l.size) (hc2 : c ≤ 1099511627776) (hle : at_ + t1 + t2 + t3 + t4 ≤ xs.length)
  (r3 : Ev (fun k => spec_ReadNumber.f k (xs.drop (at_ + t1 + t2))) (p3a, (t3 : Int))) (r4 : Ev (fun k => spec_ReadText.f k (xs.drop (at_ + t1 + t2 + t3))) (p4a, (t4 : Int))) (r : List S49 × Bool)
  (hr : Ev (fun k => if (t3 : Int) = 0 then (some ((([] : List S49)), false)) else (if (t4 : Int) = 0 then (some ((([] : List S49)), false)) else (spec_Unpacked.l0 k xs (n : Int) ((at_ + t1 + t2 + t3 + t4 : Nat) : Int) (out ++ [(⟨(l.extract 0 c) ++ p2a, p4a, wrap64 (Int.tdiv p3a 2), ((Int.tmod p3a 2) == 1)⟩ : S49)]) ((l.extract 0 c) ++ p2a)))) r) :
  Ev (fun k => spec_Unpacked.j3 k xs ((n + 1 : Nat) : Int) (at_ : Int) out l (c : Int) (t1 : Int) p2a (t2 : Int) false) r := by
 have q1 : at_ + t1 ≤ 1000000000000000000 := by omega
 have q2 : at_ + t1 + t2 ≤ 1000000000000000000 := by omega
 have q3 : at_ + t1 + t2 + t3 ≤ 1000000000000000000 := by omega
 have q4 : at_ + t1 + t2 + t3 + t4 ≤ 1000000000000000000 := by omega
 have i0 : (0 : Int) ≤ ((at_ + t1 + t2 : Nat) : Int) := by omega
 have i1 : ((at_ + t1 + t2 : Nat) : Int) ≤ (xs.length : Int) := by omega
 have i2 : (0 : Int) ≤ ((at_ + t1 + t2 + t3 : Nat) : Int) := by omega
 have i3 : ((at_ + t1 + t2 + t3 : Nat) : Int) ≤ (xs.length : Int) := by omega
 have i4 : (l.extract 0 c).size + p2a.size ≤ 9223372036854775807 := by
  have : (l.extract 0 c).size ≤ c := by rw [ByteArray.size_extract]; omega
  omega
 have i5 : out.length < 2932031007402 := by omega
 have i6 : (0 : Int) ≤ (c : Int) := by omega
 have i7 : (c : Int) ≤ (l.size : Int) := by omega
 have w5 : wrap64 (((n + 1 : Nat) : Int) - 1) = (n : Int) := by rw [w64 (by omega) (by omega)]; omega
 have w1 : wrap64 ((at_ : Int) + (t1 : Int)) = ((at_ + t1 : Nat) : Int) := wadd q1
 have w2 : wrap64 (((at_ + t1 : Nat) : Int) + (t2 : Int)) = ((at_ + t1 + t2 : Nat) : Int) := wadd q2
 have w3 : wrap64 (((at_ + t1 + t2 : Nat) : Int) + (t3 : Int)) = ((at_ + t1 + t2 + t3 : Nat) : Int) := wadd q3
 have w4 : wrap64 (((at_ + t1 + t2 + t3 : Nat) : Int) + (t4 : Int)) = ((at_ + t1 + t2 + t3 + t4 : Nat) : Int) := wadd q4
 clear hl hn ho hs hc hc2 hle
 refine Ev.step (f := fun k => (spec_ReadNumber.f k (xs.drop (at_ + t1 + t2))).bind fun bt217 => (if 0 ≤ (wrap64 (((at_ + t1 + t2 : Nat) : Int) + bt217.2)) then (if (wrap64 (((at_ + t1 + t2 : Nat) : Int) + bt217.2)) ≤ (xs.length : Int) then ((spec_ReadText.f k (xs.drop ((wrap64 (((at_ + t1 + t2 : Nat) : Int) + bt217.2)) : Int).toNat)).bind fun bt220 => (if bt217.2 = 0 then (some ((([] : List S49)), false)) else (if bt220.2 = 0 then (some ((([] : List S49)), false)) else (spec_Unpacked.l0 k xs (n : Int) (wrap64 ((wrap64 (((at_ + t1 + t2 : Nat) : Int) + bt217.2)) + bt220.2)) (out ++ [(⟨(l.extract 0 c) ++ p2a, bt220.1, wrap64 (Int.tdiv bt217.1 2), ((Int.tmod bt217.1 2) == 1)⟩ : S49)]) ((l.extract 0 c) ++ p2a))))) else (none)) else (none))) (fun k => ?_) ?_
 ·simp only [spec_Unpacked.j3, w1, w2, w5, i0, i1, i4, i5, i6, i7, if_true, Int.toNat_natCast]
  rfl
 ·refine Ev.bind r3 ?_
  simp only [w3, Int.toNat_natCast]
  refine evPos i2 (evPos i3 (Ev.bind r4 ?_))
  simp only [w4]
  exact hr
theorem spec_Unpacked_first (xs : List Int) (out : List S49) (l p2a : ByteArray) (m at_ c t1 t2 : Nat) (hl : xs.length ≤ 1000000000000) (hle : at_ + t1 + t2 ≤ xs.length)
  (r1 : Ev (fun k => spec_ReadNumber.f k (xs.drop at_)) ((c : Int), (t1 : Int))) (r2 : Ev (fun k => spec_ReadText.f k (xs.drop (at_ + t1))) (p2a, (t2 : Int))) (r : List S49 × Bool)
  (hr : Ev (fun k => spec_Unpacked.j3 k xs (m : Int) (at_ : Int) out l (c : Int) (t1 : Int) p2a (t2 : Int) (decide ((t1 : Int) = 0 ∨ (t2 : Int) = 0 ∨ (c : Int) > (l.size : Int)))) r) :
  Ev (fun k => spec_Unpacked.j2 k xs (m : Int) (at_ : Int) out l) r := by
 have w1 : wrap64 ((at_ : Int) + (t1 : Int)) = ((at_ + t1 : Nat) : Int) := wadd (by omega)
 have i0 : (0 : Int) ≤ (at_ : Int) := by omega
 have i1 : (at_ : Int) ≤ (xs.length : Int) := by omega
 have i2 : (0 : Int) ≤ ((at_ + t1 : Nat) : Int) := by omega
 have i3 : ((at_ + t1 : Nat) : Int) ≤ (xs.length : Int) := by omega
 clear hl hle
 refine Ev.step (fun k => by simp only [spec_Unpacked.j2]; exact rfl) ?_
 refine evPos i0 (evPos i1 ?_)
 rw [Int.toNat_natCast]
 refine Ev.bind r1 ?_
 simp only [w1, Int.toNat_natCast]
 refine evPos i2 (evPos i3 (Ev.bind r2 ?_))
 simp only
 by_cases h1 : (t1 : Int) = 0
 ·refine evPos h1 ?_
  rw [decide_eq_true (Or.inl h1)] at hr
  exact hr
 ·refine evNeg h1 ?_
  by_cases h2 : (t2 : Int) = 0
  ·refine evPos h2 ?_
   rw [decide_eq_true (Or.inr (Or.inl h2))] at hr
   exact hr
  ·refine evNeg h2 ?_
   rw [show decide ((t1 : Int) = 0 ∨ (t2 : Int) = 0 ∨ (c : Int) > (l.size : Int)) = decide ((c : Int) > (l.size : Int)) by simp only [h1, h2, false_or]] at hr
   exact hr
theorem spec_Unpacked_step (xs : List Int) (hl : xs.length ≤ 1000000000000) (hx : ∀ x ∈ xs, 0 ≤ x ∧ x < 256) (n at_ : Nat) (out : List S49) (last : ByteArray) (ha : at_ ≤ xs.length) (hn : n ≤ 1000) (ho : out.length ≤ 100000) :
  (unStep (if out.length % 8 = 0 then (⟨#[]⟩ : ByteArray) else last) (xs.drop at_) = none → Ev (fun k => spec_Unpacked.l0 k xs ((n + 1 : Nat) : Int) (at_ : Int) out last) ([], false)) ∧
  (∀ e ys, unStep (if out.length % 8 = 0 then (⟨#[]⟩ : ByteArray) else last) (xs.drop at_) = some (e, ys) → ∃ at' : Nat, at' ≤ xs.length ∧ xs.drop at' = ys ∧ ∀ r, Ev (fun k => spec_Unpacked.l0 k xs (n : Int) (at' : Int) (out ++ [e]) e.f0) r → Ev (fun k => spec_Unpacked.l0 k xs ((n + 1 : Nat) : Int) (at_ : Int) out last) r) := by
 have key : ∀ l : ByteArray, (unStep l (xs.drop at_) = none → Ev (fun k => spec_Unpacked.j2 k xs ((n + 1 : Nat) : Int) (at_ : Int) out l) ([], false)) ∧
   (∀ e ys, unStep l (xs.drop at_) = some (e, ys) → ∃ at' : Nat, at' ≤ xs.length ∧ xs.drop at' = ys ∧ ∀ r, Ev (fun k => spec_Unpacked.l0 k xs (n : Int) (at' : Int) (out ++ [e]) e.f0) r → Ev (fun k => spec_Unpacked.j2 k xs ((n + 1 : Nat) : Int) (at_ : Int) out l) r) := by
  intro l
  have d1 := drop_byte hx at_
  obtain ⟨c, t1, e1, bc, b1⟩ := rdN _ d1
  have r1 := spec_ReadNumber_ev _ d1
  rw [e1] at r1
  rw [List.length_drop] at b1
  have d2 := drop_byte hx (at_ + t1)
  obtain ⟨p2a, t2, e2, s2, b2⟩ := rdT _ d2
  have r2 := spec_ReadText_ev (xs.drop (at_ + t1)) (by rw [List.length_drop]; omega) d2
  rw [e2] at r2
  rw [List.length_drop] at b2
  have d3 := drop_byte hx (at_ + t1 + t2)
  obtain ⟨p3a, t3, e3, bp, b3⟩ := rdN _ d3
  have r3 := spec_ReadNumber_ev _ d3
  rw [e3] at r3
  rw [List.length_drop] at b3
  have d4 := drop_byte hx (at_ + t1 + t2 + t3)
  obtain ⟨p4a, t4, e4, s4, b4⟩ := rdT _ d4
  have r4 := spec_ReadText_ev (xs.drop (at_ + t1 + t2 + t3)) (by rw [List.length_drop]; omega) d4
  rw [e4] at r4
  rw [List.length_drop] at b4
  have hle : at_ + t1 + t2 + t3 + t4 ≤ xs.length := by omega
  clear b1 b2 b3 b4 d1 d2 d3 d4 s4 bp
  unfold unStep
  simp only [e1, e2, e3, e4, Int.toNat_natCast, List.drop_drop]
  have first := spec_Unpacked_first xs out l p2a (n + 1) at_ c t1 t2 hl (by omega) r1 r2
  by_cases hf : (t1 : Int) = 0 ∨ (t2 : Int) = 0 ∨ (c : Int) > (l.size : Int)
  ·rw [if_pos hf]
   refine ⟨fun _ => first _ ?_, fun e ys h => by cases h⟩
   rw [decide_eq_true hf]
   refine Ev.step (f := fun _ => some ([], false)) (fun k => ?_) (Ev.now _)
   simp only [spec_Unpacked.j3]
   rw [if_pos trivial]
  ·rw [if_neg hf]
   rw [decide_eq_false hf] at first
   have h3 : ¬ (c : Int) > (l.size : Int) := fun h => hf (Or.inr (Or.inr h))
   have second := fun r hr => first r (spec_Unpacked_second xs out l p2a p4a (p3a : Int) n at_ c t1 t2 t3 t4 hl hn ho s2 (by omega) bc hle r3 r4 r hr)
   by_cases hg : (t3 : Int) = 0 ∨ (t4 : Int) = 0
   ·rw [if_pos hg]
    refine ⟨fun _ => second _ ?_, fun e ys h => by cases h⟩
    by_cases g3 : (t3 : Int) = 0
    ·exact evPos g3 (Ev.now _)
    ·exact evNeg g3 (evPos (hg.resolve_left g3) (Ev.now _))
   ·rw [if_neg hg]
    refine ⟨fun h => (by cases h), fun e ys h => ?_⟩
    simp only [Option.some.injEq, Prod.mk.injEq] at h
    obtain ⟨rfl, rfl⟩ := h
    refine ⟨at_ + t1 + t2 + t3 + t4, hle, rfl, fun r hr => second r ?_⟩
    exact evNeg (fun h => hg (Or.inl h)) (evNeg (fun h => hg (Or.inr h)) hr)
 by_cases h8 : out.length % 8 = 0
 ·rw [if_pos h8]
  have up : ∀ r, Ev (fun k => spec_Unpacked.j2 k xs ((n + 1 : Nat) : Int) (at_ : Int) out (⟨#[]⟩ : ByteArray)) r → Ev (fun k => spec_Unpacked.l0 k xs ((n + 1 : Nat) : Int) (at_ : Int) out last) r := fun r hr => by
   refine Ev.step (fun k => ?_) hr
   simp only [spec_Unpacked.l0]
   rw [if_pos (by omega), if_pos (by omega)]
  obtain ⟨k1, k2⟩ := key (⟨#[]⟩ : ByteArray)
  refine ⟨fun h => up _ (k1 h), fun e ys h => ?_⟩
  obtain ⟨a', q1, q2, q3⟩ := k2 e ys h
  exact ⟨a', q1, q2, fun r hr => up _ (q3 r hr)⟩
 ·rw [if_neg h8]
  have up : ∀ r, Ev (fun k => spec_Unpacked.j2 k xs ((n + 1 : Nat) : Int) (at_ : Int) out last) r → Ev (fun k => spec_Unpacked.l0 k xs ((n + 1 : Nat) : Int) (at_ : Int) out last) r := fun r hr => by
   refine Ev.step (fun k => ?_) hr
   simp only [spec_Unpacked.l0]
   rw [if_pos (by omega), if_neg (by omega)]
  obtain ⟨k1, k2⟩ := key last
  refine ⟨fun h => up _ (k1 h), fun e ys h => ?_⟩
  obtain ⟨a', q1, q2, q3⟩ := k2 e ys h
  exact ⟨a', q1, q2, fun r hr => up _ (q3 r hr)⟩
theorem spec_Unpacked_end (xs : List Int) (hx : ∀ x ∈ xs, 0 ≤ x ∧ x < 256) (hne : xs ≠ []) (at_ : Int) (out : List S49) (last : ByteArray) :
  (Unp xs out → Ev (fun k => spec_Unpacked.l0 k xs 0 at_ out last) (out, true)) ∧ (¬ Unp xs out → Ev (fun k => spec_Unpacked.l0 k xs 0 at_ out last) ([], false)) := by
 have up : ∀ r, Ev (fun k => ((spec_Packed.f k out).bind fun t201 => (if (strOfNums t201).toList = (strOfNums xs).toList then (some (out, true)) else (some ((([] : List S49)), false))))) r → Ev (fun k => spec_Unpacked.l0 k xs 0 at_ out last) r := fun r hr => by
  refine Ev.step (fun k => ?_) hr
  simp only [spec_Unpacked.l0]
  rw [if_neg (by decide)]
 have sp := spec_Packed_ev out
 refine ⟨fun h => up _ (Ev.bind sp ?_), fun h => up _ (Ev.bind sp ?_)⟩
 ·rw [if_pos h.1, h.2]
  exact evPos rfl (Ev.now _)
 ·by_cases ho : entriesOk out = true
  ·rw [if_pos ho]
   exact evNeg (fun e => h ⟨ho, (strNums_eq (packed_byte out) hx).1 e⟩) (Ev.now _)
  ·rw [if_neg ho]
   exact evNeg (fun e => hne ((strNums_eq (by simp) hx).1 e).symm) (Ev.now _)
theorem spec_Unpacked_some (xs : List Int) (hl : xs.length ≤ 1000000000000) (hx : ∀ x ∈ xs, 0 ≤ x ∧ x < 256) (hne : xs ≠ []) : ∀ (n at_ : Nat) (out : List S49) (last : ByteArray), at_ ≤ xs.length → n ≤ 1000 → out.length + n ≤ 100000 →
  ∃ r, Ev (fun k => spec_Unpacked.l0 k xs (n : Int) (at_ : Int) out last) r ∧ (r = ([], false) ∨ ∃ L, r = (L, true) ∧ Unp xs L)
 | 0, at_, out, last, ha, hn, ho => by
  obtain ⟨h1, h2⟩ := spec_Unpacked_end xs hx hne at_ out last
  by_cases h : Unp xs out
  ·exact ⟨_, h1 h, Or.inr ⟨out, rfl, h⟩⟩
  ·exact ⟨_, h2 h, Or.inl rfl⟩
 | n + 1, at_, out, last, ha, hn, ho => by
  obtain ⟨h1, h2⟩ := spec_Unpacked_step xs hl hx n at_ out last ha (by omega) (by omega)
  cases h : unStep (if out.length % 8 = 0 then (⟨#[]⟩ : ByteArray) else last) (xs.drop at_) with
  | none => exact ⟨_, h1 h, Or.inl rfl⟩
  | some p =>
   obtain ⟨e, ys⟩ := p
   obtain ⟨a', q1, q2, q3⟩ := h2 e ys h
   obtain ⟨r, hr, hc⟩ := spec_Unpacked_some xs hl hx hne n a' (out ++ [e]) e.f0 q1 (by omega) (by simp; omega)
   exact ⟨r, q3 r hr, hc⟩
theorem spec_Unpacked_back (xs : List Int) (hl : xs.length ≤ 1000000000000) (hx : ∀ x ∈ xs, 0 ≤ x ∧ x < 256) (hne : xs ≠ []) (L : List S49) (hL : Unp xs L) : ∀ (bs : List S49) (at_ : Nat) (out : List S49) (last : ByteArray), L = out ++ bs → at_ ≤ xs.length → xs.drop at_ = packL last out.length bs →
  Ev (fun k => spec_Unpacked.l0 k xs (bs.length : Int) (at_ : Int) out last) (L, true)
 | [], at_, out, last, he, ha, hd => by
  obtain ⟨h1, h2⟩ := spec_Unpacked_end xs hx hne at_ out last
  rw [List.append_nil] at he
  rw [he] at hL ⊢
  exact h1 hL
 | e :: bs, at_, out, last, he, ha, hd => by
  have hle := entriesOk_le hL.1
  have hok := entriesOk_all hL.1 e (by rw [he]; simp)
  have hlen : L.length = out.length + (bs.length + 1) := by rw [he]; simp
  obtain ⟨h1, h2⟩ := spec_Unpacked_step xs hl hx bs.length at_ out last ha (by omega) (by omega)
  have hs : unStep (if out.length % 8 = 0 then (⟨#[]⟩ : ByteArray) else last) (xs.drop at_) = some (e, packL e.f0 (out.length + 1) bs) := by
   rw [hd]
   exact unStep_packE _ e _ hok
  obtain ⟨a', q1, q2, q3⟩ := h2 _ _ hs
  refine q3 _ (spec_Unpacked_back xs hl hx hne L hL bs a' (out ++ [e]) e.f0 (by rw [he]; simp) q1 ?_)
  rw [q2]; simp
theorem spec_Unpacked_ev (xs : List Int) (hl : xs.length ≤ 1000000000000) (hx : ∀ x ∈ xs, 0 ≤ x ∧ x < 256) : Ev (fun k => spec_Unpacked.f k xs) (unpacked xs) := by
 have b1 := readNumber_bd xs hx
 have r1 := spec_ReadNumber_ev xs hx
 simp only [spec_Unpacked.f]
 by_cases h0 : (readNumber xs).2 = 0
 ·refine unpacked_ev ⟨_, Ev.bind r1 ?_, Or.inl rfl⟩ (fun L hL => ?_)
  ·simp only [Option.bind_some]
   refine evPos h0 (Ev.step (fun k => by simp only [spec_Unpacked.j0]; exact rfl) ?_)
   exact evPos trivial (Ev.now _)
  ·exfalso
   have hle := entriesOk_le hL.1
   have hp := hL.2
   unfold packed at hp
   rw [← hp, readNumber_numN _ _ (by omega)] at h0
   have := numN_pos L.length
   simp only at h0
   omega
 ·have hne : xs ≠ [] := fun h => h0 (by rw [h]; rfl)
  by_cases h3 : (readNumber xs).1 > 300
  ·refine unpacked_ev ⟨_, Ev.bind r1 ?_, Or.inl rfl⟩ (fun L hL => ?_)
   ·simp only [Option.bind_some]
    refine evNeg h0 ?_
    rw [decide_eq_true h3]
    refine Ev.step (fun k => by simp only [spec_Unpacked.j0]; exact rfl) ?_
    exact evPos trivial (Ev.now _)
   ·exfalso
    have hle := entriesOk_le hL.1
    have hp := hL.2
    unfold packed at hp
    rw [← hp, readNumber_numN _ _ (by omega)] at h3
    simp only at h3
    omega
  ·have up : ∀ r, Ev (fun k => spec_Unpacked.l0 k xs (readNumber xs).1 (readNumber xs).2 ([] : List S49) (⟨#[]⟩ : ByteArray)) r → Ev (fun k => (spec_ReadNumber.f k xs).bind fun bt196 => ((some (([] : List S49) : List S49)).bind fun y198 => (if bt196.2 = 0 then (spec_Unpacked.j0 k xs bt196.1 bt196.2 y198 true) else (spec_Unpacked.j0 k xs bt196.1 bt196.2 y198 (decide (bt196.1 > 300)))))) r := fun r hr => by
    refine Ev.bind r1 ?_
    simp only [Option.bind_some]
    refine evNeg h0 ?_
    rw [decide_eq_false h3]
    refine Ev.step (fun k => ?_) hr
    simp only [spec_Unpacked.j0]
    rw [if_neg (by decide)]
   obtain ⟨n, hn⟩ : ∃ n : Nat, (readNumber xs).1 = n := ⟨(readNumber xs).1.toNat, by omega⟩
   obtain ⟨t, ht⟩ : ∃ t : Nat, (readNumber xs).2 = t := ⟨(readNumber xs).2.toNat, by omega⟩
   refine unpacked_ev ?_ (fun L hL => ?_)
   ·obtain ⟨r, hr, hc⟩ := spec_Unpacked_some xs hl hx hne n t [] (⟨#[]⟩ : ByteArray) (by omega) (by omega) (by simp; omega)
    rw [← hn, ← ht] at hr
    exact ⟨r, up r hr, hc⟩
   ·have hle := entriesOk_le hL.1
    have hp := hL.2
    unfold packed at hp
    have e := readNumber_numN L.length (packL (⟨#[]⟩ : ByteArray) 0 L) (by omega)
    rw [hp] at e
    refine up _ ?_
    rw [e]
    refine spec_Unpacked_back xs hl hx hne L hL L _ [] _ rfl (by rw [← hp]; simp) ?_
    rw [← hp]; simp

def ordI (x y : Int) : Int := if x < y then -1 else if x > y then 1 else 0
def ordS (x y : ByteArray) : Int := if Op.bytesLess x.toList y.toList = true then -1 else if Op.bytesLess y.toList x.toList = true then 1 else 0
def byOrder (a b : S49) : Int := if ordS a.f0 b.f0 = 0 then ordI b.f2 a.f2 else ordS a.f0 b.f0
theorem cmp_Compare_string_ev (x y : ByteArray) : Ev (fun _ => cmp_Compare_string.f x y) (ordS x y) := by
 refine evId (fun _ => ?_)
 unfold cmp_Compare_string.f cmp_isNaN_string.f ordS
 simp only [bne_self_eq_false, Option.bind_some, Bool.false_eq_true, if_false]
 split
 ·rfl
 ·split <;> rfl
theorem cmp_Compare_int64_ev (x y : Int) : Ev (fun _ => cmp_Compare_int64.f x y) (ordI x y) := by
 refine evId (fun _ => ?_)
 unfold cmp_Compare_int64.f cmp_isNaN_int64.f ordI
 simp only [bne_self_eq_false, Option.bind_some, Bool.false_eq_true, if_false]
 split
 ·rfl
 ·split <;> rfl
theorem cmp_Or_two (x y : Int) : Ev (fun k => cmp_Or_int.f k [x, y]) (if x = 0 then y else x) := by
 simp only [cmp_Or_int.f]
 refine ⟨3, fun k hk => ?_⟩
 obtain ⟨m, rfl⟩ : ∃ m, k = m + 3 := ⟨k - 3, by omega⟩
 have w1 : wrap64 (0 + 1) = 1 := w64 (x := 0 + 1) (by decide) (by decide)
 have w2 : wrap64 (1 + 1) = 2 := w64 (x := 1 + 1) (by decide) (by decide)
 have e0 : rd [x, y] 0 = x := rfl
 have e1 : rd [x, y] 1 = y := rfl
 simp only [cmp_Or_int.l0, w1, w2, e0, e1]
 by_cases hx : x = 0
 ·by_cases hy : y = 0
  ·simp [hx, hy]
  ·simp [hx, hy]
 ·simp [hx]
theorem impl_byOrder_ev (a b : S49) : Ev (fun k => impl_byOrder.f k a.f0 a.f1 a.f2 a.f3 b.f0 b.f1 b.f2 b.f3) (byOrder a b) := by
 simp only [impl_byOrder.f]
 exact Ev.bind (cmp_Compare_string_ev a.f0 b.f0) (Ev.bind (cmp_Compare_int64_ev b.f2 a.f2) (Ev.bind (cmp_Or_two _ _) (Ev.now _)))
theorem byOrder_ahead (a b : S49) : decide (byOrder a b ≥ 0) = !ahead a b := by
 unfold byOrder ahead ordS ordI
 cases h1 : Op.bytesLess a.f0.toList b.f0.toList with
 | true => simp
 | false =>
  cases h2 : Op.bytesLess b.f0.toList a.f0.toList with
  | true =>
   have : a.f0.toList ≠ b.f0.toList := by
    intro h
    rw [h, less_irrefl] at h2
    cases h2
   simp [this]
  | false =>
   have := less_tri _ _ h1 h2
   simp only [Bool.false_eq_true, if_false, if_true, this, decide_true, Bool.true_and, Bool.false_or]
   by_cases h3 : b.f2 < a.f2
   ·rw [if_pos h3, decide_eq_true (show a.f2 > b.f2 from h3)]; decide
   ·rw [if_neg h3, decide_eq_false (show ¬ a.f2 > b.f2 from h3)]
    split <;> decide

theorem impl_within_eq (a b c : Int) : impl_within.f a b c = some (within a b c) := by
 obtain ⟨k, h⟩ := (impl_within_ev a b c).rounds
 exact h
theorem impl_entryOk_ev (e : S49) : Ev (fun _ => impl_entryOk.f e.f0 e.f1 e.f2 e.f3) (entOk e) := by
 obtain ⟨a, b, c, g⟩ := e
 refine evId (fun _ => ?_)
 unfold impl_entryOk.f entOk
 simp only [impl_within_eq, Option.bind_some]
 cases h1 : within (a.size : Int) 1 40 with
 | false => simp
 | true =>
  rw [if_pos rfl]
  by_cases h3 : (b.size : Int) ≤ 200
  ·rw [if_pos h3, decide_eq_true h3]
   cases g with
   | false => simp
   | true =>
    rw [if_pos rfl]
    by_cases h4 : b.toList = ([] : List UInt8)
    ·rw [if_pos h4]; simp [h4]
    ·rw [if_neg h4]; simp [h4]
  ·rw [if_neg h3, decide_eq_false h3]; simp
theorem impl_EntriesOk_l0_ev (xs : List S49) (hl : xs.length ≤ 1000000000000000000) : ∀ (bs : List S49) (i : Nat), xs.drop i = bs → Ev (fun k => impl_EntriesOk.l0 k xs xs (xs.length : Int) i) (okL (prev xs i) bs)
 | [], i, hd => by
  have := drop_nil hd
  refine Ev.step (f := fun _ => some true) (fun k => ?_) (Ev.now _)
  simp only [impl_EntriesOk.l0]
  rw [if_neg (by omega)]
 | e :: bs, i, hd => by
  obtain ⟨h2, h3, h4⟩ := drop_cons hd
  have e1 : rd_T49 xs (i : Int) = e := getD_at h4
  have ih := impl_EntriesOk_l0_ev xs hl bs (i + 1) h3
  rw [prev_succ h4] at ih
  refine Ev.step (f := fun k => (impl_entryOk.f e.f0 e.f1 e.f2 e.f3).bind fun t127 => (if t127 = true then (if (i : Int) > 0 then ((impl_byOrder.f k (rd_T49 xs (wrap64 ((i : Int) - 1))).f0 (rd_T49 xs (wrap64 ((i : Int) - 1))).f1 (rd_T49 xs (wrap64 ((i : Int) - 1))).f2 (rd_T49 xs (wrap64 ((i : Int) - 1))).f3 e.f0 e.f1 e.f2 e.f3).bind fun t130 => (if t130 ≥ 0 then (some false) else (impl_EntriesOk.l0 k xs xs (xs.length : Int) ((i + 1 : Nat) : Int)))) else (impl_EntriesOk.l0 k xs xs (xs.length : Int) ((i + 1 : Nat) : Int))) else (some false))) (fun k => ?_) (Ev.bind (impl_entryOk_ev e) ?_)
  ·simp only [impl_EntriesOk.l0]
   rw [if_pos (by omega), if_pos (by omega), if_pos (by omega), e1, w64s (by omega)]
   by_cases hi : (i : Int) > 0
   ·simp only [if_pos hi, if_pos (show (0 : Int) ≤ wrap64 ((i : Int) - 1) by rw [w64 (by omega) (by omega)]; omega), if_pos (show wrap64 ((i : Int) - 1) < (xs.length : Int) by rw [w64 (by omega) (by omega)]; omega)]
   ·simp only [if_neg hi]
  ·unfold okL
   cases he : entOk e with
   | false => exact evNeg (by simp) (Ev.now _)
   | true =>
    refine evPos rfl ?_
    rw [Bool.true_and]
    by_cases hi : i = 0
    ·subst hi
     refine evNeg (by omega) (evEq ih ?_)
     simp [prev]
    ·obtain ⟨q, hq⟩ : ∃ q, xs[i - 1]? = some q := ⟨_, List.getElem?_eq_getElem (by omega)⟩
     have e2 : rd_T49 xs (wrap64 ((i : Int) - 1)) = q := by
      rw [w64 (by omega) (by omega), show (i : Int) - 1 = ((i - 1 : Nat) : Int) by omega]
      exact getD_at hq
     refine evPos (by omega) ?_
     rw [e2]
     refine Ev.bind (impl_byOrder_ev q e) ?_
     simp only [prev, if_neg hi, hq]
     have hb := byOrder_ahead q e
     cases ha : ahead q e with
     | false =>
      rw [ha] at hb
      exact evPos (of_decide_eq_true hb) (Ev.now _)
     | true =>
      rw [ha] at hb
      exact evNeg (of_decide_eq_false hb) (evEq ih (by rw [Bool.true_and]))
theorem impl_EntriesOk_ev (xs : List S49) : Ev (fun k => impl_EntriesOk.f k xs) (entriesOk xs) := by
 simp only [impl_EntriesOk.f]
 unfold entriesOk
 by_cases h : (xs.length : Int) > 300
 ·rw [decide_eq_false (by omega)]; exact evPos h (Ev.now _)
 ·rw [decide_eq_true (by omega), Bool.true_and]
  exact evNeg h (impl_EntriesOk_l0_ev xs (by omega) xs 0 rfl)

theorem impl_packed_l0_ev (xs : List S49) (hl : xs.length ≤ 300) (hok : ∀ e ∈ xs, entOk e = true) : ∀ (bs : List S49) (i : Nat) (acc : List Int) (last : ByteArray), xs.drop i = bs → (∀ p, prev xs i = some p → last = p.f0) → acc.length + 300 * bs.length ≤ 1000000000 → Ev (fun k => impl_packed.l0 k xs acc xs (xs.length : Int) i) (acc ++ packL last i bs)
 | [], i, acc, last, hd, hla, ha => by
  have := drop_nil hd
  refine Ev.step (f := fun _ => some acc) (fun k => ?_) (evEq (Ev.now _) (by simp [packL]))
  simp only [impl_packed.l0]
  rw [if_neg (by omega)]
 | e :: bs, i, acc, last, hd, hla, ha => by
  obtain ⟨h2, h3, h4⟩ := drop_cons hd
  have e1 : rd_T49 xs (i : Int) = e := getD_at h4
  have he := hok e (List.mem_of_getElem? h4)
  obtain ⟨⟨g1, g2⟩, g3, g4, g5, g6⟩ := entOk_iff.1 he
  rw [List.length_cons] at ha
  have key : ∀ (l : ByteArray) (c : Nat), common (bytesOf l) (bytesOf e.f0) = c → Ev (fun k => impl_packed.j1 k xs acc (c : Int) xs (xs.length : Int) i e.f0 e.f1 e.f2 e.f3) (acc ++ (packE l e ++ packL e.f0 (i + 1) bs)) := by
   intro l c hc
   have hp := packE_le l e he
   unfold packE at hp ⊢
   have c1 := (common_le (bytesOf l) (bytesOf e.f0)).2
   rw [bytesOf_length] at c1
   rw [hc] at hp c1 ⊢
   have x1 := extract_size e.f0 c
   have hm2 : markE e ≤ 100000000000 := by unfold markE flagI; split <;> omega
   simp only [List.length_append] at hp
   have ht1 : text (e.f0.extract c e.f0.size) = textN (e.f0.extract c e.f0.size) := if_neg (by omega)
   have ht2 : text e.f1 = textN e.f1 := if_neg (by omega)
   have j2 : Ev (fun k => impl_packed.j2 k xs acc (c : Int) ((markE e : Nat) : Int) xs (xs.length : Int) i e.f0 e.f1 e.f2 e.f3) (acc ++ ((numN c ++ (textN (e.f0.extract c e.f0.size) ++ (numN (markE e) ++ textN e.f1))) ++ packL e.f0 (i + 1) bs)) := by
    refine Ev.step (fun k => by simp only [impl_packed.j2]; exact rfl) ?_
    refine Ev.bind (impl_Number_nat c (by omega)) (evPos (by omega) ?_)
    simp only [Option.bind_some, Int.toNat_natCast]
    refine evPos (by omega) (evPos (by omega) (Ev.bind (evEq (impl_Text_ev _) ht1) (evPos (by rw [List.length_append]; omega) ?_)))
    refine Ev.bind (impl_Number_nat (markE e) (by omega)) (evPos (by simp only [List.length_append]; omega) (Ev.bind (evEq (impl_Text_ev e.f1) ht2) (evPos (by simp only [List.length_append]; omega) ?_)))
    have ih := impl_packed_l0_ev xs hl hok bs (i + 1) (acc ++ (numN c ++ (textN (e.f0.extract c e.f0.size) ++ (numN (markE e) ++ textN e.f1)))) e.f0 h3 (fun p hp => by rw [prev_succ h4] at hp; injection hp with hp; rw [hp]) (by simp only [List.length_append]; omega)
    rw [w64s (by omega)]
    simpa [List.append_assoc] using ih
   cases hg : e.f3 with
   | true =>
    refine Ev.step (fun k => ?_) j2
    simp only [impl_packed.j1]
    rw [if_pos trivial, hg]
    congr 1
    unfold markE flagI
    rw [hg, if_pos rfl, w64 (x := 2 * e.f2) (by omega) (by omega), w64 (by omega) (by omega)]
    omega
   | false =>
    refine Ev.step (fun k => ?_) j2
    simp only [impl_packed.j1]
    rw [if_neg (by decide), hg]
    congr 1
    unfold markE flagI
    rw [hg, if_neg (by decide), w64 (x := 2 * e.f2) (by omega) (by omega)]
    omega
  unfold packL
  by_cases h8 : i % 8 = 0
  ·rw [if_pos h8]
   refine Ev.step (fun k => ?_) (key (⟨#[]⟩ : ByteArray) 0 (common_empty _))
   simp only [impl_packed.l0]
   rw [if_pos (by omega), if_pos (by omega), if_pos (by omega), e1, if_neg (by rw [Int.tmod_eq_emod_of_nonneg (by omega)]; omega)]
   rfl
  ·rw [if_neg h8]
   obtain ⟨q, hq⟩ : ∃ q, xs[i - 1]? = some q := ⟨_, List.getElem?_eq_getElem (by omega)⟩
   have hla' : last = q.f0 := hla q (by unfold prev; rw [if_neg (by omega), hq])
   have e2 : rd_T49 xs (wrap64 ((i : Int) - 1)) = q := by
    rw [w64 (by omega) (by omega), show (i : Int) - 1 = ((i - 1 : Nat) : Int) by omega]
    exact getD_at hq
   have hq40 := (entOk_iff.1 (hok q (List.mem_of_getElem? hq))).1
   refine Ev.step (f := fun k => (impl_Common.f k q.f0 e.f0).bind fun t => impl_packed.j1 k xs acc t xs (xs.length : Int) i e.f0 e.f1 e.f2 e.f3) (fun k => ?_) (Ev.bind (impl_Common_ev q.f0 e.f0 (by omega)) (key last _ (by rw [hla'])))
   simp only [impl_packed.l0]
   rw [if_pos (by omega), if_pos (by omega), if_pos (by omega), e1, if_pos (by rw [Int.tmod_eq_emod_of_nonneg (by omega)]; omega), if_pos (by rw [w64 (by omega) (by omega)]; omega), if_pos (by rw [w64 (by omega) (by omega)]; omega), e2]
theorem impl_packed_ev (xs : List S49) (hl : xs.length ≤ 300) (hok : ∀ e ∈ xs, entOk e = true) : Ev (fun k => impl_packed.f k xs) (packed xs) := by
 simp only [impl_packed.f]
 have h2 := numN_le10 (n := xs.length) (by omega)
 exact Ev.bind (impl_Number_nat xs.length (by omega)) (impl_packed_l0_ev xs hl hok xs 0 _ _ rfl (fun p hp => by simp [prev] at hp) (by omega))

theorem impl_ReadNumber_l0_ev (xs : List Int) (hl : xs.length ≤ 1000000000000000000) (hx : ∀ x ∈ xs, 0 ≤ x ∧ x < 256) : ∀ (bs : List Int) (i : Nat) (p n : Int), xs.drop i = bs → PW i p → i ≤ 6 → 0 ≤ n → n < p → Ev (fun k => impl_ReadNumber.l0 k n xs (xs.length : Int) i) (rnum i p n bs)
 | [], i, p, n, hd, hP, hi, h0, h1 => by
  have := drop_nil hd
  refine Ev.step (f := fun _ => some (0, 0)) (fun k => ?_) (Ev.now _)
  simp only [impl_ReadNumber.l0]
  rw [if_neg (by omega)]
 | b :: bs, i, p, n, hd, hP, hi, h0, h1 => by
  obtain ⟨h2, h3, h4⟩ := drop_cons hd
  obtain ⟨b0, b1⟩ := hx b (List.mem_of_getElem? h4)
  have hip : (0 : Int) ≤ i := by omega
  have hil : (i : Int) < xs.length := by omega
  by_cases h6 : i < 6
  ·have hp := hP.pos
   have hq := hP.le (by omega)
   have hm := digit_mul b p hp
   have e1 := join_eq (n := n) (b := b) (i := i) hP (by omega) h0 h1 b0 b1
   have e3 : (0 : Int) ≤ wrap64 (7 * (i : Int)) := by rw [w64 (by omega) (by omega)]; omega
   have hi1 : wrap64 ((i : Int) + 1) = (i : Int) + 1 := w64 (by omega) (by omega)
   have ih := impl_ReadNumber_l0_ev xs hl hx bs (i + 1) (p * 128) (n + b % 128 * p) h3 hP.step (by omega)
   have ih' : Ev (fun k => impl_ReadNumber.l0 k (n + b % 128 * p) xs (xs.length : Int) ((i + 1 : Nat) : Int)) (rnum (i + 1) (p * 128) (n + b % 128 * p) bs) := by
    generalize b % 128 * p = q at hm ih ⊢; exact ih (by omega) (by omega)
   clear ih
   simp only [rnum, if_pos h6]
   by_cases hb : b < 128
   ·rw [if_pos hb]
    refine Ev.step (f := fun _ => some _) (fun k => ?_) (Ev.now _)
    simp only [impl_ReadNumber.l0]
    rw [if_pos hil, if_pos hip, if_pos hil, if_neg (by omega), if_pos e3, rd_at h4, e1, if_pos hb, hi1]
    generalize n + b % 128 * p = q
    by_cases hi0 : 0 < i
    ·rw [if_pos (by omega)]
     by_cases hb0 : b = 0
     ·rw [if_pos hb0, if_pos (Or.inr ⟨hi0, hb0⟩)]
     ·rw [if_neg hb0]
      by_cases hn : q > 1099511627776
      ·rw [if_pos hn, if_pos (Or.inl hn)]
      ·rw [if_neg hn, if_neg (fun h => h.elim hn (fun h => hb0 h.2))]
    ·rw [if_neg (by omega)]
     by_cases hn : q > 1099511627776
     ·rw [if_pos hn, if_pos (Or.inl hn)]
     ·rw [if_neg hn, if_neg (fun h => h.elim hn (fun h => hi0 h.1))]
   ·rw [if_neg hb]
    refine Ev.step (f := fun k => impl_ReadNumber.l0 k (n + b % 128 * p) xs (xs.length : Int) ((i + 1 : Nat) : Int)) (fun k => ?_) ih'
    simp only [impl_ReadNumber.l0]
    rw [if_pos hil, if_pos hip, if_pos hil, if_neg (by omega), if_pos e3, rd_at h4, e1, if_neg hb, hi1]
    rfl
  ·refine Ev.step (f := fun _ => some (0, 0)) (fun k => ?_) (evEq (Ev.now _) ?_)
   ·simp only [impl_ReadNumber.l0]
    rw [if_pos hil, if_pos hip, if_pos hil, if_pos (by omega)]
   ·simp only [rnum, if_neg h6]
theorem impl_ReadNumber_ev (xs : List Int) (hl : xs.length ≤ 1000000000000000000) (hx : ∀ x ∈ xs, 0 ≤ x ∧ x < 256) : Ev (fun k => impl_ReadNumber.f k xs) (readNumber xs) :=
 impl_ReadNumber_l0_ev xs hl hx xs 0 1 0 rfl PW.zero (by decide) (by decide) (by decide)

theorem impl_ReadText_ev (xs : List Int) (hl : xs.length ≤ 1000000000000000000) (hx : ∀ x ∈ xs, 0 ≤ x ∧ x < 256) : Ev (fun k => impl_ReadText.f k xs) (readText xs) := by
 simp only [impl_ReadText.f]
 refine Ev.bind (impl_ReadNumber_ev xs hl hx) ?_
 have hb := readNumber_bd xs hx
 unfold readText
 generalize readNumber xs = p at hb ⊢
 obtain ⟨n, t⟩ := p
 simp only at hb ⊢
 by_cases h0 : t = 0
 ·rw [if_pos (Or.inl h0)]; exact evPos h0 (Ev.now _)
 refine evNeg h0 ?_
 by_cases h1 : n > 3000
 ·rw [if_pos (Or.inr (Or.inl h1))]; exact evPos h1 (Ev.now _)
 refine evNeg h1 ?_
 have e1 : wrap64 ((xs.length : Int) - t) = (xs.length : Int) - t := w64 (by omega) (by omega)
 rw [e1]
 by_cases h2 : n > (xs.length : Int) - t
 ·rw [if_pos (Or.inr (Or.inr h2))]; exact evPos h2 (Ev.now _)
 refine evNeg h2 ?_
 have e2 : wrap64 (t + n) = t + n := w64 (by omega) (by omega)
 rw [e2]
 exact evEq (evPos (by omega) (evPos (by omega) (evPos (by omega) (Ev.now _)))) (if_neg (fun h => by rcases h with h | h | h <;> omega)).symm

theorem impl_cursor_goes_ev (xs : List Int) (b : Bool) (t : Int) (h0 : 0 ≤ t) (h1 : t ≤ xs.length) : Ev (fun _ => impl_cursor_goes.f xs b t) (xs.drop t.toNat, (b || t == 0)) := by
 simp only [impl_cursor_goes.f]
 exact evPos h0 (evPos h1 (Ev.now _))
theorem impl_cursor_number_ev (xs : List Int) (b : Bool) (hl : xs.length ≤ 1000000000000000000) (hx : ∀ x ∈ xs, 0 ≤ x ∧ x < 256) : Ev (fun k => impl_cursor_number.f k xs b) ((readNumber xs).1, xs.drop (readNumber xs).2.toNat, (b || (readNumber xs).2 == 0)) := by
 have hb := readNumber_bd xs hx
 simp only [impl_cursor_number.f]
 exact Ev.bind (impl_ReadNumber_ev xs hl hx) (Ev.bind (impl_cursor_goes_ev xs b _ (by omega) (by omega)) (Ev.now _))
theorem impl_cursor_text_ev (xs : List Int) (b : Bool) (hl : xs.length ≤ 1000000000000000000) (hx : ∀ x ∈ xs, 0 ≤ x ∧ x < 256) : Ev (fun k => impl_cursor_text.f k xs b) ((readText xs).1, xs.drop (readText xs).2.toNat, (b || (readText xs).2 == 0)) := by
 have hb := readText_bd xs hx
 simp only [impl_cursor_text.f]
 exact Ev.bind (impl_ReadText_ev xs hl hx) (Ev.bind (impl_cursor_goes_ev xs b _ (by omega) (by omega)) (Ev.now _))
theorem impl_cursor_ended_ev (xs : List Int) (b : Bool) : Ev (fun _ => impl_cursor_ended.f xs b) (!b && decide (xs = []), xs, b) := by
 simp only [impl_cursor_ended.f]
 cases b with
 | true => exact evPos rfl (Ev.now _)
 | false =>
  refine evNeg (by decide) (evEq (Ev.now _) ?_)
  cases xs with
  | nil => rfl
  | cons y ys =>
   have : ((((y :: ys).length : Nat) : Int) == 0) = false := by
    rw [beq_eq_false_iff_ne]; simp; omega
   rw [this]; simp

theorem bytes_Equal_ev (xs ys : List Int) (hx : ∀ x ∈ xs, 0 ≤ x ∧ x < 256) (hy : ∀ x ∈ ys, 0 ≤ x ∧ x < 256) : Ev (fun _ => bytes_Equal.f xs ys) (decide (xs = ys)) := by
 refine evId (fun _ => ?_)
 simp only [bytes_Equal.f]
 congr 1
 rw [Bool.eq_iff_iff, beq_iff_eq, decide_eq_true_eq, strNums_eq hx hy]
theorem impl_Unpacked_j1_bad (xs : List Int) (n : Int) (key : ByteArray) (out : List S49) (ys : List Int) : Ev (fun k => impl_Unpacked.j1 k xs n key out false ys true) ([], false) := by
 refine Ev.step (fun k => by simp only [impl_Unpacked.j1]; exact rfl) ?_
 exact evNeg (by decide) (Ev.bind (impl_cursor_ended_ev ys true) (evNeg (by simp) (Ev.now _)))
theorem impl_Unpacked_bad (xs : List Int) (n : Int) (key : ByteArray) (out : List S49) (ys : List Int) : Ev (fun k => impl_Unpacked.l0 k xs n key out ys true) ([], false) := by
 refine Ev.step (fun k => ?_) (impl_Unpacked_j1_bad xs n key out ys)
 simp only [impl_Unpacked.l0]
 split <;> rfl
theorem impl_Unpacked_step (xs ys : List Int) (hl : ys.length ≤ 1000000000000) (hy : ∀ x ∈ ys, 0 ≤ x ∧ x < 256) (n : Nat) (out : List S49) (key : ByteArray) (hn : n ≤ 1000) (ho : out.length ≤ 100000) :
  (unStep key ys = none → Ev (fun k => impl_Unpacked.l0 k xs ((n + 1 : Nat) : Int) key out ys false) ([], false)) ∧
  (∀ e zs, unStep key ys = some (e, zs) → (zs.length ≤ ys.length ∧ ∀ x ∈ zs, 0 ≤ x ∧ x < 256) ∧ ∀ r, Ev (fun k => impl_Unpacked.l0 k xs (n : Int) e.f0 (out ++ [e]) zs false) r → Ev (fun k => impl_Unpacked.l0 k xs ((n + 1 : Nat) : Int) key out ys false) r) := by
 have w5 : wrap64 (((n + 1 : Nat) : Int) - 1) = (n : Int) := by rw [w64 (by omega) (by omega)]; omega
 obtain ⟨c, t1, e1, bc, b1⟩ := rdN ys hy
 have r1 := impl_cursor_number_ev ys false (by omega) hy
 unfold unStep
 rw [e1] at r1
 simp only [e1, Int.toNat_natCast] at r1 ⊢
 have d2 := drop_byte hy t1
 have l2 : (ys.drop t1).length ≤ ys.length := by rw [List.length_drop]; omega
 generalize ys.drop t1 = y1 at r1 d2 l2 ⊢
 obtain ⟨p2a, t2, e2, s2, b2⟩ := rdT y1 d2
 have r2 := impl_cursor_text_ev y1 (false || (t1 : Int) == 0) (by omega) d2
 rw [e2] at r2
 simp only [e2, Int.toNat_natCast] at r2 ⊢
 have d3 := drop_byte d2 t2
 have l3 : (y1.drop t2).length ≤ ys.length := by rw [List.length_drop]; omega
 clear e2 d2 l2 b2
 generalize y1.drop t2 = y2 at r2 d3 l3 ⊢
 obtain ⟨p3a, t3, e3, bp, b3⟩ := rdN y2 d3
 have r3 := impl_cursor_number_ev y2 ((false || (t1 : Int) == 0) || (t2 : Int) == 0) (by omega) d3
 rw [e3] at r3
 simp only [e3, Int.toNat_natCast] at r3 ⊢
 have d4 := drop_byte d3 t3
 have l4 : (y2.drop t3).length ≤ ys.length := by rw [List.length_drop]; omega
 clear e3 d3 l3 b3
 generalize y2.drop t3 = y3 at r3 d4 l4 ⊢
 obtain ⟨p4a, t4, e4, s4, b4⟩ := rdT y3 d4
 have r4 := impl_cursor_text_ev y3 (((false || (t1 : Int) == 0) || (t2 : Int) == 0) || (t3 : Int) == 0) (by omega) d4
 rw [e4] at r4
 simp only [e4, Int.toNat_natCast] at r4 ⊢
 have d5 := drop_byte d4 t4
 have l5 : (y3.drop t4).length ≤ ys.length := by rw [List.length_drop]; omega
 clear e4 d4 l4 b4
 generalize y3.drop t4 = y4 at r4 d5 l5 ⊢
 have start : ∀ r, Ev (fun k => if (c : Int) > (key.size : Int) then (some (([] : List S49), false)) else (impl_Unpacked.l0 k xs (n : Int) ((key.extract 0 c) ++ p2a) (out ++ [(⟨(key.extract 0 c) ++ p2a, p4a, wrap64 (Int.tdiv (p3a : Int) 2), ((Int.tmod (p3a : Int) 2) == 1)⟩ : S49)]) y4 ((((false || (t1 : Int) == 0) || (t2 : Int) == 0) || (t3 : Int) == 0) || (t4 : Int) == 0))) r → Ev (fun k => impl_Unpacked.l0 k xs ((n + 1 : Nat) : Int) key out ys false) r := by
  intro r hr
  refine Ev.step (f := fun k => impl_Unpacked.j1 k xs ((n + 1 : Nat) : Int) key out true ys false) (fun k => ?_) ?_
  ·simp only [impl_Unpacked.l0]
   rw [if_pos (by omega)]
   rfl
  refine Ev.step (fun k => by simp only [impl_Unpacked.j1]; exact rfl) ?_
  refine evPos trivial (Ev.bind r1 ?_)
  simp only
  by_cases h : (c : Int) > (key.size : Int)
  ·exact evPos h (evThen h hr)
  ·refine evNeg h (evPos (by omega) (evPos (by omega) (Ev.bind r2 ?_)))
   simp only [Int.toNat_natCast, w5]
   refine evPos ?_ (Ev.bind r3 ?_)
   ·have : (key.extract 0 c).size ≤ c := by rw [ByteArray.size_extract]; omega
    omega
   simp only
   refine Ev.bind r4 ?_
   simp only
   refine evPos (by omega) ?_
   exact evElse h hr
 by_cases hf : (t1 : Int) = 0 ∨ (t2 : Int) = 0 ∨ (c : Int) > (key.size : Int)
 ·rw [if_pos hf]
  refine ⟨fun _ => start _ ?_, fun e zs h => by cases h⟩
  by_cases h : (c : Int) > (key.size : Int)
  ·exact evPos h (Ev.now _)
  ·refine evNeg h ?_
   rw [show ((((false || (t1 : Int) == 0) || (t2 : Int) == 0) || (t3 : Int) == 0) || (t4 : Int) == 0) = true by
    rcases hf with hf | hf | hf
    ·simp [hf]
    ·simp [hf]
    ·exact absurd hf h]
   exact impl_Unpacked_bad _ _ _ _ _
 ·rw [if_neg hf]
  have h1 : ¬ (t1 : Int) = 0 := fun h => hf (Or.inl h)
  have h2 : ¬ (t2 : Int) = 0 := fun h => hf (Or.inr (Or.inl h))
  have h3 : ¬ (c : Int) > (key.size : Int) := fun h => hf (Or.inr (Or.inr h))
  by_cases hg : (t3 : Int) = 0 ∨ (t4 : Int) = 0
  ·rw [if_pos hg]
   refine ⟨fun _ => start _ (evNeg h3 ?_), fun e zs h => by cases h⟩
   rw [show ((((false || (t1 : Int) == 0) || (t2 : Int) == 0) || (t3 : Int) == 0) || (t4 : Int) == 0) = true by
    rcases hg with hg | hg <;> simp [hg]]
   exact impl_Unpacked_bad _ _ _ _ _
  ·rw [if_neg hg]
   have h4 : ¬ (t3 : Int) = 0 := fun h => hg (Or.inl h)
   have h5 : ¬ (t4 : Int) = 0 := fun h => hg (Or.inr h)
   rw [show ((((false || (t1 : Int) == 0) || (t2 : Int) == 0) || (t3 : Int) == 0) || (t4 : Int) == 0) = false by
    rw [beq_eq_false_iff_ne.2 h1, beq_eq_false_iff_ne.2 h2, beq_eq_false_iff_ne.2 h4, beq_eq_false_iff_ne.2 h5]; rfl] at start
   refine ⟨fun h => (by cases h), fun e zs h => ?_⟩
   simp only [Option.some.injEq, Prod.mk.injEq] at h
   obtain ⟨rfl, rfl⟩ := h
   exact ⟨⟨l5, d5⟩, fun r hr => start r (evNeg h3 hr)⟩
theorem impl_Unpacked_end (xs ys : List Int) (hx : ∀ x ∈ xs, 0 ≤ x ∧ x < 256) (out : List S49) (key : ByteArray) :
  (Unp xs out → ys = [] → Ev (fun k => impl_Unpacked.l0 k xs 0 key out ys false) (out, true)) ∧ (¬ (Unp xs out ∧ ys = []) → Ev (fun k => impl_Unpacked.l0 k xs 0 key out ys false) ([], false)) := by
 have up : ∀ r, Ev (fun k => impl_Unpacked.j1 k xs 0 key out false ys false) r → Ev (fun k => impl_Unpacked.l0 k xs 0 key out ys false) r := fun r hr => by
  refine Ev.step (fun k => ?_) hr
  simp only [impl_Unpacked.l0]
  rw [if_neg (by decide)]
 have en := impl_cursor_ended_ev ys false
 refine ⟨fun h hy => up _ (Ev.step (fun k => by simp only [impl_Unpacked.j1]; exact rfl) ?_), fun h => up _ (Ev.step (fun k => by simp only [impl_Unpacked.j1]; exact rfl) ?_)⟩
 ·refine evNeg (by decide) (Ev.bind en (evPos (by simp [hy]) (Ev.bind (impl_EntriesOk_ev out) (evPos h.1 (Ev.bind (impl_packed_ev out (entriesOk_le h.1) (entriesOk_all h.1)) (Ev.bind (bytes_Equal_ev _ _ (packed_byte out) hx) (evPos (by simpa using h.2) (Ev.now _))))))))
 ·refine evNeg (by decide) (Ev.bind en ?_)
  by_cases hy : ys = []
  ·refine evPos (by simp [hy]) (Ev.bind (impl_EntriesOk_ev out) ?_)
   by_cases ho : entriesOk out = true
   ·refine evPos ho (Ev.bind (impl_packed_ev out (entriesOk_le ho) (entriesOk_all ho)) (Ev.bind (bytes_Equal_ev _ _ (packed_byte out) hx) (evNeg (fun e => h ⟨⟨ho, of_decide_eq_true e⟩, hy⟩) (Ev.now _))))
   ·exact evNeg ho (Ev.now _)
  ·exact evNeg (by simp [hy]) (Ev.now _)
theorem impl_Unpacked_some (xs : List Int) (hx : ∀ x ∈ xs, 0 ≤ x ∧ x < 256) : ∀ (n : Nat) (ys : List Int) (out : List S49) (key : ByteArray), ys.length ≤ 1000000000000 → (∀ x ∈ ys, 0 ≤ x ∧ x < 256) → n ≤ 1000 → out.length + n ≤ 100000 →
  ∃ r, Ev (fun k => impl_Unpacked.l0 k xs (n : Int) key out ys false) r ∧ (r = ([], false) ∨ ∃ L, r = (L, true) ∧ Unp xs L)
 | 0, ys, out, key, hl, hy, hn, ho => by
  obtain ⟨h1, h2⟩ := impl_Unpacked_end xs ys hx out key
  by_cases h : Unp xs out ∧ ys = []
  ·exact ⟨_, h1 h.1 h.2, Or.inr ⟨out, rfl, h.1⟩⟩
  ·exact ⟨_, h2 h, Or.inl rfl⟩
 | n + 1, ys, out, key, hl, hy, hn, ho => by
  obtain ⟨h1, h2⟩ := impl_Unpacked_step xs ys hl hy n out key (by omega) (by omega)
  cases h : unStep key ys with
  | none => exact ⟨_, h1 h, Or.inl rfl⟩
  | some p =>
   obtain ⟨e, zs⟩ := p
   obtain ⟨⟨q1, q2⟩, q3⟩ := h2 e zs h
   obtain ⟨r, hr, hc⟩ := impl_Unpacked_some xs hx n zs (out ++ [e]) e.f0 (by omega) q2 (by omega) (by simp; omega)
   exact ⟨r, q3 r hr, hc⟩
theorem impl_Unpacked_back (xs : List Int) (hl : xs.length ≤ 1000000000000) (hx : ∀ x ∈ xs, 0 ≤ x ∧ x < 256) (L : List S49) (hL : Unp xs L) : ∀ (bs : List S49) (out : List S49) (key : ByteArray), L = out ++ bs → (packL key out.length bs).length ≤ 1000000000000 →
  Ev (fun k => impl_Unpacked.l0 k xs (bs.length : Int) key out (packL key out.length bs) false) (L, true)
 | [], out, key, he, ha => by
  obtain ⟨h1, h2⟩ := impl_Unpacked_end xs (packL key out.length []) hx out key
  rw [List.append_nil] at he
  rw [he] at hL ⊢
  exact h1 hL (by simp [packL])
 | e :: bs, out, key, he, ha => by
  have hle := entriesOk_le hL.1
  have hok := entriesOk_all hL.1 e (by rw [he]; simp)
  have hlen : L.length = out.length + (bs.length + 1) := by rw [he]; simp
  obtain ⟨h1, h2⟩ := impl_Unpacked_step xs (packL key out.length (e :: bs)) ha (packL_byte _ _ _) bs.length out key (by omega) (by omega)
  have hs : unStep key (packL key out.length (e :: bs)) = some (e, packL e.f0 (out.length + 1) bs) := by
   rw [packL]
   split
   ·exact unStep_packE0 _ e _ hok
   ·exact unStep_packE _ e _ hok
  obtain ⟨⟨q1, q2⟩, q3⟩ := h2 _ _ hs
  have ih := impl_Unpacked_back xs hl hx L hL bs (out ++ [e]) e.f0 (by rw [he]; simp) (by simp only [List.length_append, List.length_cons, List.length_nil]; simpa using (by omega : (packL e.f0 (out.length + 1) bs).length ≤ 1000000000000))
  refine q3 _ ?_
  simpa using ih
theorem impl_Unpacked_ev (xs : List Int) (hl : xs.length ≤ 1000000000000) (hx : ∀ x ∈ xs, 0 ≤ x ∧ x < 256) : Ev (fun k => impl_Unpacked.f k xs) (unpacked xs) := by
 have b1 := readNumber_bd xs hx
 have r1 := impl_cursor_number_ev xs false (by omega) hx
 simp only [impl_Unpacked.f]
 by_cases h3 : (readNumber xs).1 > 300
 ·refine unpacked_ev ⟨_, Ev.bind r1 (evPos h3 (Ev.now _)), Or.inl rfl⟩ (fun L hL => ?_)
  exfalso
  have hle := entriesOk_le hL.1
  have hp := hL.2
  unfold packed at hp
  rw [← hp, readNumber_numN _ _ (by omega)] at h3
  simp only at h3
  omega
 ·obtain ⟨n, hn⟩ : ∃ n : Nat, (readNumber xs).1 = n := ⟨(readNumber xs).1.toNat, by omega⟩
  have up : ∀ r, Ev (fun k => impl_Unpacked.l0 k xs (readNumber xs).1 (⟨#[]⟩ : ByteArray) ([] : List S49) (xs.drop (readNumber xs).2.toNat) (false || (readNumber xs).2 == 0)) r → Ev (fun k => (impl_cursor_number.f k xs false).bind fun bt305 => (if bt305.1 > 300 then (some (([] : List S49), false)) else (impl_Unpacked.l0 k xs bt305.1 (⟨#[]⟩ : ByteArray) (([] : List S49)) bt305.2.1 bt305.2.2))) r := fun r hr => Ev.bind r1 (evNeg h3 hr)
  refine unpacked_ev ?_ (fun L hL => ?_)
  ·by_cases h0 : (readNumber xs).2 = 0
   ·refine ⟨([], false), up _ ?_, Or.inl rfl⟩
    rw [show (false || (readNumber xs).2 == 0) = true by rw [h0]; rfl]
    exact impl_Unpacked_bad _ _ _ _ _
   ·obtain ⟨r, hr, hc⟩ := impl_Unpacked_some xs hx n (xs.drop (readNumber xs).2.toNat) [] (⟨#[]⟩ : ByteArray) (by rw [List.length_drop]; omega) (drop_byte hx _) (by omega) (by simp; omega)
    refine ⟨r, up r ?_, hc⟩
    rw [show (false || (readNumber xs).2 == 0) = false by rw [Bool.false_or, beq_eq_false_iff_ne]; exact h0, hn]
    exact hr
  ·have hle := entriesOk_le hL.1
   have hp := hL.2
   unfold packed at hp
   have e := readNumber_numN L.length (packL (⟨#[]⟩ : ByteArray) 0 L) (by omega)
   rw [hp] at e
   refine up _ ?_
   have hpos := numN_pos L.length
   rw [e]
   simp only [Int.toNat_natCast]
   rw [show (false || ((numN L.length).length : Int) == 0) = false by rw [Bool.false_or, beq_eq_false_iff_ne]; omega]
   have ed : xs.drop (numN L.length).length = packL (⟨#[]⟩ : ByteArray) 0 L := by rw [← hp]; simp
   have lp := packL_le L (⟨#[]⟩ : ByteArray) 0 (entriesOk_all hL.1)
   rw [ed]
   exact impl_Unpacked_back xs hl hx L hL L [] _ rfl (by simp only [List.length_nil]; omega)

theorem impl_Packed_ev (xs : List S49) : Ev (fun k => impl_Packed.f k xs) (if entriesOk xs = true then packed xs else []) := by
 simp only [impl_Packed.f]
 refine Ev.bind (impl_EntriesOk_ev xs) ?_
 by_cases h : entriesOk xs = true
 ·rw [if_pos h]
  exact evPos h (Ev.bind (impl_packed_ev xs (entriesOk_le h) (entriesOk_all h)) (Ev.now _))
 ·rw [if_neg h]
  exact evNeg h (Ev.now _)

theorem and255 (y : Int) : 0 ≤ Go.bits .and .i64 y 255 ∧ Go.bits .and .i64 y 255 ≤ 255 := by
 have e : ((BitVec.ofInt IntKind.i64.bits y) &&& (BitVec.ofInt IntKind.i64.bits 255)).toNat ≤ 255 := by
  rw [BitVec.toNat_and]
  exact Nat.le_trans Nat.and_le_right (by decide)
 have e2 : Go.bits .and .i64 y 255 = (((BitVec.ofInt IntKind.i64.bits y) &&& (BitVec.ofInt IntKind.i64.bits 255)).toNat : Int) := by
  simp only [Go.bits]
  rw [IntKind.wrap_i64]
  generalize ((BitVec.ofInt IntKind.i64.bits y) &&& (BitVec.ofInt IntKind.i64.bits 255)).toNat = n at e ⊢
  omega
 rw [e2]
 generalize ((BitVec.ofInt IntKind.i64.bits y) &&& (BitVec.ofInt IntKind.i64.bits 255)).toNat = n at e ⊢
 omega
theorem spec_l1New_l0_ev (b : List Int) (hl : b.length ≤ 1000000000000000000) : ∀ (bs : List Int) (i : Nat) (h : Int), b.drop i = bs → ∃ h', Ev (fun k => spec_l1New.l0 k b h i) (b, 0, h')
 | [], i, h, hd => by
  have := drop_nil hd
  refine ⟨h, Ev.step (f := fun _ => some _) (fun k => ?_) (Ev.now _)⟩
  simp only [spec_l1New.l0]
  rw [if_neg (by omega)]
 | x :: bs, i, h, hd => by
  obtain ⟨h2, h3, h4⟩ := drop_cons hd
  obtain ⟨h', hh⟩ := spec_l1New_l0_ev b hl bs (i + 1) (Go.bits .and .i64 (wrap64 ((wrap64 ((wrap64 (h * 137)) + (wrap64 (rd b i)))) + 11)) 1073741823) h3
  refine ⟨h', Ev.step (fun k => ?_) hh⟩
  simp only [spec_l1New.l0]
  rw [if_pos (by omega), if_pos (by omega), w64s (by omega)]
theorem spec_l1New_ev (b : List Int) (hl : b.length ≤ 1000000000000000000) : ∃ h, Ev (fun k => spec_l1New.f k b) (b, 0, h) := spec_l1New_l0_ev b hl b 0 _ rfl
theorem spec_l1Byte_eq (b : List Int) (hl : b.length ≤ 1000000000000000000) (i h : Int) (hi : 0 ≤ i) : ∃ x i' h', spec_l1Byte.f b i h = some (x, i', h') ∧ 0 ≤ x ∧ x ≤ 255 ∧ 0 ≤ i' := by
 unfold spec_l1Byte.f
 by_cases hx : i < (b.length : Int)
 ·rw [if_pos hx, if_pos hi]
  refine ⟨_, _, _, rfl, (and255 _).1, (and255 _).2, ?_⟩
  rw [w64 (by omega) (by omega)]
  omega
 ·rw [if_neg hx]
  exact ⟨_, _, _, rfl, (and255 _).1, (and255 _).2, hi⟩
theorem spec_l1Below_eq (b : List Int) (hl : b.length ≤ 1000000000000000000) (i h : Int) (hi : 0 ≤ i) (n : Int) : ∃ x i' h', spec_l1Below.f b i h n = some (x, i', h') ∧ 0 ≤ x ∧ (0 < n → x < n) ∧ 0 ≤ i' := by
 unfold spec_l1Below.f
 by_cases h0 : n ≤ 0
 ·rw [if_pos h0]
  exact ⟨_, _, _, rfl, Int.le_refl _, fun h => absurd h (by omega), hi⟩
 rw [if_neg h0]
 obtain ⟨x, i1, h1, e1, x0, x1, hi1⟩ := spec_l1Byte_eq b hl i h hi
 rw [e1]
 simp only [Option.bind_some]
 have fin : ∀ y : Int, 0 ≤ y → 0 ≤ Int.tmod y n ∧ (0 < n → Int.tmod y n < n) := fun y hy => ⟨Int.tmod_nonneg _ hy, fun hn => Int.tmod_lt_of_pos _ hn⟩
 by_cases h2 : n ≤ 256
 ·rw [if_pos h2, if_neg (by omega)]
  exact ⟨_, _, _, rfl, (fin x x0).1, (fin x x0).2, hi1⟩
 rw [if_neg h2]
 obtain ⟨y, i2, g2, e2, y0, y1, hi2⟩ := spec_l1Byte_eq b hl i1 h1 hi1
 rw [e2]
 simp only [Option.bind_some]
 obtain ⟨z, i3, g3, e3, z0, z1, hi3⟩ := spec_l1Byte_eq b hl i2 g2 hi2
 rw [e3]
 simp only [Option.bind_some]
 obtain ⟨w, i4, g4, e4, w0, w1, hi4⟩ := spec_l1Byte_eq b hl i3 g3 hi3
 rw [e4]
 simp only [Option.bind_some]
 rw [if_neg (by omega)]
 have ee : (wrap64 ((wrap64 ((wrap64 ((wrap64 (x * 16777216)) + (wrap64 (y * 65536)))) + (wrap64 (z * 256)))) + w)) = x * 16777216 + y * 65536 + z * 256 + w := by
  rw [w64 (x := x * 16777216) (by omega) (by omega), w64 (x := y * 65536) (by omega) (by omega), w64 (x := z * 256) (by omega) (by omega), w64 (x := x * 16777216 + y * 65536) (by omega) (by omega), w64 (x := x * 16777216 + y * 65536 + z * 256) (by omega) (by omega), w64 (by omega) (by omega)]
 rw [ee]
 exact ⟨_, _, _, rfl, (fin _ (by omega)).1, (fin _ (by omega)).2, hi4⟩
theorem spec_l1Once_eq (b : List Int) (hl : b.length ≤ 1000000000000000000) (i h : Int) (hi : 0 ≤ i) (n : Int) : ∃ x i' h', spec_l1Once.f b i h n = some (x, i', h') ∧ 0 ≤ i' := by
 obtain ⟨x, i1, h1, e1, _, _, hi1⟩ := spec_l1Below_eq b hl i h hi n
 unfold spec_l1Once.f
 rw [e1]
 exact ⟨_, _, _, rfl, hi1⟩
theorem strOfNums_le (xs : List Int) : (strOfNums xs).size = xs.length := by rw [strOfNums_size]

theorem cut_len (xs : List Int) (p : Nat) : (([] ++ xs.take p) ++ xs.drop (p + 1)).length ≤ xs.length ∧ ([] ++ xs.take p).length ≤ xs.length ∧ (xs.drop (p + 1)).length ≤ xs.length := by
 rw [List.nil_append, List.length_append, List.length_take, List.length_drop]; omega

theorem spec_l1Bend_l0_ev (b : List Int) (hl : b.length ≤ 1000000000000000000) (sg : ByteArray) (hs : 0 < sg.size) : ∀ (n : Nat) (xs : List Int) (i h : Int), 0 ≤ i → xs.length + n ≤ 100000000 →
  ∃ s i' h', Ev (fun k => spec_l1Bend.l0 k sg xs (n : Int) b i h) (s, i', h') ∧ s.size ≤ xs.length + n ∧ 0 ≤ i' := by
 intro n
 induction n with
 | zero =>
  intro xs i h hi hx
  refine ⟨strOfNums xs, i, h, Ev.step (fun k => by simp only [spec_l1Bend.l0]; exact rfl) (evNeg (by omega) (Ev.step (fun k => by simp only [spec_l1Bend.j1]; exact rfl) (evNeg Bool.false_ne_true (Ev.now _)))), by rw [strOfNums_le]; omega, hi⟩
 | succ n ih =>
  intro xs i h hi hx
  by_cases h0 : (xs.length : Int) > 0
  ·obtain ⟨x, i1, h1, e1, x0, x1, hi1⟩ := spec_l1Below_eq b hl i h hi (xs.length : Int)
   obtain ⟨v, i2, h2, e2, v0, v1, hi2⟩ := spec_l1Below_eq b hl i1 h1 hi1 4
   have hxl := x1 h0
   have hv := v1 (by decide)
   have hw : wrap64 (((n + 1 : Nat) : Int) - 1) = (n : Int) := by rw [w64 (by omega) (by omega)]; omega
   have hd : (decide ((xs.length : Int) > 0)) = true := decide_eq_true h0
   obtain ⟨m, rfl⟩ := Int.eq_ofNat_of_zero_le v0
   obtain ⟨p, rfl⟩ := Int.eq_ofNat_of_zero_le x0
   match m, hv, e2 with
   | 0, _, e2 =>
    obtain ⟨y, i3, h3, e3, y0, y1, hi3⟩ := spec_l1Below_eq b hl i2 h2 hi2 (sg.size : Int)
    obtain ⟨s, i4, h4, hs4, hz, hi4⟩ := ih (xs.set p (bt sg y)) i3 h3 hi3 (by rw [List.length_set]; omega)
    refine ⟨s, i4, h4, Ev.step (fun k => by simp only [spec_l1Bend.l0]; exact rfl) (evPos (by omega) ?_), by rw [List.length_set] at hz; omega, hi4⟩
    rw [hd]
    refine Ev.step (fun k => by simp only [spec_l1Bend.j1, hw]; exact rfl) (evPos trivial ?_)
    exact Ev.bind (evId (fun _ => e1)) (Ev.bind (evId (fun _ => e2)) (evPos rfl (Ev.bind (evId (fun _ => e3)) (evPos y0 (evPos (y1 (by omega)) (evPos x0 (evPos hxl hs4)))))))
   | 1, _, e2 =>
    obtain ⟨s, i4, h4, hs4, hz, hi4⟩ := ih (xs.take p) i2 h2 hi2 (by rw [List.length_take]; omega)
    refine ⟨s, i4, h4, Ev.step (fun k => by simp only [spec_l1Bend.l0]; exact rfl) (evPos (by omega) ?_), by rw [List.length_take] at hz; omega, hi4⟩
    rw [hd]
    refine Ev.step (fun k => by simp only [spec_l1Bend.j1, hw]; exact rfl) (evPos trivial ?_)
    exact Ev.bind (evId (fun _ => e1)) (Ev.bind (evId (fun _ => e2)) (evNeg (show ¬ ((1 : Nat) : Int) = 0 by decide) (evPos rfl (evPos x0 (evPos (show (p : Int) ≤ (xs.length : Int) by omega) hs4)))))
   | 2, _, e2 =>
    obtain ⟨hlen, hlen2, hlen3⟩ := cut_len xs p
    have f1 : (p : Int) ≤ (xs.length : Int) := by omega
    have f2 : (0 : Int) ≤ ((p + 1 : Nat) : Int) ∧ ((p + 1 : Nat) : Int) ≤ (xs.length : Int) := by omega
    have f3 : ([] : List Int).length + (xs.take p).length < 140737488355328 := by rw [List.length_take, List.length_nil]; omega
    have f4 : ([] ++ xs.take p).length + (xs.drop (p + 1)).length < 140737488355328 := by omega
    obtain ⟨s, i4, h4, hs4, hz, hi4⟩ := ih (([] ++ xs.take p) ++ xs.drop (p + 1)) i2 h2 hi2 (by omega)
    refine ⟨s, i4, h4, Ev.step (fun k => by simp only [spec_l1Bend.l0]; exact rfl) (evPos (by omega) ?_), by omega, hi4⟩
    rw [hd]
    refine Ev.step (fun k => by simp only [spec_l1Bend.j1, hw]; exact rfl) (evPos trivial ?_)
    refine Ev.bind (evId (fun _ => e1)) (Ev.bind (evId (fun _ => e2)) (evNeg (show ¬ ((2 : Nat) : Int) = 0 by decide) (evNeg (show ¬ ((2 : Nat) : Int) = 1 by decide) (evPos rfl (Ev.bind (evId (fun _ => rfl)) ?_)))))
    simp only [show wrap64 ((p : Int) + 1) = ((p + 1 : Nat) : Int) from w64s (by omega), Int.toNat_natCast]
    exact evPos x0 (evPos f1 (Ev.bind (evId (fun _ => rfl)) (evPos f3 (Ev.bind (evId (fun _ => rfl)) (evPos f2.1 (evPos f2.2 (Ev.bind (evId (fun _ => rfl)) (evPos f4 hs4))))))))
   | 3, _, e2 =>
    obtain ⟨y, i3, h3, e3, y0, y1, hi3⟩ := spec_l1Below_eq b hl i2 h2 hi2 (sg.size : Int)
    have hlen2 : ([] ++ xs.take p).length ≤ xs.length := by rw [List.nil_append, List.length_take]; omega
    have hlen4 : (([] ++ xs.take p) ++ [bt sg y]).length ≤ xs.length + 1 := by rw [List.length_append, List.length_singleton]; omega
    have hlen3 : (xs.drop p).length ≤ xs.length := by rw [List.length_drop]; omega
    have hlen : ((([] ++ xs.take p) ++ [bt sg y]) ++ xs.drop p).length ≤ xs.length + 1 := by rw [List.nil_append, List.length_append, List.length_append, List.length_singleton, List.length_take, List.length_drop]; omega
    obtain ⟨s, i4, h4, hs4, hz, hi4⟩ := ih ((([] ++ xs.take p) ++ [bt sg y]) ++ xs.drop p) i3 h3 hi3 (by omega)
    refine ⟨s, i4, h4, Ev.step (fun k => by simp only [spec_l1Bend.l0]; exact rfl) (evPos (by omega) ?_), by omega, hi4⟩
    rw [hd]
    refine Ev.step (fun k => by simp only [spec_l1Bend.j1, hw]; exact rfl) (evPos trivial ?_)
    refine Ev.bind (evId (fun _ => e1)) (Ev.bind (evId (fun _ => e2)) (evNeg (show ¬ ((3 : Nat) : Int) = 0 by decide) (evNeg (show ¬ ((3 : Nat) : Int) = 1 by decide) (evNeg (show ¬ ((3 : Nat) : Int) = 2 by decide) (evPos rfl (Ev.bind (evId (fun _ => rfl)) (evPos x0 (evPos (show (p : Int) ≤ (xs.length : Int) by omega) (Ev.bind (evId (fun _ => rfl)) (evPos ?_ (Ev.bind (evId (fun _ => rfl)) (Ev.bind (evId (fun _ => e3)) (evPos y0 (evPos (y1 (by omega)) (evPos ?_ (Ev.bind (evId (fun _ => rfl)) (Ev.bind (evId (fun _ => rfl)) (evPos ?_ hs4))))))))))))))))))
    ·show ([] : List Int).length + (xs.take p).length < _
     rw [List.length_take, List.length_nil]; omega
    ·show ([] ++ xs.take p).length < _
     omega
    ·show (([] ++ xs.take p) ++ [bt sg y]).length + (xs.drop p).length < _
     omega
   | m + 4, hv, _ => omega
  ·have hd : (decide ((xs.length : Int) > 0)) = false := decide_eq_false h0
   refine ⟨strOfNums xs, i, h, Ev.step (fun k => by simp only [spec_l1Bend.l0]; exact rfl) (evPos (by omega) ?_), by rw [strOfNums_le]; omega, hi⟩
   rw [hd]
   exact Ev.step (fun k => by simp only [spec_l1Bend.j1]; exact rfl) (evNeg Bool.false_ne_true (Ev.now _))
theorem spec_l1Bend_ev (b : List Int) (hl : b.length ≤ 1000000000000000000) (i h : Int) (hi : 0 ≤ i) (t sg : ByteArray) (ht : t.size ≤ 90000000) (hs : 0 < sg.size) :
  ∃ s i' h', Ev (fun k => spec_l1Bend.f k b i h t sg) (s, i', h') ∧ s.size ≤ t.size + 2 ∧ 0 ≤ i' := by
 obtain ⟨x, i1, h1, e1, x0, x1, hi1⟩ := spec_l1Below_eq b hl i h hi 3
 have hx := x1 (by decide)
 obtain ⟨n, rfl⟩ := Int.eq_ofNat_of_zero_le x0
 obtain ⟨s, i2, h2, hs2, hz, hi2⟩ := spec_l1Bend_l0_ev b hl sg hs n (bytesOf t) i1 h1 hi1 (by rw [bytesOf_length]; omega)
 rw [bytesOf_length] at hz
 refine ⟨s, i2, h2, ?_, by omega, hi2⟩
 simp only [spec_l1Bend.f]
 exact evPos (by omega) (Ev.bind (evId (fun _ => e1)) hs2)

theorem laws_pick_l0_ev (xs : List Int) (hl : xs.length ≤ 1000000) (hx : ∀ x ∈ xs, 0 ≤ x ∧ x < 256) (n : Nat) (hn : 0 < n) : ∀ (bs : List Int) (i : Nat) (a : Int), xs.drop i = bs → 0 ≤ a → a ≤ 10000000 → ∃ p : Nat, p < n ∧ Ev (fun k => laws_pick.l0 k xs 1 (n : Int) a (i : Int)) (p : Int)
 | [], i, a, hd, h0, h1 => by
  have := drop_nil hd
  refine ⟨(Int.tmod a n).toNat, ?_, Ev.step (f := fun _ => some (Int.tmod a n)) (fun k => ?_) (evEq (Ev.now _) ?_)⟩
  ·have := Int.tmod_lt_of_pos a (show (0 : Int) < n by omega)
   have := Int.tmod_nonneg (n : Int) h0
   omega
  ·simp only [laws_pick.l0]
   rw [if_neg (by omega), if_neg (by omega)]
  ·have := Int.tmod_nonneg (n : Int) h0
   omega
 | x :: bs, i, a, hd, h0, h1 => by
  obtain ⟨h2, h3, h4⟩ := drop_cons hd
  obtain ⟨b0, b1⟩ := hx x (List.mem_of_getElem? h4)
  have e : wrap64 ((wrap64 ((wrap64 (a * 131)) + (wrap64 x))) + 1) = a * 131 + x + 1 := by
   rw [w64 (x := a * 131) (by omega) (by omega), w64 (x := x) (by omega) (by omega), w64 (x := a * 131 + x) (by omega) (by omega), w64 (by omega) (by omega)]
  have m0 := Int.tmod_nonneg (1000003 : Int) (show 0 ≤ a * 131 + x + 1 by omega)
  have m1 := Int.tmod_lt_of_pos (a * 131 + x + 1) (show (0 : Int) < 1000003 by decide)
  obtain ⟨p, hp, he⟩ := laws_pick_l0_ev xs hl hx n hn bs (i + 1) (Int.tmod (a * 131 + x + 1) 1000003) h3 m0 (by omega)
  refine ⟨p, hp, Ev.step (fun k => ?_) he⟩
  simp only [laws_pick.l0]
  rw [if_pos (by omega), if_pos (by omega), rd_at h4, e, w64s (by omega)]
theorem laws_pick_ev (xs : List Int) (hl : xs.length ≤ 4096) (hx : ∀ x ∈ xs, 0 ≤ x ∧ x < 256) (n : Nat) (hn : 0 < n) : ∃ p : Nat, p < n ∧ Ev (fun k => laws_pick.f k xs 1 (n : Int)) (p : Int) := by
 have e : wrap64 ((xs.length : Int) + (wrap64 (7919 * 1))) = (xs.length : Int) + 7919 := by
  rw [w64 (x := 7919 * 1) (by decide) (by decide), w64 (by omega) (by omega), Int.mul_one]
 obtain ⟨p, hp, he⟩ := laws_pick_l0_ev xs (by omega) hx n hn xs 0 ((xs.length : Int) + 7919) rfl (by omega) (by omega)
 refine ⟨p, hp, ?_⟩
 simp only [laws_pick.f, e]
 exact he

theorem laws_likeEntries_self (xs : List S49) (hl : xs.length ≤ 1000000000000000000) : Ev (fun k => laws_likeEntries.f k xs xs) true := by
 simp only [laws_likeEntries.f]
 refine evPos trivial (self_loop laws_likeEntries.l0 (fun k xs i h => by simp only [laws_likeEntries.l0]; rw [if_neg (by omega)]) (fun k xs i a hi ha h1 => ?_) xs hl)
 simp only [laws_likeEntries.l0]
 rw [if_pos (by omega), if_pos (by omega), if_pos (by omega), if_neg (by simp), w64s (by omega)]

theorem spec_l1DrawText_l0_ev (b : List Int) (hl : b.length ≤ 1000000000000000000) : ∀ (n : Nat) (acc : List Int) (i h : Int), 0 ≤ i → acc.length + n ≤ 1000 →
  ∃ s i' h', Ev (fun k => spec_l1DrawText.l0 k acc (n : Int) b i h) (s, i', h') ∧ s.size ≤ acc.length + n + 1 ∧ 0 ≤ i'
 | 0, acc, i, h, hi, ha => by
  obtain ⟨x, i1, h1, e1, hi1⟩ := spec_l1Once_eq b hl i h hi 6
  obtain ⟨y, i2, h2, e2, _, _, hi2⟩ := spec_l1Byte_eq b hl i1 h1 hi1
  cases x with
  | true =>
   refine ⟨_, _, _, Ev.step (f := fun _ => some (strOfNums (acc ++ [y % 256]), i2, h2)) (fun k => ?_) (Ev.now _), ?_, hi2⟩
   ·simp only [spec_l1DrawText.l0]
    rw [if_neg (by omega), e1]
    simp only [Option.bind_some]
    rw [if_pos trivial, e2]
    simp only [Option.bind_some]
    rw [if_pos (by omega)]
   ·rw [strOfNums_le, List.length_append, List.length_singleton]; omega
  | false =>
   refine ⟨_, _, _, Ev.step (f := fun _ => some (strOfNums acc, i1, h1)) (fun k => ?_) (Ev.now _), ?_, hi1⟩
   ·simp only [spec_l1DrawText.l0]
    rw [if_neg (by omega), e1]
    simp only [Option.bind_some]
    rw [if_neg (by decide)]
   ·rw [strOfNums_le]; omega
 | n + 1, acc, i, h, hi, ha => by
  obtain ⟨x, i1, h1, e1, x0, x1, hi1⟩ := spec_l1Below_eq b hl i h hi 4
  obtain ⟨s, i2, h2, hs, hz, hi2⟩ := spec_l1DrawText_l0_ev b hl n (acc ++ [(wrap64 (97 + x)) % 256]) i1 h1 hi1 (by rw [List.length_append, List.length_singleton]; omega)
  rw [List.length_append, List.length_singleton] at hz
  refine ⟨s, i2, h2, Ev.step (fun k => ?_) hs, by omega, hi2⟩
  simp only [spec_l1DrawText.l0]
  rw [if_pos (by omega), e1]
  simp only [Option.bind_some]
  rw [if_pos (by omega), w64 (x := ((n + 1 : Nat) : Int) - 1) (by omega) (by omega), show ((n + 1 : Nat) : Int) - 1 = (n : Int) by omega]
theorem spec_l1DrawText_ev (b : List Int) (hl : b.length ≤ 1000000000000000000) (i h : Int) (hi : 0 ≤ i) :
  ∃ s i' h', Ev (fun k => spec_l1DrawText.f k b i h) (s, i', h') ∧ s.size ≤ 8 ∧ 0 ≤ i' := by
 obtain ⟨x, i1, h1, e1, x0, x1, hi1⟩ := spec_l1Below_eq b hl i h hi 8
 obtain ⟨n, rfl⟩ := Int.eq_ofNat_of_zero_le x0
 have hn := x1 (by decide)
 obtain ⟨s, i2, h2, hs, hz, hi2⟩ := spec_l1DrawText_l0_ev b hl n [] i1 h1 hi1 (by simp; omega)
 simp only [List.length_nil] at hz
 refine ⟨s, i2, h2, ?_, by omega, hi2⟩
 simp only [spec_l1DrawText.f]
 exact Ev.bind (evId (fun _ => e1)) hs

theorem spec_l3DrawKey_eq (b : List Int) (hl : b.length ≤ 1000000000000000000) (i h : Int) (hi : 0 ≤ i) : ∃ s i' h', spec_l3DrawKey.f b i h = some (s, i', h') ∧ 0 ≤ i' := by
 obtain ⟨x, i1, h1, e1, x0, x1, hi1⟩ := spec_l1Below_eq b hl i h hi 6
 have hx := x1 (by decide)
 unfold spec_l3DrawKey.f
 simp only [Option.bind_some]
 rw [e1]
 simp only [Option.bind_some]
 rw [if_pos x0, if_pos (by simpa using hx)]
 exact ⟨_, _, _, rfl, hi1⟩
theorem spec_l3DrawEntry_ev (b : List Int) (hl : b.length ≤ 1000000000000000000) (i h : Int) (hi : 0 ≤ i) (q : Int) : ∃ (e : S49) (i' h' : Int), Ev (fun k => spec_l3DrawEntry.f k b i h q) (e.f0, e.f1, e.f2, e.f3, i', h') ∧ 0 ≤ i' := by
 obtain ⟨s, i1, h1, e1, hi1⟩ := spec_l3DrawKey_eq b hl i h hi
 obtain ⟨t, i2, h2, ht, _, hi2⟩ := spec_l1DrawText_ev b hl i1 h1 hi1
 obtain ⟨g, i3, h3, e3, hi3⟩ := spec_l1Once_eq b hl i2 h2 hi2 4
 simp only [spec_l3DrawEntry.f]
 cases g with
 | true => exact ⟨⟨s, (⟨#[]⟩ : ByteArray), q, true⟩, i3, h3, Ev.bind (evId (fun _ => e1)) (Ev.bind ht (Ev.bind (evId (fun _ => e3)) (evPos rfl (Ev.now _)))), hi3⟩
 | false => exact ⟨⟨s, t, q, false⟩, i3, h3, Ev.bind (evId (fun _ => e1)) (Ev.bind ht (Ev.bind (evId (fun _ => e3)) (evNeg Bool.false_ne_true (Ev.now _)))), hi3⟩
theorem spec_l3Put_l0_ev (xs : List S49) (hl : xs.length ≤ 1000000) (e : S49) : ∀ (bs : List S49) (i : Nat), xs.drop i = bs → i ≤ xs.length → ∃ ys : List S49, Ev (fun k => spec_l3Put.l0 k xs i e.f0 e.f1 e.f2 e.f3) ys ∧ ys.length = xs.length + 1
 | [], i, hd, hi => by
  have := drop_nil hd
  refine ⟨[] ++ xs.take i ++ [e] ++ xs.drop i, Ev.step (f := fun _ => some _) (fun k => ?_) (Ev.now _), by simp; omega⟩
  simp only [spec_l3Put.l0]
  rw [if_neg (by omega)]
  simp only [Option.bind_some, Int.toNat_natCast]
  rw [if_pos (by omega), if_pos (by omega), if_pos (by simp; omega), if_pos (by simp; omega), if_pos (by simp; omega)]
 | x :: bs, i, hd, hi => by
  obtain ⟨h2, h3, h4⟩ := drop_cons hd
  have e1 : rd_T49 xs (i : Int) = x := getD_at h4
  have ha := spec_l3Ahead_ev x e
  cases hx : ahead x e with
  | true =>
   rw [hx] at ha
   obtain ⟨ys, hy, hz⟩ := spec_l3Put_l0_ev xs hl e bs (i + 1) h3 (by omega)
   refine ⟨ys, Ev.step (fun k => by simp only [spec_l3Put.l0]; rw [if_pos (by omega), if_pos (by omega), e1, w64s (by omega)]) (Ev.bind ha (evPos rfl hy)), hz⟩
  | false =>
   rw [hx] at ha
   refine ⟨[] ++ xs.take i ++ [e] ++ xs.drop i, Ev.step (fun k => by simp only [spec_l3Put.l0]; rw [if_pos (by omega), if_pos (by omega), e1]) (Ev.bind ha (evNeg Bool.false_ne_true (evId (fun k => ?_)))), by simp; omega⟩
   simp only [Option.bind_some, Int.toNat_natCast]
   rw [if_pos (by omega), if_pos (by simp; omega), if_pos (by simp; omega), if_pos (by simp; omega)]
theorem spec_l3Put_ev (xs : List S49) (hl : xs.length ≤ 1000000) (e : S49) : ∃ ys : List S49, Ev (fun k => spec_l3Put.f k xs e.f0 e.f1 e.f2 e.f3) ys ∧ ys.length = xs.length + 1 := spec_l3Put_l0_ev xs hl e xs 0 rfl (Nat.zero_le _)
theorem spec_l3DrawFrom_l0_ev (b : List Int) (hl : b.length ≤ 1000000000000000000) : ∀ (n : Nat) (q : Int) (acc : List S49) (i h : Int), 0 ≤ i → acc.length + n ≤ 1000000 →
  ∃ (ys : List S49) (i' h' : Int), Ev (fun k => spec_l3DrawFrom.l0 k q acc (n : Int) b i h) (ys, i', h') ∧ ys.length = acc.length + n ∧ 0 ≤ i'
 | 0, q, acc, i, h, hi, ha => by
  refine ⟨acc, i, h, Ev.step (f := fun _ => some _) (fun k => ?_) (Ev.now _), rfl, hi⟩
  simp only [spec_l3DrawFrom.l0]
  rw [if_neg (by omega)]
 | n + 1, q, acc, i, h, hi, ha => by
  obtain ⟨e, i1, h1, he, hi1⟩ := spec_l3DrawEntry_ev b hl i h hi q
  obtain ⟨ys, hy, hz⟩ := spec_l3Put_ev acc (by omega) e
  obtain ⟨x, i2, h2, e2, x0, x1, hi2⟩ := spec_l1Below_eq b hl i1 h1 hi1 2
  obtain ⟨zs, i3, h3, hzs, hlz, hi3⟩ := spec_l3DrawFrom_l0_ev b hl n (wrap64 ((wrap64 (q + 1)) + x)) ys i2 h2 hi2 (by omega)
  refine ⟨zs, i3, h3, Ev.step (fun k => by simp only [spec_l3DrawFrom.l0]; rw [if_pos (by omega), w64 (x := ((n + 1 : Nat) : Int) - 1) (by omega) (by omega), show ((n + 1 : Nat) : Int) - 1 = (n : Int) by omega]) (Ev.bind he (Ev.bind hy (Ev.bind (evId (fun _ => e2)) hzs))), by omega, hi3⟩
theorem spec_l3DrawFrom_ev (b : List Int) (hl : b.length ≤ 1000000000000000000) (i h : Int) (hi : 0 ≤ i) (q m : Int) (h0 : 0 ≤ m) (h1 : m ≤ 1000) : ∃ (ys : List S49) (i' h' : Int), Ev (fun k => spec_l3DrawFrom.f k b i h q m) (ys, i', h') ∧ (ys.length : Int) ≤ m ∧ 0 ≤ i' := by
 obtain ⟨x, i1, g1, e1, x0, x1, hi1⟩ := spec_l1Below_eq b hl i h hi (m + 1)
 obtain ⟨n, rfl⟩ := Int.eq_ofNat_of_zero_le x0
 have hn := x1 (by omega)
 obtain ⟨ys, i2, h2, hy, hz, hi2⟩ := spec_l3DrawFrom_l0_ev b hl n q [] i1 g1 hi1 (by simp; omega)
 simp only [List.length_nil] at hz
 refine ⟨ys, i2, h2, ?_, by omega, hi2⟩
 simp only [spec_l3DrawFrom.f, w64 (x := m + 1) (by omega) (by omega)]
 exact Ev.bind (evId (fun _ => e1)) hy
theorem spec_l3DrawAny_l0_ev (b : List Int) (hl : b.length ≤ 1000000000000000000) : ∀ (d j : Nat) (acc : List S49) (i h : Int), j + d = 301 → 0 ≤ i → acc.length ≤ j →
  ∃ (ys : List S49) (i' h' : Int), Ev (fun k => spec_l3DrawAny.l0 k acc (j : Int) b i h) (ys, i', h') ∧ ys.length ≤ 301 ∧ 0 ≤ i' := by
 intro d
 induction d with
 | zero =>
  intro j acc i h hd hi ha
  obtain ⟨x, i1, h1, e1, x0, x1, hi1⟩ := spec_l1Below_eq b hl i h hi 2
  have hx := x1 (by decide)
  refine ⟨acc, i1, h1, Ev.step (fun k => by simp only [spec_l3DrawAny.l0]; exact rfl) (Ev.bind (evId (fun _ => e1)) (evNeg ?_ (Ev.now _))), by omega, hi1⟩
  rw [w64 (by simp only; omega) (by simp only; omega)]
  simp only
  omega
 | succ d ih =>
  intro j acc i h hd hi ha
  obtain ⟨x, i1, h1, e1, x0, x1, hi1⟩ := spec_l1Below_eq b hl i h hi 2
  have hx := x1 (by decide)
  by_cases hj : (j : Int) < 300 + x
  ·obtain ⟨ys, i2, h2, hy, hz, hi2⟩ := ih (j + 1) (acc ++ [⟨(⟨#[107]⟩ : ByteArray), (⟨#[]⟩ : ByteArray), wrap64 (1000 - (j : Int)), false⟩]) i1 h1 (by omega) hi1 (by rw [List.length_append, List.length_singleton]; omega)
   refine ⟨ys, i2, h2, Ev.step (fun k => by simp only [spec_l3DrawAny.l0]; rw [w64s (i := j) (by omega)]) (Ev.bind (evId (fun _ => e1)) (evPos ?_ (evPos (show acc.length < 2932031007402 by omega) hy))), hz, hi2⟩
   rw [w64 (by simp only; omega) (by simp only; omega)]
   exact hj
  ·refine ⟨acc, i1, h1, Ev.step (fun k => by simp only [spec_l3DrawAny.l0]; exact rfl) (Ev.bind (evId (fun _ => e1)) (evNeg ?_ (Ev.now _))), by omega, hi1⟩
   rw [w64 (by simp only; omega) (by simp only; omega)]
   exact hj
theorem spec_l3DrawAny_ev (b : List Int) (hl : b.length ≤ 1000000000000000000) (i h : Int) (hi : 0 ≤ i) : ∃ (ys : List S49) (i' h' : Int), Ev (fun k => spec_l3DrawAny.f k b i h) (ys, i', h') ∧ ys.length ≤ 1000 ∧ 0 ≤ i' := by
 obtain ⟨xs, i1, h1, hxs, hlx, hi1⟩ := spec_l3DrawFrom_ev b hl i h hi 1 10 (by decide) (by decide)
 obtain ⟨g, i2, h2, e2, hi2⟩ := spec_l1Once_eq b hl i1 h1 hi1 12
 simp only [spec_l3DrawAny.f]
 cases g with
 | false => exact ⟨xs, i2, h2, Ev.bind hxs (Ev.bind (evId (fun _ => e2)) (evNeg Bool.false_ne_true (Ev.now _))), by omega, hi2⟩
 | true =>
  obtain ⟨v, i3, h3, e3, v0, v1, hi3⟩ := spec_l1Below_eq b hl i2 h2 hi2 4
  have hv := v1 (by decide)
  obtain ⟨n, rfl⟩ := Int.eq_ofNat_of_zero_le v0
  match n, hv, e3 with
  | 0, _, e3 =>
   obtain ⟨e, i4, h4, he, hi4⟩ := spec_l3DrawEntry_ev b hl i3 h3 hi3 3
   exact ⟨xs ++ [e], i4, h4, Ev.bind hxs (Ev.bind (evId (fun _ => e2)) (evPos rfl (Ev.bind (evId (fun _ => e3)) (evPos rfl (Ev.bind he (evPos (by simp only; omega) (Ev.now _))))))), by rw [List.length_append, List.length_singleton]; omega, hi4⟩
  | 1, _, e3 =>
   obtain ⟨x, i4, h4, e4, x0, x1, hi4⟩ := spec_l1Below_eq b hl i3 h3 hi3 3
   obtain ⟨y, i5, h5, e5, y0, y1, hi5⟩ := spec_l1Below_eq b hl i4 h4 hi4 4
   have hx := x1 (by decide)
   have hy := y1 (by decide)
   exact ⟨xs ++ [_], i5, h5, Ev.bind hxs (Ev.bind (evId (fun _ => e2)) (evPos rfl (Ev.bind (evId (fun _ => e3)) (evNeg (show ¬ ((1 : Nat) : Int) = 0 by decide) (evPos rfl (evPos (by decide) (Ev.bind (evId (fun _ => rfl)) (Ev.bind (evId (fun _ => e4)) (evPos x0 (evPos (by simpa using hx) (Ev.bind (evId (fun _ => rfl)) (Ev.bind (evId (fun _ => e5)) (evPos y0 (evPos (by simpa using hy) (evPos (by simp only; omega) (Ev.now _)))))))))))))))), by rw [List.length_append, List.length_singleton]; omega, hi5⟩
  | 2, _, e3 =>
   obtain ⟨x, i4, h4, e4, x0, x1, hi4⟩ := spec_l1Below_eq b hl i3 h3 hi3 2
   obtain ⟨y, i5, h5, e5, hi5⟩ := spec_l1Once_eq b hl i4 h4 hi4 2
   have hx := x1 (by decide)
   have hw : wrap64 (200 + x) = 200 + x := w64 (by omega) (by omega)
   exact ⟨xs ++ [_], i5, h5, Ev.bind hxs (Ev.bind (evId (fun _ => e2)) (evPos rfl (Ev.bind (evId (fun _ => e3)) (evNeg (show ¬ ((2 : Nat) : Int) = 0 by decide) (evNeg (show ¬ ((2 : Nat) : Int) = 1 by decide) (evPos rfl (Ev.bind (evId (fun _ => e4)) (evPos (by simp only [hw]; omega) (evPos (by simp only [hw]; omega) (Ev.bind (evId (fun _ => e5)) (evPos (by simp only; omega) (Ev.now _)))))))))))), by rw [List.length_append, List.length_singleton]; omega, hi5⟩
  | 3, _, e3 =>
   obtain ⟨ys, i4, h4, hy, hz, hi4⟩ := spec_l3DrawAny_l0_ev b hl 301 0 [] i3 h3 rfl hi3 (Nat.le_refl _)
   exact ⟨ys, i4, h4, Ev.bind hxs (Ev.bind (evId (fun _ => e2)) (evPos rfl (Ev.bind (evId (fun _ => e3)) (evNeg (show ¬ ((3 : Nat) : Int) = 0 by decide) (evNeg (show ¬ ((3 : Nat) : Int) = 1 by decide) (evNeg (show ¬ ((3 : Nat) : Int) = 2 by decide) (evPos rfl hy))))))), by omega, hi4⟩
  | n + 4, hv, _ => omega

theorem common_stop : ∀ (as_ bs : List Int), (common as_ bs) < as_.length → (common as_ bs) < bs.length → as_[common as_ bs]? ≠ bs[common as_ bs]?
 | [], bs => by simp
 | a :: as_, [] => by simp
 | a :: as_, b :: bs => by
  intro h1 h2
  unfold common at h1 h2 ⊢
  by_cases h : a = b
  ·rw [if_pos h] at h1 h2 ⊢
   simp only [List.length_cons] at h1 h2
   rw [List.getElem?_cons_succ, List.getElem?_cons_succ]
   exact common_stop as_ bs (by omega) (by omega)
  ·rw [if_neg h] at h1 h2 ⊢
   simpa using h
theorem FnPacked (l : List Int) (hl : l.length ≤ maxLen) (hw : ∀ e ∈ l, (Lit.int .u8 e).wf = true) : ∃ k, laws_FnPacked.f k l = some true := by
 refine Ev.rounds (g := fun k => laws_FnPacked.f k l) ?_
 simp only [laws_FnPacked.f]
 refine Ev.bind (evId (fun _ => rfl)) ?_
 by_cases hb : (l.length : Int) > 4096
 ·exact evPos (decide_eq_true hb) (Ev.now _)
 refine evNeg (by simpa using hb) ?_
 have hl2 : l.length ≤ 1000000000000000000 := by omega
 have hx : ∀ x ∈ l, 0 ≤ x ∧ x < 256 := fun x h => byte_wf (hw x h)
 obtain ⟨h, hn⟩ := spec_l1New_ev l hl2
 obtain ⟨es, i1, h1, hes, hle, hi1⟩ := spec_l3DrawAny_ev l hl2 0 h (Int.le_refl _)
 have hd1 : Ev (fun k => spec_DrawPacked.f k l) es := by
  simp only [spec_DrawPacked.f, spec_DrawEntriesOk.f]
  exact Ev.bind (Ev.bind hn (Ev.bind hes (Ev.now _))) (Ev.now _)
 have sp := spec_Packed_ev es
 have im := impl_Packed_ev es
 have hpl : (if entriesOk es = true then packed es else []).length ≤ 100000 := by
  split
  ·rename_i h
   exact packed_le (entriesOk_le h) (entriesOk_all h)
  ·simp
 have hd2 : ∃ d : List Int, Ev (fun k => spec_DrawUnpacked.f k l) d ∧ (∀ x ∈ d, 0 ≤ x ∧ x < 256) ∧ d.length ≤ 1000000 := by
  obtain ⟨g, i2, h2, e2, hi2⟩ := spec_l1Once_eq l hl2 i1 h1 hi1 2
  have hsz : (strOfNums (if entriesOk es = true then packed es else [])).size = (if entriesOk es = true then packed es else []).length := strOfNums_le _
  simp only [spec_DrawUnpacked.f]
  cases g with
  | true =>
   obtain ⟨s, i3, h3, hs, hz, hi3⟩ := spec_l1Bend_ev l hl2 i2 h2 hi2 (strOfNums (if entriesOk es = true then packed es else [])) (⟨#[0, 1, 2, 128, 97, 98]⟩ : ByteArray) (by omega) (by decide)
   exact ⟨bytesOf s, Ev.bind hn (Ev.bind hes (Ev.bind sp (Ev.bind (evId (fun _ => e2)) (evPos rfl (Ev.bind hs (evPos (show (s.size : Int) ≤ 140737488351232 by omega) (Ev.now _))))))), bytesOf_byte s, by rw [bytesOf_length]; omega⟩
  | false =>
   exact ⟨bytesOf (strOfNums (if entriesOk es = true then packed es else [])), Ev.bind hn (Ev.bind hes (Ev.bind sp (Ev.bind (evId (fun _ => e2)) (evNeg Bool.false_ne_true (evPos (by omega) (Ev.now _)))))), bytesOf_byte _, by rw [bytesOf_length]; omega⟩
 obtain ⟨d, hd2, hdb, hdl⟩ := hd2
 have hd3 : ∃ s t : ByteArray, Ev (fun k => spec_DrawCommon.f k l) (s, t) ∧ s.size ≤ 100 ∧ t.size ≤ 100 := by
  obtain ⟨s, i2, h2, hs, hz, hi2⟩ := spec_l1DrawText_ev l hl2 0 h (Int.le_refl _)
  obtain ⟨g, i3, h3, e3, hi3⟩ := spec_l1Once_eq l hl2 i2 h2 hi2 2
  obtain ⟨t, i4, h4, ht, hzt, hi4⟩ := spec_l1DrawText_ev l hl2 i3 h3 hi3
  simp only [spec_DrawCommon.f]
  cases g with
  | true => exact ⟨s, s ++ t, Ev.bind hn (Ev.bind hs (Ev.bind (evId (fun _ => e3)) (evPos rfl (Ev.bind ht (evPos (show s.size + t.size ≤ 9223372036854775807 by omega) (Ev.now _)))))), by omega, by rw [ByteArray.size_append]; omega⟩
  | false => exact ⟨s, t, Ev.bind hn (Ev.bind hs (Ev.bind (evId (fun _ => e3)) (evNeg Bool.false_ne_true (Ev.bind ht (Ev.now _))))), by omega, by omega⟩
 obtain ⟨s, t, hd3, hsz, htz⟩ := hd3
 have rl : (unpacked d).1.length ≤ 300 := unpacked_le d
 have cm := impl_Common_ev s t (by omega)
 have cle := common_le (bytesOf s) (bytesOf t)
 rw [bytesOf_length, bytesOf_length] at cle
 refine Ev.bind hd1 (Ev.bind im (Ev.bind hd2 (Ev.bind (impl_Unpacked_ev d (by omega) hdb) (Ev.bind hd3 (Ev.bind (spec_Unpacked_ev d (by omega) hdb) (evNeg ?_ (Ev.bind (laws_likeEntries_self _ (by omega)) (evPos rfl (Ev.bind sp (evPos rfl (Ev.bind cm (Ev.bind (spec_Common_ev s t (by omega)) ?_))))))))))))
 ·simp
 refine Ev.step (fun k => by simp only [laws_FnPacked.j0]; exact rfl) ?_
 refine evNeg (by simp) ?_
 refine Ev.bind cm ?_
 refine evPos (by omega) (evPos (by omega) (evPos (by omega) (evPos ?_ ?_)))
 ·refine str_eq.2 (bytesOf_inj ?_)
  rw [bytesOf_extract, bytesOf_extract, Int.toNat_natCast, List.drop_zero, List.drop_zero, common_take]
 -- what was read stands for the bytes it was read from
 have fin : ∀ m, unpacked d = (m, true) → Unp d m → Ev (fun k => (impl_Packed.f k (unpacked d).1).bind fun t => some ((strOfNums t).toList == (strOfNums d).toList)) true := by
  intro m hr hm
  rw [hr]
  refine Ev.bind (impl_Packed_ev m) (evEq (Ev.now _) ?_)
  obtain ⟨m1, m2⟩ := hm
  rw [if_pos m1, m2]
  simp
 have tail : Ev (fun k => if (unpacked d).2 = true then ((impl_Packed.f k (unpacked d).1).bind fun t => some ((strOfNums t).toList == (strOfNums d).toList)) else (if ((unpacked d).1.length : Int) = 0 then (some true) else (some false))) true := by
  rcases unpacked_back d with hr | ⟨m, hr, hm⟩
  ·refine evNeg (by rw [hr]; exact Bool.false_ne_true) (evPos (by rw [hr]; rfl) (Ev.now _))
  ·exact evPos (by rw [hr]) (fin m hr hm)
 have body : Ev (fun k => laws_FnPacked.j1 k l es (if entriesOk es = true then packed es else []) d (unpacked d).1 (unpacked d).2 false) true := by
  refine Ev.step (fun k => by simp only [laws_FnPacked.j1]; exact rfl) (evNeg Bool.false_ne_true ?_)
  by_cases hok : entriesOk es = true
  ·rw [if_pos hok] at hpl ⊢
   have hpos := packed_ne es
   obtain ⟨p, hp, he⟩ := laws_pick_ev l (by omega) hx (packed es).length (by omega)
   have r1 := impl_Unpacked_ev (packed es) (by omega) (packed_byte es)
   rw [unpacked_packed hok] at r1
   refine evPos (by omega) (Ev.bind r1 (Ev.bind he (evPos (by omega) (evPos (by omega) (Ev.bind (impl_Unpacked_ev ((packed es).take p) (by rw [List.length_take]; omega) (fun x hx' => packed_byte es x (List.mem_of_mem_take hx'))) (evPos rfl (evNeg ?_ (Ev.bind (laws_likeEntries_self es (by omega)) (evPos rfl tail)))))))))
   rw [unpacked_part hok p hp]
   exact Bool.false_ne_true
  ·rw [if_neg hok]
   exact evNeg (by simp) tail
 by_cases c1 : ((common (bytesOf s) (bytesOf t) : Nat) : Int) < (s.size : Int)
 ·refine evPos c1 ?_
  by_cases c2 : ((common (bytesOf s) (bytesOf t) : Nat) : Int) < (t.size : Int)
  ·refine evPos c2 ?_
   have hstop := common_stop (bytesOf s) (bytesOf t) (by rw [bytesOf_length]; omega) (by rw [bytesOf_length]; omega)
   have hbt : (bt s ((common (bytesOf s) (bytesOf t) : Nat) : Int) == bt t ((common (bytesOf s) (bytesOf t) : Nat) : Int)) = false := by
    rw [List.getElem?_eq_getElem (by rw [bytesOf_length]; omega), List.getElem?_eq_getElem (by rw [bytesOf_length]; omega), bytesOf_get s _ (by omega), bytesOf_get t _ (by omega)] at hstop
    simpa using hstop
   rw [hbt]
   exact body
  ·exact evNeg c2 body
 ·exact evNeg c1 body
end Go.Proofs.Ythkhfmomibfkjaa.Pure

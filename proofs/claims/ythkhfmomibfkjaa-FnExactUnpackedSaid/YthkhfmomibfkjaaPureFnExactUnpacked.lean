/- Proves the plain law behind this statement of the seat (what its functions come to, over numbers and lists): that it answers true. No condition beyond the statement's own. -/
import Derived.Test.YthkhfmomibfkjaaPFnExactUnpackedx
import Derived.Test.YthkhfmomibfkjaaLib
import Derived.Test.YthkhfmomibfkjaaLibRow
import Derived.Test.YthkhfmomibfkjaaLibStr
namespace Go.Proofs.Ythkhfmomibfkjaa.Pure
open Go Go.RowKit Go.Proofs.Ythkhfmomibfkjaa.PFnExactUnpacked Go.Proofs.YthkhfmomibfkjaaW.PrintWords Go.Proofs.YthkhfmomibfkjaaW.PrintLast Go.Proofs.YthkhfmomibfkjaaW.PrintMore Go.Proofs.Ythkhfmomibfkjaa.Lib
set_option linter.unusedVariables false
set_option linter.unusedSimpArgs false
theorem spec_l1Number_l0_ev (n : Nat) : ∀ (acc : List Int), acc.length + n ≤ 100000000000000 → Ev (fun k => spec_l1Number.l0 k (n : Int) acc) (acc ++ numN n) := by
  induction n using Nat.strongRecOn with
  | ind n ih =>
    intro acc hl
    by_cases h : n < 128
    · refine Ev.step (f := fun _ => some _) (fun k => ?_) (Ev.now _)
      simp only [spec_l1Number.l0]
      rw [if_neg (by omega), if_pos (by omega), numN_small h, Int.emod_eq_of_lt (by omega) (by omega)]
    · have := ih (n / 128) (by omega) (acc ++ [((n % 128 + 128 : Nat) : Int)]) (by simp; omega)
      rw [List.append_assoc, List.singleton_append, ← numN_big h] at this
      refine Ev.step (f := fun k => spec_l1Number.l0 k ((n / 128 : Nat) : Int) (acc ++ [((n % 128 + 128 : Nat) : Int)])) (fun k => ?_) this
      simp only [spec_l1Number.l0]
      rw [if_pos (by omega), if_pos (by omega), Int.tdiv_eq_ediv_of_nonneg (by omega), Int.tmod_eq_emod_of_nonneg (by omega), w64 (by omega) (by omega), w64 (by omega) (by omega)]
      congr 1
      rw [Int.emod_eq_of_lt (by omega) (by omega)]
      congr 1
theorem spec_l1Number_ev (n : Nat) (h : n ≤ 100000000000000) : Ev (fun k => spec_l1Number.f k (n : Int)) (numN n) := by
  have := spec_l1Number_l0_ev n [] (by simpa using h)
  exact this

theorem impl_within_ev (a b c : Int) : Ev (fun _ => impl_within.f a b c) (within a b c) := by
  refine evId (fun _ => ?_)
  unfold impl_within.f within
  by_cases h : a ≥ b
  · rw [if_pos h, decide_eq_true (show b ≤ a from h), Bool.true_and]
  · rw [if_neg h, decide_eq_false (show ¬ b ≤ a from h), Bool.false_and]

theorem impl_Number_l0_ev (n : Nat) : ∀ (acc : List Int), acc.length + n ≤ 100000000000000 → Ev (fun k => impl_Number.l0 k (n : Int) acc) (acc ++ numN n) := by
  induction n using Nat.strongRecOn with
  | ind n ih =>
    intro acc hl
    by_cases h : n < 128
    · refine Ev.step (f := fun _ => some _) (fun k => ?_) (Ev.now _)
      simp only [impl_Number.l0]
      rw [if_neg (by omega), if_pos (by omega), numN_small h, Int.emod_eq_of_lt (by omega) (by omega)]
    · have := ih (n / 128) (by omega) (acc ++ [((n % 128 + 128 : Nat) : Int)]) (by simp; omega)
      rw [List.append_assoc, List.singleton_append, ← numN_big h] at this
      refine Ev.step (f := fun k => impl_Number.l0 k ((n / 128 : Nat) : Int) (acc ++ [((n % 128 + 128 : Nat) : Int)])) (fun k => ?_) this
      simp only [impl_Number.l0]
      rw [if_pos (by omega), if_pos (by omega), or128 (by omega) (by omega)]
      congr 3
      omega
theorem impl_Number_ev (n : Int) : Ev (fun k => impl_Number.f k n) (number n) := by
  simp only [impl_Number.f]
  refine Ev.bind (impl_within_ev n 0 1099511627776) ?_
  unfold number
  by_cases h : within n 0 1099511627776 = true
  · rw [if_pos h]
    refine evPos h ?_
    simp only [within, Bool.and_eq_true, decide_eq_true_eq] at h
    have e := impl_Number_l0_ev n.toNat [] (by simp; omega)
    rw [show ((n.toNat : Nat) : Int) = n by omega] at e
    exact e
  · rw [if_neg h]
    exact evNeg h (Ev.now _)
theorem impl_Number_nat (n : Nat) (h : n ≤ 1099511627776) : Ev (fun k => impl_Number.f k (n : Int)) (numN n) := by
  have e := impl_Number_ev (n : Int)
  unfold number at e
  rw [if_pos (by simp [within]; omega)] at e
  exact e

theorem spec_l1Text_ev (s : ByteArray) (h : s.size ≤ 1099511627776) : Ev (fun k => spec_l1Text.f k s) (textN s) := by
  simp only [spec_l1Text.f]
  have hl := numN_le10 (n := s.size) (by omega)
  exact Ev.bind (spec_l1Number_ev s.size (by omega)) (evPos (by omega) (Ev.now _))
theorem impl_Text_ev (s : ByteArray) : Ev (fun k => impl_Text.f k s) (text s) := by
  simp only [impl_Text.f]
  unfold text
  by_cases h : (s.size : Int) > 3000
  · rw [if_pos h]; exact evPos h (Ev.now _)
  · rw [if_neg h]
    have hl := numN_le10 (n := s.size) (by omega)
    exact evNeg h (Ev.bind (impl_Number_nat s.size (by omega)) (evPos (by omega) (Ev.now _)))

theorem spec_Common_l0_ev (s t : ByteArray) (hs : s.size ≤ 140737488351232) : ∀ (av bs : List Int) (i : Nat), (bytesOf s).drop i = av → (bytesOf t).drop i = bs → Ev (fun k => spec_Common.l0 k s t i) (((i + common av bs : Nat) : Int))
  | [], bs, i, ha, hb => by
    have := bdrop_nil ha
    refine Ev.step (f := fun _ => some (i : Int)) (fun k => ?_) (by simpa [common] using Ev.now (i : Int))
    simp only [spec_Common.l0]
    rw [if_neg (by omega)]
  | a :: av, [], i, ha, hb => by
    obtain ⟨h2, h3, h4, h5, h6⟩ := bdrop_cons ha
    have := bdrop_nil hb
    refine Ev.step (f := fun _ => some (i : Int)) (fun k => ?_) (by simpa [common] using Ev.now (i : Int))
    simp only [spec_Common.l0]
    rw [if_pos (by omega), if_neg (by omega)]
  | a :: av, b :: bs, i, ha, hb => by
    obtain ⟨h2, h3, h4, h5, h6⟩ := bdrop_cons ha
    obtain ⟨g2, g3, g4, g5, g6⟩ := bdrop_cons hb
    by_cases e : a = b
    · have ih := spec_Common_l0_ev s t hs av bs (i + 1) h3 g3
      rw [show i + common (a :: av) (b :: bs) = i + 1 + common av bs by simp only [common, if_pos e]; omega]
      refine Ev.step (f := fun k => spec_Common.l0 k s t ((i + 1 : Nat) : Int)) (fun k => ?_) ih
      simp only [spec_Common.l0]
      rw [if_pos (by omega), if_pos (by omega), if_pos (by omega), h4, g4, if_pos e, w64s (by omega)]
    · rw [show i + common (a :: av) (b :: bs) = i by simp only [common, if_neg e]; omega]
      refine Ev.step (f := fun _ => some (i : Int)) (fun k => ?_) (Ev.now _)
      simp only [spec_Common.l0]
      rw [if_pos (by omega), if_pos (by omega), if_pos (by omega), h4, g4, if_neg e]
theorem spec_Common_ev (s t : ByteArray) (hs : s.size ≤ 140737488351232) : Ev (fun k => spec_Common.f k s t) (common (bytesOf s) (bytesOf t) : Int) := by
  have := spec_Common_l0_ev s t hs (bytesOf s) (bytesOf t) 0 rfl rfl
  rw [Nat.zero_add] at this
  exact this
theorem impl_Common_same : ∀ k s t i, impl_Common.l0 k s t i = spec_Common.l0 k s t i
  | 0, _, _, _ => rfl
  | k + 1, s, t, i => by simp only [impl_Common.l0, spec_Common.l0, impl_Common_same k]
theorem impl_Common_ev (s t : ByteArray) (hs : s.size ≤ 140737488351232) : Ev (fun k => impl_Common.f k s t) (common (bytesOf s) (bytesOf t) : Int) :=
  Ev.congr (fun k => impl_Common_same k s t 0) (spec_Common_ev s t hs)

/-- Is an entry right? -/
def entOk (e : S49) : Bool := within e.f0.size 1 40 && (decide ((e.f1.size : Int) ≤ 200) && ((!e.f3 || decide (e.f1.toList = ([] : List UInt8))) && within e.f2 1 1000000))
/-- Is the one ahead of the other? -/
def ahead (a b : S49) : Bool := Op.bytesLess a.f0.toList b.f0.toList || (decide (a.f0.toList = b.f0.toList) && decide (a.f2 > b.f2))
def okL : Option S49 → List S49 → Bool
  | _, [] => true
  | p, e :: es => entOk e && ((match p with | none => true | some q => ahead q e) && okL (some e) es)
def entriesOk (xs : List S49) : Bool := decide (xs.length ≤ 300) && okL none xs
theorem entOk_iff {e : S49} : entOk e = true ↔ (1 ≤ e.f0.size ∧ e.f0.size ≤ 40) ∧ e.f1.size ≤ 200 ∧ (e.f3 = true → e.f1.toList = []) ∧ 1 ≤ e.f2 ∧ e.f2 ≤ 1000000 := by
  unfold entOk within
  simp only [Bool.and_eq_true, Bool.or_eq_true, decide_eq_true_eq, Bool.not_eq_true']
  constructor
  · rintro ⟨⟨h1, h2⟩, h3, h4, h5, h6⟩
    refine ⟨⟨by omega, by omega⟩, by omega, fun hg => ?_, h5, h6⟩
    rcases h4 with h4 | h4
    · rw [hg] at h4; cases h4
    · exact h4
  · rintro ⟨⟨h1, h2⟩, h3, h4, h5, h6⟩
    refine ⟨⟨by omega, by omega⟩, by omega, ?_, h5, h6⟩
    cases h : e.f3 with
    | false => exact Or.inl rfl
    | true => exact Or.inr (h4 h)
/-- The entry ahead of place i. -/
def prev (xs : List S49) (i : Nat) : Option S49 := if i = 0 then none else xs[i - 1]?
theorem prev_succ {xs : List S49} {i : Nat} {e : S49} (h : xs[i]? = some e) : prev xs (i + 1) = some e := by
  unfold prev
  rw [if_neg (by omega), show i + 1 - 1 = i by omega, h]

def flagI (b : Bool) : Int := if b = true then 1 else 0
/-- The mark of an entry: its number twice, and whether it is gone. -/
def markE (e : S49) : Nat := (2 * e.f2 + flagI e.f3).toNat
/-- One entry, the key ahead being 'last'. -/
def packE (last : ByteArray) (e : S49) : List Int :=
  numN (common (bytesOf last) (bytesOf e.f0)) ++ (textN (e.f0.extract (common (bytesOf last) (bytesOf e.f0)) e.f0.size) ++ (numN (markE e) ++ textN e.f1))
def packL (last : ByteArray) : Nat → List S49 → List Int
  | _, [] => []
  | i, e :: es => packE (if i % 8 = 0 then (⟨#[]⟩ : ByteArray) else last) e ++ packL e.f0 (i + 1) es
def packed (xs : List S49) : List Int := numN xs.length ++ packL (⟨#[]⟩ : ByteArray) 0 xs
theorem common_le : ∀ (as_ bs : List Int), common as_ bs ≤ as_.length ∧ common as_ bs ≤ bs.length
  | [], bs => by cases bs <;> simp [common]
  | a :: as_, [] => by simp [common]
  | a :: as_, b :: bs => by
    unfold common
    split
    · have := common_le as_ bs
      simp only [List.length_cons]
      omega
    · simp
theorem extract_size (s : ByteArray) (n : Nat) : (s.extract n s.size).size ≤ s.size := by
  simp [ByteArray.size_extract]
theorem packE_le (last : ByteArray) (e : S49) (h : entOk e = true) : (packE last e).length ≤ 300 := by
  obtain ⟨⟨h1, h2⟩, h3, h4, h5, h6⟩ := entOk_iff.1 h
  have c1 := (common_le (bytesOf last) (bytesOf e.f0)).2
  rw [bytesOf_length] at c1
  have n1 := numN_le10 (n := common (bytesOf last) (bytesOf e.f0)) (by omega)
  have x1 := extract_size e.f0 (common (bytesOf last) (bytesOf e.f0))
  have n2 := numN_le10 (n := (e.f0.extract (common (bytesOf last) (bytesOf e.f0)) e.f0.size).size) (by omega)
  have n3 := numN_le10 (n := markE e) (by unfold markE flagI; split <;> omega)
  have n4 := numN_le10 (n := e.f1.size) (by omega)
  unfold packE
  simp only [List.length_append, textN_length]
  omega
theorem packL_le : ∀ (xs : List S49) (last : ByteArray) (i : Nat), (∀ e ∈ xs, entOk e = true) → (packL last i xs).length ≤ 300 * xs.length
  | [], _, _, _ => by simp [packL]
  | e :: es, last, i, h => by
    unfold packL
    have h1 := packE_le (if i % 8 = 0 then (⟨#[]⟩ : ByteArray) else last) e (h e List.mem_cons_self)
    have h2 := packL_le es e.f0 (i + 1) (fun x hx => h x (List.mem_cons_of_mem _ hx))
    rw [List.length_append, List.length_cons]
    omega
theorem okL_all : ∀ (xs : List S49) (p : Option S49), okL p xs = true → ∀ e ∈ xs, entOk e = true
  | [], _, _, e, he => by simp at he
  | x :: xs, p, h, e, he => by
    unfold okL at h
    simp only [Bool.and_eq_true] at h
    rcases List.mem_cons.1 he with rfl | he
    · exact h.1
    · exact okL_all xs _ h.2.2 e he
theorem entriesOk_all {xs : List S49} (h : entriesOk xs = true) : ∀ e ∈ xs, entOk e = true := by
  unfold entriesOk at h
  simp only [Bool.and_eq_true] at h
  exact okL_all xs none h.2
theorem entriesOk_le {xs : List S49} (h : entriesOk xs = true) : xs.length ≤ 300 := by
  unfold entriesOk at h
  simp only [Bool.and_eq_true, decide_eq_true_eq] at h
  exact h.1
theorem packed_le {xs : List S49} (hl : xs.length ≤ 300) (h : ∀ e ∈ xs, entOk e = true) : (packed xs).length ≤ 100000 := by
  have h1 := packL_le xs (⟨#[]⟩ : ByteArray) 0 h
  have h2 := numN_le10 (n := xs.length) (by omega)
  unfold packed
  rw [List.length_append]
  omega
theorem common_empty (bs : List Int) : common [] bs = 0 := by cases bs <;> rfl

theorem spec_ReadNumber_l0_ev (xs : List Int) (hx : ∀ x ∈ xs, 0 ≤ x ∧ x < 256) : ∀ (bs : List Int) (i : Nat) (p n : Int), xs.drop i = bs → PW i p → i ≤ 6 → 0 ≤ n → n < p → Ev (fun k => spec_ReadNumber.l0 k xs n p i) (rnum i p n bs)
  | [], i, p, n, hd, hP, hi, h0, h1 => by
    have := drop_nil hd
    refine Ev.step (f := fun k => spec_ReadNumber.j1 k xs n p i false) (fun k => ?_) (Ev.step (f := fun _ => some (0, 0)) (fun k => ?_) (Ev.now _))
    · simp only [spec_ReadNumber.l0]
      rw [if_neg (by omega)]
    · simp only [spec_ReadNumber.j1]
      rw [if_neg (by decide)]
  | b :: bs, i, p, n, hd, hP, hi, h0, h1 => by
    obtain ⟨h2, h3, h4⟩ := drop_cons hd
    obtain ⟨b0, b1⟩ := hx b (List.mem_of_getElem? h4)
    by_cases h6 : i < 6
    · have hp := hP.pos
      have hq := hP.le (by omega)
      have hm := digit_mul b p hp
      have e2 : wrap64 (rd xs i) = b := by rw [rd_at h4, w64 (by omega) (by omega)]
      have e3 : Int.tmod b 128 = b % 128 := Int.tmod_eq_emod_of_nonneg (by omega)
      have ih := spec_ReadNumber_l0_ev xs hx bs (i + 1) (p * 128) (n + b % 128 * p) h3 hP.step (by omega)
      have hi1 : wrap64 ((i : Int) + 1) = (i : Int) + 1 := w64 (by omega) (by omega)
      have hip : (0 : Int) ≤ i := by omega
      have hil : (i : Int) < xs.length := by omega
      simp only [rnum, if_pos h6]
      have e4 : wrap64 (b % 128 * p) = b % 128 * p := by
        generalize b % 128 * p = q at hm; exact w64 (by omega) (by omega)
      have e1 : wrap64 (n + b % 128 * p) = n + b % 128 * p := by
        generalize b % 128 * p = q at hm; exact w64 (by omega) (by omega)
      have e5 : wrap64 (p * 128) = p * 128 := w64 (by omega) (by omega)
      have ih' : Ev (fun k => spec_ReadNumber.l0 k xs (n + b % 128 * p) (p * 128) ((i + 1 : Nat) : Int)) (rnum (i + 1) (p * 128) (n + b % 128 * p) bs) := by
        generalize b % 128 * p = q at hm ih ⊢; exact ih (by omega) (by omega)
      clear ih
      refine Ev.step (f := fun k => spec_ReadNumber.j1 k xs n p i true) (fun k => ?_) ?_
      · simp only [spec_ReadNumber.l0]
        rw [if_pos hil, decide_eq_true (by omega : (i : Int) < 6)]
      · by_cases hb : b < 128
        · rw [if_pos hb]
          refine Ev.step (f := fun _ => some _) (fun k => ?_) (Ev.now _)
          simp only [spec_ReadNumber.j1]
          rw [if_pos trivial, if_pos hip, if_pos hil, e2, e3, e4, e1, if_pos hb, hi1]
          generalize n + b % 128 * p = q
          by_cases hn : q > 1099511627776
          · rw [if_pos hn, if_pos (Or.inl hn)]
          · rw [if_neg hn]
            by_cases hi0 : 0 < i
            · rw [if_pos (by omega)]
              by_cases hb0 : b = 0
              · rw [if_pos hb0, if_pos (Or.inr ⟨hi0, hb0⟩)]
              · rw [if_neg hb0, if_neg (fun h => h.elim hn (fun h => hb0 h.2))]
            · rw [if_neg (by omega), if_neg (fun h => h.elim hn (fun h => hi0 h.1))]
        · rw [if_neg hb]
          refine Ev.step (f := fun k => spec_ReadNumber.l0 k xs (n + b % 128 * p) (p * 128) ((i + 1 : Nat) : Int)) (fun k => ?_) ih'
          simp only [spec_ReadNumber.j1]
          rw [if_pos trivial, if_pos hip, if_pos hil, e2, e3, e4, e1, if_neg hb, e5, hi1]
          rfl
    · refine Ev.step (f := fun k => spec_ReadNumber.j1 k xs n p i false) (fun k => ?_) (Ev.step (f := fun _ => some (0, 0)) (fun k => ?_) (evEq (Ev.now _) ?_))
      · simp only [spec_ReadNumber.l0]
        rw [if_pos (by omega), decide_eq_false (by omega : ¬ (i : Int) < 6)]
      · simp only [spec_ReadNumber.j1]
        rw [if_neg (by decide)]
      · simp only [rnum, if_neg h6]
theorem spec_ReadNumber_ev (xs : List Int) (hx : ∀ x ∈ xs, 0 ≤ x ∧ x < 256) : Ev (fun k => spec_ReadNumber.f k xs) (readNumber xs) :=
  spec_ReadNumber_l0_ev xs hx xs 0 1 0 rfl PW.zero (by decide) (by decide) (by decide)

theorem spec_ReadText_ev (xs : List Int) (hl : xs.length ≤ 1000000000000000000) (hx : ∀ x ∈ xs, 0 ≤ x ∧ x < 256) : Ev (fun k => spec_ReadText.f k xs) (readText xs) := by
  simp only [spec_ReadText.f]
  refine Ev.bind (spec_ReadNumber_ev xs hx) ?_
  have hb := readNumber_bd xs hx
  unfold readText
  generalize readNumber xs = p at hb ⊢
  obtain ⟨n, t⟩ := p
  simp only at hb ⊢
  by_cases h0 : t = 0
  · rw [if_pos (Or.inl h0)]; exact evPos h0 (Ev.now _)
  refine evNeg h0 ?_
  by_cases h1 : n > 3000
  · rw [if_pos (Or.inr (Or.inl h1))]; exact evPos h1 (Ev.now _)
  refine evNeg h1 ?_
  have e1 : wrap64 ((xs.length : Int) - t) = (xs.length : Int) - t := w64 (by omega) (by omega)
  rw [e1]
  by_cases h2 : n > (xs.length : Int) - t
  · rw [if_pos (Or.inr (Or.inr h2))]; exact evPos h2 (Ev.now _)
  refine evNeg h2 ?_
  have e2 : wrap64 (t + n) = t + n := w64 (by omega) (by omega)
  rw [e2]
  exact evEq (evPos (by omega) (evPos (by omega) (evPos (by omega) (Ev.now _)))) (if_neg (fun h => by rcases h with h | h | h <;> omega)).symm

theorem evThen {α : Type} {c : Prop} [Decidable c] {f g : Nat → Option α} {r : α} (hc : c) (h : Ev (fun k => if c then f k else g k) r) : Ev f r := by
  obtain ⟨K, h⟩ := h
  exact ⟨K, fun k hk => (if_pos (e := g k) hc).symm.trans (h k hk)⟩
theorem evElse {α : Type} {c : Prop} [Decidable c] {f g : Nat → Option α} {r : α} (hc : ¬ c) (h : Ev (fun k => if c then f k else g k) r) : Ev g r := by
  obtain ⟨K, h⟩ := h
  exact ⟨K, fun k hk => (if_neg (t := f k) hc).symm.trans (h k hk)⟩
/-! reading back what was laid -/
theorem rnum_numN (n : Nat) : ∀ (i : Nat) (p acc : Int) (r : List Int), PW i p → i ≤ 6 → 0 ≤ acc → (i = 0 ∨ 1 ≤ n) → acc + n * p ≤ 1099511627776 → rnum i p acc (numN n ++ r) = (acc + n * p, ((i + (numN n).length : Nat) : Int)) := by
  induction n using Nat.strongRecOn with
  | ind n ih =>
    intro i p acc r hP hi h0 hn hle
    have hp := hP.pos
    have h6 : i < 6 := by
      rcases hn with h | h
      · omega
      · by_cases h6 : i = 6
        · exfalso
          unfold PW at hP
          subst h6
          have e : p = 4398046511104 := hP
          subst e
          omega
        · omega
    by_cases h : n < 128
    · rw [numN_small h, List.singleton_append]
      unfold rnum
      rw [if_pos h6, if_pos (by omega), Int.emod_eq_of_lt (by omega) (by omega), if_neg ?_]
      · simp
      · rintro (hc | ⟨hc, hd⟩)
        · omega
        · omega
    · rw [numN_big h, List.cons_append]
      unfold rnum
      rw [if_pos h6, if_neg (by omega)]
      have e1 : (((n % 128 + 128 : Nat) : Int)) % 128 = ((n % 128 : Nat) : Int) := by omega
      rw [e1]
      have e2 : acc + ((n % 128 : Nat) : Int) * p + ((n / 128 : Nat) : Int) * (p * 128) = acc + n * p := by
        have e3 : (n : Int) = ((n / 128 : Nat) : Int) * 128 + ((n % 128 : Nat) : Int) := by omega
        rw [e3]
        generalize ((n / 128 : Nat) : Int) = a
        generalize ((n % 128 : Nat) : Int) = b
        rw [Int.add_mul, Int.mul_assoc, Int.mul_comm 128 p]
        omega
      have hm : 0 ≤ ((n % 128 : Nat) : Int) * p := Int.mul_nonneg (by omega) (by omega)
      rw [ih (n / 128) (by omega) (i + 1) (p * 128) _ r hP.step (by omega) (by omega) (Or.inr (by omega)) (by omega), e2]
      simp only [List.length_cons]
      congr 1
      omega
theorem readNumber_numN (n : Nat) (r : List Int) (h : n ≤ 1099511627776) : readNumber (numN n ++ r) = ((n : Int), ((numN n).length : Int)) := by
  unfold readNumber
  rw [rnum_numN n 0 1 0 r PW.zero (by decide) (by decide) (Or.inl rfl) (by omega)]
  simp
theorem readText_textN (s : ByteArray) (r : List Int) (h : s.size ≤ 3000) : readText (textN s ++ r) = (s, ((textN s).length : Int)) := by
  have hp := numN_pos s.size
  have hn : readNumber (textN s ++ r) = ((s.size : Int), ((numN s.size).length : Int)) := by
    unfold textN
    rw [List.append_assoc]
    exact readNumber_numN s.size _ (by omega)
  unfold readText
  rw [hn]
  have hl := textN_length s
  simp only
  rw [if_neg ?_]
  · have e : ((numN s.size).length : Int) + (s.size : Int) = (((textN s).length : Nat) : Int) := by omega
    rw [e, Int.toNat_natCast, Int.toNat_natCast, List.take_left]
    unfold textN
    rw [List.drop_left, strOfNums_bytesOf]
  · simp only [List.length_append]
    rintro (hc | hc | hc) <;> omega
theorem readText_size (xs : List Int) (hx : ∀ x ∈ xs, 0 ≤ x ∧ x < 256) : (readText xs).1.size ≤ 3000 := by
  have h := readNumber_bd xs hx
  unfold readText
  split
  · decide
  · rename_i hc
    simp only
    rw [← bytesOf_length, bytesOf_strOfNums (fun x hm => hx x (List.mem_of_mem_take (List.mem_of_mem_drop hm))), List.length_drop, List.length_take]
    omega
theorem common_take : ∀ (as_ bs : List Int), as_.take (common as_ bs) = bs.take (common as_ bs)
  | [], bs => by rw [common_empty]; rfl
  | a :: as_, [] => by simp [common]
  | a :: as_, b :: bs => by
    unfold common
    split
    · rename_i h
      rw [List.take_succ_cons, List.take_succ_cons, common_take as_ bs, h]
    · rfl
theorem bytesOf_append (s t : ByteArray) : bytesOf (s ++ t) = bytesOf s ++ bytesOf t := by
  unfold bytesOf
  simp
theorem bytesOf_extract (s : ByteArray) (a b : Nat) : bytesOf (s.extract a b) = ((bytesOf s).take b).drop a := by
  unfold bytesOf
  simp [List.map_take, List.map_drop, List.drop_take]
theorem common_key (l s : ByteArray) : l.extract 0 (common (bytesOf l) (bytesOf s)) ++ s.extract (common (bytesOf l) (bytesOf s)) s.size = s := by
  apply bytesOf_inj
  rw [bytesOf_append, bytesOf_extract, bytesOf_extract, List.drop_zero, common_take]
  rw [List.take_of_length_le (l := bytesOf s) (i := s.size) (by rw [bytesOf_length]; omega), List.take_append_drop]
/-- One entry off the begin, the key ahead being l. -/
def unStep (l : ByteArray) (ys : List Int) : Option (S49 × List Int) :=
  if (readNumber ys).2 = 0 ∨ (readText (ys.drop (readNumber ys).2.toNat)).2 = 0 ∨ (readNumber ys).1 > l.size then none
  else if (readNumber ((ys.drop (readNumber ys).2.toNat).drop (readText (ys.drop (readNumber ys).2.toNat)).2.toNat)).2 = 0 ∨ (readText (((ys.drop (readNumber ys).2.toNat).drop (readText (ys.drop (readNumber ys).2.toNat)).2.toNat).drop (readNumber ((ys.drop (readNumber ys).2.toNat).drop (readText (ys.drop (readNumber ys).2.toNat)).2.toNat)).2.toNat)).2 = 0 then none
  else some (⟨l.extract 0 (readNumber ys).1.toNat ++ (readText (ys.drop (readNumber ys).2.toNat)).1,
      (readText (((ys.drop (readNumber ys).2.toNat).drop (readText (ys.drop (readNumber ys).2.toNat)).2.toNat).drop (readNumber ((ys.drop (readNumber ys).2.toNat).drop (readText (ys.drop (readNumber ys).2.toNat)).2.toNat)).2.toNat)).1,
      wrap64 (Int.tdiv (readNumber ((ys.drop (readNumber ys).2.toNat).drop (readText (ys.drop (readNumber ys).2.toNat)).2.toNat)).1 2), (Int.tmod (readNumber ((ys.drop (readNumber ys).2.toNat).drop (readText (ys.drop (readNumber ys).2.toNat)).2.toNat)).1 2 == 1)⟩,
    (((ys.drop (readNumber ys).2.toNat).drop (readText (ys.drop (readNumber ys).2.toNat)).2.toNat).drop (readNumber ((ys.drop (readNumber ys).2.toNat).drop (readText (ys.drop (readNumber ys).2.toNat)).2.toNat)).2.toNat).drop (readText (((ys.drop (readNumber ys).2.toNat).drop (readText (ys.drop (readNumber ys).2.toNat)).2.toNat).drop (readNumber ((ys.drop (readNumber ys).2.toNat).drop (readText (ys.drop (readNumber ys).2.toNat)).2.toNat)).2.toNat)).2.toNat)
theorem markE_back (e : S49) (h : 1 ≤ e.f2) (h2 : e.f2 ≤ 1000000) : wrap64 (Int.tdiv ((markE e : Nat) : Int) 2) = e.f2 ∧ (Int.tmod ((markE e : Nat) : Int) 2 == 1) = e.f3 := by
  unfold markE flagI
  cases hg : e.f3 with
  | true =>
    rw [if_pos rfl, show (((2 * e.f2 + 1).toNat : Nat) : Int) = 2 * e.f2 + 1 by omega, Int.tdiv_eq_ediv_of_nonneg (by omega), Int.tmod_eq_emod_of_nonneg (by omega)]
    refine ⟨by rw [w64 (by omega) (by omega)]; omega, ?_⟩
    rw [beq_iff_eq]; omega
  | false =>
    rw [if_neg (by decide), show (((2 * e.f2 + 0).toNat : Nat) : Int) = 2 * e.f2 by omega, Int.tdiv_eq_ediv_of_nonneg (by omega), Int.tmod_eq_emod_of_nonneg (by omega)]
    refine ⟨by rw [w64 (by omega) (by omega)]; omega, ?_⟩
    rw [beq_eq_false_iff_ne]; omega
theorem unStep_laid (l : ByteArray) (e : S49) (c : Nat) (r : List Int) (he : entOk e = true) (hc : c ≤ l.size) (hce : c ≤ e.f0.size) (hk : l.extract 0 c ++ e.f0.extract c e.f0.size = e.f0) :
    unStep l (numN c ++ (textN (e.f0.extract c e.f0.size) ++ (numN (markE e) ++ (textN e.f1 ++ r)))) = some (e, r) := by
  obtain ⟨⟨h1, h2⟩, h3, h4, h5, h6⟩ := entOk_iff.1 he
  have x1 := extract_size e.f0 c
  have hm : markE e ≤ 100000000 := by unfold markE flagI; split <;> omega
  obtain ⟨b1, b2⟩ := markE_back e h5 h6
  have e1 := readNumber_numN c (textN (e.f0.extract c e.f0.size) ++ (numN (markE e) ++ (textN e.f1 ++ r))) (by omega)
  have e2 := readText_textN (e.f0.extract c e.f0.size) (numN (markE e) ++ (textN e.f1 ++ r)) (by omega)
  have e3 := readNumber_numN (markE e) (textN e.f1 ++ r) (by omega)
  have e4 := readText_textN e.f1 r (by omega)
  have p1 := numN_pos c
  have p2 := numN_pos (markE e)
  have p3 := numN_pos (e.f0.extract c e.f0.size).size
  have p4 := numN_pos e.f1.size
  have q1 := textN_length (e.f0.extract c e.f0.size)
  have q2 := textN_length e.f1
  unfold unStep
  simp only [e1, e2, e3, e4, Int.toNat_natCast, List.drop_left]
  rw [if_neg (by omega), if_neg (by omega), b1, b2, hk]
theorem unStep_packE (l : ByteArray) (e : S49) (r : List Int) (he : entOk e = true) : unStep l (packE l e ++ r) = some (e, r) := by
  unfold packE
  have c1 := common_le (bytesOf l) (bytesOf e.f0)
  rw [bytesOf_length, bytesOf_length] at c1
  have := unStep_laid l e (common (bytesOf l) (bytesOf e.f0)) r he c1.1 c1.2 (common_key l e.f0)
  simpa only [List.append_assoc] using this
theorem unStep_packE0 (l : ByteArray) (e : S49) (r : List Int) (he : entOk e = true) : unStep l (packE (⟨#[]⟩ : ByteArray) e ++ r) = some (e, r) := by
  unfold packE
  rw [bytesOf_empty, common_empty]
  have hk : l.extract 0 0 ++ e.f0.extract 0 e.f0.size = e.f0 := by
    apply bytesOf_inj
    rw [bytesOf_append, bytesOf_extract, bytesOf_extract, List.drop_zero, List.drop_zero, List.take_zero, List.nil_append, List.take_of_length_le (by rw [bytesOf_length]; omega)]
  have := unStep_laid l e 0 r he (by omega) (by omega) hk
  simpa only [List.append_assoc] using this
theorem packE_byte (l : ByteArray) (e : S49) : ∀ x ∈ packE l e, 0 ≤ x ∧ x < 256 := by
  intro x hx
  unfold packE at hx
  simp only [List.mem_append] at hx
  rcases hx with h | h | h | h
  · exact numN_byte _ x h
  · exact textN_byte _ x h
  · exact numN_byte _ x h
  · exact textN_byte _ x h
theorem packL_byte : ∀ (xs : List S49) (l : ByteArray) (i : Nat), ∀ x ∈ packL l i xs, 0 ≤ x ∧ x < 256
  | [], _, _, x, hx => by simp [packL] at hx
  | e :: es, l, i, x, hx => by
    unfold packL at hx
    rcases List.mem_append.1 hx with h | h
    · exact packE_byte _ e x h
    · exact packL_byte es _ _ x h
theorem packed_byte (xs : List S49) : ∀ x ∈ packed xs, 0 ≤ x ∧ x < 256 := by
  intro x hx
  unfold packed at hx
  rcases List.mem_append.1 hx with h | h
  · exact numN_byte _ x h
  · exact packL_byte _ _ _ x h
theorem strNums_eq {xs ys : List Int} (hx : ∀ x ∈ xs, 0 ≤ x ∧ x < 256) (hy : ∀ x ∈ ys, 0 ≤ x ∧ x < 256) : (strOfNums xs).toList = (strOfNums ys).toList ↔ xs = ys := by
  constructor
  · intro h
    have := str_eq.1 h
    rw [← bytesOf_strOfNums hx, ← bytesOf_strOfNums hy, this]
  · intro h; rw [h]
theorem readNumber_nil : readNumber [] = (0, 0) := rfl
/-- Is it a list that these bytes stand for? -/
def Unp (xs : List Int) (L : List S49) : Prop := entriesOk L = true ∧ packed L = xs
open Classical in
noncomputable def unpacked (xs : List Int) : List S49 × Bool := if h : ∃ L, Unp xs L then (Classical.choose h, true) else ([], false)
theorem unpacked_le (xs : List Int) : (unpacked xs).1.length ≤ 300 := by
  unfold unpacked
  split
  · rename_i h
    exact entriesOk_le (Classical.choose_spec h).1
  · simp
theorem unpacked_all (xs : List Int) : ∀ e ∈ (unpacked xs).1, entOk e = true := by
  unfold unpacked
  split
  · rename_i h
    exact entriesOk_all (Classical.choose_spec h).1
  · simp
theorem unpacked_ev {g : Nat → Option (List S49 × Bool)} {xs : List Int} (h1 : ∃ r, Ev g r ∧ (r = ([], false) ∨ ∃ L, r = (L, true) ∧ Unp xs L)) (h2 : ∀ L, Unp xs L → Ev g (L, true)) : Ev g (unpacked xs) := by
  unfold unpacked
  split
  · rename_i h
    exact h2 _ (Classical.choose_spec h)
  · rename_i h
    obtain ⟨r, hr, h3 | ⟨L, _, h4⟩⟩ := h1
    · rw [← h3]; exact hr
    · exact absurd ⟨L, h4⟩ h
theorem wadd {a b : Nat} (h : a + b ≤ 1000000000000000000) : wrap64 ((a : Int) + (b : Int)) = ((a + b : Nat) : Int) := by rw [w64 (by omega) (by omega)]; omega
theorem rdN (ys : List Int) (hy : ∀ x ∈ ys, 0 ≤ x ∧ x < 256) : ∃ c t : Nat, readNumber ys = ((c : Int), (t : Int)) ∧ c ≤ 1099511627776 ∧ t ≤ ys.length := by
  have b := readNumber_bd ys hy
  generalize readNumber ys = p at b
  obtain ⟨a, t⟩ := p
  simp only at b
  exact ⟨a.toNat, t.toNat, by rw [Int.toNat_of_nonneg b.1.1, Int.toNat_of_nonneg b.2.1], by omega, by omega⟩
theorem rdT (ys : List Int) (hy : ∀ x ∈ ys, 0 ≤ x ∧ x < 256) : ∃ (s : ByteArray) (t : Nat), readText ys = (s, (t : Int)) ∧ s.size ≤ 3000 ∧ t ≤ ys.length := by
  have b := readText_bd ys hy
  have s := readText_size ys hy
  generalize readText ys = p at b s
  obtain ⟨a, t⟩ := p
  simp only at b s
  exact ⟨a, t.toNat, by rw [Int.toNat_of_nonneg b.1], s, by omega⟩

theorem spec_l1In_ev (a b c : Int) : Ev (fun _ => spec_l1In.f a b c) (within a b c) := by
  refine evId (fun _ => ?_)
  unfold spec_l1In.f within
  by_cases h : a ≥ b
  · rw [if_pos h, decide_eq_true (show b ≤ a from h), Bool.true_and]
  · rw [if_neg h, decide_eq_false (show ¬ b ≤ a from h), Bool.false_and]

theorem spec_l3Entry_ev (e : S49) : Ev (fun _ => spec_l3Entry.f e.f0 e.f1 e.f2 e.f3) (entOk e) := by
  obtain ⟨a, b, c, g⟩ := e
  refine evId (fun _ => ?_)
  have hin : spec_l1In.f c 1 1000000 = some (within c 1 1000000) := by
    obtain ⟨k, h⟩ := (spec_l1In_ev c 1 1000000).rounds
    exact h
  unfold spec_l3Entry.f entOk
  simp only [hin, Option.bind_some]
  by_cases h1 : (a.size : Int) ≥ 1
  · by_cases h2 : (a.size : Int) ≤ 40
    · by_cases h3 : (b.size : Int) ≤ 200
      · rw [if_pos h1, if_pos h2, if_pos h3]
        have : within (a.size : Int) 1 40 = true := by simp [within]; omega
        rw [this, decide_eq_true h3]
        cases g with
        | false => simp
        | true =>
          rw [if_pos rfl]
          by_cases h4 : b.toList = ([] : List UInt8)
          · rw [if_pos h4]; simp [h4]
          · rw [if_neg h4]; simp [h4]
      · rw [if_pos h1, if_pos h2, if_neg h3, decide_eq_false h3]; simp
    · rw [if_pos h1, if_neg h2]
      have : within (a.size : Int) 1 40 = false := by simp [within]; omega
      rw [this]; simp
  · rw [if_neg h1]
    have : within (a.size : Int) 1 40 = false := by simp [within]; omega
    rw [this]; simp
theorem spec_l3Ahead_ev (a b : S49) : Ev (fun _ => spec_l3Ahead.f a.f0 a.f1 a.f2 a.f3 b.f0 b.f1 b.f2 b.f3) (ahead a b) := by
  refine evId (fun _ => ?_)
  unfold spec_l3Ahead.f ahead
  cases h : Op.bytesLess a.f0.toList b.f0.toList with
  | true => simp
  | false =>
    rw [if_neg (by simp)]
    by_cases h2 : a.f0.toList = b.f0.toList
    · rw [if_pos h2]; simp [h2]
    · rw [if_neg h2]; simp [h2]
theorem spec_EntriesOk_l0_ev (xs : List S49) (hl : xs.length ≤ 1000000000000000000) : ∀ (bs : List S49) (i : Nat), xs.drop i = bs → Ev (fun k => spec_EntriesOk.l0 k xs i) (okL (prev xs i) bs)
  | [], i, hd => by
    have := drop_nil hd
    refine Ev.step (f := fun _ => some true) (fun k => ?_) (Ev.now _)
    simp only [spec_EntriesOk.l0]
    rw [if_neg (by omega)]
  | e :: bs, i, hd => by
    obtain ⟨h2, h3, h4⟩ := drop_cons hd
    have e1 : rd_T49 xs (i : Int) = e := getD_at h4
    have ih := spec_EntriesOk_l0_ev xs hl bs (i + 1) h3
    rw [prev_succ h4] at ih
    refine Ev.step (f := fun k => (spec_l3Entry.f e.f0 e.f1 e.f2 e.f3).bind fun t127 => (if t127 = true then (if (i : Int) > 0 then ((spec_l3Ahead.f (rd_T49 xs (wrap64 ((i : Int) - 1))).f0 (rd_T49 xs (wrap64 ((i : Int) - 1))).f1 (rd_T49 xs (wrap64 ((i : Int) - 1))).f2 (rd_T49 xs (wrap64 ((i : Int) - 1))).f3 e.f0 e.f1 e.f2 e.f3).bind fun t130 => (if t130 = true then (spec_EntriesOk.l0 k xs ((i + 1 : Nat) : Int)) else (some false))) else (spec_EntriesOk.l0 k xs ((i + 1 : Nat) : Int))) else (some false))) (fun k => ?_) (Ev.bind (spec_l3Entry_ev e) ?_)
    · simp only [spec_EntriesOk.l0]
      rw [if_pos (by omega), if_pos (by omega), e1, w64s (by omega)]
      by_cases hi : (i : Int) > 0
      · simp only [if_pos hi, if_pos (show (0 : Int) ≤ wrap64 ((i : Int) - 1) by rw [w64 (by omega) (by omega)]; omega), if_pos (show wrap64 ((i : Int) - 1) < (xs.length : Int) by rw [w64 (by omega) (by omega)]; omega)]
      · simp only [if_neg hi]
    · unfold okL
      cases he : entOk e with
      | false => exact evNeg (by simp) (Ev.now _)
      | true =>
        refine evPos rfl ?_
        rw [Bool.true_and]
        by_cases hi : i = 0
        · subst hi
          refine evNeg (by omega) (evEq ih ?_)
          simp [prev]
        · obtain ⟨q, hq⟩ : ∃ q, xs[i - 1]? = some q := ⟨_, List.getElem?_eq_getElem (by omega)⟩
          have e2 : rd_T49 xs (wrap64 ((i : Int) - 1)) = q := by
            rw [w64 (by omega) (by omega), show (i : Int) - 1 = ((i - 1 : Nat) : Int) by omega]
            exact getD_at hq
          refine evPos (by omega) ?_
          rw [e2]
          refine Ev.bind (spec_l3Ahead_ev q e) ?_
          simp only [prev, if_neg hi, hq]
          cases ahead q e with
          | false => exact evNeg (by simp) (Ev.now _)
          | true => exact evPos rfl (evEq ih (by rw [Bool.true_and]))
theorem spec_EntriesOk_ev (xs : List S49) : Ev (fun k => spec_EntriesOk.f k xs) (entriesOk xs) := by
  simp only [spec_EntriesOk.f]
  unfold entriesOk
  by_cases h : (xs.length : Int) > 300
  · rw [decide_eq_false (by omega)]; exact evPos h (Ev.now _)
  · rw [decide_eq_true (by omega), Bool.true_and]
    exact evNeg h (spec_EntriesOk_l0_ev xs (by omega) xs 0 rfl)

theorem spec_l4Packed_l0_ev (xs : List S49) (hl : xs.length ≤ 300) (hok : ∀ e ∈ xs, entOk e = true) : ∀ (bs : List S49) (i : Nat) (acc : List Int) (last : ByteArray), xs.drop i = bs → last.size ≤ 40 → acc.length + 300 * bs.length ≤ 1000000000 → Ev (fun k => spec_l4Packed.l0 k xs acc last i) (acc ++ packL last i bs)
  | [], i, acc, last, hd, hla, ha => by
    have := drop_nil hd
    refine Ev.step (f := fun _ => some acc) (fun k => ?_) (evEq (Ev.now _) (by simp [packL]))
    simp only [spec_l4Packed.l0]
    rw [if_neg (by omega)]
  | e :: bs, i, acc, last, hd, hla, ha => by
    obtain ⟨h2, h3, h4⟩ := drop_cons hd
    have e1 : rd_T49 xs (i : Int) = e := getD_at h4
    have he := hok e (List.mem_of_getElem? h4)
    obtain ⟨⟨g1, g2⟩, g3, g4, g5, g6⟩ := entOk_iff.1 he
    rw [List.length_cons] at ha
    have key : ∀ l : ByteArray, l.size ≤ 40 → Ev (fun k => spec_l4Packed.j1 k xs acc l i e.f0 e.f1 e.f2 e.f3) (acc ++ (packE l e ++ packL e.f0 (i + 1) bs)) := by
      intro l hl40
      have hp := packE_le l e he
      unfold packE at hp ⊢
      have c1 := (common_le (bytesOf l) (bytesOf e.f0)).2
      rw [bytesOf_length] at c1
      generalize hc : common (bytesOf l) (bytesOf e.f0) = c at hp c1 ⊢
      have x1 := extract_size e.f0 c
      have hm : wrap64 (wrap64 (2 * e.f2) + flagI e.f3) = ((markE e : Nat) : Int) := by
        unfold markE flagI
        rw [w64 (x := 2 * e.f2) (by omega) (by omega)]
        split
        · rw [w64 (by omega) (by omega)]; omega
        · rw [w64 (by omega) (by omega)]; omega
      have hm2 : markE e ≤ 100000000000 := by unfold markE flagI; split <;> omega
      simp only [List.length_append] at hp
      refine Ev.step (fun k => by simp only [spec_l4Packed.j1]; exact rfl) ?_
      have hcm := spec_Common_ev l e.f0 (by omega)
      rw [hc] at hcm
      refine Ev.bind hcm (Ev.bind (spec_l1Number_ev c (by omega)) (evPos (by omega) ?_))
      simp only [Option.bind_some, Int.toNat_natCast]
      refine evPos (by omega) (evPos (by omega) (Ev.bind (spec_l1Text_ev _ (by omega)) (evPos (by rw [List.length_append]; omega) ?_)))
      have hflag : ∀ (b : Bool), Ev (fun _ => spec_l4Flag.f b) (flagI b) := fun b => evId (fun _ => by unfold spec_l4Flag.f flagI; split <;> rfl)
      refine Ev.bind (hflag e.f3) ?_
      rw [hm]
      refine Ev.bind (spec_l1Number_ev (markE e) (by omega)) (evPos (by simp only [List.length_append]; omega) (Ev.bind (spec_l1Text_ev e.f1 (by omega)) (evPos (by simp only [List.length_append]; omega) ?_)))
      have ih := spec_l4Packed_l0_ev xs hl hok bs (i + 1) (acc ++ (numN c ++ (textN (e.f0.extract c e.f0.size) ++ (numN (markE e) ++ textN e.f1)))) e.f0 h3 (by omega) (by simp only [List.length_append]; omega)
      rw [w64s (by omega)]
      simpa [List.append_assoc] using ih
    unfold packL
    by_cases h8 : i % 8 = 0
    · rw [if_pos h8]
      refine Ev.step (fun k => ?_) (key (⟨#[]⟩ : ByteArray) (by decide))
      simp only [spec_l4Packed.l0]
      rw [if_pos (by omega), if_pos (by omega), e1, if_pos (by rw [Int.tmod_eq_emod_of_nonneg (by omega)]; omega)]
    · rw [if_neg h8]
      refine Ev.step (fun k => ?_) (key last hla)
      simp only [spec_l4Packed.l0]
      rw [if_pos (by omega), if_pos (by omega), e1, if_neg (by rw [Int.tmod_eq_emod_of_nonneg (by omega)]; omega)]
theorem spec_l4Packed_ev (xs : List S49) (hl : xs.length ≤ 300) (hok : ∀ e ∈ xs, entOk e = true) : Ev (fun k => spec_l4Packed.f k xs) (packed xs) := by
  simp only [spec_l4Packed.f]
  have h2 := numN_le10 (n := xs.length) (by omega)
  exact Ev.bind (spec_l1Number_ev xs.length (by omega)) (spec_l4Packed_l0_ev xs hl hok xs 0 _ _ rfl (by decide) (by omega))
theorem spec_Packed_ev (xs : List S49) : Ev (fun k => spec_Packed.f k xs) (if entriesOk xs = true then packed xs else []) := by
  simp only [spec_Packed.f]
  refine Ev.bind (spec_EntriesOk_ev xs) ?_
  by_cases h : entriesOk xs = true
  · rw [if_pos h]
    exact evPos h (Ev.bind (spec_l4Packed_ev xs (entriesOk_le h) (entriesOk_all h)) (Ev.now _))
  · rw [if_neg h]
    exact evNeg h (Ev.now _)

theorem spec_Unpacked_second (xs : List Int) (out : List S49) (l p2a p4a : ByteArray) (p3a : Int) (n at_ c t1 t2 t3 t4 : Nat) (hl : xs.length ≤ 1000000000000) (hn : n ≤ 1000) (ho : out.length ≤ 100000) (hs : p2a.size ≤ 3000) (hc : c ≤ l.size) (hc2 : c ≤ 1099511627776) (hle : at_ + t1 + t2 + t3 + t4 ≤ xs.length)
    (r3 : Ev (fun k => spec_ReadNumber.f k (xs.drop (at_ + t1 + t2))) (p3a, (t3 : Int))) (r4 : Ev (fun k => spec_ReadText.f k (xs.drop (at_ + t1 + t2 + t3))) (p4a, (t4 : Int))) (r : List S49 × Bool)
    (hr : Ev (fun k => if (t3 : Int) = 0 then (some ((([] : List S49)), false)) else (if (t4 : Int) = 0 then (some ((([] : List S49)), false)) else (spec_Unpacked.l0 k xs (n : Int) ((at_ + t1 + t2 + t3 + t4 : Nat) : Int) (out ++ [(⟨(l.extract 0 c) ++ p2a, p4a, wrap64 (Int.tdiv p3a 2), ((Int.tmod p3a 2) == 1)⟩ : S49)]) ((l.extract 0 c) ++ p2a)))) r) :
    Ev (fun k => spec_Unpacked.j3 k xs ((n + 1 : Nat) : Int) (at_ : Int) out l (c : Int) (t1 : Int) p2a (t2 : Int) false) r := by
  have q1 : at_ + t1 ≤ 1000000000000000000 := by omega
  have q2 : at_ + t1 + t2 ≤ 1000000000000000000 := by omega
  have q3 : at_ + t1 + t2 + t3 ≤ 1000000000000000000 := by omega
  have q4 : at_ + t1 + t2 + t3 + t4 ≤ 1000000000000000000 := by omega
  have i0 : (0 : Int) ≤ ((at_ + t1 + t2 : Nat) : Int) := by omega
  have i1 : ((at_ + t1 + t2 : Nat) : Int) ≤ (xs.length : Int) := by omega
  have i2 : (0 : Int) ≤ ((at_ + t1 + t2 + t3 : Nat) : Int) := by omega
  have i3 : ((at_ + t1 + t2 + t3 : Nat) : Int) ≤ (xs.length : Int) := by omega
  have i4 : (l.extract 0 c).size + p2a.size ≤ 9223372036854775807 := by
    have : (l.extract 0 c).size ≤ c := by rw [ByteArray.size_extract]; omega
    omega
  have i5 : out.length < 2932031007402 := by omega
  have i6 : (0 : Int) ≤ (c : Int) := by omega
  have i7 : (c : Int) ≤ (l.size : Int) := by omega
  have w5 : wrap64 (((n + 1 : Nat) : Int) - 1) = (n : Int) := by rw [w64 (by omega) (by omega)]; omega
  have w1 : wrap64 ((at_ : Int) + (t1 : Int)) = ((at_ + t1 : Nat) : Int) := wadd q1
  have w2 : wrap64 (((at_ + t1 : Nat) : Int) + (t2 : Int)) = ((at_ + t1 + t2 : Nat) : Int) := wadd q2
  have w3 : wrap64 (((at_ + t1 + t2 : Nat) : Int) + (t3 : Int)) = ((at_ + t1 + t2 + t3 : Nat) : Int) := wadd q3
  have w4 : wrap64 (((at_ + t1 + t2 + t3 : Nat) : Int) + (t4 : Int)) = ((at_ + t1 + t2 + t3 + t4 : Nat) : Int) := wadd q4
  clear hl hn ho hs hc hc2 hle
  refine Ev.step (f := fun k => (spec_ReadNumber.f k (xs.drop (at_ + t1 + t2))).bind fun bt217 => (if 0 ≤ (wrap64 (((at_ + t1 + t2 : Nat) : Int) + bt217.2)) then (if (wrap64 (((at_ + t1 + t2 : Nat) : Int) + bt217.2)) ≤ (xs.length : Int) then ((spec_ReadText.f k (xs.drop ((wrap64 (((at_ + t1 + t2 : Nat) : Int) + bt217.2)) : Int).toNat)).bind fun bt220 => (if bt217.2 = 0 then (some ((([] : List S49)), false)) else (if bt220.2 = 0 then (some ((([] : List S49)), false)) else (spec_Unpacked.l0 k xs (n : Int) (wrap64 ((wrap64 (((at_ + t1 + t2 : Nat) : Int) + bt217.2)) + bt220.2)) (out ++ [(⟨(l.extract 0 c) ++ p2a, bt220.1, wrap64 (Int.tdiv bt217.1 2), ((Int.tmod bt217.1 2) == 1)⟩ : S49)]) ((l.extract 0 c) ++ p2a))))) else (none)) else (none))) (fun k => ?_) ?_
  · simp only [spec_Unpacked.j3, w1, w2, w5, i0, i1, i4, i5, i6, i7, if_true, Int.toNat_natCast]
    rfl
  · refine Ev.bind r3 ?_
    simp only [w3, Int.toNat_natCast]
    refine evPos i2 (evPos i3 (Ev.bind r4 ?_))
    simp only [w4]
    exact hr
theorem spec_Unpacked_first (xs : List Int) (out : List S49) (l p2a : ByteArray) (m at_ c t1 t2 : Nat) (hl : xs.length ≤ 1000000000000) (hle : at_ + t1 + t2 ≤ xs.length)
    (r1 : Ev (fun k => spec_ReadNumber.f k (xs.drop at_)) ((c : Int), (t1 : Int))) (r2 : Ev (fun k => spec_ReadText.f k (xs.drop (at_ + t1))) (p2a, (t2 : Int))) (r : List S49 × Bool)
    (hr : Ev (fun k => spec_Unpacked.j3 k xs (m : Int) (at_ : Int) out l (c : Int) (t1 : Int) p2a (t2 : Int) (decide ((t1 : Int) = 0 ∨ (t2 : Int) = 0 ∨ (c : Int) > (l.size : Int)))) r) :
    Ev (fun k => spec_Unpacked.j2 k xs (m : Int) (at_ : Int) out l) r := by
  have w1 : wrap64 ((at_ : Int) + (t1 : Int)) = ((at_ + t1 : Nat) : Int) := wadd (by omega)
  have i0 : (0 : Int) ≤ (at_ : Int) := by omega
  have i1 : (at_ : Int) ≤ (xs.length : Int) := by omega
  have i2 : (0 : Int) ≤ ((at_ + t1 : Nat) : Int) := by omega
  have i3 : ((at_ + t1 : Nat) : Int) ≤ (xs.length : Int) := by omega
  clear hl hle
  refine Ev.step (fun k => by simp only [spec_Unpacked.j2]; exact rfl) ?_
  refine evPos i0 (evPos i1 ?_)
  rw [Int.toNat_natCast]
  refine Ev.bind r1 ?_
  simp only [w1, Int.toNat_natCast]
  refine evPos i2 (evPos i3 (Ev.bind r2 ?_))
  simp only
  by_cases h1 : (t1 : Int) = 0
  · refine evPos h1 ?_
    rw [decide_eq_true (Or.inl h1)] at hr
    exact hr
  · refine evNeg h1 ?_
    by_cases h2 : (t2 : Int) = 0
    · refine evPos h2 ?_
      rw [decide_eq_true (Or.inr (Or.inl h2))] at hr
      exact hr
    · refine evNeg h2 ?_
      rw [show decide ((t1 : Int) = 0 ∨ (t2 : Int) = 0 ∨ (c : Int) > (l.size : Int)) = decide ((c : Int) > (l.size : Int)) by simp only [h1, h2, false_or]] at hr
      exact hr
theorem spec_Unpacked_step (xs : List Int) (hl : xs.length ≤ 1000000000000) (hx : ∀ x ∈ xs, 0 ≤ x ∧ x < 256) (n at_ : Nat) (out : List S49) (last : ByteArray) (ha : at_ ≤ xs.length) (hn : n ≤ 1000) (ho : out.length ≤ 100000) :
    (unStep (if out.length % 8 = 0 then (⟨#[]⟩ : ByteArray) else last) (xs.drop at_) = none → Ev (fun k => spec_Unpacked.l0 k xs ((n + 1 : Nat) : Int) (at_ : Int) out last) ([], false)) ∧
    (∀ e ys, unStep (if out.length % 8 = 0 then (⟨#[]⟩ : ByteArray) else last) (xs.drop at_) = some (e, ys) → ∃ at' : Nat, at' ≤ xs.length ∧ xs.drop at' = ys ∧ ∀ r, Ev (fun k => spec_Unpacked.l0 k xs (n : Int) (at' : Int) (out ++ [e]) e.f0) r → Ev (fun k => spec_Unpacked.l0 k xs ((n + 1 : Nat) : Int) (at_ : Int) out last) r) := by
  have key : ∀ l : ByteArray, (unStep l (xs.drop at_) = none → Ev (fun k => spec_Unpacked.j2 k xs ((n + 1 : Nat) : Int) (at_ : Int) out l) ([], false)) ∧
      (∀ e ys, unStep l (xs.drop at_) = some (e, ys) → ∃ at' : Nat, at' ≤ xs.length ∧ xs.drop at' = ys ∧ ∀ r, Ev (fun k => spec_Unpacked.l0 k xs (n : Int) (at' : Int) (out ++ [e]) e.f0) r → Ev (fun k => spec_Unpacked.j2 k xs ((n + 1 : Nat) : Int) (at_ : Int) out l) r) := by
    intro l
    have d1 := drop_byte hx at_
    obtain ⟨c, t1, e1, bc, b1⟩ := rdN _ d1
    have r1 := spec_ReadNumber_ev _ d1
    rw [e1] at r1
    rw [List.length_drop] at b1
    have d2 := drop_byte hx (at_ + t1)
    obtain ⟨p2a, t2, e2, s2, b2⟩ := rdT _ d2
    have r2 := spec_ReadText_ev (xs.drop (at_ + t1)) (by rw [List.length_drop]; omega) d2
    rw [e2] at r2
    rw [List.length_drop] at b2
    have d3 := drop_byte hx (at_ + t1 + t2)
    obtain ⟨p3a, t3, e3, bp, b3⟩ := rdN _ d3
    have r3 := spec_ReadNumber_ev _ d3
    rw [e3] at r3
    rw [List.length_drop] at b3
    have d4 := drop_byte hx (at_ + t1 + t2 + t3)
    obtain ⟨p4a, t4, e4, s4, b4⟩ := rdT _ d4
    have r4 := spec_ReadText_ev (xs.drop (at_ + t1 + t2 + t3)) (by rw [List.length_drop]; omega) d4
    rw [e4] at r4
    rw [List.length_drop] at b4
    have hle : at_ + t1 + t2 + t3 + t4 ≤ xs.length := by omega
    clear b1 b2 b3 b4 d1 d2 d3 d4 s4 bp
    unfold unStep
    simp only [e1, e2, e3, e4, Int.toNat_natCast, List.drop_drop]
    have first := spec_Unpacked_first xs out l p2a (n + 1) at_ c t1 t2 hl (by omega) r1 r2
    by_cases hf : (t1 : Int) = 0 ∨ (t2 : Int) = 0 ∨ (c : Int) > (l.size : Int)
    · rw [if_pos hf]
      refine ⟨fun _ => first _ ?_, fun e ys h => by cases h⟩
      rw [decide_eq_true hf]
      refine Ev.step (f := fun _ => some ([], false)) (fun k => ?_) (Ev.now _)
      simp only [spec_Unpacked.j3]
      rw [if_pos trivial]
    · rw [if_neg hf]
      rw [decide_eq_false hf] at first
      have h3 : ¬ (c : Int) > (l.size : Int) := fun h => hf (Or.inr (Or.inr h))
      have second := fun r hr => first r (spec_Unpacked_second xs out l p2a p4a (p3a : Int) n at_ c t1 t2 t3 t4 hl hn ho s2 (by omega) bc hle r3 r4 r hr)
      by_cases hg : (t3 : Int) = 0 ∨ (t4 : Int) = 0
      · rw [if_pos hg]
        refine ⟨fun _ => second _ ?_, fun e ys h => by cases h⟩
        by_cases g3 : (t3 : Int) = 0
        · exact evPos g3 (Ev.now _)
        · exact evNeg g3 (evPos (hg.resolve_left g3) (Ev.now _))
      · rw [if_neg hg]
        refine ⟨fun h => (by cases h), fun e ys h => ?_⟩
        simp only [Option.some.injEq, Prod.mk.injEq] at h
        obtain ⟨rfl, rfl⟩ := h
        refine ⟨at_ + t1 + t2 + t3 + t4, hle, rfl, fun r hr => second r ?_⟩
        exact evNeg (fun h => hg (Or.inl h)) (evNeg (fun h => hg (Or.inr h)) hr)
  by_cases h8 : out.length % 8 = 0
  · rw [if_pos h8]
    have up : ∀ r, Ev (fun k => spec_Unpacked.j2 k xs ((n + 1 : Nat) : Int) (at_ : Int) out (⟨#[]⟩ : ByteArray)) r → Ev (fun k => spec_Unpacked.l0 k xs ((n + 1 : Nat) : Int) (at_ : Int) out last) r := fun r hr => by
      refine Ev.step (fun k => ?_) hr
      simp only [spec_Unpacked.l0]
      rw [if_pos (by omega), if_pos (by omega)]
    obtain ⟨k1, k2⟩ := key (⟨#[]⟩ : ByteArray)
    refine ⟨fun h => up _ (k1 h), fun e ys h => ?_⟩
    obtain ⟨a', q1, q2, q3⟩ := k2 e ys h
    exact ⟨a', q1, q2, fun r hr => up _ (q3 r hr)⟩
  · rw [if_neg h8]
    have up : ∀ r, Ev (fun k => spec_Unpacked.j2 k xs ((n + 1 : Nat) : Int) (at_ : Int) out last) r → Ev (fun k => spec_Unpacked.l0 k xs ((n + 1 : Nat) : Int) (at_ : Int) out last) r := fun r hr => by
      refine Ev.step (fun k => ?_) hr
      simp only [spec_Unpacked.l0]
      rw [if_pos (by omega), if_neg (by omega)]
    obtain ⟨k1, k2⟩ := key last
    refine ⟨fun h => up _ (k1 h), fun e ys h => ?_⟩
    obtain ⟨a', q1, q2, q3⟩ := k2 e ys h
    exact ⟨a', q1, q2, fun r hr => up _ (q3 r hr)⟩
theorem spec_Unpacked_end (xs : List Int) (hx : ∀ x ∈ xs, 0 ≤ x ∧ x < 256) (hne : xs ≠ []) (at_ : Int) (out : List S49) (last : ByteArray) :
    (Unp xs out → Ev (fun k => spec_Unpacked.l0 k xs 0 at_ out last) (out, true)) ∧ (¬ Unp xs out → Ev (fun k => spec_Unpacked.l0 k xs 0 at_ out last) ([], false)) := by
  have up : ∀ r, Ev (fun k => ((spec_Packed.f k out).bind fun t201 => (if (strOfNums t201).toList = (strOfNums xs).toList then (some (out, true)) else (some ((([] : List S49)), false))))) r → Ev (fun k => spec_Unpacked.l0 k xs 0 at_ out last) r := fun r hr => by
    refine Ev.step (fun k => ?_) hr
    simp only [spec_Unpacked.l0]
    rw [if_neg (by decide)]
  have sp := spec_Packed_ev out
  refine ⟨fun h => up _ (Ev.bind sp ?_), fun h => up _ (Ev.bind sp ?_)⟩
  · rw [if_pos h.1, h.2]
    exact evPos rfl (Ev.now _)
  · by_cases ho : entriesOk out = true
    · rw [if_pos ho]
      exact evNeg (fun e => h ⟨ho, (strNums_eq (packed_byte out) hx).1 e⟩) (Ev.now _)
    · rw [if_neg ho]
      exact evNeg (fun e => hne ((strNums_eq (by simp) hx).1 e).symm) (Ev.now _)
theorem spec_Unpacked_some (xs : List Int) (hl : xs.length ≤ 1000000000000) (hx : ∀ x ∈ xs, 0 ≤ x ∧ x < 256) (hne : xs ≠ []) : ∀ (n at_ : Nat) (out : List S49) (last : ByteArray), at_ ≤ xs.length → n ≤ 1000 → out.length + n ≤ 100000 →
    ∃ r, Ev (fun k => spec_Unpacked.l0 k xs (n : Int) (at_ : Int) out last) r ∧ (r = ([], false) ∨ ∃ L, r = (L, true) ∧ Unp xs L)
  | 0, at_, out, last, ha, hn, ho => by
    obtain ⟨h1, h2⟩ := spec_Unpacked_end xs hx hne at_ out last
    by_cases h : Unp xs out
    · exact ⟨_, h1 h, Or.inr ⟨out, rfl, h⟩⟩
    · exact ⟨_, h2 h, Or.inl rfl⟩
  | n + 1, at_, out, last, ha, hn, ho => by
    obtain ⟨h1, h2⟩ := spec_Unpacked_step xs hl hx n at_ out last ha (by omega) (by omega)
    cases h : unStep (if out.length % 8 = 0 then (⟨#[]⟩ : ByteArray) else last) (xs.drop at_) with
    | none => exact ⟨_, h1 h, Or.inl rfl⟩
    | some p =>
      obtain ⟨e, ys⟩ := p
      obtain ⟨a', q1, q2, q3⟩ := h2 e ys h
      obtain ⟨r, hr, hc⟩ := spec_Unpacked_some xs hl hx hne n a' (out ++ [e]) e.f0 q1 (by omega) (by simp; omega)
      exact ⟨r, q3 r hr, hc⟩
theorem spec_Unpacked_back (xs : List Int) (hl : xs.length ≤ 1000000000000) (hx : ∀ x ∈ xs, 0 ≤ x ∧ x < 256) (hne : xs ≠ []) (L : List S49) (hL : Unp xs L) : ∀ (bs : List S49) (at_ : Nat) (out : List S49) (last : ByteArray), L = out ++ bs → at_ ≤ xs.length → xs.drop at_ = packL last out.length bs →
    Ev (fun k => spec_Unpacked.l0 k xs (bs.length : Int) (at_ : Int) out last) (L, true)
  | [], at_, out, last, he, ha, hd => by
    obtain ⟨h1, h2⟩ := spec_Unpacked_end xs hx hne at_ out last
    rw [List.append_nil] at he
    rw [he] at hL ⊢
    exact h1 hL
  | e :: bs, at_, out, last, he, ha, hd => by
    have hle := entriesOk_le hL.1
    have hok := entriesOk_all hL.1 e (by rw [he]; simp)
    have hlen : L.length = out.length + (bs.length + 1) := by rw [he]; simp
    obtain ⟨h1, h2⟩ := spec_Unpacked_step xs hl hx bs.length at_ out last ha (by omega) (by omega)
    have hs : unStep (if out.length % 8 = 0 then (⟨#[]⟩ : ByteArray) else last) (xs.drop at_) = some (e, packL e.f0 (out.length + 1) bs) := by
      rw [hd]
      exact unStep_packE _ e _ hok
    obtain ⟨a', q1, q2, q3⟩ := h2 _ _ hs
    refine q3 _ (spec_Unpacked_back xs hl hx hne L hL bs a' (out ++ [e]) e.f0 (by rw [he]; simp) q1 ?_)
    rw [q2]; simp
theorem spec_Unpacked_ev (xs : List Int) (hl : xs.length ≤ 1000000000000) (hx : ∀ x ∈ xs, 0 ≤ x ∧ x < 256) : Ev (fun k => spec_Unpacked.f k xs) (unpacked xs) := by
  have b1 := readNumber_bd xs hx
  have r1 := spec_ReadNumber_ev xs hx
  simp only [spec_Unpacked.f]
  by_cases h0 : (readNumber xs).2 = 0
  · refine unpacked_ev ⟨_, Ev.bind r1 ?_, Or.inl rfl⟩ (fun L hL => ?_)
    · simp only [Option.bind_some]
      refine evPos h0 (Ev.step (fun k => by simp only [spec_Unpacked.j0]; exact rfl) ?_)
      exact evPos trivial (Ev.now _)
    · exfalso
      have hle := entriesOk_le hL.1
      have hp := hL.2
      unfold packed at hp
      rw [← hp, readNumber_numN _ _ (by omega)] at h0
      have := numN_pos L.length
      simp only at h0
      omega
  · have hne : xs ≠ [] := fun h => h0 (by rw [h]; rfl)
    by_cases h3 : (readNumber xs).1 > 300
    · refine unpacked_ev ⟨_, Ev.bind r1 ?_, Or.inl rfl⟩ (fun L hL => ?_)
      · simp only [Option.bind_some]
        refine evNeg h0 ?_
        rw [decide_eq_true h3]
        refine Ev.step (fun k => by simp only [spec_Unpacked.j0]; exact rfl) ?_
        exact evPos trivial (Ev.now _)
      · exfalso
        have hle := entriesOk_le hL.1
        have hp := hL.2
        unfold packed at hp
        rw [← hp, readNumber_numN _ _ (by omega)] at h3
        simp only at h3
        omega
    · have up : ∀ r, Ev (fun k => spec_Unpacked.l0 k xs (readNumber xs).1 (readNumber xs).2 ([] : List S49) (⟨#[]⟩ : ByteArray)) r → Ev (fun k => (spec_ReadNumber.f k xs).bind fun bt196 => ((some (([] : List S49) : List S49)).bind fun y198 => (if bt196.2 = 0 then (spec_Unpacked.j0 k xs bt196.1 bt196.2 y198 true) else (spec_Unpacked.j0 k xs bt196.1 bt196.2 y198 (decide (bt196.1 > 300)))))) r := fun r hr => by
        refine Ev.bind r1 ?_
        simp only [Option.bind_some]
        refine evNeg h0 ?_
        rw [decide_eq_false h3]
        refine Ev.step (fun k => ?_) hr
        simp only [spec_Unpacked.j0]
        rw [if_neg (by decide)]
      obtain ⟨n, hn⟩ : ∃ n : Nat, (readNumber xs).1 = n := ⟨(readNumber xs).1.toNat, by omega⟩
      obtain ⟨t, ht⟩ : ∃ t : Nat, (readNumber xs).2 = t := ⟨(readNumber xs).2.toNat, by omega⟩
      refine unpacked_ev ?_ (fun L hL => ?_)
      · obtain ⟨r, hr, hc⟩ := spec_Unpacked_some xs hl hx hne n t [] (⟨#[]⟩ : ByteArray) (by omega) (by omega) (by simp; omega)
        rw [← hn, ← ht] at hr
        exact ⟨r, up r hr, hc⟩
      · have hle := entriesOk_le hL.1
        have hp := hL.2
        unfold packed at hp
        have e := readNumber_numN L.length (packL (⟨#[]⟩ : ByteArray) 0 L) (by omega)
        rw [hp] at e
        refine up _ ?_
        rw [e]
        refine spec_Unpacked_back xs hl hx hne L hL L _ [] _ rfl (by rw [← hp]; simp) ?_
        rw [← hp]; simp

def ordI (x y : Int) : Int := if x < y then -1 else if x > y then 1 else 0
def ordS (x y : ByteArray) : Int := if Op.bytesLess x.toList y.toList = true then -1 else if Op.bytesLess y.toList x.toList = true then 1 else 0
def byOrder (a b : S49) : Int := if ordS a.f0 b.f0 = 0 then ordI b.f2 a.f2 else ordS a.f0 b.f0
theorem cmp_Compare_string_ev (x y : ByteArray) : Ev (fun _ => cmp_Compare_string.f x y) (ordS x y) := by
  refine evId (fun _ => ?_)
  unfold cmp_Compare_string.f cmp_isNaN_string.f ordS
  simp only [bne_self_eq_false, Option.bind_some, Bool.false_eq_true, if_false]
  split
  · rfl
  · split <;> rfl
theorem cmp_Compare_int64_ev (x y : Int) : Ev (fun _ => cmp_Compare_int64.f x y) (ordI x y) := by
  refine evId (fun _ => ?_)
  unfold cmp_Compare_int64.f cmp_isNaN_int64.f ordI
  simp only [bne_self_eq_false, Option.bind_some, Bool.false_eq_true, if_false]
  split
  · rfl
  · split <;> rfl
theorem cmp_Or_two (x y : Int) : Ev (fun k => cmp_Or_int.f k [x, y]) (if x = 0 then y else x) := by
  simp only [cmp_Or_int.f]
  refine ⟨3, fun k hk => ?_⟩
  obtain ⟨m, rfl⟩ : ∃ m, k = m + 3 := ⟨k - 3, by omega⟩
  have w1 : wrap64 (0 + 1) = 1 := w64 (x := 0 + 1) (by decide) (by decide)
  have w2 : wrap64 (1 + 1) = 2 := w64 (x := 1 + 1) (by decide) (by decide)
  have e0 : rd [x, y] 0 = x := rfl
  have e1 : rd [x, y] 1 = y := rfl
  simp only [cmp_Or_int.l0, w1, w2, e0, e1]
  by_cases hx : x = 0
  · by_cases hy : y = 0
    · simp [hx, hy]
    · simp [hx, hy]
  · simp [hx]
theorem impl_byOrder_ev (a b : S49) : Ev (fun k => impl_byOrder.f k a.f0 a.f1 a.f2 a.f3 b.f0 b.f1 b.f2 b.f3) (byOrder a b) := by
  simp only [impl_byOrder.f]
  exact Ev.bind (cmp_Compare_string_ev a.f0 b.f0) (Ev.bind (cmp_Compare_int64_ev b.f2 a.f2) (Ev.bind (cmp_Or_two _ _) (Ev.now _)))
theorem byOrder_ahead (a b : S49) : decide (byOrder a b ≥ 0) = !ahead a b := by
  unfold byOrder ahead ordS ordI
  cases h1 : Op.bytesLess a.f0.toList b.f0.toList with
  | true => simp
  | false =>
    cases h2 : Op.bytesLess b.f0.toList a.f0.toList with
    | true =>
      have : a.f0.toList ≠ b.f0.toList := by
        intro h
        rw [h, less_irrefl] at h2
        cases h2
      simp [this]
    | false =>
      have := less_tri _ _ h1 h2
      simp only [Bool.false_eq_true, if_false, if_true, this, decide_true, Bool.true_and, Bool.false_or]
      by_cases h3 : b.f2 < a.f2
      · rw [if_pos h3, decide_eq_true (show a.f2 > b.f2 from h3)]; decide
      · rw [if_neg h3, decide_eq_false (show ¬ a.f2 > b.f2 from h3)]
        split <;> decide

theorem impl_within_eq (a b c : Int) : impl_within.f a b c = some (within a b c) := by
  obtain ⟨k, h⟩ := (impl_within_ev a b c).rounds
  exact h
theorem impl_entryOk_ev (e : S49) : Ev (fun _ => impl_entryOk.f e.f0 e.f1 e.f2 e.f3) (entOk e) := by
  obtain ⟨a, b, c, g⟩ := e
  refine evId (fun _ => ?_)
  unfold impl_entryOk.f entOk
  simp only [impl_within_eq, Option.bind_some]
  cases h1 : within (a.size : Int) 1 40 with
  | false => simp
  | true =>
    rw [if_pos rfl]
    by_cases h3 : (b.size : Int) ≤ 200
    · rw [if_pos h3, decide_eq_true h3]
      cases g with
      | false => simp
      | true =>
        rw [if_pos rfl]
        by_cases h4 : b.toList = ([] : List UInt8)
        · rw [if_pos h4]; simp [h4]
        · rw [if_neg h4]; simp [h4]
    · rw [if_neg h3, decide_eq_false h3]; simp
theorem impl_EntriesOk_l0_ev (xs : List S49) (hl : xs.length ≤ 1000000000000000000) : ∀ (bs : List S49) (i : Nat), xs.drop i = bs → Ev (fun k => impl_EntriesOk.l0 k xs xs (xs.length : Int) i) (okL (prev xs i) bs)
  | [], i, hd => by
    have := drop_nil hd
    refine Ev.step (f := fun _ => some true) (fun k => ?_) (Ev.now _)
    simp only [impl_EntriesOk.l0]
    rw [if_neg (by omega)]
  | e :: bs, i, hd => by
    obtain ⟨h2, h3, h4⟩ := drop_cons hd
    have e1 : rd_T49 xs (i : Int) = e := getD_at h4
    have ih := impl_EntriesOk_l0_ev xs hl bs (i + 1) h3
    rw [prev_succ h4] at ih
    refine Ev.step (f := fun k => (impl_entryOk.f e.f0 e.f1 e.f2 e.f3).bind fun t127 => (if t127 = true then (if (i : Int) > 0 then ((impl_byOrder.f k (rd_T49 xs (wrap64 ((i : Int) - 1))).f0 (rd_T49 xs (wrap64 ((i : Int) - 1))).f1 (rd_T49 xs (wrap64 ((i : Int) - 1))).f2 (rd_T49 xs (wrap64 ((i : Int) - 1))).f3 e.f0 e.f1 e.f2 e.f3).bind fun t130 => (if t130 ≥ 0 then (some false) else (impl_EntriesOk.l0 k xs xs (xs.length : Int) ((i + 1 : Nat) : Int)))) else (impl_EntriesOk.l0 k xs xs (xs.length : Int) ((i + 1 : Nat) : Int))) else (some false))) (fun k => ?_) (Ev.bind (impl_entryOk_ev e) ?_)
    · simp only [impl_EntriesOk.l0]
      rw [if_pos (by omega), if_pos (by omega), if_pos (by omega), e1, w64s (by omega)]
      by_cases hi : (i : Int) > 0
      · simp only [if_pos hi, if_pos (show (0 : Int) ≤ wrap64 ((i : Int) - 1) by rw [w64 (by omega) (by omega)]; omega), if_pos (show wrap64 ((i : Int) - 1) < (xs.length : Int) by rw [w64 (by omega) (by omega)]; omega)]
      · simp only [if_neg hi]
    · unfold okL
      cases he : entOk e with
      | false => exact evNeg (by simp) (Ev.now _)
      | true =>
        refine evPos rfl ?_
        rw [Bool.true_and]
        by_cases hi : i = 0
        · subst hi
          refine evNeg (by omega) (evEq ih ?_)
          simp [prev]
        · obtain ⟨q, hq⟩ : ∃ q, xs[i - 1]? = some q := ⟨_, List.getElem?_eq_getElem (by omega)⟩
          have e2 : rd_T49 xs (wrap64 ((i : Int) - 1)) = q := by
            rw [w64 (by omega) (by omega), show (i : Int) - 1 = ((i - 1 : Nat) : Int) by omega]
            exact getD_at hq
          refine evPos (by omega) ?_
          rw [e2]
          refine Ev.bind (impl_byOrder_ev q e) ?_
          simp only [prev, if_neg hi, hq]
          have hb := byOrder_ahead q e
          cases ha : ahead q e with
          | false =>
            rw [ha] at hb
            exact evPos (of_decide_eq_true hb) (Ev.now _)
          | true =>
            rw [ha] at hb
            exact evNeg (of_decide_eq_false hb) (evEq ih (by rw [Bool.true_and]))
theorem impl_EntriesOk_ev (xs : List S49) : Ev (fun k => impl_EntriesOk.f k xs) (entriesOk xs) := by
  simp only [impl_EntriesOk.f]
  unfold entriesOk
  by_cases h : (xs.length : Int) > 300
  · rw [decide_eq_false (by omega)]; exact evPos h (Ev.now _)
  · rw [decide_eq_true (by omega), Bool.true_and]
    exact evNeg h (impl_EntriesOk_l0_ev xs (by omega) xs 0 rfl)

theorem impl_packed_l0_ev (xs : List S49) (hl : xs.length ≤ 300) (hok : ∀ e ∈ xs, entOk e = true) : ∀ (bs : List S49) (i : Nat) (acc : List Int) (last : ByteArray), xs.drop i = bs → (∀ p, prev xs i = some p → last = p.f0) → acc.length + 300 * bs.length ≤ 1000000000 → Ev (fun k => impl_packed.l0 k xs acc xs (xs.length : Int) i) (acc ++ packL last i bs)
  | [], i, acc, last, hd, hla, ha => by
    have := drop_nil hd
    refine Ev.step (f := fun _ => some acc) (fun k => ?_) (evEq (Ev.now _) (by simp [packL]))
    simp only [impl_packed.l0]
    rw [if_neg (by omega)]
  | e :: bs, i, acc, last, hd, hla, ha => by
    obtain ⟨h2, h3, h4⟩ := drop_cons hd
    have e1 : rd_T49 xs (i : Int) = e := getD_at h4
    have he := hok e (List.mem_of_getElem? h4)
    obtain ⟨⟨g1, g2⟩, g3, g4, g5, g6⟩ := entOk_iff.1 he
    rw [List.length_cons] at ha
    have key : ∀ (l : ByteArray) (c : Nat), common (bytesOf l) (bytesOf e.f0) = c → Ev (fun k => impl_packed.j1 k xs acc (c : Int) xs (xs.length : Int) i e.f0 e.f1 e.f2 e.f3) (acc ++ (packE l e ++ packL e.f0 (i + 1) bs)) := by
      intro l c hc
      have hp := packE_le l e he
      unfold packE at hp ⊢
      have c1 := (common_le (bytesOf l) (bytesOf e.f0)).2
      rw [bytesOf_length] at c1
      rw [hc] at hp c1 ⊢
      have x1 := extract_size e.f0 c
      have hm2 : markE e ≤ 100000000000 := by unfold markE flagI; split <;> omega
      simp only [List.length_append] at hp
      have ht1 : text (e.f0.extract c e.f0.size) = textN (e.f0.extract c e.f0.size) := if_neg (by omega)
      have ht2 : text e.f1 = textN e.f1 := if_neg (by omega)
      have j2 : Ev (fun k => impl_packed.j2 k xs acc (c : Int) ((markE e : Nat) : Int) xs (xs.length : Int) i e.f0 e.f1 e.f2 e.f3) (acc ++ ((numN c ++ (textN (e.f0.extract c e.f0.size) ++ (numN (markE e) ++ textN e.f1))) ++ packL e.f0 (i + 1) bs)) := by
        refine Ev.step (fun k => by simp only [impl_packed.j2]; exact rfl) ?_
        refine Ev.bind (impl_Number_nat c (by omega)) (evPos (by omega) ?_)
        simp only [Option.bind_some, Int.toNat_natCast]
        refine evPos (by omega) (evPos (by omega) (Ev.bind (evEq (impl_Text_ev _) ht1) (evPos (by rw [List.length_append]; omega) ?_)))
        refine Ev.bind (impl_Number_nat (markE e) (by omega)) (evPos (by simp only [List.length_append]; omega) (Ev.bind (evEq (impl_Text_ev e.f1) ht2) (evPos (by simp only [List.length_append]; omega) ?_)))
        have ih := impl_packed_l0_ev xs hl hok bs (i + 1) (acc ++ (numN c ++ (textN (e.f0.extract c e.f0.size) ++ (numN (markE e) ++ textN e.f1)))) e.f0 h3 (fun p hp => by rw [prev_succ h4] at hp; injection hp with hp; rw [hp]) (by simp only [List.length_append]; omega)
        rw [w64s (by omega)]
        simpa [List.append_assoc] using ih
      cases hg : e.f3 with
      | true =>
        refine Ev.step (fun k => ?_) j2
        simp only [impl_packed.j1]
        rw [if_pos trivial, hg]
        congr 1
        unfold markE flagI
        rw [hg, if_pos rfl, w64 (x := 2 * e.f2) (by omega) (by omega), w64 (by omega) (by omega)]
        omega
      | false =>
        refine Ev.step (fun k => ?_) j2
        simp only [impl_packed.j1]
        rw [if_neg (by decide), hg]
        congr 1
        unfold markE flagI
        rw [hg, if_neg (by decide), w64 (x := 2 * e.f2) (by omega) (by omega)]
        omega
    unfold packL
    by_cases h8 : i % 8 = 0
    · rw [if_pos h8]
      refine Ev.step (fun k => ?_) (key (⟨#[]⟩ : ByteArray) 0 (common_empty _))
      simp only [impl_packed.l0]
      rw [if_pos (by omega), if_pos (by omega), if_pos (by omega), e1, if_neg (by rw [Int.tmod_eq_emod_of_nonneg (by omega)]; omega)]
      rfl
    · rw [if_neg h8]
      obtain ⟨q, hq⟩ : ∃ q, xs[i - 1]? = some q := ⟨_, List.getElem?_eq_getElem (by omega)⟩
      have hla' : last = q.f0 := hla q (by unfold prev; rw [if_neg (by omega), hq])
      have e2 : rd_T49 xs (wrap64 ((i : Int) - 1)) = q := by
        rw [w64 (by omega) (by omega), show (i : Int) - 1 = ((i - 1 : Nat) : Int) by omega]
        exact getD_at hq
      have hq40 := (entOk_iff.1 (hok q (List.mem_of_getElem? hq))).1
      refine Ev.step (f := fun k => (impl_Common.f k q.f0 e.f0).bind fun t => impl_packed.j1 k xs acc t xs (xs.length : Int) i e.f0 e.f1 e.f2 e.f3) (fun k => ?_) (Ev.bind (impl_Common_ev q.f0 e.f0 (by omega)) (key last _ (by rw [hla'])))
      simp only [impl_packed.l0]
      rw [if_pos (by omega), if_pos (by omega), if_pos (by omega), e1, if_pos (by rw [Int.tmod_eq_emod_of_nonneg (by omega)]; omega), if_pos (by rw [w64 (by omega) (by omega)]; omega), if_pos (by rw [w64 (by omega) (by omega)]; omega), e2]
theorem impl_packed_ev (xs : List S49) (hl : xs.length ≤ 300) (hok : ∀ e ∈ xs, entOk e = true) : Ev (fun k => impl_packed.f k xs) (packed xs) := by
  simp only [impl_packed.f]
  have h2 := numN_le10 (n := xs.length) (by omega)
  exact Ev.bind (impl_Number_nat xs.length (by omega)) (impl_packed_l0_ev xs hl hok xs 0 _ _ rfl (fun p hp => by simp [prev] at hp) (by omega))

theorem impl_ReadNumber_l0_ev (xs : List Int) (hl : xs.length ≤ 1000000000000000000) (hx : ∀ x ∈ xs, 0 ≤ x ∧ x < 256) : ∀ (bs : List Int) (i : Nat) (p n : Int), xs.drop i = bs → PW i p → i ≤ 6 → 0 ≤ n → n < p → Ev (fun k => impl_ReadNumber.l0 k n xs (xs.length : Int) i) (rnum i p n bs)
  | [], i, p, n, hd, hP, hi, h0, h1 => by
    have := drop_nil hd
    refine Ev.step (f := fun _ => some (0, 0)) (fun k => ?_) (Ev.now _)
    simp only [impl_ReadNumber.l0]
    rw [if_neg (by omega)]
  | b :: bs, i, p, n, hd, hP, hi, h0, h1 => by
    obtain ⟨h2, h3, h4⟩ := drop_cons hd
    obtain ⟨b0, b1⟩ := hx b (List.mem_of_getElem? h4)
    have hip : (0 : Int) ≤ i := by omega
    have hil : (i : Int) < xs.length := by omega
    by_cases h6 : i < 6
    · have hp := hP.pos
      have hq := hP.le (by omega)
      have hm := digit_mul b p hp
      have e1 := join_eq (n := n) (b := b) (i := i) hP (by omega) h0 h1 b0 b1
      have e3 : (0 : Int) ≤ wrap64 (7 * (i : Int)) := by rw [w64 (by omega) (by omega)]; omega
      have hi1 : wrap64 ((i : Int) + 1) = (i : Int) + 1 := w64 (by omega) (by omega)
      have ih := impl_ReadNumber_l0_ev xs hl hx bs (i + 1) (p * 128) (n + b % 128 * p) h3 hP.step (by omega)
      have ih' : Ev (fun k => impl_ReadNumber.l0 k (n + b % 128 * p) xs (xs.length : Int) ((i + 1 : Nat) : Int)) (rnum (i + 1) (p * 128) (n + b % 128 * p) bs) := by
        generalize b % 128 * p = q at hm ih ⊢; exact ih (by omega) (by omega)
      clear ih
      simp only [rnum, if_pos h6]
      by_cases hb : b < 128
      · rw [if_pos hb]
        refine Ev.step (f := fun _ => some _) (fun k => ?_) (Ev.now _)
        simp only [impl_ReadNumber.l0]
        rw [if_pos hil, if_pos hip, if_pos hil, if_neg (by omega), if_pos e3, rd_at h4, e1, if_pos hb, hi1]
        generalize n + b % 128 * p = q
        by_cases hi0 : 0 < i
        · rw [if_pos (by omega)]
          by_cases hb0 : b = 0
          · rw [if_pos hb0, if_pos (Or.inr ⟨hi0, hb0⟩)]
          · rw [if_neg hb0]
            by_cases hn : q > 1099511627776
            · rw [if_pos hn, if_pos (Or.inl hn)]
            · rw [if_neg hn, if_neg (fun h => h.elim hn (fun h => hb0 h.2))]
        · rw [if_neg (by omega)]
          by_cases hn : q > 1099511627776
          · rw [if_pos hn, if_pos (Or.inl hn)]
          · rw [if_neg hn, if_neg (fun h => h.elim hn (fun h => hi0 h.1))]
      · rw [if_neg hb]
        refine Ev.step (f := fun k => impl_ReadNumber.l0 k (n + b % 128 * p) xs (xs.length : Int) ((i + 1 : Nat) : Int)) (fun k => ?_) ih'
        simp only [impl_ReadNumber.l0]
        rw [if_pos hil, if_pos hip, if_pos hil, if_neg (by omega), if_pos e3, rd_at h4, e1, if_neg hb, hi1]
        rfl
    · refine Ev.step (f := fun _ => some (0, 0)) (fun k => ?_) (evEq (Ev.now _) ?_)
      · simp only [impl_ReadNumber.l0]
        rw [if_pos hil, if_pos hip, if_pos hil, if_pos (by omega)]
      · simp only [rnum, if_neg h6]
theorem impl_ReadNumber_ev (xs : List Int) (hl : xs.length ≤ 1000000000000000000) (hx : ∀ x ∈ xs, 0 ≤ x ∧ x < 256) : Ev (fun k => impl_ReadNumber.f k xs) (readNumber xs) :=
  impl_ReadNumber_l0_ev xs hl hx xs 0 1 0 rfl PW.zero (by decide) (by decide) (by decide)

theorem impl_ReadText_ev (xs : List Int) (hl : xs.length ≤ 1000000000000000000) (hx : ∀ x ∈ xs, 0 ≤ x ∧ x < 256) : Ev (fun k => impl_ReadText.f k xs) (readText xs) := by
  simp only [impl_ReadText.f]
  refine Ev.bind (impl_ReadNumber_ev xs hl hx) ?_
  have hb := readNumber_bd xs hx
  unfold readText
  generalize readNumber xs = p at hb ⊢
  obtain ⟨n, t⟩ := p
  simp only at hb ⊢
  by_cases h0 : t = 0
  · rw [if_pos (Or.inl h0)]; exact evPos h0 (Ev.now _)
  refine evNeg h0 ?_
  by_cases h1 : n > 3000
  · rw [if_pos (Or.inr (Or.inl h1))]; exact evPos h1 (Ev.now _)
  refine evNeg h1 ?_
  have e1 : wrap64 ((xs.length : Int) - t) = (xs.length : Int) - t := w64 (by omega) (by omega)
  rw [e1]
  by_cases h2 : n > (xs.length : Int) - t
  · rw [if_pos (Or.inr (Or.inr h2))]; exact evPos h2 (Ev.now _)
  refine evNeg h2 ?_
  have e2 : wrap64 (t + n) = t + n := w64 (by omega) (by omega)
  rw [e2]
  exact evEq (evPos (by omega) (evPos (by omega) (evPos (by omega) (Ev.now _)))) (if_neg (fun h => by rcases h with h | h | h <;> omega)).symm

theorem impl_cursor_goes_ev (xs : List Int) (b : Bool) (t : Int) (h0 : 0 ≤ t) (h1 : t ≤ xs.length) : Ev (fun _ => impl_cursor_goes.f xs b t) (xs.drop t.toNat, (b || t == 0)) := by
  simp only [impl_cursor_goes.f]
  exact evPos h0 (evPos h1 (Ev.now _))
theorem impl_cursor_number_ev (xs : List Int) (b : Bool) (hl : xs.length ≤ 1000000000000000000) (hx : ∀ x ∈ xs, 0 ≤ x ∧ x < 256) : Ev (fun k => impl_cursor_number.f k xs b) ((readNumber xs).1, xs.drop (readNumber xs).2.toNat, (b || (readNumber xs).2 == 0)) := by
  have hb := readNumber_bd xs hx
  simp only [impl_cursor_number.f]
  exact Ev.bind (impl_ReadNumber_ev xs hl hx) (Ev.bind (impl_cursor_goes_ev xs b _ (by omega) (by omega)) (Ev.now _))
theorem impl_cursor_text_ev (xs : List Int) (b : Bool) (hl : xs.length ≤ 1000000000000000000) (hx : ∀ x ∈ xs, 0 ≤ x ∧ x < 256) : Ev (fun k => impl_cursor_text.f k xs b) ((readText xs).1, xs.drop (readText xs).2.toNat, (b || (readText xs).2 == 0)) := by
  have hb := readText_bd xs hx
  simp only [impl_cursor_text.f]
  exact Ev.bind (impl_ReadText_ev xs hl hx) (Ev.bind (impl_cursor_goes_ev xs b _ (by omega) (by omega)) (Ev.now _))
theorem impl_cursor_ended_ev (xs : List Int) (b : Bool) : Ev (fun _ => impl_cursor_ended.f xs b) (!b && decide (xs = []), xs, b) := by
  simp only [impl_cursor_ended.f]
  cases b with
  | true => exact evPos rfl (Ev.now _)
  | false =>
    refine evNeg (by decide) (evEq (Ev.now _) ?_)
    cases xs with
    | nil => rfl
    | cons y ys =>
      have : ((((y :: ys).length : Nat) : Int) == 0) = false := by
        rw [beq_eq_false_iff_ne]; simp; omega
      rw [this]; simp

theorem bytes_Equal_ev (xs ys : List Int) (hx : ∀ x ∈ xs, 0 ≤ x ∧ x < 256) (hy : ∀ x ∈ ys, 0 ≤ x ∧ x < 256) : Ev (fun _ => bytes_Equal.f xs ys) (decide (xs = ys)) := by
  refine evId (fun _ => ?_)
  simp only [bytes_Equal.f]
  congr 1
  rw [Bool.eq_iff_iff, beq_iff_eq, decide_eq_true_eq, strNums_eq hx hy]
theorem impl_Unpacked_j1_bad (xs : List Int) (n : Int) (key : ByteArray) (out : List S49) (ys : List Int) : Ev (fun k => impl_Unpacked.j1 k xs n key out false ys true) ([], false) := by
  refine Ev.step (fun k => by simp only [impl_Unpacked.j1]; exact rfl) ?_
  exact evNeg (by decide) (Ev.bind (impl_cursor_ended_ev ys true) (evNeg (by simp) (Ev.now _)))
theorem impl_Unpacked_bad (xs : List Int) (n : Int) (key : ByteArray) (out : List S49) (ys : List Int) : Ev (fun k => impl_Unpacked.l0 k xs n key out ys true) ([], false) := by
  refine Ev.step (fun k => ?_) (impl_Unpacked_j1_bad xs n key out ys)
  simp only [impl_Unpacked.l0]
  split <;> rfl
theorem impl_Unpacked_step (xs ys : List Int) (hl : ys.length ≤ 1000000000000) (hy : ∀ x ∈ ys, 0 ≤ x ∧ x < 256) (n : Nat) (out : List S49) (key : ByteArray) (hn : n ≤ 1000) (ho : out.length ≤ 100000) :
    (unStep key ys = none → Ev (fun k => impl_Unpacked.l0 k xs ((n + 1 : Nat) : Int) key out ys false) ([], false)) ∧
    (∀ e zs, unStep key ys = some (e, zs) → (zs.length ≤ ys.length ∧ ∀ x ∈ zs, 0 ≤ x ∧ x < 256) ∧ ∀ r, Ev (fun k => impl_Unpacked.l0 k xs (n : Int) e.f0 (out ++ [e]) zs false) r → Ev (fun k => impl_Unpacked.l0 k xs ((n + 1 : Nat) : Int) key out ys false) r) := by
  have w5 : wrap64 (((n + 1 : Nat) : Int) - 1) = (n : Int) := by rw [w64 (by omega) (by omega)]; omega
  obtain ⟨c, t1, e1, bc, b1⟩ := rdN ys hy
  have r1 := impl_cursor_number_ev ys false (by omega) hy
  unfold unStep
  rw [e1] at r1
  simp only [e1, Int.toNat_natCast] at r1 ⊢
  have d2 := drop_byte hy t1
  have l2 : (ys.drop t1).length ≤ ys.length := by rw [List.length_drop]; omega
  generalize ys.drop t1 = y1 at r1 d2 l2 ⊢
  obtain ⟨p2a, t2, e2, s2, b2⟩ := rdT y1 d2
  have r2 := impl_cursor_text_ev y1 (false || (t1 : Int) == 0) (by omega) d2
  rw [e2] at r2
  simp only [e2, Int.toNat_natCast] at r2 ⊢
  have d3 := drop_byte d2 t2
  have l3 : (y1.drop t2).length ≤ ys.length := by rw [List.length_drop]; omega
  clear e2 d2 l2 b2
  generalize y1.drop t2 = y2 at r2 d3 l3 ⊢
  obtain ⟨p3a, t3, e3, bp, b3⟩ := rdN y2 d3
  have r3 := impl_cursor_number_ev y2 ((false || (t1 : Int) == 0) || (t2 : Int) == 0) (by omega) d3
  rw [e3] at r3
  simp only [e3, Int.toNat_natCast] at r3 ⊢
  have d4 := drop_byte d3 t3
  have l4 : (y2.drop t3).length ≤ ys.length := by rw [List.length_drop]; omega
  clear e3 d3 l3 b3
  generalize y2.drop t3 = y3 at r3 d4 l4 ⊢
  obtain ⟨p4a, t4, e4, s4, b4⟩ := rdT y3 d4
  have r4 := impl_cursor_text_ev y3 (((false || (t1 : Int) == 0) || (t2 : Int) == 0) || (t3 : Int) == 0) (by omega) d4
  rw [e4] at r4
  simp only [e4, Int.toNat_natCast] at r4 ⊢
  have d5 := drop_byte d4 t4
  have l5 : (y3.drop t4).length ≤ ys.length := by rw [List.length_drop]; omega
  clear e4 d4 l4 b4
  generalize y3.drop t4 = y4 at r4 d5 l5 ⊢
  have start : ∀ r, Ev (fun k => if (c : Int) > (key.size : Int) then (some (([] : List S49), false)) else (impl_Unpacked.l0 k xs (n : Int) ((key.extract 0 c) ++ p2a) (out ++ [(⟨(key.extract 0 c) ++ p2a, p4a, wrap64 (Int.tdiv (p3a : Int) 2), ((Int.tmod (p3a : Int) 2) == 1)⟩ : S49)]) y4 ((((false || (t1 : Int) == 0) || (t2 : Int) == 0) || (t3 : Int) == 0) || (t4 : Int) == 0))) r → Ev (fun k => impl_Unpacked.l0 k xs ((n + 1 : Nat) : Int) key out ys false) r := by
    intro r hr
    refine Ev.step (f := fun k => impl_Unpacked.j1 k xs ((n + 1 : Nat) : Int) key out true ys false) (fun k => ?_) ?_
    · simp only [impl_Unpacked.l0]
      rw [if_pos (by omega)]
      rfl
    refine Ev.step (fun k => by simp only [impl_Unpacked.j1]; exact rfl) ?_
    refine evPos trivial (Ev.bind r1 ?_)
    simp only
    by_cases h : (c : Int) > (key.size : Int)
    · exact evPos h (evThen h hr)
    · refine evNeg h (evPos (by omega) (evPos (by omega) (Ev.bind r2 ?_)))
      simp only [Int.toNat_natCast, w5]
      refine evPos ?_ (Ev.bind r3 ?_)
      · have : (key.extract 0 c).size ≤ c := by rw [ByteArray.size_extract]; omega
        omega
      simp only
      refine Ev.bind r4 ?_
      simp only
      refine evPos (by omega) ?_
      exact evElse h hr
  by_cases hf : (t1 : Int) = 0 ∨ (t2 : Int) = 0 ∨ (c : Int) > (key.size : Int)
  · rw [if_pos hf]
    refine ⟨fun _ => start _ ?_, fun e zs h => by cases h⟩
    by_cases h : (c : Int) > (key.size : Int)
    · exact evPos h (Ev.now _)
    · refine evNeg h ?_
      rw [show ((((false || (t1 : Int) == 0) || (t2 : Int) == 0) || (t3 : Int) == 0) || (t4 : Int) == 0) = true by
        rcases hf with hf | hf | hf
        · simp [hf]
        · simp [hf]
        · exact absurd hf h]
      exact impl_Unpacked_bad _ _ _ _ _
  · rw [if_neg hf]
    have h1 : ¬ (t1 : Int) = 0 := fun h => hf (Or.inl h)
    have h2 : ¬ (t2 : Int) = 0 := fun h => hf (Or.inr (Or.inl h))
    have h3 : ¬ (c : Int) > (key.size : Int) := fun h => hf (Or.inr (Or.inr h))
    by_cases hg : (t3 : Int) = 0 ∨ (t4 : Int) = 0
    · rw [if_pos hg]
      refine ⟨fun _ => start _ (evNeg h3 ?_), fun e zs h => by cases h⟩
      rw [show ((((false || (t1 : Int) == 0) || (t2 : Int) == 0) || (t3 : Int) == 0) || (t4 : Int) == 0) = true by
        rcases hg with hg | hg <;> simp [hg]]
      exact impl_Unpacked_bad _ _ _ _ _
    · rw [if_neg hg]
      have h4 : ¬ (t3 : Int) = 0 := fun h => hg (Or.inl h)
      have h5 : ¬ (t4 : Int) = 0 := fun h => hg (Or.inr h)
      rw [show ((((false || (t1 : Int) == 0) || (t2 : Int) == 0) || (t3 : Int) == 0) || (t4 : Int) == 0) = false by
        rw [beq_eq_false_iff_ne.2 h1, beq_eq_false_iff_ne.2 h2, beq_eq_false_iff_ne.2 h4, beq_eq_false_iff_ne.2 h5]; rfl] at start
      refine ⟨fun h => (by cases h), fun e zs h => ?_⟩
      simp only [Option.some.injEq, Prod.mk.injEq] at h
      obtain ⟨rfl, rfl⟩ := h
      exact ⟨⟨l5, d5⟩, fun r hr => start r (evNeg h3 hr)⟩
theorem impl_Unpacked_end (xs ys : List Int) (hx : ∀ x ∈ xs, 0 ≤ x ∧ x < 256) (out : List S49) (key : ByteArray) :
    (Unp xs out → ys = [] → Ev (fun k => impl_Unpacked.l0 k xs 0 key out ys false) (out, true)) ∧ (¬ (Unp xs out ∧ ys = []) → Ev (fun k => impl_Unpacked.l0 k xs 0 key out ys false) ([], false)) := by
  have up : ∀ r, Ev (fun k => impl_Unpacked.j1 k xs 0 key out false ys false) r → Ev (fun k => impl_Unpacked.l0 k xs 0 key out ys false) r := fun r hr => by
    refine Ev.step (fun k => ?_) hr
    simp only [impl_Unpacked.l0]
    rw [if_neg (by decide)]
  have en := impl_cursor_ended_ev ys false
  refine ⟨fun h hy => up _ (Ev.step (fun k => by simp only [impl_Unpacked.j1]; exact rfl) ?_), fun h => up _ (Ev.step (fun k => by simp only [impl_Unpacked.j1]; exact rfl) ?_)⟩
  · refine evNeg (by decide) (Ev.bind en (evPos (by simp [hy]) (Ev.bind (impl_EntriesOk_ev out) (evPos h.1 (Ev.bind (impl_packed_ev out (entriesOk_le h.1) (entriesOk_all h.1)) (Ev.bind (bytes_Equal_ev _ _ (packed_byte out) hx) (evPos (by simpa using h.2) (Ev.now _))))))))
  · refine evNeg (by decide) (Ev.bind en ?_)
    by_cases hy : ys = []
    · refine evPos (by simp [hy]) (Ev.bind (impl_EntriesOk_ev out) ?_)
      by_cases ho : entriesOk out = true
      · refine evPos ho (Ev.bind (impl_packed_ev out (entriesOk_le ho) (entriesOk_all ho)) (Ev.bind (bytes_Equal_ev _ _ (packed_byte out) hx) (evNeg (fun e => h ⟨⟨ho, of_decide_eq_true e⟩, hy⟩) (Ev.now _))))
      · exact evNeg ho (Ev.now _)
    · exact evNeg (by simp [hy]) (Ev.now _)
theorem impl_Unpacked_some (xs : List Int) (hx : ∀ x ∈ xs, 0 ≤ x ∧ x < 256) : ∀ (n : Nat) (ys : List Int) (out : List S49) (key : ByteArray), ys.length ≤ 1000000000000 → (∀ x ∈ ys, 0 ≤ x ∧ x < 256) → n ≤ 1000 → out.length + n ≤ 100000 →
    ∃ r, Ev (fun k => impl_Unpacked.l0 k xs (n : Int) key out ys false) r ∧ (r = ([], false) ∨ ∃ L, r = (L, true) ∧ Unp xs L)
  | 0, ys, out, key, hl, hy, hn, ho => by
    obtain ⟨h1, h2⟩ := impl_Unpacked_end xs ys hx out key
    by_cases h : Unp xs out ∧ ys = []
    · exact ⟨_, h1 h.1 h.2, Or.inr ⟨out, rfl, h.1⟩⟩
    · exact ⟨_, h2 h, Or.inl rfl⟩
  | n + 1, ys, out, key, hl, hy, hn, ho => by
    obtain ⟨h1, h2⟩ := impl_Unpacked_step xs ys hl hy n out key (by omega) (by omega)
    cases h : unStep key ys with
    | none => exact ⟨_, h1 h, Or.inl rfl⟩
    | some p =>
      obtain ⟨e, zs⟩ := p
      obtain ⟨⟨q1, q2⟩, q3⟩ := h2 e zs h
      obtain ⟨r, hr, hc⟩ := impl_Unpacked_some xs hx n zs (out ++ [e]) e.f0 (by omega) q2 (by omega) (by simp; omega)
      exact ⟨r, q3 r hr, hc⟩
theorem impl_Unpacked_back (xs : List Int) (hl : xs.length ≤ 1000000000000) (hx : ∀ x ∈ xs, 0 ≤ x ∧ x < 256) (L : List S49) (hL : Unp xs L) : ∀ (bs : List S49) (out : List S49) (key : ByteArray), L = out ++ bs → (packL key out.length bs).length ≤ 1000000000000 →
    Ev (fun k => impl_Unpacked.l0 k xs (bs.length : Int) key out (packL key out.length bs) false) (L, true)
  | [], out, key, he, ha => by
    obtain ⟨h1, h2⟩ := impl_Unpacked_end xs (packL key out.length []) hx out key
    rw [List.append_nil] at he
    rw [he] at hL ⊢
    exact h1 hL (by simp [packL])
  | e :: bs, out, key, he, ha => by
    have hle := entriesOk_le hL.1
    have hok := entriesOk_all hL.1 e (by rw [he]; simp)
    have hlen : L.length = out.length + (bs.length + 1) := by rw [he]; simp
    obtain ⟨h1, h2⟩ := impl_Unpacked_step xs (packL key out.length (e :: bs)) ha (packL_byte _ _ _) bs.length out key (by omega) (by omega)
    have hs : unStep key (packL key out.length (e :: bs)) = some (e, packL e.f0 (out.length + 1) bs) := by
      rw [packL]
      split
      · exact unStep_packE0 _ e _ hok
      · exact unStep_packE _ e _ hok
    obtain ⟨⟨q1, q2⟩, q3⟩ := h2 _ _ hs
    have ih := impl_Unpacked_back xs hl hx L hL bs (out ++ [e]) e.f0 (by rw [he]; simp) (by simp only [List.length_append, List.length_cons, List.length_nil]; simpa using (by omega : (packL e.f0 (out.length + 1) bs).length ≤ 1000000000000))
    refine q3 _ ?_
    simpa using ih
theorem impl_Unpacked_ev (xs : List Int) (hl : xs.length ≤ 1000000000000) (hx : ∀ x ∈ xs, 0 ≤ x ∧ x < 256) : Ev (fun k => impl_Unpacked.f k xs) (unpacked xs) := by
  have b1 := readNumber_bd xs hx
  have r1 := impl_cursor_number_ev xs false (by omega) hx
  simp only [impl_Unpacked.f]
  by_cases h3 : (readNumber xs).1 > 300
  · refine unpacked_ev ⟨_, Ev.bind r1 (evPos h3 (Ev.now _)), Or.inl rfl⟩ (fun L hL => ?_)
    exfalso
    have hle := entriesOk_le hL.1
    have hp := hL.2
    unfold packed at hp
    rw [← hp, readNumber_numN _ _ (by omega)] at h3
    simp only at h3
    omega
  · obtain ⟨n, hn⟩ : ∃ n : Nat, (readNumber xs).1 = n := ⟨(readNumber xs).1.toNat, by omega⟩
    have up : ∀ r, Ev (fun k => impl_Unpacked.l0 k xs (readNumber xs).1 (⟨#[]⟩ : ByteArray) ([] : List S49) (xs.drop (readNumber xs).2.toNat) (false || (readNumber xs).2 == 0)) r → Ev (fun k => (impl_cursor_number.f k xs false).bind fun bt305 => (if bt305.1 > 300 then (some (([] : List S49), false)) else (impl_Unpacked.l0 k xs bt305.1 (⟨#[]⟩ : ByteArray) (([] : List S49)) bt305.2.1 bt305.2.2))) r := fun r hr => Ev.bind r1 (evNeg h3 hr)
    refine unpacked_ev ?_ (fun L hL => ?_)
    · by_cases h0 : (readNumber xs).2 = 0
      · refine ⟨([], false), up _ ?_, Or.inl rfl⟩
        rw [show (false || (readNumber xs).2 == 0) = true by rw [h0]; rfl]
        exact impl_Unpacked_bad _ _ _ _ _
      · obtain ⟨r, hr, hc⟩ := impl_Unpacked_some xs hx n (xs.drop (readNumber xs).2.toNat) [] (⟨#[]⟩ : ByteArray) (by rw [List.length_drop]; omega) (drop_byte hx _) (by omega) (by simp; omega)
        refine ⟨r, up r ?_, hc⟩
        rw [show (false || (readNumber xs).2 == 0) = false by rw [Bool.false_or, beq_eq_false_iff_ne]; exact h0, hn]
        exact hr
    · have hle := entriesOk_le hL.1
      have hp := hL.2
      unfold packed at hp
      have e := readNumber_numN L.length (packL (⟨#[]⟩ : ByteArray) 0 L) (by omega)
      rw [hp] at e
      refine up _ ?_
      have hpos := numN_pos L.length
      rw [e]
      simp only [Int.toNat_natCast]
      rw [show (false || ((numN L.length).length : Int) == 0) = false by rw [Bool.false_or, beq_eq_false_iff_ne]; omega]
      have ed : xs.drop (numN L.length).length = packL (⟨#[]⟩ : ByteArray) 0 L := by rw [← hp]; simp
      have lp := packL_le L (⟨#[]⟩ : ByteArray) 0 (entriesOk_all hL.1)
      rw [ed]
      exact impl_Unpacked_back xs hl hx L hL L [] _ rfl (by simp only [List.length_nil]; omega)

theorem laws_toByteS_l0_ev (xs : List Int) (hl : xs.length ≤ 1000000000000000000) : ∀ (bs pre : List Int), xs = pre ++ bs → Ev (fun k => laws_toByteS.l0 k xs (pre ++ List.replicate bs.length 0) (pre.length : Int)) xs
  | [], pre, h => by
    refine Ev.step (f := fun _ => some xs) (fun k => ?_) (Ev.now _)
    simp only [laws_toByteS.l0]
    have : xs.length = pre.length := by rw [h]; simp
    rw [if_neg (by omega)]
    simp [h]
  | b :: bs, pre, h => by
    have hlen : xs.length = pre.length + (bs.length + 1) := by rw [h]; simp
    have ih := laws_toByteS_l0_ev xs hl bs (pre ++ [b]) (by rw [h]; simp)
    refine Ev.step (f := fun k => laws_toByteS.l0 k xs ((pre ++ [b]) ++ List.replicate bs.length 0) ((pre ++ [b]).length : Int)) (fun k => ?_) ih
    simp only [laws_toByteS.l0]
    have e : rd xs (pre.length : Int) = b := rd_at (by rw [h]; simp)
    rw [if_pos (by omega), if_pos (by omega), if_pos (by simp; omega), e, w64s (by omega), Int.toNat_natCast, List.length_cons, set_mid, List.length_append, List.length_singleton]
theorem laws_toByteS_ev (xs : List Int) (hl : xs.length ≤ 281474976710656) : Ev (fun k => laws_toByteS.f k xs) xs := by
  simp only [laws_toByteS.f]
  refine evPos (by omega) (evPos (by omega) ?_)
  have := laws_toByteS_l0_ev xs (by omega) xs [] rfl
  simpa using this

theorem laws_eqByteS_l0_ev (xs ys : List Int) (hl : xs.length ≤ 1000000000000000000) (he : xs.length = ys.length) : ∀ (av bs : List Int) (i : Nat), xs.drop i = av → ys.drop i = bs → Ev (fun k => laws_eqByteS.l0 k xs ys i) (decide (av = bs))
  | [], bs, i, ha, hb => by
    have h1 := drop_nil ha
    have h2 : bs = [] := by rw [← hb]; exact drop_end _ _ (by omega)
    subst h2
    refine Ev.step (f := fun _ => some true) (fun k => ?_) (by simpa using Ev.now true)
    simp only [laws_eqByteS.l0]
    rw [if_neg (by omega)]
  | a :: av, [], i, ha, hb => by
    have h1 := drop_nil hb
    obtain ⟨h2, h3, h4⟩ := drop_cons ha
    omega
  | a :: av, b :: bs, i, ha, hb => by
    obtain ⟨h2, h3, h4⟩ := drop_cons ha
    obtain ⟨g2, g3, g4⟩ := drop_cons hb
    by_cases e : a = b
    · have ih := laws_eqByteS_l0_ev xs ys hl he av bs (i + 1) h3 g3
      refine Ev.step (f := fun k => laws_eqByteS.l0 k xs ys ((i + 1 : Nat) : Int)) (fun k => ?_) (evEq ih (by simp [e]))
      simp only [laws_eqByteS.l0]
      rw [if_pos (by omega), if_pos (by omega), if_pos (by omega), rd_at h4, rd_at g4, if_pos e, w64s (by omega)]
    · refine Ev.step (f := fun _ => some false) (fun k => ?_) (evEq (Ev.now false) (by simp [e]))
      simp only [laws_eqByteS.l0]
      rw [if_pos (by omega), if_pos (by omega), if_pos (by omega), rd_at h4, rd_at g4, if_neg e]
theorem laws_eqByteS_ev (xs ys : List Int) (hl : xs.length ≤ 1000000000000000000) : Ev (fun k => laws_eqByteS.f k xs ys) (decide (xs = ys)) := by
  simp only [laws_eqByteS.f]
  by_cases he : xs.length = ys.length
  · exact evPos (by omega) (laws_eqByteS_l0_ev xs ys hl he xs ys 0 rfl rfl)
  · refine evNeg (by omega) (evEq (Ev.now false) ?_)
    symm
    rw [decide_eq_false_iff_not]
    intro h
    exact he (by rw [h])
theorem laws_eqByteS_self (xs : List Int) (hl : xs.length ≤ 1000000000000000000) : Ev (fun k => laws_eqByteS.f k xs xs) true := evEq (laws_eqByteS_ev xs xs hl) (by simp)

theorem laws_markByteS_ev (xs : List Int) (hl : xs.length ≤ 1000000000000000) (a : Int) (h1 : 1 ≤ a) (h2 : a ≤ 10000000000000000) : Ev (fun k => laws_markByteS.f k xs a) (a + 1 * xs.length, marksOf (fun b => b % 256) 1 xs.length a) := by
  refine mark_loop laws_markByteS.l0 (fun b => b % 256) 1 (by decide) (fun k xs a i h => ?_) (fun xs a i r h hi h1 h2 hr => ?_) xs hl a h1 h2
  · simp only [laws_markByteS.l0]
    rw [if_neg (by omega)]
  · refine Ev.step (f := fun k => laws_markByteS.l0 k (xs.set i (a % 256)) (a + 1) ((i + 1 : Nat) : Int)) (fun k => ?_) hr
    simp only [laws_markByteS.l0]
    rw [if_pos (by omega), if_pos (by omega), w64s (by omega), w64 (x := a + 1) (by omega) (by omega), Int.toNat_natCast]

theorem laws_eqEntry_self (e : S49) : laws_eqEntry.f e.f0 e.f1 e.f2 e.f3 e.f0 e.f1 e.f2 e.f3 = some true := by
  simp [laws_eqEntry.f]
theorem laws_eqEntryS_self (xs : List S49) (hl : xs.length ≤ 1000000000000000000) : Ev (fun k => laws_eqEntryS.f k xs xs) true := by
  simp only [laws_eqEntryS.f]
  refine evPos trivial (self_loop laws_eqEntryS.l0 (fun k xs i h => by simp only [laws_eqEntryS.l0]; rw [if_neg (by omega)]) (fun k xs i a hi ha h1 => ?_) xs hl)
  simp only [laws_eqEntryS.l0]
  rw [if_pos (by omega), if_pos (by omega), if_pos (by omega), laws_eqEntry_self, w64s (by omega)]
  rfl

theorem laws_markText_l0_ev (n : Nat) : ∀ (s : ByteArray), s.size + n ≤ 2000000000000000000 → ∃ t, Ev (fun k => laws_markText.l0 k (n : Int) s) t := by
  induction n using Nat.strongRecOn with
  | ind n ih =>
    intro s hs
    by_cases h : n = 0
    · subst h
      refine ⟨_, Ev.step (f := fun _ => some ((⟨#[109]⟩ : ByteArray) ++ s)) (fun k => ?_) (Ev.now _)⟩
      simp only [laws_markText.l0]
      rw [if_neg (by simp), if_pos (by omega)]
    · have hsz : (strOfNums [wrap64 (48 + Int.tmod (n : Int) 10) % 256]).size = 1 := by rw [strOfNums_size]; rfl
      obtain ⟨t, ht⟩ := ih (n / 10) (by omega) (strOfNums [wrap64 (48 + Int.tmod (n : Int) 10) % 256] ++ s) (by rw [ByteArray.size_append, hsz]; omega)
      refine ⟨t, Ev.step (f := fun k => laws_markText.l0 k ((n / 10 : Nat) : Int) (strOfNums [wrap64 (48 + Int.tmod (n : Int) 10) % 256] ++ s)) (fun k => ?_) ht⟩
      simp only [laws_markText.l0]
      rw [if_pos (by omega)]
      simp only [Option.bind_some]
      rw [if_pos (by rw [hsz]; omega), Int.tdiv_eq_ediv_of_nonneg (by omega), w64 (x := (n : Int) / 10) (by omega) (by omega)]
      rfl
theorem laws_markText_ex (a : Int) (h : a ≤ 1500000000000000000) : ∃ t, Ev (fun k => laws_markText.f k a) t := by
  simp only [laws_markText.f]
  by_cases h0 : a ≤ 0
  · exact ⟨_, evPos h0 (Ev.now _)⟩
  · obtain ⟨t, ht⟩ := laws_markText_l0_ev a.toNat (⟨#[]⟩ : ByteArray) (by show 0 + _ ≤ _; omega)
    rw [show ((a.toNat : Nat) : Int) = a by omega] at ht
    exact ⟨t, evNeg h0 ht⟩
/-- The text by which a place is marked. -/
noncomputable def mtx (a : Int) : ByteArray := by
  classical
  exact if h : ∃ t, Ev (fun k => laws_markText.f k a) t then Classical.choose h else ByteArray.empty
theorem mtx_ev (a : Int) (h : a ≤ 1500000000000000000) : Ev (fun k => laws_markText.f k a) (mtx a) := by
  unfold mtx
  rw [dif_pos (laws_markText_ex a h)]
  exact Classical.choose_spec (laws_markText_ex a h)

/-- The entry by which a place is marked. -/
noncomputable def mte (a : Int) : S49 := ⟨mtx a, mtx (a + 1), a + 2, ((a + 3) % 3 == 0)⟩
theorem getD_set {α : Type} (xs : List α) (i : Nat) (h : i < xs.length) (v d : α) : (xs.set i v).getD ((i : Int)).toNat d = v := by
  simp [List.getD_eq_getElem?_getD, List.getElem?_set, h]
theorem laws_markEntryS_ev (xs : List S49) (hl : xs.length ≤ 1000000000000000) (a : Int) (h1 : 1 ≤ a) (h2 : a ≤ 10000000000000000) : Ev (fun k => laws_markEntryS.f k xs a) (a + 4 * xs.length, marksOf mte 4 xs.length a) := by
  refine mark_loop laws_markEntryS.l0 mte 4 (by decide) (fun k xs a i h => ?_) (fun xs a i r h hi h1 h2 hr => ?_) xs hl a h1 h2
  · simp only [laws_markEntryS.l0]
    rw [if_neg (by omega)]
  · have e1 : wrap64 (a + 1) = a + 1 := w64 (by omega) (by omega)
    have e2 : wrap64 (a + 1 + 1) = a + 2 := w64 (x := a + 1 + 1) (by omega) (by omega) |>.trans (by omega)
    have e3 : wrap64 (a + 2 + 1) = a + 3 := w64 (x := a + 2 + 1) (by omega) (by omega) |>.trans (by omega)
    have e4 : wrap64 (a + 3 + 1) = a + 4 := w64 (x := a + 3 + 1) (by omega) (by omega) |>.trans (by omega)
    refine Ev.step (f := fun k => (laws_markText.f k a).bind fun t => (laws_markText.f k (a + 1)).bind fun u => laws_markEntryS.l0 k (xs.set i ⟨t, u, a + 2, ((a + 3) % 3 == 0)⟩) (a + 4) ((i + 1 : Nat) : Int)) (fun k => ?_) (Ev.bind (mtx_ev a (by omega)) (Ev.bind (mtx_ev (a + 1) (by omega)) hr))
    simp only [laws_markEntryS.l0]
    rw [if_pos (by omega)]
    simp only [if_pos (show (0 : Int) ≤ i by omega), Option.bind_some, e1, e2, e3, e4, w64s (show i ≤ 1000000000000000000 by omega), rd_T49, getD_set _ _ h, getD_set _ _ (show i < (xs.set i _).length by simpa using h), Int.toNat_natCast, List.set_set]
    congr 1
    funext t
    congr 1
    funext u
    rw [Int.tmod_eq_emod_of_nonneg (by omega)]
    have g1 : ∀ (ys : List S49) (v d : S49), i < ys.length → (ys.set i v).getD i d = v := fun ys v d hh => by simp [List.getD_eq_getElem?_getD, List.getElem?_set, hh]
    simp only [g1 _ _ _ h, g1 _ _ _ (show i < (xs.set i _).length by simpa using h)]

theorem laws_heldEntryS_ev (n : Nat) (hl : n ≤ 1000000000000000) (a : Int) (h1 : 1 ≤ a) (h2 : a ≤ 10000000000000000) : Ev (fun k => laws_heldEntryS.f k (marksOf mte 4 n a) a) (a + 4 * n) := by
  refine held_loop laws_heldEntryS.l0 mte 4 (by decide) (fun k xs a i h => ?_) (fun xs a i r h hi hi2 h1 h2 hr => ?_) n hl a h1 h2
  · simp only [laws_heldEntryS.l0]
    rw [if_neg (by omega)]
  · have e1 : wrap64 (a + 1) = a + 1 := w64 (by omega) (by omega)
    have e2 : wrap64 (a + 1 + 1) = a + 2 := w64 (x := a + 1 + 1) (by omega) (by omega) |>.trans (by omega)
    have e3 : wrap64 (a + 2 + 1) = a + 3 := w64 (x := a + 2 + 1) (by omega) (by omega) |>.trans (by omega)
    have e4 : wrap64 (a + 3 + 1) = a + 4 := w64 (x := a + 3 + 1) (by omega) (by omega) |>.trans (by omega)
    have e5 : rd_T49 xs (i : Int) = mte a := getD_at h
    have e6 : Int.tmod (a + 3) 3 = (a + 3) % 3 := Int.tmod_eq_emod_of_nonneg (by omega)
    refine Ev.step (fun k => by simp only [laws_heldEntryS.l0]; rw [if_pos (by omega), if_pos (by omega), e5, e1, e2, e3, e4, e6, w64s (by omega)]) ?_
    refine Ev.bind (mtx_ev a (by omega)) (evPos rfl (Ev.bind (mtx_ev (a + 1) (by omega)) (evPos rfl (evPos rfl (evNeg ?_ hr)))))
    simp [mte]

theorem FnExactUnpacked (xs : List Int) (hl : xs.length ≤ maxLen) (hw : ∀ x ∈ xs, (Lit.int .u8 x).wf = true) : ∃ k, laws_FnExactUnpacked.f k xs = some true := by
  have hx : ∀ x ∈ xs, 0 ≤ x ∧ x < 256 := fun x h => byte_wf (hw x h)
  refine Ev.rounds (g := fun k => laws_FnExactUnpacked.f k xs) ?_
  simp only [laws_FnExactUnpacked.f]
  by_cases h1 : (xs.length : Int) > 1048576
  · exact evPos h1 (Ev.now _)
  have toB := laws_toByteS_ev xs (by omega)
  have sp := spec_Unpacked_ev xs (by omega) hx
  have im := impl_Unpacked_ev xs (by omega) hx
  have hlen := unpacked_le xs
  generalize unpacked xs = p at sp im hlen
  obtain ⟨l, b⟩ := p
  simp only at hlen
  have hself := laws_eqEntryS_self l (by omega)
  have hmark := laws_markEntryS_ev l (by omega) 1 (by decide) (by decide)
  have hheld := laws_heldEntryS_ev l.length (by omega) 1 (by decide) (by decide)
  have t2 : Ev (fun k => laws_FnExactUnpacked.j2 k (marksOf mte 4 l.length 1) (1 + 4 * l.length) false) true := by
    refine Ev.step (fun k => by simp only [laws_FnExactUnpacked.j2]; exact rfl) ?_
    exact evNeg (by simp) (Ev.bind hheld (evNeg (by omega) (evPos rfl (Ev.now _))))
  have t1 : Ev (fun k => laws_FnExactUnpacked.j1 k xs l b l false) true := by
    refine Ev.step (fun k => by simp only [laws_FnExactUnpacked.j1]; exact rfl) ?_
    refine evNeg (by simp) (Ev.bind hmark (Ev.bind hheld (evNeg (by omega) (evPos rfl (Ev.bind toB (Ev.bind im (Ev.bind hself (evPos rfl ?_))))))))
    simpa using t2
  refine evNeg h1 (Ev.bind toB (Ev.bind sp (Ev.bind toB (Ev.bind im (Ev.bind hself (evPos rfl ?_))))))
  refine Ev.step (fun k => by simp only [laws_FnExactUnpacked.j0]; exact rfl) ?_
  refine evNeg (by simp) (Ev.bind toB (Ev.bind (laws_eqByteS_self xs (by omega)) (evPos rfl (Ev.bind (laws_markByteS_ev xs (by omega) 1 (by decide) (by decide)) (evNeg (by omega) (Ev.bind hself (evPos rfl ?_)))))))
  simpa using t1
end Go.Proofs.Ythkhfmomibfkjaa.Pure

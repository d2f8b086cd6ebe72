/- Proves the plain law behind this statement of the seat (what its functions come to, over numbers and lists): that it answers true. No condition beyond the statement's own. -/
import Derived.Test.YthkhfmomibfkjaaPFnExactPackedx
import Derived.Test.YthkhfmomibfkjaaLib
import Derived.Test.YthkhfmomibfkjaaLibRow
import Derived.Test.YthkhfmomibfkjaaLibStr
namespace Go.Proofs.Ythkhfmomibfkjaa.Pure
open Go Go.RowKit Go.Proofs.Ythkhfmomibfkjaa.PFnExactPacked Go.Proofs.YthkhfmomibfkjaaW.PrintWords Go.Proofs.YthkhfmomibfkjaaW.PrintLast Go.Proofs.YthkhfmomibfkjaaW.PrintMore Go.Proofs.Ythkhfmomibfkjaa.Lib
set_option linter.unusedVariables false
set_option linter.unusedSimpArgs false
def szE (left : Int) : List S82 → Int
  | [] => left
  | e :: xs => if left - e.f0.size < 0 ∨ left - e.f0.size - e.f1.size < 0 then -1 else szE (left - e.f0.size - e.f1.size) xs
theorem szE_bd : ∀ (xs : List S82) (left : Int), 0 ≤ szE left xs → 0 ≤ left → ∀ e ∈ xs, (e.f0.size : Int) ≤ left ∧ (e.f1.size : Int) ≤ left
  | [], _, _, _, s, hs => by simp at hs
  | x :: xs, left, h, h0, s, hs => by
    unfold szE at h
    by_cases hx : left - x.f0.size < 0 ∨ left - x.f0.size - x.f1.size < 0
    · rw [if_pos hx] at h; omega
    · rw [if_neg hx] at h
      rcases List.mem_cons.1 hs with rfl | hs
      · omega
      · have := szE_bd xs _ h (by omega) s hs
        omega
theorem szE_range : ∀ (xs : List S82) (left : Int), 0 ≤ left → -1 ≤ szE left xs ∧ szE left xs ≤ left
  | [], left, h => by unfold szE; omega
  | x :: xs, left, h => by
    unfold szE
    by_cases hx : left - x.f0.size < 0 ∨ left - x.f0.size - x.f1.size < 0
    · rw [if_pos hx]; omega
    · rw [if_neg hx]
      have := szE_range xs (left - x.f0.size - x.f1.size) (by omega)
      omega
theorem laws_szEntry_eq (e : S82) (left : Int) (h0 : 0 ≤ left) (h1 : left ≤ 1048576) (hb : e.f0.size ≤ maxLen ∧ e.f1.size ≤ maxLen) :
    laws_szEntry.f e.f0 e.f1 e.f2 e.f3 left = some (if left - e.f0.size < 0 ∨ left - e.f0.size - e.f1.size < 0 then -1 else left - e.f0.size - e.f1.size) := by
  have hm : maxLen = 9223372036854775807 := rfl
  have e1 : wrap64 (left - (e.f0.size : Int)) = left - e.f0.size := w64 (by omega) (by omega)
  simp only [laws_szEntry.f, e1]
  by_cases hx : left - (e.f0.size : Int) < 0
  · rw [if_pos hx, if_pos (Or.inl hx)]
  · have e2 : wrap64 (left - (e.f0.size : Int) - (e.f1.size : Int)) = left - e.f0.size - e.f1.size := w64 (by omega) (by omega)
    rw [if_neg hx, e2]
    by_cases hy : left - (e.f0.size : Int) - (e.f1.size : Int) < 0
    · rw [if_pos hy, if_pos (Or.inr hy)]
    · rw [if_neg hy, if_neg (fun h => h.elim hx hy)]
theorem laws_szEntryS_l0_ev (xs : List S82) (hl : xs.length ≤ 1000000000000000000) (hs : ∀ e ∈ xs, e.f0.size ≤ maxLen ∧ e.f1.size ≤ maxLen) : ∀ (bs : List S82) (i : Nat) (left : Int), xs.drop i = bs → 0 ≤ left → left ≤ 1048576 → Ev (fun k => laws_szEntryS.l0 k xs left i) (szE left bs)
  | [], i, left, hd, h0, h1 => by
    have := drop_nil hd
    refine Ev.step (f := fun _ => some left) (fun k => ?_) (Ev.now _)
    simp only [laws_szEntryS.l0]
    rw [if_neg (by omega)]
  | b :: bs, i, left, hd, h0, h1 => by
    obtain ⟨h2, h3, h4⟩ := drop_cons hd
    have e1 : rd_T82 xs (i : Int) = b := getD_at h4
    have e2 := laws_szEntry_eq b left h0 h1 (hs b (List.mem_of_getElem? h4))
    unfold szE
    by_cases hx : left - b.f0.size < 0 ∨ left - b.f0.size - b.f1.size < 0
    · rw [if_pos hx] at e2 ⊢
      refine Ev.step (f := fun _ => some (-1)) (fun k => ?_) (Ev.now _)
      simp only [laws_szEntryS.l0]
      rw [if_pos (by omega), if_pos (by omega), e1, e2]
      rfl
    · rw [if_neg hx] at e2 ⊢
      refine Ev.step (f := fun k => laws_szEntryS.l0 k xs (left - b.f0.size - b.f1.size) ((i + 1 : Nat) : Int)) (fun k => ?_) (laws_szEntryS_l0_ev xs hl hs bs (i + 1) _ h3 (by omega) (by omega))
      simp only [laws_szEntryS.l0]
      rw [if_pos (by omega), if_pos (by omega), e1, e2]
      simp only [Option.bind_some]
      rw [if_neg (by omega), w64s (by omega)]
theorem laws_szEntryS_ev (xs : List S82) (hl : xs.length ≤ maxLen) (hs : ∀ e ∈ xs, e.f0.size ≤ maxLen ∧ e.f1.size ≤ maxLen) (left : Int) (h0 : 0 ≤ left) (h1 : left ≤ 1048576) :
    ∃ r, Ev (fun k => laws_szEntryS.f k xs left) r ∧ -1 ≤ r ∧ r ≤ left ∧ (0 ≤ r → (xs.length : Int) ≤ left ∧ ∀ e ∈ xs, (e.f0.size : Int) ≤ left ∧ (e.f1.size : Int) ≤ left) := by
  have hm : maxLen = 9223372036854775807 := rfl
  have e : wrap64 (left - (xs.length : Int)) = left - xs.length := w64 (by omega) (by omega)
  by_cases h : left - (xs.length : Int) < 0
  · refine ⟨-1, ?_, by omega, by omega, fun h => by omega⟩
    simp only [laws_szEntryS.f]
    exact evPos (by rw [e]; exact h) (Ev.now _)
  · refine ⟨szE (left - xs.length) xs, ?_, ?_, ?_, fun hr => ⟨by omega, fun s h' => ?_⟩⟩
    · simp only [laws_szEntryS.f]
      refine evNeg (by rw [e]; exact h) ?_
      rw [e]
      exact laws_szEntryS_l0_ev xs (by omega) hs xs 0 _ rfl (by omega) (by omega)
    · exact (szE_range xs _ (by omega)).1
    · have := (szE_range xs (left - xs.length) (by omega)).2; omega
    · have := szE_bd xs _ hr (by omega) s h'; omega

/-- The law's record as the program's. -/
def toE (x : S82) : S49 := ⟨x.f0, x.f1, x.f2, x.f3⟩
theorem laws_toEntryS_ev (xs : List S82) (hl : xs.length ≤ 5864062014805) : Ev (fun k => laws_toEntryS.f k xs) (xs.map toE) := by
  simp only [laws_toEntryS.f]
  refine evPos (by omega) (evPos (by omega) ?_)
  exact copy_loop laws_toEntryS.l0 toE z49 (fun k xs ys i h => by simp only [laws_toEntryS.l0]; rw [if_neg (by omega)])
    (fun k xs ys i a hi ha h1 h2 => by
      simp only [laws_toEntryS.l0, laws_toEntry.f, Option.bind_some]
      rw [if_pos (by omega), if_pos (by omega), if_pos (by omega), w64s (by omega), show rd_T82 xs (i : Int) = a from getD_at ha, Int.toNat_natCast]
      rfl) xs (by omega)

theorem laws_eqEntry_self (e : S49) : laws_eqEntry.f e.f0 e.f1 e.f2 e.f3 e.f0 e.f1 e.f2 e.f3 = some true := by
  simp [laws_eqEntry.f]
theorem laws_eqEntryS_self (xs : List S49) (hl : xs.length ≤ 1000000000000000000) : Ev (fun k => laws_eqEntryS.f k xs xs) true := by
  simp only [laws_eqEntryS.f]
  refine evPos trivial (self_loop laws_eqEntryS.l0 (fun k xs i h => by simp only [laws_eqEntryS.l0]; rw [if_neg (by omega)]) (fun k xs i a hi ha h1 => ?_) xs hl)
  simp only [laws_eqEntryS.l0]
  rw [if_pos (by omega), if_pos (by omega), if_pos (by omega), laws_eqEntry_self, w64s (by omega)]
  rfl

theorem spec_l1Number_l0_ev (n : Nat) : ∀ (acc : List Int), acc.length + n ≤ 100000000000000 → Ev (fun k => spec_l1Number.l0 k (n : Int) acc) (acc ++ numN n) := by
  induction n using Nat.strongRecOn with
  | ind n ih =>
    intro acc hl
    by_cases h : n < 128
    · refine Ev.step (f := fun _ => some _) (fun k => ?_) (Ev.now _)
      simp only [spec_l1Number.l0]
      rw [if_neg (by omega), if_pos (by omega), numN_small h, Int.emod_eq_of_lt (by omega) (by omega)]
    · have := ih (n / 128) (by omega) (acc ++ [((n % 128 + 128 : Nat) : Int)]) (by simp; omega)
      rw [List.append_assoc, List.singleton_append, ← numN_big h] at this
      refine Ev.step (f := fun k => spec_l1Number.l0 k ((n / 128 : Nat) : Int) (acc ++ [((n % 128 + 128 : Nat) : Int)])) (fun k => ?_) this
      simp only [spec_l1Number.l0]
      rw [if_pos (by omega), if_pos (by omega), Int.tdiv_eq_ediv_of_nonneg (by omega), Int.tmod_eq_emod_of_nonneg (by omega), w64 (by omega) (by omega), w64 (by omega) (by omega)]
      congr 1
      rw [Int.emod_eq_of_lt (by omega) (by omega)]
      congr 1
theorem spec_l1Number_ev (n : Nat) (h : n ≤ 100000000000000) : Ev (fun k => spec_l1Number.f k (n : Int)) (numN n) := by
  have := spec_l1Number_l0_ev n [] (by simpa using h)
  exact this

theorem impl_within_ev (a b c : Int) : Ev (fun _ => impl_within.f a b c) (within a b c) := by
  refine evId (fun _ => ?_)
  unfold impl_within.f within
  by_cases h : a ≥ b
  · rw [if_pos h, decide_eq_true (show b ≤ a from h), Bool.true_and]
  · rw [if_neg h, decide_eq_false (show ¬ b ≤ a from h), Bool.false_and]

theorem impl_Number_l0_ev (n : Nat) : ∀ (acc : List Int), acc.length + n ≤ 100000000000000 → Ev (fun k => impl_Number.l0 k (n : Int) acc) (acc ++ numN n) := by
  induction n using Nat.strongRecOn with
  | ind n ih =>
    intro acc hl
    by_cases h : n < 128
    · refine Ev.step (f := fun _ => some _) (fun k => ?_) (Ev.now _)
      simp only [impl_Number.l0]
      rw [if_neg (by omega), if_pos (by omega), numN_small h, Int.emod_eq_of_lt (by omega) (by omega)]
    · have := ih (n / 128) (by omega) (acc ++ [((n % 128 + 128 : Nat) : Int)]) (by simp; omega)
      rw [List.append_assoc, List.singleton_append, ← numN_big h] at this
      refine Ev.step (f := fun k => impl_Number.l0 k ((n / 128 : Nat) : Int) (acc ++ [((n % 128 + 128 : Nat) : Int)])) (fun k => ?_) this
      simp only [impl_Number.l0]
      rw [if_pos (by omega), if_pos (by omega), or128 (by omega) (by omega)]
      congr 3
      omega
theorem impl_Number_ev (n : Int) : Ev (fun k => impl_Number.f k n) (number n) := by
  simp only [impl_Number.f]
  refine Ev.bind (impl_within_ev n 0 1099511627776) ?_
  unfold number
  by_cases h : within n 0 1099511627776 = true
  · rw [if_pos h]
    refine evPos h ?_
    simp only [within, Bool.and_eq_true, decide_eq_true_eq] at h
    have e := impl_Number_l0_ev n.toNat [] (by simp; omega)
    rw [show ((n.toNat : Nat) : Int) = n by omega] at e
    exact e
  · rw [if_neg h]
    exact evNeg h (Ev.now _)
theorem impl_Number_nat (n : Nat) (h : n ≤ 1099511627776) : Ev (fun k => impl_Number.f k (n : Int)) (numN n) := by
  have e := impl_Number_ev (n : Int)
  unfold number at e
  rw [if_pos (by simp [within]; omega)] at e
  exact e

theorem spec_l1Text_ev (s : ByteArray) (h : s.size ≤ 1099511627776) : Ev (fun k => spec_l1Text.f k s) (textN s) := by
  simp only [spec_l1Text.f]
  have hl := numN_le10 (n := s.size) (by omega)
  exact Ev.bind (spec_l1Number_ev s.size (by omega)) (evPos (by omega) (Ev.now _))
theorem impl_Text_ev (s : ByteArray) : Ev (fun k => impl_Text.f k s) (text s) := by
  simp only [impl_Text.f]
  unfold text
  by_cases h : (s.size : Int) > 3000
  · rw [if_pos h]; exact evPos h (Ev.now _)
  · rw [if_neg h]
    have hl := numN_le10 (n := s.size) (by omega)
    exact evNeg h (Ev.bind (impl_Number_nat s.size (by omega)) (evPos (by omega) (Ev.now _)))

theorem spec_Common_l0_ev (s t : ByteArray) (hs : s.size ≤ 140737488351232) : ∀ (av bs : List Int) (i : Nat), (bytesOf s).drop i = av → (bytesOf t).drop i = bs → Ev (fun k => spec_Common.l0 k s t i) (((i + common av bs : Nat) : Int))
  | [], bs, i, ha, hb => by
    have := bdrop_nil ha
    refine Ev.step (f := fun _ => some (i : Int)) (fun k => ?_) (by simpa [common] using Ev.now (i : Int))
    simp only [spec_Common.l0]
    rw [if_neg (by omega)]
  | a :: av, [], i, ha, hb => by
    obtain ⟨h2, h3, h4, h5, h6⟩ := bdrop_cons ha
    have := bdrop_nil hb
    refine Ev.step (f := fun _ => some (i : Int)) (fun k => ?_) (by simpa [common] using Ev.now (i : Int))
    simp only [spec_Common.l0]
    rw [if_pos (by omega), if_neg (by omega)]
  | a :: av, b :: bs, i, ha, hb => by
    obtain ⟨h2, h3, h4, h5, h6⟩ := bdrop_cons ha
    obtain ⟨g2, g3, g4, g5, g6⟩ := bdrop_cons hb
    by_cases e : a = b
    · have ih := spec_Common_l0_ev s t hs av bs (i + 1) h3 g3
      rw [show i + common (a :: av) (b :: bs) = i + 1 + common av bs by simp only [common, if_pos e]; omega]
      refine Ev.step (f := fun k => spec_Common.l0 k s t ((i + 1 : Nat) : Int)) (fun k => ?_) ih
      simp only [spec_Common.l0]
      rw [if_pos (by omega), if_pos (by omega), if_pos (by omega), h4, g4, if_pos e, w64s (by omega)]
    · rw [show i + common (a :: av) (b :: bs) = i by simp only [common, if_neg e]; omega]
      refine Ev.step (f := fun _ => some (i : Int)) (fun k => ?_) (Ev.now _)
      simp only [spec_Common.l0]
      rw [if_pos (by omega), if_pos (by omega), if_pos (by omega), h4, g4, if_neg e]
theorem spec_Common_ev (s t : ByteArray) (hs : s.size ≤ 140737488351232) : Ev (fun k => spec_Common.f k s t) (common (bytesOf s) (bytesOf t) : Int) := by
  have := spec_Common_l0_ev s t hs (bytesOf s) (bytesOf t) 0 rfl rfl
  rw [Nat.zero_add] at this
  exact this
theorem impl_Common_same : ∀ k s t i, impl_Common.l0 k s t i = spec_Common.l0 k s t i
  | 0, _, _, _ => rfl
  | k + 1, s, t, i => by simp only [impl_Common.l0, spec_Common.l0, impl_Common_same k]
theorem impl_Common_ev (s t : ByteArray) (hs : s.size ≤ 140737488351232) : Ev (fun k => impl_Common.f k s t) (common (bytesOf s) (bytesOf t) : Int) :=
  Ev.congr (fun k => impl_Common_same k s t 0) (spec_Common_ev s t hs)

/-- Is an entry right? -/
def entOk (e : S49) : Bool := within e.f0.size 1 40 && (decide ((e.f1.size : Int) ≤ 200) && ((!e.f3 || decide (e.f1.toList = ([] : List UInt8))) && within e.f2 1 1000000))
/-- Is the one ahead of the other? -/
def ahead (a b : S49) : Bool := Op.bytesLess a.f0.toList b.f0.toList || (decide (a.f0.toList = b.f0.toList) && decide (a.f2 > b.f2))
def okL : Option S49 → List S49 → Bool
  | _, [] => true
  | p, e :: es => entOk e && ((match p with | none => true | some q => ahead q e) && okL (some e) es)
def entriesOk (xs : List S49) : Bool := decide (xs.length ≤ 300) && okL none xs
theorem entOk_iff {e : S49} : entOk e = true ↔ (1 ≤ e.f0.size ∧ e.f0.size ≤ 40) ∧ e.f1.size ≤ 200 ∧ (e.f3 = true → e.f1.toList = []) ∧ 1 ≤ e.f2 ∧ e.f2 ≤ 1000000 := by
  unfold entOk within
  simp only [Bool.and_eq_true, Bool.or_eq_true, decide_eq_true_eq, Bool.not_eq_true']
  constructor
  · rintro ⟨⟨h1, h2⟩, h3, h4, h5, h6⟩
    refine ⟨⟨by omega, by omega⟩, by omega, fun hg => ?_, h5, h6⟩
    rcases h4 with h4 | h4
    · rw [hg] at h4; cases h4
    · exact h4
  · rintro ⟨⟨h1, h2⟩, h3, h4, h5, h6⟩
    refine ⟨⟨by omega, by omega⟩, by omega, ?_, h5, h6⟩
    cases h : e.f3 with
    | false => exact Or.inl rfl
    | true => exact Or.inr (h4 h)
/-- The entry ahead of place i. -/
def prev (xs : List S49) (i : Nat) : Option S49 := if i = 0 then none else xs[i - 1]?
theorem prev_succ {xs : List S49} {i : Nat} {e : S49} (h : xs[i]? = some e) : prev xs (i + 1) = some e := by
  unfold prev
  rw [if_neg (by omega), show i + 1 - 1 = i by omega, h]

def flagI (b : Bool) : Int := if b = true then 1 else 0
/-- The mark of an entry: its number twice, and whether it is gone. -/
def markE (e : S49) : Nat := (2 * e.f2 + flagI e.f3).toNat
/-- One entry, the key ahead being 'last'. -/
def packE (last : ByteArray) (e : S49) : List Int :=
  numN (common (bytesOf last) (bytesOf e.f0)) ++ (textN (e.f0.extract (common (bytesOf last) (bytesOf e.f0)) e.f0.size) ++ (numN (markE e) ++ textN e.f1))
def packL (last : ByteArray) : Nat → List S49 → List Int
  | _, [] => []
  | i, e :: es => packE (if i % 8 = 0 then (⟨#[]⟩ : ByteArray) else last) e ++ packL e.f0 (i + 1) es
def packed (xs : List S49) : List Int := numN xs.length ++ packL (⟨#[]⟩ : ByteArray) 0 xs
theorem common_le : ∀ (as_ bs : List Int), common as_ bs ≤ as_.length ∧ common as_ bs ≤ bs.length
  | [], bs => by cases bs <;> simp [common]
  | a :: as_, [] => by simp [common]
  | a :: as_, b :: bs => by
    unfold common
    split
    · have := common_le as_ bs
      simp only [List.length_cons]
      omega
    · simp
theorem extract_size (s : ByteArray) (n : Nat) : (s.extract n s.size).size ≤ s.size := by
  simp [ByteArray.size_extract]
theorem packE_le (last : ByteArray) (e : S49) (h : entOk e = true) : (packE last e).length ≤ 300 := by
  obtain ⟨⟨h1, h2⟩, h3, h4, h5, h6⟩ := entOk_iff.1 h
  have c1 := (common_le (bytesOf last) (bytesOf e.f0)).2
  rw [bytesOf_length] at c1
  have n1 := numN_le10 (n := common (bytesOf last) (bytesOf e.f0)) (by omega)
  have x1 := extract_size e.f0 (common (bytesOf last) (bytesOf e.f0))
  have n2 := numN_le10 (n := (e.f0.extract (common (bytesOf last) (bytesOf e.f0)) e.f0.size).size) (by omega)
  have n3 := numN_le10 (n := markE e) (by unfold markE flagI; split <;> omega)
  have n4 := numN_le10 (n := e.f1.size) (by omega)
  unfold packE
  simp only [List.length_append, textN_length]
  omega
theorem packL_le : ∀ (xs : List S49) (last : ByteArray) (i : Nat), (∀ e ∈ xs, entOk e = true) → (packL last i xs).length ≤ 300 * xs.length
  | [], _, _, _ => by simp [packL]
  | e :: es, last, i, h => by
    unfold packL
    have h1 := packE_le (if i % 8 = 0 then (⟨#[]⟩ : ByteArray) else last) e (h e List.mem_cons_self)
    have h2 := packL_le es e.f0 (i + 1) (fun x hx => h x (List.mem_cons_of_mem _ hx))
    rw [List.length_append, List.length_cons]
    omega
theorem okL_all : ∀ (xs : List S49) (p : Option S49), okL p xs = true → ∀ e ∈ xs, entOk e = true
  | [], _, _, e, he => by simp at he
  | x :: xs, p, h, e, he => by
    unfold okL at h
    simp only [Bool.and_eq_true] at h
    rcases List.mem_cons.1 he with rfl | he
    · exact h.1
    · exact okL_all xs _ h.2.2 e he
theorem entriesOk_all {xs : List S49} (h : entriesOk xs = true) : ∀ e ∈ xs, entOk e = true := by
  unfold entriesOk at h
  simp only [Bool.and_eq_true] at h
  exact okL_all xs none h.2
theorem entriesOk_le {xs : List S49} (h : entriesOk xs = true) : xs.length ≤ 300 := by
  unfold entriesOk at h
  simp only [Bool.and_eq_true, decide_eq_true_eq] at h
  exact h.1
theorem packed_le {xs : List S49} (hl : xs.length ≤ 300) (h : ∀ e ∈ xs, entOk e = true) : (packed xs).length ≤ 100000 := by
  have h1 := packL_le xs (⟨#[]⟩ : ByteArray) 0 h
  have h2 := numN_le10 (n := xs.length) (by omega)
  unfold packed
  rw [List.length_append]
  omega
theorem common_empty (bs : List Int) : common [] bs = 0 := by cases bs <;> rfl

theorem spec_l1In_ev (a b c : Int) : Ev (fun _ => spec_l1In.f a b c) (within a b c) := by
  refine evId (fun _ => ?_)
  unfold spec_l1In.f within
  by_cases h : a ≥ b
  · rw [if_pos h, decide_eq_true (show b ≤ a from h), Bool.true_and]
  · rw [if_neg h, decide_eq_false (show ¬ b ≤ a from h), Bool.false_and]

theorem spec_l3Entry_ev (e : S49) : Ev (fun _ => spec_l3Entry.f e.f0 e.f1 e.f2 e.f3) (entOk e) := by
  obtain ⟨a, b, c, g⟩ := e
  refine evId (fun _ => ?_)
  have hin : spec_l1In.f c 1 1000000 = some (within c 1 1000000) := by
    obtain ⟨k, h⟩ := (spec_l1In_ev c 1 1000000).rounds
    exact h
  unfold spec_l3Entry.f entOk
  simp only [hin, Option.bind_some]
  by_cases h1 : (a.size : Int) ≥ 1
  · by_cases h2 : (a.size : Int) ≤ 40
    · by_cases h3 : (b.size : Int) ≤ 200
      · rw [if_pos h1, if_pos h2, if_pos h3]
        have : within (a.size : Int) 1 40 = true := by simp [within]; omega
        rw [this, decide_eq_true h3]
        cases g with
        | false => simp
        | true =>
          rw [if_pos rfl]
          by_cases h4 : b.toList = ([] : List UInt8)
          · rw [if_pos h4]; simp [h4]
          · rw [if_neg h4]; simp [h4]
      · rw [if_pos h1, if_pos h2, if_neg h3, decide_eq_false h3]; simp
    · rw [if_pos h1, if_neg h2]
      have : within (a.size : Int) 1 40 = false := by simp [within]; omega
      rw [this]; simp
  · rw [if_neg h1]
    have : within (a.size : Int) 1 40 = false := by simp [within]; omega
    rw [this]; simp
theorem spec_l3Ahead_ev (a b : S49) : Ev (fun _ => spec_l3Ahead.f a.f0 a.f1 a.f2 a.f3 b.f0 b.f1 b.f2 b.f3) (ahead a b) := by
  refine evId (fun _ => ?_)
  unfold spec_l3Ahead.f ahead
  cases h : Op.bytesLess a.f0.toList b.f0.toList with
  | true => simp
  | false =>
    rw [if_neg (by simp)]
    by_cases h2 : a.f0.toList = b.f0.toList
    · rw [if_pos h2]; simp [h2]
    · rw [if_neg h2]; simp [h2]
theorem spec_EntriesOk_l0_ev (xs : List S49) (hl : xs.length ≤ 1000000000000000000) : ∀ (bs : List S49) (i : Nat), xs.drop i = bs → Ev (fun k => spec_EntriesOk.l0 k xs i) (okL (prev xs i) bs)
  | [], i, hd => by
    have := drop_nil hd
    refine Ev.step (f := fun _ => some true) (fun k => ?_) (Ev.now _)
    simp only [spec_EntriesOk.l0]
    rw [if_neg (by omega)]
  | e :: bs, i, hd => by
    obtain ⟨h2, h3, h4⟩ := drop_cons hd
    have e1 : rd_T49 xs (i : Int) = e := getD_at h4
    have ih := spec_EntriesOk_l0_ev xs hl bs (i + 1) h3
    rw [prev_succ h4] at ih
    refine Ev.step (f := fun k => (spec_l3Entry.f e.f0 e.f1 e.f2 e.f3).bind fun t127 => (if t127 = true then (if (i : Int) > 0 then ((spec_l3Ahead.f (rd_T49 xs (wrap64 ((i : Int) - 1))).f0 (rd_T49 xs (wrap64 ((i : Int) - 1))).f1 (rd_T49 xs (wrap64 ((i : Int) - 1))).f2 (rd_T49 xs (wrap64 ((i : Int) - 1))).f3 e.f0 e.f1 e.f2 e.f3).bind fun t130 => (if t130 = true then (spec_EntriesOk.l0 k xs ((i + 1 : Nat) : Int)) else (some false))) else (spec_EntriesOk.l0 k xs ((i + 1 : Nat) : Int))) else (some false))) (fun k => ?_) (Ev.bind (spec_l3Entry_ev e) ?_)
    · simp only [spec_EntriesOk.l0]
      rw [if_pos (by omega), if_pos (by omega), e1, w64s (by omega)]
      by_cases hi : (i : Int) > 0
      · simp only [if_pos hi, if_pos (show (0 : Int) ≤ wrap64 ((i : Int) - 1) by rw [w64 (by omega) (by omega)]; omega), if_pos (show wrap64 ((i : Int) - 1) < (xs.length : Int) by rw [w64 (by omega) (by omega)]; omega)]
      · simp only [if_neg hi]
    · unfold okL
      cases he : entOk e with
      | false => exact evNeg (by simp) (Ev.now _)
      | true =>
        refine evPos rfl ?_
        rw [Bool.true_and]
        by_cases hi : i = 0
        · subst hi
          refine evNeg (by omega) (evEq ih ?_)
          simp [prev]
        · obtain ⟨q, hq⟩ : ∃ q, xs[i - 1]? = some q := ⟨_, List.getElem?_eq_getElem (by omega)⟩
          have e2 : rd_T49 xs (wrap64 ((i : Int) - 1)) = q := by
            rw [w64 (by omega) (by omega), show (i : Int) - 1 = ((i - 1 : Nat) : Int) by omega]
            exact getD_at hq
          refine evPos (by omega) ?_
          rw [e2]
          refine Ev.bind (spec_l3Ahead_ev q e) ?_
          simp only [prev, if_neg hi, hq]
          cases ahead q e with
          | false => exact evNeg (by simp) (Ev.now _)
          | true => exact evPos rfl (evEq ih (by rw [Bool.true_and]))
theorem spec_EntriesOk_ev (xs : List S49) : Ev (fun k => spec_EntriesOk.f k xs) (entriesOk xs) := by
  simp only [spec_EntriesOk.f]
  unfold entriesOk
  by_cases h : (xs.length : Int) > 300
  · rw [decide_eq_false (by omega)]; exact evPos h (Ev.now _)
  · rw [decide_eq_true (by omega), Bool.true_and]
    exact evNeg h (spec_EntriesOk_l0_ev xs (by omega) xs 0 rfl)

theorem spec_l4Packed_l0_ev (xs : List S49) (hl : xs.length ≤ 300) (hok : ∀ e ∈ xs, entOk e = true) : ∀ (bs : List S49) (i : Nat) (acc : List Int) (last : ByteArray), xs.drop i = bs → last.size ≤ 40 → acc.length + 300 * bs.length ≤ 1000000000 → Ev (fun k => spec_l4Packed.l0 k xs acc last i) (acc ++ packL last i bs)
  | [], i, acc, last, hd, hla, ha => by
    have := drop_nil hd
    refine Ev.step (f := fun _ => some acc) (fun k => ?_) (evEq (Ev.now _) (by simp [packL]))
    simp only [spec_l4Packed.l0]
    rw [if_neg (by omega)]
  | e :: bs, i, acc, last, hd, hla, ha => by
    obtain ⟨h2, h3, h4⟩ := drop_cons hd
    have e1 : rd_T49 xs (i : Int) = e := getD_at h4
    have he := hok e (List.mem_of_getElem? h4)
    obtain ⟨⟨g1, g2⟩, g3, g4, g5, g6⟩ := entOk_iff.1 he
    rw [List.length_cons] at ha
    have key : ∀ l : ByteArray, l.size ≤ 40 → Ev (fun k => spec_l4Packed.j1 k xs acc l i e.f0 e.f1 e.f2 e.f3) (acc ++ (packE l e ++ packL e.f0 (i + 1) bs)) := by
      intro l hl40
      have hp := packE_le l e he
      unfold packE at hp ⊢
      have c1 := (common_le (bytesOf l) (bytesOf e.f0)).2
      rw [bytesOf_length] at c1
      generalize hc : common (bytesOf l) (bytesOf e.f0) = c at hp c1 ⊢
      have x1 := extract_size e.f0 c
      have hm : wrap64 (wrap64 (2 * e.f2) + flagI e.f3) = ((markE e : Nat) : Int) := by
        unfold markE flagI
        rw [w64 (x := 2 * e.f2) (by omega) (by omega)]
        split
        · rw [w64 (by omega) (by omega)]; omega
        · rw [w64 (by omega) (by omega)]; omega
      have hm2 : markE e ≤ 100000000000 := by unfold markE flagI; split <;> omega
      simp only [List.length_append] at hp
      refine Ev.step (fun k => by simp only [spec_l4Packed.j1]; exact rfl) ?_
      have hcm := spec_Common_ev l e.f0 (by omega)
      rw [hc] at hcm
      refine Ev.bind hcm (Ev.bind (spec_l1Number_ev c (by omega)) (evPos (by omega) ?_))
      simp only [Option.bind_some, Int.toNat_natCast]
      refine evPos (by omega) (evPos (by omega) (Ev.bind (spec_l1Text_ev _ (by omega)) (evPos (by rw [List.length_append]; omega) ?_)))
      have hflag : ∀ (b : Bool), Ev (fun _ => spec_l4Flag.f b) (flagI b) := fun b => evId (fun _ => by unfold spec_l4Flag.f flagI; split <;> rfl)
      refine Ev.bind (hflag e.f3) ?_
      rw [hm]
      refine Ev.bind (spec_l1Number_ev (markE e) (by omega)) (evPos (by simp only [List.length_append]; omega) (Ev.bind (spec_l1Text_ev e.f1 (by omega)) (evPos (by simp only [List.length_append]; omega) ?_)))
      have ih := spec_l4Packed_l0_ev xs hl hok bs (i + 1) (acc ++ (numN c ++ (textN (e.f0.extract c e.f0.size) ++ (numN (markE e) ++ textN e.f1)))) e.f0 h3 (by omega) (by simp only [List.length_append]; omega)
      rw [w64s (by omega)]
      simpa [List.append_assoc] using ih
    unfold packL
    by_cases h8 : i % 8 = 0
    · rw [if_pos h8]
      refine Ev.step (fun k => ?_) (key (⟨#[]⟩ : ByteArray) (by decide))
      simp only [spec_l4Packed.l0]
      rw [if_pos (by omega), if_pos (by omega), e1, if_pos (by rw [Int.tmod_eq_emod_of_nonneg (by omega)]; omega)]
    · rw [if_neg h8]
      refine Ev.step (fun k => ?_) (key last hla)
      simp only [spec_l4Packed.l0]
      rw [if_pos (by omega), if_pos (by omega), e1, if_neg (by rw [Int.tmod_eq_emod_of_nonneg (by omega)]; omega)]
theorem spec_l4Packed_ev (xs : List S49) (hl : xs.length ≤ 300) (hok : ∀ e ∈ xs, entOk e = true) : Ev (fun k => spec_l4Packed.f k xs) (packed xs) := by
  simp only [spec_l4Packed.f]
  have h2 := numN_le10 (n := xs.length) (by omega)
  exact Ev.bind (spec_l1Number_ev xs.length (by omega)) (spec_l4Packed_l0_ev xs hl hok xs 0 _ _ rfl (by decide) (by omega))
theorem spec_Packed_ev (xs : List S49) : Ev (fun k => spec_Packed.f k xs) (if entriesOk xs = true then packed xs else []) := by
  simp only [spec_Packed.f]
  refine Ev.bind (spec_EntriesOk_ev xs) ?_
  by_cases h : entriesOk xs = true
  · rw [if_pos h]
    exact evPos h (Ev.bind (spec_l4Packed_ev xs (entriesOk_le h) (entriesOk_all h)) (Ev.now _))
  · rw [if_neg h]
    exact evNeg h (Ev.now _)

def ordI (x y : Int) : Int := if x < y then -1 else if x > y then 1 else 0
def ordS (x y : ByteArray) : Int := if Op.bytesLess x.toList y.toList = true then -1 else if Op.bytesLess y.toList x.toList = true then 1 else 0
def byOrder (a b : S49) : Int := if ordS a.f0 b.f0 = 0 then ordI b.f2 a.f2 else ordS a.f0 b.f0
theorem cmp_Compare_string_ev (x y : ByteArray) : Ev (fun _ => cmp_Compare_string.f x y) (ordS x y) := by
  refine evId (fun _ => ?_)
  unfold cmp_Compare_string.f cmp_isNaN_string.f ordS
  simp only [bne_self_eq_false, Option.bind_some, Bool.false_eq_true, if_false]
  split
  · rfl
  · split <;> rfl
theorem cmp_Compare_int64_ev (x y : Int) : Ev (fun _ => cmp_Compare_int64.f x y) (ordI x y) := by
  refine evId (fun _ => ?_)
  unfold cmp_Compare_int64.f cmp_isNaN_int64.f ordI
  simp only [bne_self_eq_false, Option.bind_some, Bool.false_eq_true, if_false]
  split
  · rfl
  · split <;> rfl
theorem cmp_Or_two (x y : Int) : Ev (fun k => cmp_Or_int.f k [x, y]) (if x = 0 then y else x) := by
  simp only [cmp_Or_int.f]
  refine ⟨3, fun k hk => ?_⟩
  obtain ⟨m, rfl⟩ : ∃ m, k = m + 3 := ⟨k - 3, by omega⟩
  have w1 : wrap64 (0 + 1) = 1 := w64 (x := 0 + 1) (by decide) (by decide)
  have w2 : wrap64 (1 + 1) = 2 := w64 (x := 1 + 1) (by decide) (by decide)
  have e0 : rd [x, y] 0 = x := rfl
  have e1 : rd [x, y] 1 = y := rfl
  simp only [cmp_Or_int.l0, w1, w2, e0, e1]
  by_cases hx : x = 0
  · by_cases hy : y = 0
    · simp [hx, hy]
    · simp [hx, hy]
  · simp [hx]
theorem impl_byOrder_ev (a b : S49) : Ev (fun k => impl_byOrder.f k a.f0 a.f1 a.f2 a.f3 b.f0 b.f1 b.f2 b.f3) (byOrder a b) := by
  simp only [impl_byOrder.f]
  exact Ev.bind (cmp_Compare_string_ev a.f0 b.f0) (Ev.bind (cmp_Compare_int64_ev b.f2 a.f2) (Ev.bind (cmp_Or_two _ _) (Ev.now _)))
theorem byOrder_ahead (a b : S49) : decide (byOrder a b ≥ 0) = !ahead a b := by
  unfold byOrder ahead ordS ordI
  cases h1 : Op.bytesLess a.f0.toList b.f0.toList with
  | true => simp
  | false =>
    cases h2 : Op.bytesLess b.f0.toList a.f0.toList with
    | true =>
      have : a.f0.toList ≠ b.f0.toList := by
        intro h
        rw [h, less_irrefl] at h2
        cases h2
      simp [this]
    | false =>
      have := less_tri _ _ h1 h2
      simp only [Bool.false_eq_true, if_false, if_true, this, decide_true, Bool.true_and, Bool.false_or]
      by_cases h3 : b.f2 < a.f2
      · rw [if_pos h3, decide_eq_true (show a.f2 > b.f2 from h3)]; decide
      · rw [if_neg h3, decide_eq_false (show ¬ a.f2 > b.f2 from h3)]
        split <;> decide

theorem impl_within_eq (a b c : Int) : impl_within.f a b c = some (within a b c) := by
  obtain ⟨k, h⟩ := (impl_within_ev a b c).rounds
  exact h
theorem impl_entryOk_ev (e : S49) : Ev (fun _ => impl_entryOk.f e.f0 e.f1 e.f2 e.f3) (entOk e) := by
  obtain ⟨a, b, c, g⟩ := e
  refine evId (fun _ => ?_)
  unfold impl_entryOk.f entOk
  simp only [impl_within_eq, Option.bind_some]
  cases h1 : within (a.size : Int) 1 40 with
  | false => simp
  | true =>
    rw [if_pos rfl]
    by_cases h3 : (b.size : Int) ≤ 200
    · rw [if_pos h3, decide_eq_true h3]
      cases g with
      | false => simp
      | true =>
        rw [if_pos rfl]
        by_cases h4 : b.toList = ([] : List UInt8)
        · rw [if_pos h4]; simp [h4]
        · rw [if_neg h4]; simp [h4]
    · rw [if_neg h3, decide_eq_false h3]; simp
theorem impl_EntriesOk_l0_ev (xs : List S49) (hl : xs.length ≤ 1000000000000000000) : ∀ (bs : List S49) (i : Nat), xs.drop i = bs → Ev (fun k => impl_EntriesOk.l0 k xs xs (xs.length : Int) i) (okL (prev xs i) bs)
  | [], i, hd => by
    have := drop_nil hd
    refine Ev.step (f := fun _ => some true) (fun k => ?_) (Ev.now _)
    simp only [impl_EntriesOk.l0]
    rw [if_neg (by omega)]
  | e :: bs, i, hd => by
    obtain ⟨h2, h3, h4⟩ := drop_cons hd
    have e1 : rd_T49 xs (i : Int) = e := getD_at h4
    have ih := impl_EntriesOk_l0_ev xs hl bs (i + 1) h3
    rw [prev_succ h4] at ih
    refine Ev.step (f := fun k => (impl_entryOk.f e.f0 e.f1 e.f2 e.f3).bind fun t127 => (if t127 = true then (if (i : Int) > 0 then ((impl_byOrder.f k (rd_T49 xs (wrap64 ((i : Int) - 1))).f0 (rd_T49 xs (wrap64 ((i : Int) - 1))).f1 (rd_T49 xs (wrap64 ((i : Int) - 1))).f2 (rd_T49 xs (wrap64 ((i : Int) - 1))).f3 e.f0 e.f1 e.f2 e.f3).bind fun t130 => (if t130 ≥ 0 then (some false) else (impl_EntriesOk.l0 k xs xs (xs.length : Int) ((i + 1 : Nat) : Int)))) else (impl_EntriesOk.l0 k xs xs (xs.length : Int) ((i + 1 : Nat) : Int))) else (some false))) (fun k => ?_) (Ev.bind (impl_entryOk_ev e) ?_)
    · simp only [impl_EntriesOk.l0]
      rw [if_pos (by omega), if_pos (by omega), if_pos (by omega), e1, w64s (by omega)]
      by_cases hi : (i : Int) > 0
      · simp only [if_pos hi, if_pos (show (0 : Int) ≤ wrap64 ((i : Int) - 1) by rw [w64 (by omega) (by omega)]; omega), if_pos (show wrap64 ((i : Int) - 1) < (xs.length : Int) by rw [w64 (by omega) (by omega)]; omega)]
      · simp only [if_neg hi]
    · unfold okL
      cases he : entOk e with
      | false => exact evNeg (by simp) (Ev.now _)
      | true =>
        refine evPos rfl ?_
        rw [Bool.true_and]
        by_cases hi : i = 0
        · subst hi
          refine evNeg (by omega) (evEq ih ?_)
          simp [prev]
        · obtain ⟨q, hq⟩ : ∃ q, xs[i - 1]? = some q := ⟨_, List.getElem?_eq_getElem (by omega)⟩
          have e2 : rd_T49 xs (wrap64 ((i : Int) - 1)) = q := by
            rw [w64 (by omega) (by omega), show (i : Int) - 1 = ((i - 1 : Nat) : Int) by omega]
            exact getD_at hq
          refine evPos (by omega) ?_
          rw [e2]
          refine Ev.bind (impl_byOrder_ev q e) ?_
          simp only [prev, if_neg hi, hq]
          have hb := byOrder_ahead q e
          cases ha : ahead q e with
          | false =>
            rw [ha] at hb
            exact evPos (of_decide_eq_true hb) (Ev.now _)
          | true =>
            rw [ha] at hb
            exact evNeg (of_decide_eq_false hb) (evEq ih (by rw [Bool.true_and]))
theorem impl_EntriesOk_ev (xs : List S49) : Ev (fun k => impl_EntriesOk.f k xs) (entriesOk xs) := by
  simp only [impl_EntriesOk.f]
  unfold entriesOk
  by_cases h : (xs.length : Int) > 300
  · rw [decide_eq_false (by omega)]; exact evPos h (Ev.now _)
  · rw [decide_eq_true (by omega), Bool.true_and]
    exact evNeg h (impl_EntriesOk_l0_ev xs (by omega) xs 0 rfl)

theorem impl_packed_l0_ev (xs : List S49) (hl : xs.length ≤ 300) (hok : ∀ e ∈ xs, entOk e = true) : ∀ (bs : List S49) (i : Nat) (acc : List Int) (last : ByteArray), xs.drop i = bs → (∀ p, prev xs i = some p → last = p.f0) → acc.length + 300 * bs.length ≤ 1000000000 → Ev (fun k => impl_packed.l0 k xs acc xs (xs.length : Int) i) (acc ++ packL last i bs)
  | [], i, acc, last, hd, hla, ha => by
    have := drop_nil hd
    refine Ev.step (f := fun _ => some acc) (fun k => ?_) (evEq (Ev.now _) (by simp [packL]))
    simp only [impl_packed.l0]
    rw [if_neg (by omega)]
  | e :: bs, i, acc, last, hd, hla, ha => by
    obtain ⟨h2, h3, h4⟩ := drop_cons hd
    have e1 : rd_T49 xs (i : Int) = e := getD_at h4
    have he := hok e (List.mem_of_getElem? h4)
    obtain ⟨⟨g1, g2⟩, g3, g4, g5, g6⟩ := entOk_iff.1 he
    rw [List.length_cons] at ha
    have key : ∀ (l : ByteArray) (c : Nat), common (bytesOf l) (bytesOf e.f0) = c → Ev (fun k => impl_packed.j1 k xs acc (c : Int) xs (xs.length : Int) i e.f0 e.f1 e.f2 e.f3) (acc ++ (packE l e ++ packL e.f0 (i + 1) bs)) := by
      intro l c hc
      have hp := packE_le l e he
      unfold packE at hp ⊢
      have c1 := (common_le (bytesOf l) (bytesOf e.f0)).2
      rw [bytesOf_length] at c1
      rw [hc] at hp c1 ⊢
      have x1 := extract_size e.f0 c
      have hm2 : markE e ≤ 100000000000 := by unfold markE flagI; split <;> omega
      simp only [List.length_append] at hp
      have ht1 : text (e.f0.extract c e.f0.size) = textN (e.f0.extract c e.f0.size) := if_neg (by omega)
      have ht2 : text e.f1 = textN e.f1 := if_neg (by omega)
      have j2 : Ev (fun k => impl_packed.j2 k xs acc (c : Int) ((markE e : Nat) : Int) xs (xs.length : Int) i e.f0 e.f1 e.f2 e.f3) (acc ++ ((numN c ++ (textN (e.f0.extract c e.f0.size) ++ (numN (markE e) ++ textN e.f1))) ++ packL e.f0 (i + 1) bs)) := by
        refine Ev.step (fun k => by simp only [impl_packed.j2]; exact rfl) ?_
        refine Ev.bind (impl_Number_nat c (by omega)) (evPos (by omega) ?_)
        simp only [Option.bind_some, Int.toNat_natCast]
        refine evPos (by omega) (evPos (by omega) (Ev.bind (evEq (impl_Text_ev _) ht1) (evPos (by rw [List.length_append]; omega) ?_)))
        refine Ev.bind (impl_Number_nat (markE e) (by omega)) (evPos (by simp only [List.length_append]; omega) (Ev.bind (evEq (impl_Text_ev e.f1) ht2) (evPos (by simp only [List.length_append]; omega) ?_)))
        have ih := impl_packed_l0_ev xs hl hok bs (i + 1) (acc ++ (numN c ++ (textN (e.f0.extract c e.f0.size) ++ (numN (markE e) ++ textN e.f1)))) e.f0 h3 (fun p hp => by rw [prev_succ h4] at hp; injection hp with hp; rw [hp]) (by simp only [List.length_append]; omega)
        rw [w64s (by omega)]
        simpa [List.append_assoc] using ih
      cases hg : e.f3 with
      | true =>
        refine Ev.step (fun k => ?_) j2
        simp only [impl_packed.j1]
        rw [if_pos trivial, hg]
        congr 1
        unfold markE flagI
        rw [hg, if_pos rfl, w64 (x := 2 * e.f2) (by omega) (by omega), w64 (by omega) (by omega)]
        omega
      | false =>
        refine Ev.step (fun k => ?_) j2
        simp only [impl_packed.j1]
        rw [if_neg (by decide), hg]
        congr 1
        unfold markE flagI
        rw [hg, if_neg (by decide), w64 (x := 2 * e.f2) (by omega) (by omega)]
        omega
    unfold packL
    by_cases h8 : i % 8 = 0
    · rw [if_pos h8]
      refine Ev.step (fun k => ?_) (key (⟨#[]⟩ : ByteArray) 0 (common_empty _))
      simp only [impl_packed.l0]
      rw [if_pos (by omega), if_pos (by omega), if_pos (by omega), e1, if_neg (by rw [Int.tmod_eq_emod_of_nonneg (by omega)]; omega)]
      rfl
    · rw [if_neg h8]
      obtain ⟨q, hq⟩ : ∃ q, xs[i - 1]? = some q := ⟨_, List.getElem?_eq_getElem (by omega)⟩
      have hla' : last = q.f0 := hla q (by unfold prev; rw [if_neg (by omega), hq])
      have e2 : rd_T49 xs (wrap64 ((i : Int) - 1)) = q := by
        rw [w64 (by omega) (by omega), show (i : Int) - 1 = ((i - 1 : Nat) : Int) by omega]
        exact getD_at hq
      have hq40 := (entOk_iff.1 (hok q (List.mem_of_getElem? hq))).1
      refine Ev.step (f := fun k => (impl_Common.f k q.f0 e.f0).bind fun t => impl_packed.j1 k xs acc t xs (xs.length : Int) i e.f0 e.f1 e.f2 e.f3) (fun k => ?_) (Ev.bind (impl_Common_ev q.f0 e.f0 (by omega)) (key last _ (by rw [hla'])))
      simp only [impl_packed.l0]
      rw [if_pos (by omega), if_pos (by omega), if_pos (by omega), e1, if_pos (by rw [Int.tmod_eq_emod_of_nonneg (by omega)]; omega), if_pos (by rw [w64 (by omega) (by omega)]; omega), if_pos (by rw [w64 (by omega) (by omega)]; omega), e2]
theorem impl_packed_ev (xs : List S49) (hl : xs.length ≤ 300) (hok : ∀ e ∈ xs, entOk e = true) : Ev (fun k => impl_packed.f k xs) (packed xs) := by
  simp only [impl_packed.f]
  have h2 := numN_le10 (n := xs.length) (by omega)
  exact Ev.bind (impl_Number_nat xs.length (by omega)) (impl_packed_l0_ev xs hl hok xs 0 _ _ rfl (fun p hp => by simp [prev] at hp) (by omega))
theorem impl_Packed_ev (xs : List S49) : Ev (fun k => impl_Packed.f k xs) (if entriesOk xs = true then packed xs else []) := by
  simp only [impl_Packed.f]
  refine Ev.bind (impl_EntriesOk_ev xs) ?_
  by_cases h : entriesOk xs = true
  · rw [if_pos h]
    exact evPos h (Ev.bind (impl_packed_ev xs (entriesOk_le h) (entriesOk_all h)) (Ev.now _))
  · rw [if_neg h]
    exact evNeg h (Ev.now _)

theorem laws_markText_l0_ev (n : Nat) : ∀ (s : ByteArray), s.size + n ≤ 2000000000000000000 → ∃ t, Ev (fun k => laws_markText.l0 k (n : Int) s) t := by
  induction n using Nat.strongRecOn with
  | ind n ih =>
    intro s hs
    by_cases h : n = 0
    · subst h
      refine ⟨_, Ev.step (f := fun _ => some ((⟨#[109]⟩ : ByteArray) ++ s)) (fun k => ?_) (Ev.now _)⟩
      simp only [laws_markText.l0]
      rw [if_neg (by simp), if_pos (by omega)]
    · have hsz : (strOfNums [wrap64 (48 + Int.tmod (n : Int) 10) % 256]).size = 1 := by rw [strOfNums_size]; rfl
      obtain ⟨t, ht⟩ := ih (n / 10) (by omega) (strOfNums [wrap64 (48 + Int.tmod (n : Int) 10) % 256] ++ s) (by rw [ByteArray.size_append, hsz]; omega)
      refine ⟨t, Ev.step (f := fun k => laws_markText.l0 k ((n / 10 : Nat) : Int) (strOfNums [wrap64 (48 + Int.tmod (n : Int) 10) % 256] ++ s)) (fun k => ?_) ht⟩
      simp only [laws_markText.l0]
      rw [if_pos (by omega)]
      simp only [Option.bind_some]
      rw [if_pos (by rw [hsz]; omega), Int.tdiv_eq_ediv_of_nonneg (by omega), w64 (x := (n : Int) / 10) (by omega) (by omega)]
      rfl
theorem laws_markText_ex (a : Int) (h : a ≤ 1500000000000000000) : ∃ t, Ev (fun k => laws_markText.f k a) t := by
  simp only [laws_markText.f]
  by_cases h0 : a ≤ 0
  · exact ⟨_, evPos h0 (Ev.now _)⟩
  · obtain ⟨t, ht⟩ := laws_markText_l0_ev a.toNat (⟨#[]⟩ : ByteArray) (by show 0 + _ ≤ _; omega)
    rw [show ((a.toNat : Nat) : Int) = a by omega] at ht
    exact ⟨t, evNeg h0 ht⟩
/-- The text by which a place is marked. -/
noncomputable def mtx (a : Int) : ByteArray := by
  classical
  exact if h : ∃ t, Ev (fun k => laws_markText.f k a) t then Classical.choose h else ByteArray.empty
theorem mtx_ev (a : Int) (h : a ≤ 1500000000000000000) : Ev (fun k => laws_markText.f k a) (mtx a) := by
  unfold mtx
  rw [dif_pos (laws_markText_ex a h)]
  exact Classical.choose_spec (laws_markText_ex a h)

/-- The entry by which a place is marked. -/
noncomputable def mte (a : Int) : S49 := ⟨mtx a, mtx (a + 1), a + 2, ((a + 3) % 3 == 0)⟩
theorem getD_set {α : Type} (xs : List α) (i : Nat) (h : i < xs.length) (v d : α) : (xs.set i v).getD ((i : Int)).toNat d = v := by
  simp [List.getD_eq_getElem?_getD, List.getElem?_set, h]
theorem laws_markEntryS_ev (xs : List S49) (hl : xs.length ≤ 1000000000000000) (a : Int) (h1 : 1 ≤ a) (h2 : a ≤ 10000000000000000) : Ev (fun k => laws_markEntryS.f k xs a) (a + 4 * xs.length, marksOf mte 4 xs.length a) := by
  refine mark_loop laws_markEntryS.l0 mte 4 (by decide) (fun k xs a i h => ?_) (fun xs a i r h hi h1 h2 hr => ?_) xs hl a h1 h2
  · simp only [laws_markEntryS.l0]
    rw [if_neg (by omega)]
  · have e1 : wrap64 (a + 1) = a + 1 := w64 (by omega) (by omega)
    have e2 : wrap64 (a + 1 + 1) = a + 2 := w64 (x := a + 1 + 1) (by omega) (by omega) |>.trans (by omega)
    have e3 : wrap64 (a + 2 + 1) = a + 3 := w64 (x := a + 2 + 1) (by omega) (by omega) |>.trans (by omega)
    have e4 : wrap64 (a + 3 + 1) = a + 4 := w64 (x := a + 3 + 1) (by omega) (by omega) |>.trans (by omega)
    refine Ev.step (f := fun k => (laws_markText.f k a).bind fun t => (laws_markText.f k (a + 1)).bind fun u => laws_markEntryS.l0 k (xs.set i ⟨t, u, a + 2, ((a + 3) % 3 == 0)⟩) (a + 4) ((i + 1 : Nat) : Int)) (fun k => ?_) (Ev.bind (mtx_ev a (by omega)) (Ev.bind (mtx_ev (a + 1) (by omega)) hr))
    simp only [laws_markEntryS.l0]
    rw [if_pos (by omega)]
    simp only [if_pos (show (0 : Int) ≤ i by omega), Option.bind_some, e1, e2, e3, e4, w64s (show i ≤ 1000000000000000000 by omega), rd_T49, getD_set _ _ h, getD_set _ _ (show i < (xs.set i _).length by simpa using h), Int.toNat_natCast, List.set_set]
    congr 1
    funext t
    congr 1
    funext u
    rw [Int.tmod_eq_emod_of_nonneg (by omega)]
    have g1 : ∀ (ys : List S49) (v d : S49), i < ys.length → (ys.set i v).getD i d = v := fun ys v d hh => by simp [List.getD_eq_getElem?_getD, List.getElem?_set, hh]
    simp only [g1 _ _ _ h, g1 _ _ _ (show i < (xs.set i _).length by simpa using h)]

theorem laws_eqByteS_l0_ev (xs ys : List Int) (hl : xs.length ≤ 1000000000000000000) (he : xs.length = ys.length) : ∀ (av bs : List Int) (i : Nat), xs.drop i = av → ys.drop i = bs → Ev (fun k => laws_eqByteS.l0 k xs ys i) (decide (av = bs))
  | [], bs, i, ha, hb => by
    have h1 := drop_nil ha
    have h2 : bs = [] := by rw [← hb]; exact drop_end _ _ (by omega)
    subst h2
    refine Ev.step (f := fun _ => some true) (fun k => ?_) (by simpa using Ev.now true)
    simp only [laws_eqByteS.l0]
    rw [if_neg (by omega)]
  | a :: av, [], i, ha, hb => by
    have h1 := drop_nil hb
    obtain ⟨h2, h3, h4⟩ := drop_cons ha
    omega
  | a :: av, b :: bs, i, ha, hb => by
    obtain ⟨h2, h3, h4⟩ := drop_cons ha
    obtain ⟨g2, g3, g4⟩ := drop_cons hb
    by_cases e : a = b
    · have ih := laws_eqByteS_l0_ev xs ys hl he av bs (i + 1) h3 g3
      refine Ev.step (f := fun k => laws_eqByteS.l0 k xs ys ((i + 1 : Nat) : Int)) (fun k => ?_) (evEq ih (by simp [e]))
      simp only [laws_eqByteS.l0]
      rw [if_pos (by omega), if_pos (by omega), if_pos (by omega), rd_at h4, rd_at g4, if_pos e, w64s (by omega)]
    · refine Ev.step (f := fun _ => some false) (fun k => ?_) (evEq (Ev.now false) (by simp [e]))
      simp only [laws_eqByteS.l0]
      rw [if_pos (by omega), if_pos (by omega), if_pos (by omega), rd_at h4, rd_at g4, if_neg e]
theorem laws_eqByteS_ev (xs ys : List Int) (hl : xs.length ≤ 1000000000000000000) : Ev (fun k => laws_eqByteS.f k xs ys) (decide (xs = ys)) := by
  simp only [laws_eqByteS.f]
  by_cases he : xs.length = ys.length
  · exact evPos (by omega) (laws_eqByteS_l0_ev xs ys hl he xs ys 0 rfl rfl)
  · refine evNeg (by omega) (evEq (Ev.now false) ?_)
    symm
    rw [decide_eq_false_iff_not]
    intro h
    exact he (by rw [h])
theorem laws_eqByteS_self (xs : List Int) (hl : xs.length ≤ 1000000000000000000) : Ev (fun k => laws_eqByteS.f k xs xs) true := evEq (laws_eqByteS_ev xs xs hl) (by simp)

theorem laws_markByteS_ev (xs : List Int) (hl : xs.length ≤ 1000000000000000) (a : Int) (h1 : 1 ≤ a) (h2 : a ≤ 10000000000000000) : Ev (fun k => laws_markByteS.f k xs a) (a + 1 * xs.length, marksOf (fun b => b % 256) 1 xs.length a) := by
  refine mark_loop laws_markByteS.l0 (fun b => b % 256) 1 (by decide) (fun k xs a i h => ?_) (fun xs a i r h hi h1 h2 hr => ?_) xs hl a h1 h2
  · simp only [laws_markByteS.l0]
    rw [if_neg (by omega)]
  · refine Ev.step (f := fun k => laws_markByteS.l0 k (xs.set i (a % 256)) (a + 1) ((i + 1 : Nat) : Int)) (fun k => ?_) hr
    simp only [laws_markByteS.l0]
    rw [if_pos (by omega), if_pos (by omega), w64s (by omega), w64 (x := a + 1) (by omega) (by omega), Int.toNat_natCast]
theorem laws_heldByteS_ev (n : Nat) (hl : n ≤ 1000000000000000) (a : Int) (h1 : 1 ≤ a) (h2 : a ≤ 10000000000000000) : Ev (fun k => laws_heldByteS.f k (marksOf (fun b => b % 256) 1 n a) a) (a + 1 * n) := by
  refine held_loop laws_heldByteS.l0 (fun b => b % 256) 1 (by decide) (fun k xs a i h => ?_) (fun xs a i r h hi hi2 h1 h2 hr => ?_) n hl a h1 h2
  · simp only [laws_heldByteS.l0]
    rw [if_neg (by omega)]
  · refine Ev.step (f := fun k => laws_heldByteS.l0 k xs (a + 1) ((i + 1 : Nat) : Int)) (fun k => ?_) hr
    simp only [laws_heldByteS.l0]
    rw [if_pos (by omega), if_pos (by omega), rd_at h, if_pos rfl, w64s (by omega), w64 (x := a + 1) (by omega) (by omega)]

theorem FnExactPacked (xs : List S82) (hm : xs.length ≤ maxLen) (hw : ∀ e ∈ xs, e.f0.size ≤ maxLen ∧ e.f1.size ≤ maxLen ∧ (Lit.int .i64 e.f2).wf = true ∧ True) : ∃ k, laws_FnExactPacked.f k xs = some true := by
  refine Ev.rounds (g := fun k => laws_FnExactPacked.f k xs) ?_
  simp only [laws_FnExactPacked.f]
  obtain ⟨r, hr, _, _, hk⟩ := laws_szEntryS_ev xs hm (fun e h => ⟨(hw e h).1, (hw e h).2.1⟩) 1048576 (by decide) (by decide)
  refine Ev.bind hr ?_
  by_cases h1 : r < 0
  · exact evPos h1 (Ev.now _)
  obtain ⟨hl, hs⟩ := hk (by omega)
  have toS := laws_toEntryS_ev xs (by omega)
  have sp := spec_Packed_ev (xs.map toE)
  have im := impl_Packed_ev (xs.map toE)
  have hle : (if entriesOk (xs.map toE) = true then packed (xs.map toE) else []).length ≤ 100000 := by
    split
    · rename_i h
      exact packed_le (entriesOk_le h) (entriesOk_all h)
    · simp
  generalize (if entriesOk (xs.map toE) = true then packed (xs.map toE) else []) = ys at sp im hle
  have hself := laws_eqByteS_self ys (by omega)
  have hmark := laws_markByteS_ev ys (by omega) 1 (by decide) (by decide)
  have hheld := laws_heldByteS_ev ys.length (by omega) 1 (by decide) (by decide)
  refine evNeg h1 (Ev.bind toS (Ev.bind sp (Ev.bind toS (Ev.bind im (Ev.bind hself (evPos rfl (Ev.bind toS (Ev.bind (laws_eqEntryS_self _ (by simp; omega)) (evPos rfl (Ev.bind (laws_markEntryS_ev _ (by simp; omega) 1 (by decide) (by decide)) (evNeg (by omega) (Ev.bind hself ?_))))))))))))
  refine Ev.step (fun k => by simp only [laws_FnExactPacked.j0]; exact rfl) ?_
  refine evNeg (by simp) (Ev.bind hmark (Ev.bind hheld (evNeg (by omega) (evPos rfl ?_))))
  exact Ev.bind toS (Ev.bind im (Ev.bind hself (evPos rfl (Ev.bind hheld (evNeg (by omega) (evPos rfl (Ev.now _)))))))
end Go.Proofs.Ythkhfmomibfkjaa.Pure

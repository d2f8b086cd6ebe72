/- Proves the plain law behind this statement of the seat (what its functions come to, over numbers and lists): that it answers true. No condition beyond the statement's own. -/
import Derived.Test.YthkhfmomibfkjaaPFnExactTextsx
import Derived.Test.YthkhfmomibfkjaaLib
import Derived.Test.YthkhfmomibfkjaaLibRow
import Derived.Test.YthkhfmomibfkjaaLibStr
namespace Go.Proofs.Ythkhfmomibfkjaa.Pure
open Go Go.RowKit Go.Proofs.Ythkhfmomibfkjaa.PFnExactTexts Go.Proofs.YthkhfmomibfkjaaW.PrintWords Go.Proofs.YthkhfmomibfkjaaW.PrintLast Go.Proofs.YthkhfmomibfkjaaW.PrintMore Go.Proofs.Ythkhfmomibfkjaa.Lib
set_option linter.unusedVariables false
set_option linter.unusedSimpArgs false
theorem spec_l1Number_l0_ev (n : Nat) : ∀ (acc : List Int), acc.length + n ≤ 100000000000000 → Ev (fun k => spec_l1Number.l0 k (n : Int) acc) (acc ++ numN n) := by
  induction n using Nat.strongRecOn with
  | ind n ih =>
    intro acc hl
    by_cases h : n < 128
    · refine Ev.step (f := fun _ => some _) (fun k => ?_) (Ev.now _)
      simp only [spec_l1Number.l0]
      rw [if_neg (by omega), if_pos (by omega), numN_small h, Int.emod_eq_of_lt (by omega) (by omega)]
    · have := ih (n / 128) (by omega) (acc ++ [((n % 128 + 128 : Nat) : Int)]) (by simp; omega)
      rw [List.append_assoc, List.singleton_append, ← numN_big h] at this
      refine Ev.step (f := fun k => spec_l1Number.l0 k ((n / 128 : Nat) : Int) (acc ++ [((n % 128 + 128 : Nat) : Int)])) (fun k => ?_) this
      simp only [spec_l1Number.l0]
      rw [if_pos (by omega), if_pos (by omega), Int.tdiv_eq_ediv_of_nonneg (by omega), Int.tmod_eq_emod_of_nonneg (by omega), w64 (by omega) (by omega), w64 (by omega) (by omega)]
      congr 1
      rw [Int.emod_eq_of_lt (by omega) (by omega)]
      congr 1
theorem spec_l1Number_ev (n : Nat) (h : n ≤ 100000000000000) : Ev (fun k => spec_l1Number.f k (n : Int)) (numN n) := by
  have := spec_l1Number_l0_ev n [] (by simpa using h)
  exact this

theorem impl_within_ev (a b c : Int) : Ev (fun _ => impl_within.f a b c) (within a b c) := by
  refine evId (fun _ => ?_)
  unfold impl_within.f within
  by_cases h : a ≥ b
  · rw [if_pos h, decide_eq_true (show b ≤ a from h), Bool.true_and]
  · rw [if_neg h, decide_eq_false (show ¬ b ≤ a from h), Bool.false_and]

theorem impl_Number_l0_ev (n : Nat) : ∀ (acc : List Int), acc.length + n ≤ 100000000000000 → Ev (fun k => impl_Number.l0 k (n : Int) acc) (acc ++ numN n) := by
  induction n using Nat.strongRecOn with
  | ind n ih =>
    intro acc hl
    by_cases h : n < 128
    · refine Ev.step (f := fun _ => some _) (fun k => ?_) (Ev.now _)
      simp only [impl_Number.l0]
      rw [if_neg (by omega), if_pos (by omega), numN_small h, Int.emod_eq_of_lt (by omega) (by omega)]
    · have := ih (n / 128) (by omega) (acc ++ [((n % 128 + 128 : Nat) : Int)]) (by simp; omega)
      rw [List.append_assoc, List.singleton_append, ← numN_big h] at this
      refine Ev.step (f := fun k => impl_Number.l0 k ((n / 128 : Nat) : Int) (acc ++ [((n % 128 + 128 : Nat) : Int)])) (fun k => ?_) this
      simp only [impl_Number.l0]
      rw [if_pos (by omega), if_pos (by omega), or128 (by omega) (by omega)]
      congr 3
      omega
theorem impl_Number_ev (n : Int) : Ev (fun k => impl_Number.f k n) (number n) := by
  simp only [impl_Number.f]
  refine Ev.bind (impl_within_ev n 0 1099511627776) ?_
  unfold number
  by_cases h : within n 0 1099511627776 = true
  · rw [if_pos h]
    refine evPos h ?_
    simp only [within, Bool.and_eq_true, decide_eq_true_eq] at h
    have e := impl_Number_l0_ev n.toNat [] (by simp; omega)
    rw [show ((n.toNat : Nat) : Int) = n by omega] at e
    exact e
  · rw [if_neg h]
    exact evNeg h (Ev.now _)
theorem impl_Number_nat (n : Nat) (h : n ≤ 1099511627776) : Ev (fun k => impl_Number.f k (n : Int)) (numN n) := by
  have e := impl_Number_ev (n : Int)
  unfold number at e
  rw [if_pos (by simp [within]; omega)] at e
  exact e

theorem spec_l1Text_ev (s : ByteArray) (h : s.size ≤ 1099511627776) : Ev (fun k => spec_l1Text.f k s) (textN s) := by
  simp only [spec_l1Text.f]
  have hl := numN_le10 (n := s.size) (by omega)
  exact Ev.bind (spec_l1Number_ev s.size (by omega)) (evPos (by omega) (Ev.now _))
theorem impl_Text_ev (s : ByteArray) : Ev (fun k => impl_Text.f k s) (text s) := by
  simp only [impl_Text.f]
  unfold text
  by_cases h : (s.size : Int) > 3000
  · rw [if_pos h]; exact evPos h (Ev.now _)
  · rw [if_neg h]
    have hl := numN_le10 (n := s.size) (by omega)
    exact evNeg h (Ev.bind (impl_Number_nat s.size (by omega)) (evPos (by omega) (Ev.now _)))

def texL (acc : List Int) : List ByteArray → List Int
  | [] => acc
  | s :: xs => if (s.size : Int) > 3000 then [] else texL (acc ++ textN s) xs
def texts (xs : List ByteArray) : List Int := if (xs.length : Int) > 200 then [] else texL (numN xs.length) xs
theorem texL_le : ∀ (xs : List ByteArray) (acc : List Int), (texL acc xs).length ≤ acc.length + 3008 * xs.length
  | [], acc => by simp [texL]
  | s :: xs, acc => by
    unfold texL
    split
    · simp
    · have := texL_le xs (acc ++ textN s)
      have h2 := numN_le10 (n := s.size) (by omega)
      rw [List.length_append, textN_length] at this
      rw [List.length_cons]
      omega
theorem texts_le (xs : List ByteArray) : (texts xs).length ≤ 700000 := by
  unfold texts
  split
  · simp
  · have := texL_le xs (numN xs.length)
    have h2 := numN_le10 (n := xs.length) (by omega)
    omega
theorem textN_le {s : ByteArray} (h : ¬ (s.size : Int) > 3000) : (textN s).length ≤ 3008 := by
  rw [textN_length]
  have := numN_le10 (n := s.size) (by omega)
  omega
theorem spec_Texts_l0_ev (xs : List ByteArray) (hl : xs.length ≤ 1000) : ∀ (bs : List ByteArray) (i : Nat) (acc : List Int), xs.drop i = bs → acc.length + 3008 * bs.length ≤ 100000000 → Ev (fun k => spec_Texts.l0 k xs acc i) (texL acc bs)
  | [], i, acc, hd, ha => by
    have := drop_nil hd
    refine Ev.step (f := fun _ => some acc) (fun k => ?_) (Ev.now _)
    simp only [spec_Texts.l0]
    rw [if_neg (by omega)]
  | s :: bs, i, acc, hd, ha => by
    obtain ⟨h2, h3, h4⟩ := drop_cons hd
    have e1 : rdOf ByteArray.empty xs (i : Int) = s := getD_at h4
    rw [List.length_cons] at ha
    unfold texL
    by_cases hs : (s.size : Int) > 3000
    · rw [if_pos hs]
      refine Ev.step (f := fun _ => some []) (fun k => ?_) (Ev.now _)
      simp only [spec_Texts.l0]
      rw [if_pos (by omega), if_pos (by omega), e1, if_pos hs]
    · rw [if_neg hs]
      have hle := textN_le hs
      refine Ev.step (f := fun k => (spec_l1Text.f k s).bind fun t => if acc.length + t.length < 140737488355328 then spec_Texts.l0 k xs (acc ++ t) ((i + 1 : Nat) : Int) else none) (fun k => ?_) (Ev.bind (spec_l1Text_ev s (by omega)) (evPos (by omega) (spec_Texts_l0_ev xs hl bs (i + 1) _ h3 (by rw [List.length_append]; omega))))
      simp only [spec_Texts.l0]
      rw [if_pos (by omega), if_pos (by omega), e1, if_neg hs, w64s (by omega)]
theorem spec_Texts_ev (xs : List ByteArray) : Ev (fun k => spec_Texts.f k xs) (texts xs) := by
  simp only [spec_Texts.f]
  unfold texts
  by_cases h : (xs.length : Int) > 200
  · rw [if_pos h]; exact evPos h (Ev.now _)
  · rw [if_neg h]
    have h2 := numN_le10 (n := xs.length) (by omega)
    exact evNeg h (Ev.bind (spec_l1Number_ev xs.length (by omega)) (spec_Texts_l0_ev xs (by omega) xs 0 _ rfl (by omega)))
theorem impl_Texts_l0_ev (xs : List ByteArray) (hl : xs.length ≤ 1000) : ∀ (bs : List ByteArray) (i : Nat) (acc : List Int), xs.drop i = bs → acc.length + 3008 * bs.length ≤ 100000000 → Ev (fun k => impl_Texts.l0 k acc xs (xs.length : Int) i) (texL acc bs)
  | [], i, acc, hd, ha => by
    have := drop_nil hd
    refine Ev.step (f := fun _ => some acc) (fun k => ?_) (Ev.now _)
    simp only [impl_Texts.l0]
    rw [if_neg (by omega)]
  | s :: bs, i, acc, hd, ha => by
    obtain ⟨h2, h3, h4⟩ := drop_cons hd
    have e1 : rdOf ByteArray.empty xs (i : Int) = s := getD_at h4
    rw [List.length_cons] at ha
    unfold texL
    by_cases hs : (s.size : Int) > 3000
    · rw [if_pos hs]
      refine Ev.step (f := fun _ => some []) (fun k => ?_) (Ev.now _)
      simp only [impl_Texts.l0]
      rw [if_pos (by omega), if_pos (by omega), if_pos (by omega), e1, if_pos hs]
    · rw [if_neg hs]
      have hle := textN_le hs
      have ht : text s = textN s := if_neg hs
      refine Ev.step (f := fun k => (impl_Text.f k s).bind fun t => if acc.length + t.length < 140737488355328 then impl_Texts.l0 k (acc ++ t) xs (xs.length : Int) ((i + 1 : Nat) : Int) else none) (fun k => ?_) (Ev.bind (evEq (impl_Text_ev s) ht) (evPos (by omega) (impl_Texts_l0_ev xs hl bs (i + 1) _ h3 (by rw [List.length_append]; omega))))
      simp only [impl_Texts.l0]
      rw [if_pos (by omega), if_pos (by omega), if_pos (by omega), e1, if_neg hs, w64s (by omega)]
theorem impl_Texts_ev (xs : List ByteArray) : Ev (fun k => impl_Texts.f k xs) (texts xs) := by
  simp only [impl_Texts.f]
  unfold texts
  by_cases h : (xs.length : Int) > 200
  · rw [if_pos h]; exact evPos h (Ev.now _)
  · rw [if_neg h]
    have h2 := numN_le10 (n := xs.length) (by omega)
    exact evNeg h (Ev.bind (impl_Number_nat xs.length (by omega)) (impl_Texts_l0_ev xs (by omega) xs 0 _ rfl (by omega)))

def szS (left : Int) : List ByteArray → Int
  | [] => left
  | s :: xs => if left - s.size < 0 then -1 else szS (left - s.size) xs
theorem szS_bd : ∀ (xs : List ByteArray) (left : Int), 0 ≤ szS left xs → 0 ≤ left → ∀ s ∈ xs, (s.size : Int) ≤ left
  | [], _, _, _, s, hs => by simp at hs
  | x :: xs, left, h, h0, s, hs => by
    unfold szS at h
    by_cases hx : left - x.size < 0
    · rw [if_pos hx] at h; omega
    · rw [if_neg hx] at h
      rcases List.mem_cons.1 hs with rfl | hs
      · omega
      · have := szS_bd xs _ h (by omega) s hs
        omega
theorem szS_range : ∀ (xs : List ByteArray) (left : Int), 0 ≤ left → -1 ≤ szS left xs ∧ szS left xs ≤ left
  | [], left, h => by unfold szS; omega
  | x :: xs, left, h => by
    unfold szS
    by_cases hx : left - x.size < 0
    · rw [if_pos hx]; omega
    · rw [if_neg hx]
      have := szS_range xs (left - x.size) (by omega)
      omega
theorem laws_szStringS_l0_ev (xs : List ByteArray) (hl : xs.length ≤ 1000000000000000000) (hs : ∀ s ∈ xs, s.size ≤ maxLen) : ∀ (bs : List ByteArray) (i : Nat) (left : Int), xs.drop i = bs → 0 ≤ left → left ≤ 1048576 → Ev (fun k => laws_szStringS.l0 k xs left i) (szS left bs)
  | [], i, left, hd, h0, h1 => by
    have := drop_nil hd
    refine Ev.step (f := fun _ => some left) (fun k => ?_) (Ev.now _)
    simp only [laws_szStringS.l0]
    rw [if_neg (by omega)]
  | b :: bs, i, left, hd, h0, h1 => by
    obtain ⟨h2, h3, h4⟩ := drop_cons hd
    have hb : b.size ≤ 9223372036854775807 := hs b (List.mem_of_getElem? h4)
    have e1 : rdOf ByteArray.empty xs (i : Int) = b := getD_at h4
    have e2 : wrap64 (left - (b.size : Int)) = left - b.size := w64 (by omega) (by omega)
    unfold szS
    by_cases hx : left - b.size < 0
    · rw [if_pos hx]
      refine Ev.step (f := fun _ => some (-1)) (fun k => ?_) (Ev.now _)
      simp only [laws_szStringS.l0]
      rw [if_pos (by omega), if_pos (by omega), e1, e2, if_pos hx]
    · rw [if_neg hx]
      refine Ev.step (f := fun k => laws_szStringS.l0 k xs (left - b.size) ((i + 1 : Nat) : Int)) (fun k => ?_) (laws_szStringS_l0_ev xs hl hs bs (i + 1) _ h3 (by omega) (by omega))
      simp only [laws_szStringS.l0]
      rw [if_pos (by omega), if_pos (by omega), e1, e2, if_neg hx, w64s (by omega)]
/-- The law's guard: its answer, and what is known where it lets in. -/
theorem laws_szStringS_ev (xs : List ByteArray) (hl : xs.length ≤ maxLen) (hs : ∀ s ∈ xs, s.size ≤ maxLen) (left : Int) (h0 : 0 ≤ left) (h1 : left ≤ 1048576) :
    ∃ r, Ev (fun k => laws_szStringS.f k xs left) r ∧ -1 ≤ r ∧ r ≤ left ∧ (0 ≤ r → (xs.length : Int) ≤ left ∧ ∀ s ∈ xs, (s.size : Int) ≤ left) := by
  have hm : maxLen = 9223372036854775807 := rfl
  have e : wrap64 (left - (xs.length : Int)) = left - xs.length := w64 (by omega) (by omega)
  by_cases h : left - (xs.length : Int) < 0
  · refine ⟨-1, ?_, by omega, by omega, fun h => by omega⟩
    simp only [laws_szStringS.f]
    exact evPos (by rw [e]; exact h) (Ev.now _)
  · refine ⟨szS (left - xs.length) xs, ?_, ?_, ?_, fun hr => ⟨by omega, fun s h' => ?_⟩⟩
    · simp only [laws_szStringS.f]
      refine evNeg (by rw [e]; exact h) ?_
      rw [e]
      exact laws_szStringS_l0_ev xs (by omega) hs xs 0 _ rfl (by omega) (by omega)
    · exact (szS_range xs _ (by omega)).1
    · have := (szS_range xs (left - xs.length) (by omega)).2; omega
    · have := szS_bd xs _ hr (by omega) s h'; omega

theorem laws_toStringS_ev (xs : List ByteArray) (hl : xs.length ≤ 17592186044416) : Ev (fun k => laws_toStringS.f k xs) xs := by
  simp only [laws_toStringS.f]
  refine evPos (by omega) (evPos (by omega) ?_)
  have := copy_loop laws_toStringS.l0 (fun x => x) (⟨#[]⟩ : ByteArray) (fun k xs ys i h => by simp only [laws_toStringS.l0]; rw [if_neg (by omega)])
    (fun k xs ys i a hi ha h1 h2 => by
      simp only [laws_toStringS.l0]
      rw [if_pos (by omega), if_pos (by omega), if_pos (by omega), w64s (by omega), show rdOf ByteArray.empty xs (i : Int) = a from getD_at ha, Int.toNat_natCast]) xs (by omega)
  simpa using this

theorem laws_eqStringS_self (xs : List ByteArray) (hl : xs.length ≤ 1000000000000000000) : Ev (fun k => laws_eqStringS.f k xs xs) true := by
  simp only [laws_eqStringS.f]
  refine evPos trivial (self_loop laws_eqStringS.l0 (fun k xs i h => by simp only [laws_eqStringS.l0]; rw [if_neg (by omega)]) (fun k xs i a hi ha h1 => ?_) xs hl)
  simp only [laws_eqStringS.l0]
  rw [if_pos (by omega), if_pos (by omega), if_pos (by omega), w64s (by omega), if_pos trivial]

theorem laws_markText_l0_ev (n : Nat) : ∀ (s : ByteArray), s.size + n ≤ 2000000000000000000 → ∃ t, Ev (fun k => laws_markText.l0 k (n : Int) s) t := by
  induction n using Nat.strongRecOn with
  | ind n ih =>
    intro s hs
    by_cases h : n = 0
    · subst h
      refine ⟨_, Ev.step (f := fun _ => some ((⟨#[109]⟩ : ByteArray) ++ s)) (fun k => ?_) (Ev.now _)⟩
      simp only [laws_markText.l0]
      rw [if_neg (by simp), if_pos (by omega)]
    · have hsz : (strOfNums [wrap64 (48 + Int.tmod (n : Int) 10) % 256]).size = 1 := by rw [strOfNums_size]; rfl
      obtain ⟨t, ht⟩ := ih (n / 10) (by omega) (strOfNums [wrap64 (48 + Int.tmod (n : Int) 10) % 256] ++ s) (by rw [ByteArray.size_append, hsz]; omega)
      refine ⟨t, Ev.step (f := fun k => laws_markText.l0 k ((n / 10 : Nat) : Int) (strOfNums [wrap64 (48 + Int.tmod (n : Int) 10) % 256] ++ s)) (fun k => ?_) ht⟩
      simp only [laws_markText.l0]
      rw [if_pos (by omega)]
      simp only [Option.bind_some]
      rw [if_pos (by rw [hsz]; omega), Int.tdiv_eq_ediv_of_nonneg (by omega), w64 (x := (n : Int) / 10) (by omega) (by omega)]
      rfl
theorem laws_markText_ex (a : Int) (h : a ≤ 1000000000000000000) : ∃ t, Ev (fun k => laws_markText.f k a) t := by
  simp only [laws_markText.f]
  by_cases h0 : a ≤ 0
  · exact ⟨_, evPos h0 (Ev.now _)⟩
  · obtain ⟨t, ht⟩ := laws_markText_l0_ev a.toNat (⟨#[]⟩ : ByteArray) (by show 0 + _ ≤ _; omega)
    rw [show ((a.toNat : Nat) : Int) = a by omega] at ht
    exact ⟨t, evNeg h0 ht⟩
/-- The text by which a place is marked. -/
noncomputable def mtx (a : Int) : ByteArray := by
  classical
  exact if h : ∃ t, Ev (fun k => laws_markText.f k a) t then Classical.choose h else ByteArray.empty
theorem mtx_ev (a : Int) (h : a ≤ 1000000000000000000) : Ev (fun k => laws_markText.f k a) (mtx a) := by
  unfold mtx
  rw [dif_pos (laws_markText_ex a h)]
  exact Classical.choose_spec (laws_markText_ex a h)

theorem laws_markStringS_ev (xs : List ByteArray) (hl : xs.length ≤ 1000000000000000) (a : Int) (h1 : 1 ≤ a) (h2 : a ≤ 10000000000000000) : Ev (fun k => laws_markStringS.f k xs a) (a + 1 * xs.length, marksOf mtx 1 xs.length a) := by
  refine mark_loop laws_markStringS.l0 mtx 1 (by decide) (fun k xs a i h => ?_) (fun xs a i r h hi h1 h2 hr => ?_) xs hl a h1 h2
  · simp only [laws_markStringS.l0]
    rw [if_neg (by omega)]
  · refine Ev.step (f := fun k => (laws_markText.f k a).bind fun t => laws_markStringS.l0 k (xs.set i t) (a + 1) ((i + 1 : Nat) : Int)) (fun k => ?_) (Ev.bind (mtx_ev a (by omega)) hr)
    simp only [laws_markStringS.l0]
    rw [if_pos (by omega)]
    simp only [if_pos (show (0 : Int) ≤ i by omega), w64s (show i ≤ 1000000000000000000 by omega), w64 (x := a + 1) (by omega) (by omega), Int.toNat_natCast]

theorem laws_eqByteS_l0_ev (xs ys : List Int) (hl : xs.length ≤ 1000000000000000000) (he : xs.length = ys.length) : ∀ (av bs : List Int) (i : Nat), xs.drop i = av → ys.drop i = bs → Ev (fun k => laws_eqByteS.l0 k xs ys i) (decide (av = bs))
  | [], bs, i, ha, hb => by
    have h1 := drop_nil ha
    have h2 : bs = [] := by rw [← hb]; exact drop_end _ _ (by omega)
    subst h2
    refine Ev.step (f := fun _ => some true) (fun k => ?_) (by simpa using Ev.now true)
    simp only [laws_eqByteS.l0]
    rw [if_neg (by omega)]
  | a :: av, [], i, ha, hb => by
    have h1 := drop_nil hb
    obtain ⟨h2, h3, h4⟩ := drop_cons ha
    omega
  | a :: av, b :: bs, i, ha, hb => by
    obtain ⟨h2, h3, h4⟩ := drop_cons ha
    obtain ⟨g2, g3, g4⟩ := drop_cons hb
    by_cases e : a = b
    · have ih := laws_eqByteS_l0_ev xs ys hl he av bs (i + 1) h3 g3
      refine Ev.step (f := fun k => laws_eqByteS.l0 k xs ys ((i + 1 : Nat) : Int)) (fun k => ?_) (evEq ih (by simp [e]))
      simp only [laws_eqByteS.l0]
      rw [if_pos (by omega), if_pos (by omega), if_pos (by omega), rd_at h4, rd_at g4, if_pos e, w64s (by omega)]
    · refine Ev.step (f := fun _ => some false) (fun k => ?_) (evEq (Ev.now false) (by simp [e]))
      simp only [laws_eqByteS.l0]
      rw [if_pos (by omega), if_pos (by omega), if_pos (by omega), rd_at h4, rd_at g4, if_neg e]
theorem laws_eqByteS_ev (xs ys : List Int) (hl : xs.length ≤ 1000000000000000000) : Ev (fun k => laws_eqByteS.f k xs ys) (decide (xs = ys)) := by
  simp only [laws_eqByteS.f]
  by_cases he : xs.length = ys.length
  · exact evPos (by omega) (laws_eqByteS_l0_ev xs ys hl he xs ys 0 rfl rfl)
  · refine evNeg (by omega) (evEq (Ev.now false) ?_)
    symm
    rw [decide_eq_false_iff_not]
    intro h
    exact he (by rw [h])
theorem laws_eqByteS_self (xs : List Int) (hl : xs.length ≤ 1000000000000000000) : Ev (fun k => laws_eqByteS.f k xs xs) true := evEq (laws_eqByteS_ev xs xs hl) (by simp)

theorem laws_markByteS_ev (xs : List Int) (hl : xs.length ≤ 1000000000000000) (a : Int) (h1 : 1 ≤ a) (h2 : a ≤ 10000000000000000) : Ev (fun k => laws_markByteS.f k xs a) (a + 1 * xs.length, marksOf (fun b => b % 256) 1 xs.length a) := by
  refine mark_loop laws_markByteS.l0 (fun b => b % 256) 1 (by decide) (fun k xs a i h => ?_) (fun xs a i r h hi h1 h2 hr => ?_) xs hl a h1 h2
  · simp only [laws_markByteS.l0]
    rw [if_neg (by omega)]
  · refine Ev.step (f := fun k => laws_markByteS.l0 k (xs.set i (a % 256)) (a + 1) ((i + 1 : Nat) : Int)) (fun k => ?_) hr
    simp only [laws_markByteS.l0]
    rw [if_pos (by omega), if_pos (by omega), w64s (by omega), w64 (x := a + 1) (by omega) (by omega), Int.toNat_natCast]
theorem laws_heldByteS_ev (n : Nat) (hl : n ≤ 1000000000000000) (a : Int) (h1 : 1 ≤ a) (h2 : a ≤ 10000000000000000) : Ev (fun k => laws_heldByteS.f k (marksOf (fun b => b % 256) 1 n a) a) (a + 1 * n) := by
  refine held_loop laws_heldByteS.l0 (fun b => b % 256) 1 (by decide) (fun k xs a i h => ?_) (fun xs a i r h hi hi2 h1 h2 hr => ?_) n hl a h1 h2
  · simp only [laws_heldByteS.l0]
    rw [if_neg (by omega)]
  · refine Ev.step (f := fun k => laws_heldByteS.l0 k xs (a + 1) ((i + 1 : Nat) : Int)) (fun k => ?_) hr
    simp only [laws_heldByteS.l0]
    rw [if_pos (by omega), if_pos (by omega), rd_at h, if_pos rfl, w64s (by omega), w64 (x := a + 1) (by omega) (by omega)]

theorem FnExactTexts (xs : List ByteArray) (hm : xs.length ≤ maxLen) (hw : ∀ s ∈ xs, s.size ≤ maxLen) : ∃ k, laws_FnExactTexts.f k xs = some true := by
  refine Ev.rounds (g := fun k => laws_FnExactTexts.f k xs) ?_
  simp only [laws_FnExactTexts.f]
  obtain ⟨r, hr, _, _, hk⟩ := laws_szStringS_ev xs hm hw 1048576 (by decide) (by decide)
  refine Ev.bind hr ?_
  by_cases h1 : r < 0
  · exact evPos h1 (Ev.now _)
  obtain ⟨hl, hs⟩ := hk (by omega)
  have ht := texts_le xs
  have toS := laws_toStringS_ev xs (by omega)
  refine evNeg h1 (Ev.bind toS (Ev.bind (spec_Texts_ev xs) (Ev.bind toS (Ev.bind (impl_Texts_ev xs) (Ev.bind (laws_eqByteS_self _ (by omega)) (evPos rfl (Ev.bind toS (Ev.bind (laws_eqStringS_self xs (by omega)) (evPos rfl (Ev.bind (laws_markStringS_ev xs (by omega) 1 (by decide) (by decide)) (evNeg (by omega) (Ev.bind (laws_eqByteS_self _ (by omega)) ?_))))))))))))
  refine Ev.step (fun k => by simp only [laws_FnExactTexts.j0]; exact rfl) ?_
  refine evNeg (by simp) (Ev.bind (laws_markByteS_ev _ (by omega) 1 (by decide) (by decide)) (Ev.bind (laws_heldByteS_ev _ (by omega) 1 (by decide) (by decide)) (evNeg (by omega) (evPos rfl ?_))))
  exact Ev.bind toS (Ev.bind (impl_Texts_ev xs) (Ev.bind (laws_eqByteS_self _ (by omega)) (evPos rfl (Ev.bind (laws_heldByteS_ev _ (by omega) 1 (by decide) (by decide)) (evNeg (by omega) (evPos rfl (Ev.now _)))))))
end Go.Proofs.Ythkhfmomibfkjaa.Pure

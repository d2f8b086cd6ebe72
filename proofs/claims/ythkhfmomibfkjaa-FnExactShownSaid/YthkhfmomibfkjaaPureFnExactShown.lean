/- Proves the plain law behind this statement of the seat (what its functions come to, over numbers and lists): that it answers true. No condition beyond the statement's own. -/
import Derived.Test.YthkhfmomibfkjaaPFnExactShownx
import Derived.Test.YthkhfmomibfkjaaLib
import Derived.Test.YthkhfmomibfkjaaLibRow
import Derived.Test.YthkhfmomibfkjaaLibStr
namespace Go.Proofs.Ythkhfmomibfkjaa.Pure
open Go Go.RowKit Go.Proofs.Ythkhfmomibfkjaa.PFnExactShown Go.Proofs.YthkhfmomibfkjaaW.PrintWords Go.Proofs.YthkhfmomibfkjaaW.PrintLast Go.Proofs.YthkhfmomibfkjaaW.PrintMore Go.Proofs.Ythkhfmomibfkjaa.Lib
set_option linter.unusedVariables false
set_option linter.unusedSimpArgs false
def szE (left : Int) : List S82 → Int
  | [] => left
  | e :: xs => if left - e.f0.size < 0 ∨ left - e.f0.size - e.f1.size < 0 then -1 else szE (left - e.f0.size - e.f1.size) xs
theorem szE_bd : ∀ (xs : List S82) (left : Int), 0 ≤ szE left xs → 0 ≤ left → ∀ e ∈ xs, (e.f0.size : Int) ≤ left ∧ (e.f1.size : Int) ≤ left
  | [], _, _, _, s, hs => by simp at hs
  | x :: xs, left, h, h0, s, hs => by
    unfold szE at h
    by_cases hx : left - x.f0.size < 0 ∨ left - x.f0.size - x.f1.size < 0
    · rw [if_pos hx] at h; omega
    · rw [if_neg hx] at h
      rcases List.mem_cons.1 hs with rfl | hs
      · omega
      · have := szE_bd xs _ h (by omega) s hs
        omega
theorem szE_range : ∀ (xs : List S82) (left : Int), 0 ≤ left → -1 ≤ szE left xs ∧ szE left xs ≤ left
  | [], left, h => by unfold szE; omega
  | x :: xs, left, h => by
    unfold szE
    by_cases hx : left - x.f0.size < 0 ∨ left - x.f0.size - x.f1.size < 0
    · rw [if_pos hx]; omega
    · rw [if_neg hx]
      have := szE_range xs (left - x.f0.size - x.f1.size) (by omega)
      omega
theorem laws_szEntry_eq (e : S82) (left : Int) (h0 : 0 ≤ left) (h1 : left ≤ 1048576) (hb : e.f0.size ≤ maxLen ∧ e.f1.size ≤ maxLen) :
    laws_szEntry.f e.f0 e.f1 e.f2 e.f3 left = some (if left - e.f0.size < 0 ∨ left - e.f0.size - e.f1.size < 0 then -1 else left - e.f0.size - e.f1.size) := by
  have hm : maxLen = 9223372036854775807 := rfl
  have e1 : wrap64 (left - (e.f0.size : Int)) = left - e.f0.size := w64 (by omega) (by omega)
  simp only [laws_szEntry.f, e1]
  by_cases hx : left - (e.f0.size : Int) < 0
  · rw [if_pos hx, if_pos (Or.inl hx)]
  · have e2 : wrap64 (left - (e.f0.size : Int) - (e.f1.size : Int)) = left - e.f0.size - e.f1.size := w64 (by omega) (by omega)
    rw [if_neg hx, e2]
    by_cases hy : left - (e.f0.size : Int) - (e.f1.size : Int) < 0
    · rw [if_pos hy, if_pos (Or.inr hy)]
    · rw [if_neg hy, if_neg (fun h => h.elim hx hy)]
theorem laws_szEntryS_l0_ev (xs : List S82) (hl : xs.length ≤ 1000000000000000000) (hs : ∀ e ∈ xs, e.f0.size ≤ maxLen ∧ e.f1.size ≤ maxLen) : ∀ (bs : List S82) (i : Nat) (left : Int), xs.drop i = bs → 0 ≤ left → left ≤ 1048576 → Ev (fun k => laws_szEntryS.l0 k xs left i) (szE left bs)
  | [], i, left, hd, h0, h1 => by
    have := drop_nil hd
    refine Ev.step (f := fun _ => some left) (fun k => ?_) (Ev.now _)
    simp only [laws_szEntryS.l0]
    rw [if_neg (by omega)]
  | b :: bs, i, left, hd, h0, h1 => by
    obtain ⟨h2, h3, h4⟩ := drop_cons hd
    have e1 : rd_T82 xs (i : Int) = b := getD_at h4
    have e2 := laws_szEntry_eq b left h0 h1 (hs b (List.mem_of_getElem? h4))
    unfold szE
    by_cases hx : left - b.f0.size < 0 ∨ left - b.f0.size - b.f1.size < 0
    · rw [if_pos hx] at e2 ⊢
      refine Ev.step (f := fun _ => some (-1)) (fun k => ?_) (Ev.now _)
      simp only [laws_szEntryS.l0]
      rw [if_pos (by omega), if_pos (by omega), e1, e2]
      rfl
    · rw [if_neg hx] at e2 ⊢
      refine Ev.step (f := fun k => laws_szEntryS.l0 k xs (left - b.f0.size - b.f1.size) ((i + 1 : Nat) : Int)) (fun k => ?_) (laws_szEntryS_l0_ev xs hl hs bs (i + 1) _ h3 (by omega) (by omega))
      simp only [laws_szEntryS.l0]
      rw [if_pos (by omega), if_pos (by omega), e1, e2]
      simp only [Option.bind_some]
      rw [if_neg (by omega), w64s (by omega)]
theorem laws_szEntryS_ev (xs : List S82) (hl : xs.length ≤ maxLen) (hs : ∀ e ∈ xs, e.f0.size ≤ maxLen ∧ e.f1.size ≤ maxLen) (left : Int) (h0 : 0 ≤ left) (h1 : left ≤ 1048576) :
    ∃ r, Ev (fun k => laws_szEntryS.f k xs left) r ∧ -1 ≤ r ∧ r ≤ left ∧ (0 ≤ r → (xs.length : Int) ≤ left ∧ ∀ e ∈ xs, (e.f0.size : Int) ≤ left ∧ (e.f1.size : Int) ≤ left) := by
  have hm : maxLen = 9223372036854775807 := rfl
  have e : wrap64 (left - (xs.length : Int)) = left - xs.length := w64 (by omega) (by omega)
  by_cases h : left - (xs.length : Int) < 0
  · refine ⟨-1, ?_, by omega, by omega, fun h => by omega⟩
    simp only [laws_szEntryS.f]
    exact evPos (by rw [e]; exact h) (Ev.now _)
  · refine ⟨szE (left - xs.length) xs, ?_, ?_, ?_, fun hr => ⟨by omega, fun s h' => ?_⟩⟩
    · simp only [laws_szEntryS.f]
      refine evNeg (by rw [e]; exact h) ?_
      rw [e]
      exact laws_szEntryS_l0_ev xs (by omega) hs xs 0 _ rfl (by omega) (by omega)
    · exact (szE_range xs _ (by omega)).1
    · have := (szE_range xs (left - xs.length) (by omega)).2; omega
    · have := szE_bd xs _ hr (by omega) s h'; omega

/-- The law's record as the program's. -/
def toE (x : S82) : S49 := ⟨x.f0, x.f1, x.f2, x.f3⟩
theorem laws_toEntryS_ev (xs : List S82) (hl : xs.length ≤ 5864062014805) : Ev (fun k => laws_toEntryS.f k xs) (xs.map toE) := by
  simp only [laws_toEntryS.f]
  refine evPos (by omega) (evPos (by omega) ?_)
  exact copy_loop laws_toEntryS.l0 toE z49 (fun k xs ys i h => by simp only [laws_toEntryS.l0]; rw [if_neg (by omega)])
    (fun k xs ys i a hi ha h1 h2 => by
      simp only [laws_toEntryS.l0, laws_toEntry.f, Option.bind_some]
      rw [if_pos (by omega), if_pos (by omega), if_pos (by omega), w64s (by omega), show rd_T82 xs (i : Int) = a from getD_at ha, Int.toNat_natCast]
      rfl) xs (by omega)

theorem laws_eqEntry_self (e : S49) : laws_eqEntry.f e.f0 e.f1 e.f2 e.f3 e.f0 e.f1 e.f2 e.f3 = some true := by
  simp [laws_eqEntry.f]
theorem laws_eqEntryS_self (xs : List S49) (hl : xs.length ≤ 1000000000000000000) : Ev (fun k => laws_eqEntryS.f k xs xs) true := by
  simp only [laws_eqEntryS.f]
  refine evPos trivial (self_loop laws_eqEntryS.l0 (fun k xs i h => by simp only [laws_eqEntryS.l0]; rw [if_neg (by omega)]) (fun k xs i a hi ha h1 => ?_) xs hl)
  simp only [laws_eqEntryS.l0]
  rw [if_pos (by omega), if_pos (by omega), if_pos (by omega), laws_eqEntry_self, w64s (by omega)]
  rfl

/-- Is an entry right? -/
def entOk (e : S49) : Bool := within e.f0.size 1 40 && (decide ((e.f1.size : Int) ≤ 200) && ((!e.f3 || decide (e.f1.toList = ([] : List UInt8))) && within e.f2 1 1000000))
/-- Is the one ahead of the other? -/
def ahead (a b : S49) : Bool := Op.bytesLess a.f0.toList b.f0.toList || (decide (a.f0.toList = b.f0.toList) && decide (a.f2 > b.f2))
def okL : Option S49 → List S49 → Bool
  | _, [] => true
  | p, e :: es => entOk e && ((match p with | none => true | some q => ahead q e) && okL (some e) es)
def entriesOk (xs : List S49) : Bool := decide (xs.length ≤ 300) && okL none xs
theorem entOk_iff {e : S49} : entOk e = true ↔ (1 ≤ e.f0.size ∧ e.f0.size ≤ 40) ∧ e.f1.size ≤ 200 ∧ (e.f3 = true → e.f1.toList = []) ∧ 1 ≤ e.f2 ∧ e.f2 ≤ 1000000 := by
  unfold entOk within
  simp only [Bool.and_eq_true, Bool.or_eq_true, decide_eq_true_eq, Bool.not_eq_true']
  constructor
  · rintro ⟨⟨h1, h2⟩, h3, h4, h5, h6⟩
    refine ⟨⟨by omega, by omega⟩, by omega, fun hg => ?_, h5, h6⟩
    rcases h4 with h4 | h4
    · rw [hg] at h4; cases h4
    · exact h4
  · rintro ⟨⟨h1, h2⟩, h3, h4, h5, h6⟩
    refine ⟨⟨by omega, by omega⟩, by omega, ?_, h5, h6⟩
    cases h : e.f3 with
    | false => exact Or.inl rfl
    | true => exact Or.inr (h4 h)
/-- The entry ahead of place i. -/
def prev (xs : List S49) (i : Nat) : Option S49 := if i = 0 then none else xs[i - 1]?
theorem prev_succ {xs : List S49} {i : Nat} {e : S49} (h : xs[i]? = some e) : prev xs (i + 1) = some e := by
  unfold prev
  rw [if_neg (by omega), show i + 1 - 1 = i by omega, h]

theorem spec_l1In_ev (a b c : Int) : Ev (fun _ => spec_l1In.f a b c) (within a b c) := by
  refine evId (fun _ => ?_)
  unfold spec_l1In.f within
  by_cases h : a ≥ b
  · rw [if_pos h, decide_eq_true (show b ≤ a from h), Bool.true_and]
  · rw [if_neg h, decide_eq_false (show ¬ b ≤ a from h), Bool.false_and]

theorem spec_l3Entry_ev (e : S49) : Ev (fun _ => spec_l3Entry.f e.f0 e.f1 e.f2 e.f3) (entOk e) := by
  obtain ⟨a, b, c, g⟩ := e
  refine evId (fun _ => ?_)
  have hin : spec_l1In.f c 1 1000000 = some (within c 1 1000000) := by
    obtain ⟨k, h⟩ := (spec_l1In_ev c 1 1000000).rounds
    exact h
  unfold spec_l3Entry.f entOk
  simp only [hin, Option.bind_some]
  by_cases h1 : (a.size : Int) ≥ 1
  · by_cases h2 : (a.size : Int) ≤ 40
    · by_cases h3 : (b.size : Int) ≤ 200
      · rw [if_pos h1, if_pos h2, if_pos h3]
        have : within (a.size : Int) 1 40 = true := by simp [within]; omega
        rw [this, decide_eq_true h3]
        cases g with
        | false => simp
        | true =>
          rw [if_pos rfl]
          by_cases h4 : b.toList = ([] : List UInt8)
          · rw [if_pos h4]; simp [h4]
          · rw [if_neg h4]; simp [h4]
      · rw [if_pos h1, if_pos h2, if_neg h3, decide_eq_false h3]; simp
    · rw [if_pos h1, if_neg h2]
      have : within (a.size : Int) 1 40 = false := by simp [within]; omega
      rw [this]; simp
  · rw [if_neg h1]
    have : within (a.size : Int) 1 40 = false := by simp [within]; omega
    rw [this]; simp
theorem spec_l3Ahead_ev (a b : S49) : Ev (fun _ => spec_l3Ahead.f a.f0 a.f1 a.f2 a.f3 b.f0 b.f1 b.f2 b.f3) (ahead a b) := by
  refine evId (fun _ => ?_)
  unfold spec_l3Ahead.f ahead
  cases h : Op.bytesLess a.f0.toList b.f0.toList with
  | true => simp
  | false =>
    rw [if_neg (by simp)]
    by_cases h2 : a.f0.toList = b.f0.toList
    · rw [if_pos h2]; simp [h2]
    · rw [if_neg h2]; simp [h2]
theorem spec_EntriesOk_l0_ev (xs : List S49) (hl : xs.length ≤ 1000000000000000000) : ∀ (bs : List S49) (i : Nat), xs.drop i = bs → Ev (fun k => spec_EntriesOk.l0 k xs i) (okL (prev xs i) bs)
  | [], i, hd => by
    have := drop_nil hd
    refine Ev.step (f := fun _ => some true) (fun k => ?_) (Ev.now _)
    simp only [spec_EntriesOk.l0]
    rw [if_neg (by omega)]
  | e :: bs, i, hd => by
    obtain ⟨h2, h3, h4⟩ := drop_cons hd
    have e1 : rd_T49 xs (i : Int) = e := getD_at h4
    have ih := spec_EntriesOk_l0_ev xs hl bs (i + 1) h3
    rw [prev_succ h4] at ih
    refine Ev.step (f := fun k => (spec_l3Entry.f e.f0 e.f1 e.f2 e.f3).bind fun t127 => (if t127 = true then (if (i : Int) > 0 then ((spec_l3Ahead.f (rd_T49 xs (wrap64 ((i : Int) - 1))).f0 (rd_T49 xs (wrap64 ((i : Int) - 1))).f1 (rd_T49 xs (wrap64 ((i : Int) - 1))).f2 (rd_T49 xs (wrap64 ((i : Int) - 1))).f3 e.f0 e.f1 e.f2 e.f3).bind fun t130 => (if t130 = true then (spec_EntriesOk.l0 k xs ((i + 1 : Nat) : Int)) else (some false))) else (spec_EntriesOk.l0 k xs ((i + 1 : Nat) : Int))) else (some false))) (fun k => ?_) (Ev.bind (spec_l3Entry_ev e) ?_)
    · simp only [spec_EntriesOk.l0]
      rw [if_pos (by omega), if_pos (by omega), e1, w64s (by omega)]
      by_cases hi : (i : Int) > 0
      · simp only [if_pos hi, if_pos (show (0 : Int) ≤ wrap64 ((i : Int) - 1) by rw [w64 (by omega) (by omega)]; omega), if_pos (show wrap64 ((i : Int) - 1) < (xs.length : Int) by rw [w64 (by omega) (by omega)]; omega)]
      · simp only [if_neg hi]
    · unfold okL
      cases he : entOk e with
      | false => exact evNeg (by simp) (Ev.now _)
      | true =>
        refine evPos rfl ?_
        rw [Bool.true_and]
        by_cases hi : i = 0
        · subst hi
          refine evNeg (by omega) (evEq ih ?_)
          simp [prev]
        · obtain ⟨q, hq⟩ : ∃ q, xs[i - 1]? = some q := ⟨_, List.getElem?_eq_getElem (by omega)⟩
          have e2 : rd_T49 xs (wrap64 ((i : Int) - 1)) = q := by
            rw [w64 (by omega) (by omega), show (i : Int) - 1 = ((i - 1 : Nat) : Int) by omega]
            exact getD_at hq
          refine evPos (by omega) ?_
          rw [e2]
          refine Ev.bind (spec_l3Ahead_ev q e) ?_
          simp only [prev, if_neg hi, hq]
          cases ahead q e with
          | false => exact evNeg (by simp) (Ev.now _)
          | true => exact evPos rfl (evEq ih (by rw [Bool.true_and]))
theorem spec_EntriesOk_ev (xs : List S49) : Ev (fun k => spec_EntriesOk.f k xs) (entriesOk xs) := by
  simp only [spec_EntriesOk.f]
  unfold entriesOk
  by_cases h : (xs.length : Int) > 300
  · rw [decide_eq_false (by omega)]; exact evPos h (Ev.now _)
  · rw [decide_eq_true (by omega), Bool.true_and]
    exact evNeg h (spec_EntriesOk_l0_ev xs (by omega) xs 0 rfl)

theorem impl_within_ev (a b c : Int) : Ev (fun _ => impl_within.f a b c) (within a b c) := by
  refine evId (fun _ => ?_)
  unfold impl_within.f within
  by_cases h : a ≥ b
  · rw [if_pos h, decide_eq_true (show b ≤ a from h), Bool.true_and]
  · rw [if_neg h, decide_eq_false (show ¬ b ≤ a from h), Bool.false_and]

def ordI (x y : Int) : Int := if x < y then -1 else if x > y then 1 else 0
def ordS (x y : ByteArray) : Int := if Op.bytesLess x.toList y.toList = true then -1 else if Op.bytesLess y.toList x.toList = true then 1 else 0
def byOrder (a b : S49) : Int := if ordS a.f0 b.f0 = 0 then ordI b.f2 a.f2 else ordS a.f0 b.f0
theorem cmp_Compare_string_ev (x y : ByteArray) : Ev (fun _ => cmp_Compare_string.f x y) (ordS x y) := by
  refine evId (fun _ => ?_)
  unfold cmp_Compare_string.f cmp_isNaN_string.f ordS
  simp only [bne_self_eq_false, Option.bind_some, Bool.false_eq_true, if_false]
  split
  · rfl
  · split <;> rfl
theorem cmp_Compare_int64_ev (x y : Int) : Ev (fun _ => cmp_Compare_int64.f x y) (ordI x y) := by
  refine evId (fun _ => ?_)
  unfold cmp_Compare_int64.f cmp_isNaN_int64.f ordI
  simp only [bne_self_eq_false, Option.bind_some, Bool.false_eq_true, if_false]
  split
  · rfl
  · split <;> rfl
theorem cmp_Or_two (x y : Int) : Ev (fun k => cmp_Or_int.f k [x, y]) (if x = 0 then y else x) := by
  simp only [cmp_Or_int.f]
  refine ⟨3, fun k hk => ?_⟩
  obtain ⟨m, rfl⟩ : ∃ m, k = m + 3 := ⟨k - 3, by omega⟩
  have w1 : wrap64 (0 + 1) = 1 := w64 (x := 0 + 1) (by decide) (by decide)
  have w2 : wrap64 (1 + 1) = 2 := w64 (x := 1 + 1) (by decide) (by decide)
  have e0 : rd [x, y] 0 = x := rfl
  have e1 : rd [x, y] 1 = y := rfl
  simp only [cmp_Or_int.l0, w1, w2, e0, e1]
  by_cases hx : x = 0
  · by_cases hy : y = 0
    · simp [hx, hy]
    · simp [hx, hy]
  · simp [hx]
theorem impl_byOrder_ev (a b : S49) : Ev (fun k => impl_byOrder.f k a.f0 a.f1 a.f2 a.f3 b.f0 b.f1 b.f2 b.f3) (byOrder a b) := by
  simp only [impl_byOrder.f]
  exact Ev.bind (cmp_Compare_string_ev a.f0 b.f0) (Ev.bind (cmp_Compare_int64_ev b.f2 a.f2) (Ev.bind (cmp_Or_two _ _) (Ev.now _)))
theorem byOrder_ahead (a b : S49) : decide (byOrder a b ≥ 0) = !ahead a b := by
  unfold byOrder ahead ordS ordI
  cases h1 : Op.bytesLess a.f0.toList b.f0.toList with
  | true => simp
  | false =>
    cases h2 : Op.bytesLess b.f0.toList a.f0.toList with
    | true =>
      have : a.f0.toList ≠ b.f0.toList := by
        intro h
        rw [h, less_irrefl] at h2
        cases h2
      simp [this]
    | false =>
      have := less_tri _ _ h1 h2
      simp only [Bool.false_eq_true, if_false, if_true, this, decide_true, Bool.true_and, Bool.false_or]
      by_cases h3 : b.f2 < a.f2
      · rw [if_pos h3, decide_eq_true (show a.f2 > b.f2 from h3)]; decide
      · rw [if_neg h3, decide_eq_false (show ¬ a.f2 > b.f2 from h3)]
        split <;> decide

theorem impl_within_eq (a b c : Int) : impl_within.f a b c = some (within a b c) := by
  obtain ⟨k, h⟩ := (impl_within_ev a b c).rounds
  exact h
theorem impl_entryOk_ev (e : S49) : Ev (fun _ => impl_entryOk.f e.f0 e.f1 e.f2 e.f3) (entOk e) := by
  obtain ⟨a, b, c, g⟩ := e
  refine evId (fun _ => ?_)
  unfold impl_entryOk.f entOk
  simp only [impl_within_eq, Option.bind_some]
  cases h1 : within (a.size : Int) 1 40 with
  | false => simp
  | true =>
    rw [if_pos rfl]
    by_cases h3 : (b.size : Int) ≤ 200
    · rw [if_pos h3, decide_eq_true h3]
      cases g with
      | false => simp
      | true =>
        rw [if_pos rfl]
        by_cases h4 : b.toList = ([] : List UInt8)
        · rw [if_pos h4]; simp [h4]
        · rw [if_neg h4]; simp [h4]
    · rw [if_neg h3, decide_eq_false h3]; simp
theorem impl_EntriesOk_l0_ev (xs : List S49) (hl : xs.length ≤ 1000000000000000000) : ∀ (bs : List S49) (i : Nat), xs.drop i = bs → Ev (fun k => impl_EntriesOk.l0 k xs xs (xs.length : Int) i) (okL (prev xs i) bs)
  | [], i, hd => by
    have := drop_nil hd
    refine Ev.step (f := fun _ => some true) (fun k => ?_) (Ev.now _)
    simp only [impl_EntriesOk.l0]
    rw [if_neg (by omega)]
  | e :: bs, i, hd => by
    obtain ⟨h2, h3, h4⟩ := drop_cons hd
    have e1 : rd_T49 xs (i : Int) = e := getD_at h4
    have ih := impl_EntriesOk_l0_ev xs hl bs (i + 1) h3
    rw [prev_succ h4] at ih
    refine Ev.step (f := fun k => (impl_entryOk.f e.f0 e.f1 e.f2 e.f3).bind fun t127 => (if t127 = true then (if (i : Int) > 0 then ((impl_byOrder.f k (rd_T49 xs (wrap64 ((i : Int) - 1))).f0 (rd_T49 xs (wrap64 ((i : Int) - 1))).f1 (rd_T49 xs (wrap64 ((i : Int) - 1))).f2 (rd_T49 xs (wrap64 ((i : Int) - 1))).f3 e.f0 e.f1 e.f2 e.f3).bind fun t130 => (if t130 ≥ 0 then (some false) else (impl_EntriesOk.l0 k xs xs (xs.length : Int) ((i + 1 : Nat) : Int)))) else (impl_EntriesOk.l0 k xs xs (xs.length : Int) ((i + 1 : Nat) : Int))) else (some false))) (fun k => ?_) (Ev.bind (impl_entryOk_ev e) ?_)
    · simp only [impl_EntriesOk.l0]
      rw [if_pos (by omega), if_pos (by omega), if_pos (by omega), e1, w64s (by omega)]
      by_cases hi : (i : Int) > 0
      · simp only [if_pos hi, if_pos (show (0 : Int) ≤ wrap64 ((i : Int) - 1) by rw [w64 (by omega) (by omega)]; omega), if_pos (show wrap64 ((i : Int) - 1) < (xs.length : Int) by rw [w64 (by omega) (by omega)]; omega)]
      · simp only [if_neg hi]
    · unfold okL
      cases he : entOk e with
      | false => exact evNeg (by simp) (Ev.now _)
      | true =>
        refine evPos rfl ?_
        rw [Bool.true_and]
        by_cases hi : i = 0
        · subst hi
          refine evNeg (by omega) (evEq ih ?_)
          simp [prev]
        · obtain ⟨q, hq⟩ : ∃ q, xs[i - 1]? = some q := ⟨_, List.getElem?_eq_getElem (by omega)⟩
          have e2 : rd_T49 xs (wrap64 ((i : Int) - 1)) = q := by
            rw [w64 (by omega) (by omega), show (i : Int) - 1 = ((i - 1 : Nat) : Int) by omega]
            exact getD_at hq
          refine evPos (by omega) ?_
          rw [e2]
          refine Ev.bind (impl_byOrder_ev q e) ?_
          simp only [prev, if_neg hi, hq]
          have hb := byOrder_ahead q e
          cases ha : ahead q e with
          | false =>
            rw [ha] at hb
            exact evPos (of_decide_eq_true hb) (Ev.now _)
          | true =>
            rw [ha] at hb
            exact evNeg (of_decide_eq_false hb) (evEq ih (by rw [Bool.true_and]))
theorem impl_EntriesOk_ev (xs : List S49) : Ev (fun k => impl_EntriesOk.f k xs) (entriesOk xs) := by
  simp only [impl_EntriesOk.f]
  unfold entriesOk
  by_cases h : (xs.length : Int) > 300
  · rw [decide_eq_false (by omega)]; exact evPos h (Ev.now _)
  · rw [decide_eq_true (by omega), Bool.true_and]
    exact evNeg h (impl_EntriesOk_l0_ev xs (by omega) xs 0 rfl)

def shownL (q : Int) (last : ByteArray) (acc : List S49) : List S49 → List S49
  | [] => acc
  | e :: es => if e.f2 > q ∨ e.f0.toList = last.toList then shownL q last acc es else shownL q e.f0 (if e.f3 = true then acc else acc ++ [e]) es
def shown (xs : List S49) (q : Int) : List S49 := if entriesOk xs = true then shownL q (⟨#[]⟩ : ByteArray) [] xs else []
theorem shownL_le (q : Int) : ∀ (xs : List S49) (last : ByteArray) (acc : List S49), (shownL q last acc xs).length ≤ acc.length + xs.length
  | [], _, acc => by simp [shownL]
  | e :: es, last, acc => by
    unfold shownL
    split
    · have := shownL_le q es last acc; rw [List.length_cons]; omega
    · have := shownL_le q es e.f0 (if e.f3 = true then acc else acc ++ [e])
      have h2 : (if e.f3 = true then acc else acc ++ [e]).length ≤ acc.length + 1 := by split <;> simp
      rw [List.length_cons]
      omega
theorem spec_l3Shown_l0_ev (xs : List S49) (hl : xs.length ≤ 1000000000) (q : Int) : ∀ (bs : List S49) (i : Nat) (acc : List S49) (last : ByteArray), xs.drop i = bs → acc.length + bs.length ≤ 1000000000 → Ev (fun k => spec_l3Shown.l0 k xs q acc last i) (shownL q last acc bs)
  | [], i, acc, last, hd, ha => by
    have := drop_nil hd
    refine Ev.step (f := fun _ => some acc) (fun k => ?_) (Ev.now _)
    simp only [spec_l3Shown.l0]
    rw [if_neg (by omega)]
  | e :: bs, i, acc, last, hd, ha => by
    obtain ⟨h2, h3, h4⟩ := drop_cons hd
    have e1 : rd_T49 xs (i : Int) = e := getD_at h4
    rw [List.length_cons] at ha
    refine Ev.step (f := fun k => spec_l3Shown.j1 k xs q acc last i (decide (e.f2 > q ∨ e.f0.toList = last.toList))) (fun k => ?_) ?_
    · simp only [spec_l3Shown.l0]
      rw [if_pos (by omega), if_pos (by omega), e1]
      by_cases h5 : e.f2 > q
      · rw [if_pos h5, decide_eq_true (Or.inl h5)]
      · rw [if_neg h5]
        congr 1
        rw [Bool.eq_iff_iff]
        simp [h5]
    · unfold shownL
      by_cases h : e.f2 > q ∨ e.f0.toList = last.toList
      · rw [if_pos h, decide_eq_true h]
        refine Ev.step (f := fun k => spec_l3Shown.l0 k xs q acc last ((i + 1 : Nat) : Int)) (fun k => ?_) (spec_l3Shown_l0_ev xs hl q bs (i + 1) acc last h3 (by omega))
        simp only [spec_l3Shown.j1]
        rw [if_pos trivial, w64s (by omega)]
      · rw [if_neg h, decide_eq_false h]
        cases hg : e.f3 with
        | true =>
          rw [if_pos rfl]
          refine Ev.step (f := fun k => spec_l3Shown.l0 k xs q acc e.f0 ((i + 1 : Nat) : Int)) (fun k => ?_) (spec_l3Shown_l0_ev xs hl q bs (i + 1) acc e.f0 h3 (by omega))
          simp only [spec_l3Shown.j1]
          rw [if_neg (by decide), if_pos (by omega), if_pos (by omega), e1, if_pos hg, w64s (by omega)]
        | false =>
          rw [if_neg (by decide)]
          refine Ev.step (f := fun k => spec_l3Shown.l0 k xs q (acc ++ [e]) e.f0 ((i + 1 : Nat) : Int)) (fun k => ?_) (spec_l3Shown_l0_ev xs hl q bs (i + 1) (acc ++ [e]) e.f0 h3 (by rw [List.length_append, List.length_singleton]; omega))
          simp only [spec_l3Shown.j1]
          rw [if_neg (by decide), if_pos (by omega), if_pos (by omega), e1, if_neg (by rw [hg]; decide), if_pos (by omega), w64s (by omega)]
theorem spec_l3Shown_ev (xs : List S49) (hl : xs.length ≤ 1000000) (q : Int) : Ev (fun k => spec_l3Shown.f k xs q) (shownL q (⟨#[]⟩ : ByteArray) [] xs) :=
  spec_l3Shown_l0_ev xs (by omega) q xs 0 [] _ rfl (by simp; omega)
theorem spec_Shown_ev (xs : List S49) (q : Int) : Ev (fun k => spec_Shown.f k xs q) (shown xs q) := by
  simp only [spec_Shown.f]
  refine Ev.bind (spec_EntriesOk_ev xs) ?_
  unfold shown
  by_cases h : entriesOk xs = true
  · rw [if_pos h]
    have hl : xs.length ≤ 300 := by
      unfold entriesOk at h
      simp only [Bool.and_eq_true, decide_eq_true_eq] at h
      exact h.1
    exact evPos h (Ev.bind (spec_l3Shown_ev xs (by omega) q) (Ev.now _))
  · rw [if_neg h]
    exact evNeg h (Ev.now _)
theorem impl_shown_l0_ev (xs : List S49) (hl : xs.length ≤ 1000000000) (q : Int) : ∀ (bs : List S49) (i : Nat) (acc : List S49) (last : ByteArray), xs.drop i = bs → acc.length + bs.length ≤ 1000000000 → Ev (fun k => impl_shown.l0 k q acc last xs (xs.length : Int) i) (shownL q last acc bs)
  | [], i, acc, last, hd, ha => by
    have := drop_nil hd
    refine Ev.step (f := fun _ => some acc) (fun k => ?_) (Ev.now _)
    simp only [impl_shown.l0]
    rw [if_neg (by omega)]
  | e :: bs, i, acc, last, hd, ha => by
    obtain ⟨h2, h3, h4⟩ := drop_cons hd
    have e1 : rd_T49 xs (i : Int) = e := getD_at h4
    rw [List.length_cons] at ha
    refine Ev.step (f := fun k => impl_shown.j1 k q acc last xs (xs.length : Int) i (decide (e.f2 > q ∨ e.f0.toList = last.toList)) e.f0 e.f1 e.f2 e.f3) (fun k => ?_) ?_
    · simp only [impl_shown.l0]
      rw [if_pos (by omega), if_pos (by omega), if_pos (by omega), e1]
      by_cases h5 : e.f0.toList = last.toList
      · rw [if_pos h5, decide_eq_true (Or.inr h5)]
      · rw [if_neg h5]
        congr 1
        rw [Bool.eq_iff_iff]
        simp [h5]
    · unfold shownL
      by_cases h : e.f2 > q ∨ e.f0.toList = last.toList
      · rw [if_pos h, decide_eq_true h]
        refine Ev.step (f := fun k => impl_shown.l0 k q acc last xs (xs.length : Int) ((i + 1 : Nat) : Int)) (fun k => ?_) (impl_shown_l0_ev xs hl q bs (i + 1) acc last h3 (by omega))
        simp only [impl_shown.j1]
        rw [if_pos trivial, w64s (by omega)]
      · rw [if_neg h, decide_eq_false h]
        cases hg : e.f3 with
        | true =>
          rw [if_pos rfl]
          refine Ev.step (f := fun k => impl_shown.l0 k q acc e.f0 xs (xs.length : Int) ((i + 1 : Nat) : Int)) (fun k => ?_) (impl_shown_l0_ev xs hl q bs (i + 1) acc e.f0 h3 (by omega))
          simp only [impl_shown.j1]
          rw [if_neg (by decide), if_pos trivial, w64s (by omega)]
        | false =>
          rw [if_neg (by decide)]
          refine Ev.step (f := fun k => impl_shown.l0 k q (acc ++ [e]) e.f0 xs (xs.length : Int) ((i + 1 : Nat) : Int)) (fun k => ?_) (impl_shown_l0_ev xs hl q bs (i + 1) (acc ++ [e]) e.f0 h3 (by rw [List.length_append, List.length_singleton]; omega))
          simp only [impl_shown.j1]
          rw [if_neg (by decide), if_neg (by decide), if_pos (by omega), w64s (by omega)]
          rw [← hg]
theorem impl_shown_ev (xs : List S49) (hl : xs.length ≤ 1000000) (q : Int) : Ev (fun k => impl_shown.f k xs q) (shownL q (⟨#[]⟩ : ByteArray) [] xs) :=
  impl_shown_l0_ev xs (by omega) q xs 0 [] _ rfl (by simp; omega)
theorem impl_Shown_ev (xs : List S49) (q : Int) : Ev (fun k => impl_Shown.f k xs q) (shown xs q) := by
  simp only [impl_Shown.f]
  refine Ev.bind (impl_EntriesOk_ev xs) ?_
  unfold shown
  by_cases h : entriesOk xs = true
  · rw [if_pos h]
    have hl : xs.length ≤ 300 := by
      unfold entriesOk at h
      simp only [Bool.and_eq_true, decide_eq_true_eq] at h
      exact h.1
    exact evPos h (Ev.bind (impl_shown_ev xs (by omega) q) (Ev.now _))
  · rw [if_neg h]
    exact evNeg h (Ev.now _)
theorem shown_le (xs : List S49) (q : Int) : (shown xs q).length ≤ xs.length := by
  unfold shown
  split
  · have := shownL_le q xs (⟨#[]⟩ : ByteArray) []; simpa using this
  · simp

theorem laws_markText_l0_ev (n : Nat) : ∀ (s : ByteArray), s.size + n ≤ 2000000000000000000 → ∃ t, Ev (fun k => laws_markText.l0 k (n : Int) s) t := by
  induction n using Nat.strongRecOn with
  | ind n ih =>
    intro s hs
    by_cases h : n = 0
    · subst h
      refine ⟨_, Ev.step (f := fun _ => some ((⟨#[109]⟩ : ByteArray) ++ s)) (fun k => ?_) (Ev.now _)⟩
      simp only [laws_markText.l0]
      rw [if_neg (by simp), if_pos (by omega)]
    · have hsz : (strOfNums [wrap64 (48 + Int.tmod (n : Int) 10) % 256]).size = 1 := by rw [strOfNums_size]; rfl
      obtain ⟨t, ht⟩ := ih (n / 10) (by omega) (strOfNums [wrap64 (48 + Int.tmod (n : Int) 10) % 256] ++ s) (by rw [ByteArray.size_append, hsz]; omega)
      refine ⟨t, Ev.step (f := fun k => laws_markText.l0 k ((n / 10 : Nat) : Int) (strOfNums [wrap64 (48 + Int.tmod (n : Int) 10) % 256] ++ s)) (fun k => ?_) ht⟩
      simp only [laws_markText.l0]
      rw [if_pos (by omega)]
      simp only [Option.bind_some]
      rw [if_pos (by rw [hsz]; omega), Int.tdiv_eq_ediv_of_nonneg (by omega), w64 (x := (n : Int) / 10) (by omega) (by omega)]
      rfl
theorem laws_markText_ex (a : Int) (h : a ≤ 1500000000000000000) : ∃ t, Ev (fun k => laws_markText.f k a) t := by
  simp only [laws_markText.f]
  by_cases h0 : a ≤ 0
  · exact ⟨_, evPos h0 (Ev.now _)⟩
  · obtain ⟨t, ht⟩ := laws_markText_l0_ev a.toNat (⟨#[]⟩ : ByteArray) (by show 0 + _ ≤ _; omega)
    rw [show ((a.toNat : Nat) : Int) = a by omega] at ht
    exact ⟨t, evNeg h0 ht⟩
/-- The text by which a place is marked. -/
noncomputable def mtx (a : Int) : ByteArray := by
  classical
  exact if h : ∃ t, Ev (fun k => laws_markText.f k a) t then Classical.choose h else ByteArray.empty
theorem mtx_ev (a : Int) (h : a ≤ 1500000000000000000) : Ev (fun k => laws_markText.f k a) (mtx a) := by
  unfold mtx
  rw [dif_pos (laws_markText_ex a h)]
  exact Classical.choose_spec (laws_markText_ex a h)

/-- The entry by which a place is marked. -/
noncomputable def mte (a : Int) : S49 := ⟨mtx a, mtx (a + 1), a + 2, ((a + 3) % 3 == 0)⟩
theorem getD_set {α : Type} (xs : List α) (i : Nat) (h : i < xs.length) (v d : α) : (xs.set i v).getD ((i : Int)).toNat d = v := by
  simp [List.getD_eq_getElem?_getD, List.getElem?_set, h]
theorem laws_markEntryS_ev (xs : List S49) (hl : xs.length ≤ 1000000000000000) (a : Int) (h1 : 1 ≤ a) (h2 : a ≤ 10000000000000000) : Ev (fun k => laws_markEntryS.f k xs a) (a + 4 * xs.length, marksOf mte 4 xs.length a) := by
  refine mark_loop laws_markEntryS.l0 mte 4 (by decide) (fun k xs a i h => ?_) (fun xs a i r h hi h1 h2 hr => ?_) xs hl a h1 h2
  · simp only [laws_markEntryS.l0]
    rw [if_neg (by omega)]
  · have e1 : wrap64 (a + 1) = a + 1 := w64 (by omega) (by omega)
    have e2 : wrap64 (a + 1 + 1) = a + 2 := w64 (x := a + 1 + 1) (by omega) (by omega) |>.trans (by omega)
    have e3 : wrap64 (a + 2 + 1) = a + 3 := w64 (x := a + 2 + 1) (by omega) (by omega) |>.trans (by omega)
    have e4 : wrap64 (a + 3 + 1) = a + 4 := w64 (x := a + 3 + 1) (by omega) (by omega) |>.trans (by omega)
    refine Ev.step (f := fun k => (laws_markText.f k a).bind fun t => (laws_markText.f k (a + 1)).bind fun u => laws_markEntryS.l0 k (xs.set i ⟨t, u, a + 2, ((a + 3) % 3 == 0)⟩) (a + 4) ((i + 1 : Nat) : Int)) (fun k => ?_) (Ev.bind (mtx_ev a (by omega)) (Ev.bind (mtx_ev (a + 1) (by omega)) hr))
    simp only [laws_markEntryS.l0]
    rw [if_pos (by omega)]
    simp only [if_pos (show (0 : Int) ≤ i by omega), Option.bind_some, e1, e2, e3, e4, w64s (show i ≤ 1000000000000000000 by omega), rd_T49, getD_set _ _ h, getD_set _ _ (show i < (xs.set i _).length by simpa using h), Int.toNat_natCast, List.set_set]
    congr 1
    funext t
    congr 1
    funext u
    rw [Int.tmod_eq_emod_of_nonneg (by omega)]
    have g1 : ∀ (ys : List S49) (v d : S49), i < ys.length → (ys.set i v).getD i d = v := fun ys v d hh => by simp [List.getD_eq_getElem?_getD, List.getElem?_set, hh]
    simp only [g1 _ _ _ h, g1 _ _ _ (show i < (xs.set i _).length by simpa using h)]
theorem laws_heldEntryS_ev (n : Nat) (hl : n ≤ 1000000000000000) (a : Int) (h1 : 1 ≤ a) (h2 : a ≤ 10000000000000000) : Ev (fun k => laws_heldEntryS.f k (marksOf mte 4 n a) a) (a + 4 * n) := by
  refine held_loop laws_heldEntryS.l0 mte 4 (by decide) (fun k xs a i h => ?_) (fun xs a i r h hi hi2 h1 h2 hr => ?_) n hl a h1 h2
  · simp only [laws_heldEntryS.l0]
    rw [if_neg (by omega)]
  · have e1 : wrap64 (a + 1) = a + 1 := w64 (by omega) (by omega)
    have e2 : wrap64 (a + 1 + 1) = a + 2 := w64 (x := a + 1 + 1) (by omega) (by omega) |>.trans (by omega)
    have e3 : wrap64 (a + 2 + 1) = a + 3 := w64 (x := a + 2 + 1) (by omega) (by omega) |>.trans (by omega)
    have e4 : wrap64 (a + 3 + 1) = a + 4 := w64 (x := a + 3 + 1) (by omega) (by omega) |>.trans (by omega)
    have e5 : rd_T49 xs (i : Int) = mte a := getD_at h
    have e6 : Int.tmod (a + 3) 3 = (a + 3) % 3 := Int.tmod_eq_emod_of_nonneg (by omega)
    refine Ev.step (fun k => by simp only [laws_heldEntryS.l0]; rw [if_pos (by omega), if_pos (by omega), e5, e1, e2, e3, e4, e6, w64s (by omega)]) ?_
    refine Ev.bind (mtx_ev a (by omega)) (evPos rfl (Ev.bind (mtx_ev (a + 1) (by omega)) (evPos rfl (evPos rfl (evNeg ?_ hr)))))
    simp [mte]

theorem FnExactShown (xs : List S82) (q : Int) (hm : xs.length ≤ maxLen) (hw : ∀ e ∈ xs, e.f0.size ≤ maxLen ∧ e.f1.size ≤ maxLen ∧ (Lit.int .i64 e.f2).wf = true ∧ True) (hq : (Lit.int .i64 q).wf = true) : ∃ k, laws_FnExactShown.f k xs q = some true := by
  refine Ev.rounds (g := fun k => laws_FnExactShown.f k xs q) ?_
  simp only [laws_FnExactShown.f]
  obtain ⟨r, hr, _, _, hk⟩ := laws_szEntryS_ev xs hm (fun e h => ⟨(hw e h).1, (hw e h).2.1⟩) 1048576 (by decide) (by decide)
  refine Ev.bind hr ?_
  by_cases h1 : r < 0
  · exact evPos h1 (Ev.now _)
  obtain ⟨hl, hs⟩ := hk (by omega)
  have toS := laws_toEntryS_ev xs (by omega)
  have hle := shown_le (xs.map toE) q
  have hle' : (shown (xs.map toE) q).length ≤ 1048576 := by rw [List.length_map] at hle; omega
  have hself := laws_eqEntryS_self (shown (xs.map toE) q) (by omega)
  have hmark := laws_markEntryS_ev (shown (xs.map toE) q) (by omega) 1 (by decide) (by decide)
  have hheld := laws_heldEntryS_ev (shown (xs.map toE) q).length (by omega) 1 (by decide) (by decide)
  refine evNeg h1 (Ev.bind toS (Ev.bind (spec_Shown_ev _ _) (Ev.bind toS (Ev.bind (impl_Shown_ev _ _) (Ev.bind hself (evPos rfl (Ev.bind toS (Ev.bind (laws_eqEntryS_self _ (by simp; omega)) (evPos rfl (Ev.bind (laws_markEntryS_ev _ (by simp; omega) 1 (by decide) (by decide)) (evNeg (by omega) (Ev.bind hself ?_))))))))))))
  refine Ev.step (fun k => by simp only [laws_FnExactShown.j0]; exact rfl) ?_
  refine evNeg (by simp) (Ev.bind hmark (Ev.bind hheld (evNeg (by omega) (evPos rfl ?_))))
  exact Ev.bind toS (Ev.bind (impl_Shown_ev _ _) (Ev.bind hself (evPos rfl (Ev.bind hheld (evNeg (by omega) (evPos rfl (Ev.now _)))))))
end Go.Proofs.Ythkhfmomibfkjaa.Pure

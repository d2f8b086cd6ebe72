/- Proves the plain law behind this statement of the seat (what its functions come to, over numbers and lists): that it answers true. No condition beyond the statement's own. -/
import Derived.Test.YthkhfmomibfkjaaPFnExactSeenx
import Derived.Test.YthkhfmomibfkjaaLib
import Derived.Test.YthkhfmomibfkjaaLibRow
import Derived.Test.YthkhfmomibfkjaaLibStr
namespace Go.Proofs.Ythkhfmomibfkjaa.Pure
open Go Go.RowKit Go.Proofs.Ythkhfmomibfkjaa.PFnExactSeen Go.Proofs.YthkhfmomibfkjaaW.PrintWords Go.Proofs.YthkhfmomibfkjaaW.PrintLast Go.Proofs.YthkhfmomibfkjaaW.PrintMore Go.Proofs.Ythkhfmomibfkjaa.Lib
set_option linter.unusedVariables false
set_option linter.unusedSimpArgs false
def szE (left : Int) : List S82 → Int
  | [] => left
  | e :: xs => if left - e.f0.size < 0 ∨ left - e.f0.size - e.f1.size < 0 then -1 else szE (left - e.f0.size - e.f1.size) xs
theorem szE_bd : ∀ (xs : List S82) (left : Int), 0 ≤ szE left xs → 0 ≤ left → ∀ e ∈ xs, (e.f0.size : Int) ≤ left ∧ (e.f1.size : Int) ≤ left
  | [], _, _, _, s, hs => by simp at hs
  | x :: xs, left, h, h0, s, hs => by
    unfold szE at h
    by_cases hx : left - x.f0.size < 0 ∨ left - x.f0.size - x.f1.size < 0
    · rw [if_pos hx] at h; omega
    · rw [if_neg hx] at h
      rcases List.mem_cons.1 hs with rfl | hs
      · omega
      · have := szE_bd xs _ h (by omega) s hs
        omega
theorem szE_range : ∀ (xs : List S82) (left : Int), 0 ≤ left → -1 ≤ szE left xs ∧ szE left xs ≤ left
  | [], left, h => by unfold szE; omega
  | x :: xs, left, h => by
    unfold szE
    by_cases hx : left - x.f0.size < 0 ∨ left - x.f0.size - x.f1.size < 0
    · rw [if_pos hx]; omega
    · rw [if_neg hx]
      have := szE_range xs (left - x.f0.size - x.f1.size) (by omega)
      omega
theorem laws_szEntry_eq (e : S82) (left : Int) (h0 : 0 ≤ left) (h1 : left ≤ 1048576) (hb : e.f0.size ≤ maxLen ∧ e.f1.size ≤ maxLen) :
    laws_szEntry.f e.f0 e.f1 e.f2 e.f3 left = some (if left - e.f0.size < 0 ∨ left - e.f0.size - e.f1.size < 0 then -1 else left - e.f0.size - e.f1.size) := by
  have hm : maxLen = 9223372036854775807 := rfl
  have e1 : wrap64 (left - (e.f0.size : Int)) = left - e.f0.size := w64 (by omega) (by omega)
  simp only [laws_szEntry.f, e1]
  by_cases hx : left - (e.f0.size : Int) < 0
  · rw [if_pos hx, if_pos (Or.inl hx)]
  · have e2 : wrap64 (left - (e.f0.size : Int) - (e.f1.size : Int)) = left - e.f0.size - e.f1.size := w64 (by omega) (by omega)
    rw [if_neg hx, e2]
    by_cases hy : left - (e.f0.size : Int) - (e.f1.size : Int) < 0
    · rw [if_pos hy, if_pos (Or.inr hy)]
    · rw [if_neg hy, if_neg (fun h => h.elim hx hy)]
theorem laws_szEntryS_l0_ev (xs : List S82) (hl : xs.length ≤ 1000000000000000000) (hs : ∀ e ∈ xs, e.f0.size ≤ maxLen ∧ e.f1.size ≤ maxLen) : ∀ (bs : List S82) (i : Nat) (left : Int), xs.drop i = bs → 0 ≤ left → left ≤ 1048576 → Ev (fun k => laws_szEntryS.l0 k xs left i) (szE left bs)
  | [], i, left, hd, h0, h1 => by
    have := drop_nil hd
    refine Ev.step (f := fun _ => some left) (fun k => ?_) (Ev.now _)
    simp only [laws_szEntryS.l0]
    rw [if_neg (by omega)]
  | b :: bs, i, left, hd, h0, h1 => by
    obtain ⟨h2, h3, h4⟩ := drop_cons hd
    have e1 : rd_T82 xs (i : Int) = b := getD_at h4
    have e2 := laws_szEntry_eq b left h0 h1 (hs b (List.mem_of_getElem? h4))
    unfold szE
    by_cases hx : left - b.f0.size < 0 ∨ left - b.f0.size - b.f1.size < 0
    · rw [if_pos hx] at e2 ⊢
      refine Ev.step (f := fun _ => some (-1)) (fun k => ?_) (Ev.now _)
      simp only [laws_szEntryS.l0]
      rw [if_pos (by omega), if_pos (by omega), e1, e2]
      rfl
    · rw [if_neg hx] at e2 ⊢
      refine Ev.step (f := fun k => laws_szEntryS.l0 k xs (left - b.f0.size - b.f1.size) ((i + 1 : Nat) : Int)) (fun k => ?_) (laws_szEntryS_l0_ev xs hl hs bs (i + 1) _ h3 (by omega) (by omega))
      simp only [laws_szEntryS.l0]
      rw [if_pos (by omega), if_pos (by omega), e1, e2]
      simp only [Option.bind_some]
      rw [if_neg (by omega), w64s (by omega)]
theorem laws_szEntryS_ev (xs : List S82) (hl : xs.length ≤ maxLen) (hs : ∀ e ∈ xs, e.f0.size ≤ maxLen ∧ e.f1.size ≤ maxLen) (left : Int) (h0 : 0 ≤ left) (h1 : left ≤ 1048576) :
    ∃ r, Ev (fun k => laws_szEntryS.f k xs left) r ∧ -1 ≤ r ∧ r ≤ left ∧ (0 ≤ r → (xs.length : Int) ≤ left ∧ ∀ e ∈ xs, (e.f0.size : Int) ≤ left ∧ (e.f1.size : Int) ≤ left) := by
  have hm : maxLen = 9223372036854775807 := rfl
  have e : wrap64 (left - (xs.length : Int)) = left - xs.length := w64 (by omega) (by omega)
  by_cases h : left - (xs.length : Int) < 0
  · refine ⟨-1, ?_, by omega, by omega, fun h => by omega⟩
    simp only [laws_szEntryS.f]
    exact evPos (by rw [e]; exact h) (Ev.now _)
  · refine ⟨szE (left - xs.length) xs, ?_, ?_, ?_, fun hr => ⟨by omega, fun s h' => ?_⟩⟩
    · simp only [laws_szEntryS.f]
      refine evNeg (by rw [e]; exact h) ?_
      rw [e]
      exact laws_szEntryS_l0_ev xs (by omega) hs xs 0 _ rfl (by omega) (by omega)
    · exact (szE_range xs _ (by omega)).1
    · have := (szE_range xs (left - xs.length) (by omega)).2; omega
    · have := szE_bd xs _ hr (by omega) s h'; omega

/-- The law's record as the program's. -/
def toE (x : S82) : S49 := ⟨x.f0, x.f1, x.f2, x.f3⟩
theorem laws_toEntryS_ev (xs : List S82) (hl : xs.length ≤ 5864062014805) : Ev (fun k => laws_toEntryS.f k xs) (xs.map toE) := by
  simp only [laws_toEntryS.f]
  refine evPos (by omega) (evPos (by omega) ?_)
  exact copy_loop laws_toEntryS.l0 toE z49 (fun k xs ys i h => by simp only [laws_toEntryS.l0]; rw [if_neg (by omega)])
    (fun k xs ys i a hi ha h1 h2 => by
      simp only [laws_toEntryS.l0, laws_toEntry.f, Option.bind_some]
      rw [if_pos (by omega), if_pos (by omega), if_pos (by omega), w64s (by omega), show rd_T82 xs (i : Int) = a from getD_at ha, Int.toNat_natCast]
      rfl) xs (by omega)

theorem laws_eqEntry_self (e : S49) : laws_eqEntry.f e.f0 e.f1 e.f2 e.f3 e.f0 e.f1 e.f2 e.f3 = some true := by
  simp [laws_eqEntry.f]
theorem laws_eqEntryS_self (xs : List S49) (hl : xs.length ≤ 1000000000000000000) : Ev (fun k => laws_eqEntryS.f k xs xs) true := by
  simp only [laws_eqEntryS.f]
  refine evPos trivial (self_loop laws_eqEntryS.l0 (fun k xs i h => by simp only [laws_eqEntryS.l0]; rw [if_neg (by omega)]) (fun k xs i a hi ha h1 => ?_) xs hl)
  simp only [laws_eqEntryS.l0]
  rw [if_pos (by omega), if_pos (by omega), if_pos (by omega), laws_eqEntry_self, w64s (by omega)]
  rfl

/-- Is an entry right? -/
def entOk (e : S49) : Bool := within e.f0.size 1 40 && (decide ((e.f1.size : Int) ≤ 200) && ((!e.f3 || decide (e.f1.toList = ([] : List UInt8))) && within e.f2 1 1000000))
/-- Is the one ahead of the other? -/
def ahead (a b : S49) : Bool := Op.bytesLess a.f0.toList b.f0.toList || (decide (a.f0.toList = b.f0.toList) && decide (a.f2 > b.f2))
def okL : Option S49 → List S49 → Bool
  | _, [] => true
  | p, e :: es => entOk e && ((match p with | none => true | some q => ahead q e) && okL (some e) es)
def entriesOk (xs : List S49) : Bool := decide (xs.length ≤ 300) && okL none xs
theorem entOk_iff {e : S49} : entOk e = true ↔ (1 ≤ e.f0.size ∧ e.f0.size ≤ 40) ∧ e.f1.size ≤ 200 ∧ (e.f3 = true → e.f1.toList = []) ∧ 1 ≤ e.f2 ∧ e.f2 ≤ 1000000 := by
  unfold entOk within
  simp only [Bool.and_eq_true, Bool.or_eq_true, decide_eq_true_eq, Bool.not_eq_true']
  constructor
  · rintro ⟨⟨h1, h2⟩, h3, h4, h5, h6⟩
    refine ⟨⟨by omega, by omega⟩, by omega, fun hg => ?_, h5, h6⟩
    rcases h4 with h4 | h4
    · rw [hg] at h4; cases h4
    · exact h4
  · rintro ⟨⟨h1, h2⟩, h3, h4, h5, h6⟩
    refine ⟨⟨by omega, by omega⟩, by omega, ?_, h5, h6⟩
    cases h : e.f3 with
    | false => exact Or.inl rfl
    | true => exact Or.inr (h4 h)
/-- The entry ahead of place i. -/
def prev (xs : List S49) (i : Nat) : Option S49 := if i = 0 then none else xs[i - 1]?
theorem prev_succ {xs : List S49} {i : Nat} {e : S49} (h : xs[i]? = some e) : prev xs (i + 1) = some e := by
  unfold prev
  rw [if_neg (by omega), show i + 1 - 1 = i by omega, h]

theorem spec_l1In_ev (a b c : Int) : Ev (fun _ => spec_l1In.f a b c) (within a b c) := by
  refine evId (fun _ => ?_)
  unfold spec_l1In.f within
  by_cases h : a ≥ b
  · rw [if_pos h, decide_eq_true (show b ≤ a from h), Bool.true_and]
  · rw [if_neg h, decide_eq_false (show ¬ b ≤ a from h), Bool.false_and]

theorem spec_l3Entry_ev (e : S49) : Ev (fun _ => spec_l3Entry.f e.f0 e.f1 e.f2 e.f3) (entOk e) := by
  obtain ⟨a, b, c, g⟩ := e
  refine evId (fun _ => ?_)
  have hin : spec_l1In.f c 1 1000000 = some (within c 1 1000000) := by
    obtain ⟨k, h⟩ := (spec_l1In_ev c 1 1000000).rounds
    exact h
  unfold spec_l3Entry.f entOk
  simp only [hin, Option.bind_some]
  by_cases h1 : (a.size : Int) ≥ 1
  · by_cases h2 : (a.size : Int) ≤ 40
    · by_cases h3 : (b.size : Int) ≤ 200
      · rw [if_pos h1, if_pos h2, if_pos h3]
        have : within (a.size : Int) 1 40 = true := by simp [within]; omega
        rw [this, decide_eq_true h3]
        cases g with
        | false => simp
        | true =>
          rw [if_pos rfl]
          by_cases h4 : b.toList = ([] : List UInt8)
          · rw [if_pos h4]; simp [h4]
          · rw [if_neg h4]; simp [h4]
      · rw [if_pos h1, if_pos h2, if_neg h3, decide_eq_false h3]; simp
    · rw [if_pos h1, if_neg h2]
      have : within (a.size : Int) 1 40 = false := by simp [within]; omega
      rw [this]; simp
  · rw [if_neg h1]
    have : within (a.size : Int) 1 40 = false := by simp [within]; omega
    rw [this]; simp
theorem spec_l3Ahead_ev (a b : S49) : Ev (fun _ => spec_l3Ahead.f a.f0 a.f1 a.f2 a.f3 b.f0 b.f1 b.f2 b.f3) (ahead a b) := by
  refine evId (fun _ => ?_)
  unfold spec_l3Ahead.f ahead
  cases h : Op.bytesLess a.f0.toList b.f0.toList with
  | true => simp
  | false =>
    rw [if_neg (by simp)]
    by_cases h2 : a.f0.toList = b.f0.toList
    · rw [if_pos h2]; simp [h2]
    · rw [if_neg h2]; simp [h2]
theorem spec_EntriesOk_l0_ev (xs : List S49) (hl : xs.length ≤ 1000000000000000000) : ∀ (bs : List S49) (i : Nat), xs.drop i = bs → Ev (fun k => spec_EntriesOk.l0 k xs i) (okL (prev xs i) bs)
  | [], i, hd => by
    have := drop_nil hd
    refine Ev.step (f := fun _ => some true) (fun k => ?_) (Ev.now _)
    simp only [spec_EntriesOk.l0]
    rw [if_neg (by omega)]
  | e :: bs, i, hd => by
    obtain ⟨h2, h3, h4⟩ := drop_cons hd
    have e1 : rd_T49 xs (i : Int) = e := getD_at h4
    have ih := spec_EntriesOk_l0_ev xs hl bs (i + 1) h3
    rw [prev_succ h4] at ih
    refine Ev.step (f := fun k => (spec_l3Entry.f e.f0 e.f1 e.f2 e.f3).bind fun t127 => (if t127 = true then (if (i : Int) > 0 then ((spec_l3Ahead.f (rd_T49 xs (wrap64 ((i : Int) - 1))).f0 (rd_T49 xs (wrap64 ((i : Int) - 1))).f1 (rd_T49 xs (wrap64 ((i : Int) - 1))).f2 (rd_T49 xs (wrap64 ((i : Int) - 1))).f3 e.f0 e.f1 e.f2 e.f3).bind fun t130 => (if t130 = true then (spec_EntriesOk.l0 k xs ((i + 1 : Nat) : Int)) else (some false))) else (spec_EntriesOk.l0 k xs ((i + 1 : Nat) : Int))) else (some false))) (fun k => ?_) (Ev.bind (spec_l3Entry_ev e) ?_)
    · simp only [spec_EntriesOk.l0]
      rw [if_pos (by omega), if_pos (by omega), e1, w64s (by omega)]
      by_cases hi : (i : Int) > 0
      · simp only [if_pos hi, if_pos (show (0 : Int) ≤ wrap64 ((i : Int) - 1) by rw [w64 (by omega) (by omega)]; omega), if_pos (show wrap64 ((i : Int) - 1) < (xs.length : Int) by rw [w64 (by omega) (by omega)]; omega)]
      · simp only [if_neg hi]
    · unfold okL
      cases he : entOk e with
      | false => exact evNeg (by simp) (Ev.now _)
      | true =>
        refine evPos rfl ?_
        rw [Bool.true_and]
        by_cases hi : i = 0
        · subst hi
          refine evNeg (by omega) (evEq ih ?_)
          simp [prev]
        · obtain ⟨q, hq⟩ : ∃ q, xs[i - 1]? = some q := ⟨_, List.getElem?_eq_getElem (by omega)⟩
          have e2 : rd_T49 xs (wrap64 ((i : Int) - 1)) = q := by
            rw [w64 (by omega) (by omega), show (i : Int) - 1 = ((i - 1 : Nat) : Int) by omega]
            exact getD_at hq
          refine evPos (by omega) ?_
          rw [e2]
          refine Ev.bind (spec_l3Ahead_ev q e) ?_
          simp only [prev, if_neg hi, hq]
          cases ahead q e with
          | false => exact evNeg (by simp) (Ev.now _)
          | true => exact evPos rfl (evEq ih (by rw [Bool.true_and]))
theorem spec_EntriesOk_ev (xs : List S49) : Ev (fun k => spec_EntriesOk.f k xs) (entriesOk xs) := by
  simp only [spec_EntriesOk.f]
  unfold entriesOk
  by_cases h : (xs.length : Int) > 300
  · rw [decide_eq_false (by omega)]; exact evPos h (Ev.now _)
  · rw [decide_eq_true (by omega), Bool.true_and]
    exact evNeg h (spec_EntriesOk_l0_ev xs (by omega) xs 0 rfl)

theorem impl_within_ev (a b c : Int) : Ev (fun _ => impl_within.f a b c) (within a b c) := by
  refine evId (fun _ => ?_)
  unfold impl_within.f within
  by_cases h : a ≥ b
  · rw [if_pos h, decide_eq_true (show b ≤ a from h), Bool.true_and]
  · rw [if_neg h, decide_eq_false (show ¬ b ≤ a from h), Bool.false_and]

def ordI (x y : Int) : Int := if x < y then -1 else if x > y then 1 else 0
def ordS (x y : ByteArray) : Int := if Op.bytesLess x.toList y.toList = true then -1 else if Op.bytesLess y.toList x.toList = true then 1 else 0
def byOrder (a b : S49) : Int := if ordS a.f0 b.f0 = 0 then ordI b.f2 a.f2 else ordS a.f0 b.f0
theorem cmp_Compare_string_ev (x y : ByteArray) : Ev (fun _ => cmp_Compare_string.f x y) (ordS x y) := by
  refine evId (fun _ => ?_)
  unfold cmp_Compare_string.f cmp_isNaN_string.f ordS
  simp only [bne_self_eq_false, Option.bind_some, Bool.false_eq_true, if_false]
  split
  · rfl
  · split <;> rfl
theorem cmp_Compare_int64_ev (x y : Int) : Ev (fun _ => cmp_Compare_int64.f x y) (ordI x y) := by
  refine evId (fun _ => ?_)
  unfold cmp_Compare_int64.f cmp_isNaN_int64.f ordI
  simp only [bne_self_eq_false, Option.bind_some, Bool.false_eq_true, if_false]
  split
  · rfl
  · split <;> rfl
theorem cmp_Or_two (x y : Int) : Ev (fun k => cmp_Or_int.f k [x, y]) (if x = 0 then y else x) := by
  simp only [cmp_Or_int.f]
  refine ⟨3, fun k hk => ?_⟩
  obtain ⟨m, rfl⟩ : ∃ m, k = m + 3 := ⟨k - 3, by omega⟩
  have w1 : wrap64 (0 + 1) = 1 := w64 (x := 0 + 1) (by decide) (by decide)
  have w2 : wrap64 (1 + 1) = 2 := w64 (x := 1 + 1) (by decide) (by decide)
  have e0 : rd [x, y] 0 = x := rfl
  have e1 : rd [x, y] 1 = y := rfl
  simp only [cmp_Or_int.l0, w1, w2, e0, e1]
  by_cases hx : x = 0
  · by_cases hy : y = 0
    · simp [hx, hy]
    · simp [hx, hy]
  · simp [hx]
theorem impl_byOrder_ev (a b : S49) : Ev (fun k => impl_byOrder.f k a.f0 a.f1 a.f2 a.f3 b.f0 b.f1 b.f2 b.f3) (byOrder a b) := by
  simp only [impl_byOrder.f]
  exact Ev.bind (cmp_Compare_string_ev a.f0 b.f0) (Ev.bind (cmp_Compare_int64_ev b.f2 a.f2) (Ev.bind (cmp_Or_two _ _) (Ev.now _)))
theorem byOrder_ahead (a b : S49) : decide (byOrder a b ≥ 0) = !ahead a b := by
  unfold byOrder ahead ordS ordI
  cases h1 : Op.bytesLess a.f0.toList b.f0.toList with
  | true => simp
  | false =>
    cases h2 : Op.bytesLess b.f0.toList a.f0.toList with
    | true =>
      have : a.f0.toList ≠ b.f0.toList := by
        intro h
        rw [h, less_irrefl] at h2
        cases h2
      simp [this]
    | false =>
      have := less_tri _ _ h1 h2
      simp only [Bool.false_eq_true, if_false, if_true, this, decide_true, Bool.true_and, Bool.false_or]
      by_cases h3 : b.f2 < a.f2
      · rw [if_pos h3, decide_eq_true (show a.f2 > b.f2 from h3)]; decide
      · rw [if_neg h3, decide_eq_false (show ¬ a.f2 > b.f2 from h3)]
        split <;> decide

theorem impl_within_eq (a b c : Int) : impl_within.f a b c = some (within a b c) := by
  obtain ⟨k, h⟩ := (impl_within_ev a b c).rounds
  exact h
theorem impl_entryOk_ev (e : S49) : Ev (fun _ => impl_entryOk.f e.f0 e.f1 e.f2 e.f3) (entOk e) := by
  obtain ⟨a, b, c, g⟩ := e
  refine evId (fun _ => ?_)
  unfold impl_entryOk.f entOk
  simp only [impl_within_eq, Option.bind_some]
  cases h1 : within (a.size : Int) 1 40 with
  | false => simp
  | true =>
    rw [if_pos rfl]
    by_cases h3 : (b.size : Int) ≤ 200
    · rw [if_pos h3, decide_eq_true h3]
      cases g with
      | false => simp
      | true =>
        rw [if_pos rfl]
        by_cases h4 : b.toList = ([] : List UInt8)
        · rw [if_pos h4]; simp [h4]
        · rw [if_neg h4]; simp [h4]
    · rw [if_neg h3, decide_eq_false h3]; simp
theorem impl_EntriesOk_l0_ev (xs : List S49) (hl : xs.length ≤ 1000000000000000000) : ∀ (bs : List S49) (i : Nat), xs.drop i = bs → Ev (fun k => impl_EntriesOk.l0 k xs xs (xs.length : Int) i) (okL (prev xs i) bs)
  | [], i, hd => by
    have := drop_nil hd
    refine Ev.step (f := fun _ => some true) (fun k => ?_) (Ev.now _)
    simp only [impl_EntriesOk.l0]
    rw [if_neg (by omega)]
  | e :: bs, i, hd => by
    obtain ⟨h2, h3, h4⟩ := drop_cons hd
    have e1 : rd_T49 xs (i : Int) = e := getD_at h4
    have ih := impl_EntriesOk_l0_ev xs hl bs (i + 1) h3
    rw [prev_succ h4] at ih
    refine Ev.step (f := fun k => (impl_entryOk.f e.f0 e.f1 e.f2 e.f3).bind fun t127 => (if t127 = true then (if (i : Int) > 0 then ((impl_byOrder.f k (rd_T49 xs (wrap64 ((i : Int) - 1))).f0 (rd_T49 xs (wrap64 ((i : Int) - 1))).f1 (rd_T49 xs (wrap64 ((i : Int) - 1))).f2 (rd_T49 xs (wrap64 ((i : Int) - 1))).f3 e.f0 e.f1 e.f2 e.f3).bind fun t130 => (if t130 ≥ 0 then (some false) else (impl_EntriesOk.l0 k xs xs (xs.length : Int) ((i + 1 : Nat) : Int)))) else (impl_EntriesOk.l0 k xs xs (xs.length : Int) ((i + 1 : Nat) : Int))) else (some false))) (fun k => ?_) (Ev.bind (impl_entryOk_ev e) ?_)
    · simp only [impl_EntriesOk.l0]
      rw [if_pos (by omega), if_pos (by omega), if_pos (by omega), e1, w64s (by omega)]
      by_cases hi : (i : Int) > 0
      · simp only [if_pos hi, if_pos (show (0 : Int) ≤ wrap64 ((i : Int) - 1) by rw [w64 (by omega) (by omega)]; omega), if_pos (show wrap64 ((i : Int) - 1) < (xs.length : Int) by rw [w64 (by omega) (by omega)]; omega)]
      · simp only [if_neg hi]
    · unfold okL
      cases he : entOk e with
      | false => exact evNeg (by simp) (Ev.now _)
      | true =>
        refine evPos rfl ?_
        rw [Bool.true_and]
        by_cases hi : i = 0
        · subst hi
          refine evNeg (by omega) (evEq ih ?_)
          simp [prev]
        · obtain ⟨q, hq⟩ : ∃ q, xs[i - 1]? = some q := ⟨_, List.getElem?_eq_getElem (by omega)⟩
          have e2 : rd_T49 xs (wrap64 ((i : Int) - 1)) = q := by
            rw [w64 (by omega) (by omega), show (i : Int) - 1 = ((i - 1 : Nat) : Int) by omega]
            exact getD_at hq
          refine evPos (by omega) ?_
          rw [e2]
          refine Ev.bind (impl_byOrder_ev q e) ?_
          simp only [prev, if_neg hi, hq]
          have hb := byOrder_ahead q e
          cases ha : ahead q e with
          | false =>
            rw [ha] at hb
            exact evPos (of_decide_eq_true hb) (Ev.now _)
          | true =>
            rw [ha] at hb
            exact evNeg (of_decide_eq_false hb) (evEq ih (by rw [Bool.true_and]))
theorem impl_EntriesOk_ev (xs : List S49) : Ev (fun k => impl_EntriesOk.f k xs) (entriesOk xs) := by
  simp only [impl_EntriesOk.f]
  unfold entriesOk
  by_cases h : (xs.length : Int) > 300
  · rw [decide_eq_false (by omega)]; exact evPos h (Ev.now _)
  · rw [decide_eq_true (by omega), Bool.true_and]
    exact evNeg h (impl_EntriesOk_l0_ev xs (by omega) xs 0 rfl)

def seenL (key : ByteArray) (q : Int) : List S49 → Option S49
  | [] => none
  | e :: es => if e.f0.toList = key.toList ∧ e.f2 ≤ q then some e else seenL key q es
/-- What is told of an entry that is there or not: its parts, and whether. -/
def toldE : Option S49 → ByteArray × ByteArray × Int × Bool × Bool
  | none => ((⟨#[]⟩ : ByteArray), (⟨#[]⟩ : ByteArray), 0, false, false)
  | some e => (e.f0, e.f1, e.f2, e.f3, true)
def seen (xs : List S49) (key : ByteArray) (q : Int) : Option S49 := if entriesOk xs = true then seenL key q xs else none
theorem spec_l3Seen_l0_ev (xs : List S49) (hl : xs.length ≤ 1000000000000000000) (key : ByteArray) (q : Int) : ∀ (bs : List S49) (i : Nat), xs.drop i = bs → Ev (fun k => spec_l3Seen.l0 k xs key q i) (toldE (seenL key q bs))
  | [], i, hd => by
    have := drop_nil hd
    refine Ev.step (f := fun _ => some _) (fun k => ?_) (Ev.now _)
    simp only [spec_l3Seen.l0]
    rw [if_neg (by omega)]
    rfl
  | e :: bs, i, hd => by
    obtain ⟨h2, h3, h4⟩ := drop_cons hd
    have e1 : rd_T49 xs (i : Int) = e := getD_at h4
    unfold seenL
    by_cases h : e.f0.toList = key.toList ∧ e.f2 ≤ q
    · rw [if_pos h]
      refine Ev.step (f := fun _ => some _) (fun k => ?_) (Ev.now _)
      simp only [spec_l3Seen.l0]
      rw [if_pos (by omega), if_pos (by omega), e1, if_pos h.1, if_pos h.2]
      rfl
    · rw [if_neg h]
      refine Ev.step (f := fun k => spec_l3Seen.l0 k xs key q ((i + 1 : Nat) : Int)) (fun k => ?_) (spec_l3Seen_l0_ev xs hl key q bs (i + 1) h3)
      simp only [spec_l3Seen.l0]
      rw [if_pos (by omega), if_pos (by omega), e1, w64s (by omega)]
      by_cases h5 : e.f0.toList = key.toList
      · rw [if_pos h5, if_neg (fun h6 => h ⟨h5, h6⟩)]
      · rw [if_neg h5]
theorem spec_l3Seen_ev (xs : List S49) (hl : xs.length ≤ 1000000000000000000) (key : ByteArray) (q : Int) : Ev (fun k => spec_l3Seen.f k xs key q) (toldE (seenL key q xs)) :=
  spec_l3Seen_l0_ev xs hl key q xs 0 rfl
theorem spec_Seen_ev (xs : List S49) (key : ByteArray) (q : Int) : Ev (fun k => spec_Seen.f k xs key q) (toldE (seen xs key q)) := by
  simp only [spec_Seen.f]
  refine Ev.bind (spec_EntriesOk_ev xs) ?_
  unfold seen
  by_cases h : entriesOk xs = true
  · rw [if_pos h]
    have hl : xs.length ≤ 300 := by
      unfold entriesOk at h
      simp only [Bool.and_eq_true, decide_eq_true_eq] at h
      exact h.1
    exact evPos h (Ev.bind (spec_l3Seen_ev xs (by omega) key q) (Ev.now _))
  · rw [if_neg h]
    exact evNeg h (Ev.now _)
theorem impl_seen_l0_ev (xs : List S49) (hl : xs.length ≤ 1000000000000000000) (key : ByteArray) (q : Int) : ∀ (bs : List S49) (i : Nat), xs.drop i = bs → Ev (fun k => impl_seen.l0 k key q xs (xs.length : Int) i) (toldE (seenL key q bs))
  | [], i, hd => by
    have := drop_nil hd
    refine Ev.step (f := fun _ => some _) (fun k => ?_) (Ev.now _)
    simp only [impl_seen.l0]
    rw [if_neg (by omega)]
    rfl
  | e :: bs, i, hd => by
    obtain ⟨h2, h3, h4⟩ := drop_cons hd
    have e1 : rd_T49 xs (i : Int) = e := getD_at h4
    unfold seenL
    by_cases h : e.f0.toList = key.toList ∧ e.f2 ≤ q
    · rw [if_pos h]
      refine Ev.step (f := fun _ => some _) (fun k => ?_) (Ev.now _)
      simp only [impl_seen.l0]
      rw [if_pos (by omega), if_pos (by omega), if_pos (by omega), e1, if_pos h.1, if_pos h.2]
      rfl
    · rw [if_neg h]
      refine Ev.step (f := fun k => impl_seen.l0 k key q xs (xs.length : Int) ((i + 1 : Nat) : Int)) (fun k => ?_) (impl_seen_l0_ev xs hl key q bs (i + 1) h3)
      simp only [impl_seen.l0]
      rw [if_pos (by omega), if_pos (by omega), if_pos (by omega), e1, w64s (by omega)]
      by_cases h5 : e.f0.toList = key.toList
      · rw [if_pos h5, if_neg (fun h6 => h ⟨h5, h6⟩)]
      · rw [if_neg h5]
theorem impl_seen_ev (xs : List S49) (hl : xs.length ≤ 1000000000000000000) (key : ByteArray) (q : Int) : Ev (fun k => impl_seen.f k xs key q) (toldE (seenL key q xs)) :=
  impl_seen_l0_ev xs hl key q xs 0 rfl
theorem entriesOk_len {xs : List S49} (h : entriesOk xs = true) : xs.length ≤ 300 := by
  unfold entriesOk at h
  simp only [Bool.and_eq_true, decide_eq_true_eq] at h
  exact h.1
theorem impl_Seen_ev (xs : List S49) (key : ByteArray) (q : Int) : Ev (fun k => impl_Seen.f k xs key q) (toldE (seen xs key q)) := by
  simp only [impl_Seen.f]
  refine Ev.bind (impl_EntriesOk_ev xs) ?_
  unfold seen
  by_cases h : entriesOk xs = true
  · rw [if_pos h]
    have hl := entriesOk_len h
    exact evPos h (Ev.bind (impl_seen_ev xs (by omega) key q) (Ev.now _))
  · rw [if_neg h]
    exact evNeg h (Ev.now _)

theorem FnExactSeen (xs : List S82) (key : ByteArray) (q : Int) (hm : xs.length ≤ maxLen) (hw : ∀ e ∈ xs, e.f0.size ≤ maxLen ∧ e.f1.size ≤ maxLen ∧ (Lit.int .i64 e.f2).wf = true ∧ True) (hk : key.size ≤ 140737488351232) (hq : (Lit.int .i64 q).wf = true) : ∃ k, laws_FnExactSeen.f k xs key q = some true := by
  refine Ev.rounds (g := fun k => laws_FnExactSeen.f k xs key q) ?_
  simp only [laws_FnExactSeen.f]
  by_cases h0 : (key.size : Int) > 1048576
  · exact evPos h0 (Ev.now _)
  refine evNeg h0 ?_
  obtain ⟨r, hr, _, _, hk⟩ := laws_szEntryS_ev xs hm (fun e h => ⟨(hw e h).1, (hw e h).2.1⟩) 1048576 (by decide) (by decide)
  refine Ev.bind hr ?_
  by_cases h1 : r < 0
  · exact evPos h1 (Ev.now _)
  obtain ⟨hl, hs⟩ := hk (by omega)
  have toS := laws_toEntryS_ev xs (by omega)
  have tail : Ev (fun k => laws_FnExactSeen.j0 k xs (xs.map toE) false) true := by
    refine Ev.step (fun k => by simp only [laws_FnExactSeen.j0]; exact rfl) ?_
    exact evNeg (by simp) (Ev.bind toS (Ev.bind (laws_eqEntryS_self _ (by simp; omega)) (evPos rfl (Ev.now _))))
  refine evNeg h1 (Ev.bind toS (Ev.bind (spec_Seen_ev _ _ _) (Ev.bind toS (Ev.bind (impl_Seen_ev _ _ _) ?_))))
  generalize seen (xs.map toE) key q = o
  cases o with
  | none => exact Ev.bind (evId (fun k => laws_eqEntry_self ⟨_, _, _, _⟩)) (evPos rfl tail)
  | some e => exact Ev.bind (evId (fun k => laws_eqEntry_self e)) (evPos rfl tail)
end Go.Proofs.Ythkhfmomibfkjaa.Pure

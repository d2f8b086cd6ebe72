/- Proves the plain law behind this statement of the seat (what its functions come to, over numbers and lists): that it answers true. No condition beyond the statement's own. -/
import Derived.Test.YtajidjlbgpaaoaaPFnExactBottomx
import Derived.Test.YtajidjlbgpaaoaaLib
import Derived.Test.YtajidjlbgpaaoaaLibHit
import Derived.Test.YtajidjlbgpaaoaaLibRow
import Derived.Test.YtajidjlbgpaaoaaLibStr
namespace Go.Proofs.Ytajidjlbgpaaoaa.Pure
open Go Go.RowKit Go.Proofs.Ytajidjlbgpaaoaa.PFnExactBottom Go.Proofs.YtajidjlbgpaaoaaW.PrintWords Go.Proofs.YtajidjlbgpaaoaaW.PrintLast Go.Proofs.YtajidjlbgpaaoaaW.PrintMore Go.Proofs.Ytajidjlbgpaaoaa.Lib
set_option linter.unusedVariables false
set_option linter.unusedSimpArgs false
def szE (left : Int) : List S86 → Int
  | [] => left
  | e :: xs => if left - e.f0.size < 0 ∨ left - e.f0.size - e.f1.size < 0 then -1 else szE (left - e.f0.size - e.f1.size) xs
theorem szE_bd : ∀ (xs : List S86) (left : Int), 0 ≤ szE left xs → 0 ≤ left → ∀ e ∈ xs, (e.f0.size : Int) ≤ left ∧ (e.f1.size : Int) ≤ left
  | [], _, _, _, s, hs => by simp at hs
  | x :: xs, left, h, h0, s, hs => by
    unfold szE at h
    by_cases hx : left - x.f0.size < 0 ∨ left - x.f0.size - x.f1.size < 0
    · rw [if_pos hx] at h; omega
    · rw [if_neg hx] at h
      rcases List.mem_cons.1 hs with rfl | hs
      · omega
      · have := szE_bd xs _ h (by omega) s hs
        omega
theorem szE_range : ∀ (xs : List S86) (left : Int), 0 ≤ left → -1 ≤ szE left xs ∧ szE left xs ≤ left
  | [], left, h => by unfold szE; omega
  | x :: xs, left, h => by
    unfold szE
    by_cases hx : left - x.f0.size < 0 ∨ left - x.f0.size - x.f1.size < 0
    · rw [if_pos hx]; omega
    · rw [if_neg hx]
      have := szE_range xs (left - x.f0.size - x.f1.size) (by omega)
      omega
theorem laws_szEntry_eq (e : S86) (left : Int) (h0 : 0 ≤ left) (h1 : left ≤ 1048576) (hb : e.f0.size ≤ maxLen ∧ e.f1.size ≤ maxLen) :
    laws_szEntry.f e.f0 e.f1 e.f2 e.f3 left = some (if left - e.f0.size < 0 ∨ left - e.f0.size - e.f1.size < 0 then -1 else left - e.f0.size - e.f1.size) := by
  have hm : maxLen = 9223372036854775807 := rfl
  have e1 : wrap64 (left - (e.f0.size : Int)) = left - e.f0.size := w64 (by omega) (by omega)
  simp only [laws_szEntry.f, e1]
  by_cases hx : left - (e.f0.size : Int) < 0
  · rw [if_pos hx, if_pos (Or.inl hx)]
  · have e2 : wrap64 (left - (e.f0.size : Int) - (e.f1.size : Int)) = left - e.f0.size - e.f1.size := w64 (by omega) (by omega)
    rw [if_neg hx, e2]
    by_cases hy : left - (e.f0.size : Int) - (e.f1.size : Int) < 0
    · rw [if_pos hy, if_pos (Or.inr hy)]
    · rw [if_neg hy, if_neg (fun h => h.elim hx hy)]
theorem laws_szEntryS_l0_ev (xs : List S86) (hl : xs.length ≤ 1000000000000000000) (hs : ∀ e ∈ xs, e.f0.size ≤ maxLen ∧ e.f1.size ≤ maxLen) : ∀ (bs : List S86) (i : Nat) (left : Int), xs.drop i = bs → 0 ≤ left → left ≤ 1048576 → Ev (fun k => laws_szEntryS.l0 k xs left i) (szE left bs)
  | [], i, left, hd, h0, h1 => by
    have := drop_nil hd
    refine Ev.step (f := fun _ => some left) (fun k => ?_) (Ev.now _)
    simp only [laws_szEntryS.l0]
    rw [if_neg (by omega)]
  | b :: bs, i, left, hd, h0, h1 => by
    obtain ⟨h2, h3, h4⟩ := drop_cons hd
    have e1 : rd_T86 xs (i : Int) = b := getD_at h4
    have e2 := laws_szEntry_eq b left h0 h1 (hs b (List.mem_of_getElem? h4))
    unfold szE
    by_cases hx : left - b.f0.size < 0 ∨ left - b.f0.size - b.f1.size < 0
    · rw [if_pos hx] at e2 ⊢
      refine Ev.step (f := fun _ => some (-1)) (fun k => ?_) (Ev.now _)
      simp only [laws_szEntryS.l0]
      rw [if_pos (by omega), if_pos (by omega), e1, e2]
      rfl
    · rw [if_neg hx] at e2 ⊢
      refine Ev.step (f := fun k => laws_szEntryS.l0 k xs (left - b.f0.size - b.f1.size) ((i + 1 : Nat) : Int)) (fun k => ?_) (laws_szEntryS_l0_ev xs hl hs bs (i + 1) _ h3 (by omega) (by omega))
      simp only [laws_szEntryS.l0]
      rw [if_pos (by omega), if_pos (by omega), e1, e2]
      simp only [Option.bind_some]
      rw [if_neg (by omega), w64s (by omega)]
theorem laws_szEntryS_ev (xs : List S86) (hl : xs.length ≤ maxLen) (hs : ∀ e ∈ xs, e.f0.size ≤ maxLen ∧ e.f1.size ≤ maxLen) (left : Int) (h0 : 0 ≤ left) (h1 : left ≤ 1048576) :
    ∃ r, Ev (fun k => laws_szEntryS.f k xs left) r ∧ -1 ≤ r ∧ r ≤ left ∧ (0 ≤ r → (xs.length : Int) ≤ left ∧ ∀ e ∈ xs, (e.f0.size : Int) ≤ left ∧ (e.f1.size : Int) ≤ left) := by
  have hm : maxLen = 9223372036854775807 := rfl
  have e : wrap64 (left - (xs.length : Int)) = left - xs.length := w64 (by omega) (by omega)
  by_cases h : left - (xs.length : Int) < 0
  · refine ⟨-1, ?_, by omega, by omega, fun h => by omega⟩
    simp only [laws_szEntryS.f]
    exact evPos (by rw [e]; exact h) (Ev.now _)
  · refine ⟨szE (left - xs.length) xs, ?_, ?_, ?_, fun hr => ⟨by omega, fun s h' => ?_⟩⟩
    · simp only [laws_szEntryS.f]
      refine evNeg (by rw [e]; exact h) ?_
      rw [e]
      exact laws_szEntryS_l0_ev xs (by omega) hs xs 0 _ rfl (by omega) (by omega)
    · exact (szE_range xs _ (by omega)).1
    · have := (szE_range xs (left - xs.length) (by omega)).2; omega
    · have := szE_bd xs _ hr (by omega) s h'; omega

/-- The law's record as the program's. -/
def toE (x : S86) : S88 := ⟨x.f0, x.f1, x.f2, x.f3⟩
theorem laws_toEntryS_ev (xs : List S86) (hl : xs.length ≤ 5864062014805) : Ev (fun k => laws_toEntryS.f k xs) (xs.map toE) := by
  simp only [laws_toEntryS.f]
  refine evPos (by omega) (evPos (by omega) ?_)
  exact copy_loop laws_toEntryS.l0 toE z88 (fun k xs ys i h => by simp only [laws_toEntryS.l0]; rw [if_neg (by omega)])
    (fun k xs ys i a hi ha h1 h2 => by
      simp only [laws_toEntryS.l0, laws_toEntry.f, Option.bind_some]
      rw [if_pos (by omega), if_pos (by omega), if_pos (by omega), w64s (by omega), show rd_T86 xs (i : Int) = a from getD_at ha, Int.toNat_natCast]
      rfl) xs (by omega)

theorem laws_eqEntry_self (e : S88) : laws_eqEntry.f e.f0 e.f1 e.f2 e.f3 e.f0 e.f1 e.f2 e.f3 = some true := by
  simp [laws_eqEntry.f]
theorem laws_eqEntryS_self (xs : List S88) (hl : xs.length ≤ 1000000000000000000) : Ev (fun k => laws_eqEntryS.f k xs xs) true := by
  simp only [laws_eqEntryS.f]
  refine evPos trivial (self_loop laws_eqEntryS.l0 (fun k xs i h => by simp only [laws_eqEntryS.l0]; rw [if_neg (by omega)]) (fun k xs i a hi ha h1 => ?_) xs hl)
  simp only [laws_eqEntryS.l0]
  rw [if_pos (by omega), if_pos (by omega), if_pos (by omega), laws_eqEntry_self, w64s (by omega)]
  rfl

/-- Is an entry right? -/
def entOk (e : S88) : Bool := within e.f0.size 1 40 && (decide ((e.f1.size : Int) ≤ 200) && ((!e.f3 || decide (e.f1.toList = ([] : List UInt8))) && within e.f2 1 1000000))
/-- Is the one ahead of the other? -/
def ahead (a b : S88) : Bool := Op.bytesLess a.f0.toList b.f0.toList || (decide (a.f0.toList = b.f0.toList) && decide (a.f2 > b.f2))
def okL : Option S88 → List S88 → Bool
  | _, [] => true
  | p, e :: es => entOk e && ((match p with | none => true | some q => ahead q e) && okL (some e) es)
def entriesOk (xs : List S88) : Bool := decide (xs.length ≤ 300) && okL none xs
theorem entOk_iff {e : S88} : entOk e = true ↔ (1 ≤ e.f0.size ∧ e.f0.size ≤ 40) ∧ e.f1.size ≤ 200 ∧ (e.f3 = true → e.f1.toList = []) ∧ 1 ≤ e.f2 ∧ e.f2 ≤ 1000000 := by
  unfold entOk within
  simp only [Bool.and_eq_true, Bool.or_eq_true, decide_eq_true_eq, Bool.not_eq_true']
  constructor
  · rintro ⟨⟨h1, h2⟩, h3, h4, h5, h6⟩
    refine ⟨⟨by omega, by omega⟩, by omega, fun hg => ?_, h5, h6⟩
    rcases h4 with h4 | h4
    · rw [hg] at h4; cases h4
    · exact h4
  · rintro ⟨⟨h1, h2⟩, h3, h4, h5, h6⟩
    refine ⟨⟨by omega, by omega⟩, by omega, ?_, h5, h6⟩
    cases h : e.f3 with
    | false => exact Or.inl rfl
    | true => exact Or.inr (h4 h)
/-- The entry ahead of place i. -/
def prev (xs : List S88) (i : Nat) : Option S88 := if i = 0 then none else xs[i - 1]?
theorem prev_succ {xs : List S88} {i : Nat} {e : S88} (h : xs[i]? = some e) : prev xs (i + 1) = some e := by
  unfold prev
  rw [if_neg (by omega), show i + 1 - 1 = i by omega, h]

theorem spec_l1In_ev (a b c : Int) : Ev (fun _ => spec_l1In.f a b c) (within a b c) := by
  refine evId (fun _ => ?_)
  unfold spec_l1In.f within
  by_cases h : a ≥ b
  · rw [if_pos h, decide_eq_true (show b ≤ a from h), Bool.true_and]
  · rw [if_neg h, decide_eq_false (show ¬ b ≤ a from h), Bool.false_and]

theorem spec_l3Entry_ev (e : S88) : Ev (fun _ => spec_l3Entry.f e.f0 e.f1 e.f2 e.f3) (entOk e) := by
  obtain ⟨a, b, c, g⟩ := e
  refine evId (fun _ => ?_)
  have hin : spec_l1In.f c 1 1000000 = some (within c 1 1000000) := by
    obtain ⟨k, h⟩ := (spec_l1In_ev c 1 1000000).rounds
    exact h
  unfold spec_l3Entry.f entOk
  simp only [hin, Option.bind_some]
  by_cases h1 : (a.size : Int) ≥ 1
  · by_cases h2 : (a.size : Int) ≤ 40
    · by_cases h3 : (b.size : Int) ≤ 200
      · rw [if_pos h1, if_pos h2, if_pos h3]
        have : within (a.size : Int) 1 40 = true := by simp [within]; omega
        rw [this, decide_eq_true h3]
        cases g with
        | false => simp
        | true =>
          rw [if_pos rfl]
          by_cases h4 : b.toList = ([] : List UInt8)
          · rw [if_pos h4]; simp [h4]
          · rw [if_neg h4]; simp [h4]
      · rw [if_pos h1, if_pos h2, if_neg h3, decide_eq_false h3]; simp
    · rw [if_pos h1, if_neg h2]
      have : within (a.size : Int) 1 40 = false := by simp [within]; omega
      rw [this]; simp
  · rw [if_neg h1]
    have : within (a.size : Int) 1 40 = false := by simp [within]; omega
    rw [this]; simp
theorem spec_l3Ahead_ev (a b : S88) : Ev (fun _ => spec_l3Ahead.f a.f0 a.f1 a.f2 a.f3 b.f0 b.f1 b.f2 b.f3) (ahead a b) := by
  refine evId (fun _ => ?_)
  unfold spec_l3Ahead.f ahead
  cases h : Op.bytesLess a.f0.toList b.f0.toList with
  | true => simp
  | false =>
    rw [if_neg (by simp)]
    by_cases h2 : a.f0.toList = b.f0.toList
    · rw [if_pos h2]; simp [h2]
    · rw [if_neg h2]; simp [h2]
theorem spec_EntriesOk_l0_ev (xs : List S88) (hl : xs.length ≤ 1000000000000000000) : ∀ (bs : List S88) (i : Nat), xs.drop i = bs → Ev (fun k => spec_EntriesOk.l0 k xs i) (okL (prev xs i) bs)
  | [], i, hd => by
    have := drop_nil hd
    refine Ev.step (f := fun _ => some true) (fun k => ?_) (Ev.now _)
    simp only [spec_EntriesOk.l0]
    rw [if_neg (by omega)]
  | e :: bs, i, hd => by
    obtain ⟨h2, h3, h4⟩ := drop_cons hd
    have e1 : rd_T88 xs (i : Int) = e := getD_at h4
    have ih := spec_EntriesOk_l0_ev xs hl bs (i + 1) h3
    rw [prev_succ h4] at ih
    refine Ev.step (f := fun k => (spec_l3Entry.f e.f0 e.f1 e.f2 e.f3).bind fun t127 => (if t127 = true then (if (i : Int) > 0 then ((spec_l3Ahead.f (rd_T88 xs (wrap64 ((i : Int) - 1))).f0 (rd_T88 xs (wrap64 ((i : Int) - 1))).f1 (rd_T88 xs (wrap64 ((i : Int) - 1))).f2 (rd_T88 xs (wrap64 ((i : Int) - 1))).f3 e.f0 e.f1 e.f2 e.f3).bind fun t130 => (if t130 = true then (spec_EntriesOk.l0 k xs ((i + 1 : Nat) : Int)) else (some false))) else (spec_EntriesOk.l0 k xs ((i + 1 : Nat) : Int))) else (some false))) (fun k => ?_) (Ev.bind (spec_l3Entry_ev e) ?_)
    · simp only [spec_EntriesOk.l0]
      rw [if_pos (by omega), if_pos (by omega), e1, w64s (by omega)]
      by_cases hi : (i : Int) > 0
      · simp only [if_pos hi, if_pos (show (0 : Int) ≤ wrap64 ((i : Int) - 1) by rw [w64 (by omega) (by omega)]; omega), if_pos (show wrap64 ((i : Int) - 1) < (xs.length : Int) by rw [w64 (by omega) (by omega)]; omega)]
      · simp only [if_neg hi]
    · unfold okL
      cases he : entOk e with
      | false => exact evNeg (by simp) (Ev.now _)
      | true =>
        refine evPos rfl ?_
        rw [Bool.true_and]
        by_cases hi : i = 0
        · subst hi
          refine evNeg (by omega) (evEq ih ?_)
          simp [prev]
        · obtain ⟨q, hq⟩ : ∃ q, xs[i - 1]? = some q := ⟨_, List.getElem?_eq_getElem (by omega)⟩
          have e2 : rd_T88 xs (wrap64 ((i : Int) - 1)) = q := by
            rw [w64 (by omega) (by omega), show (i : Int) - 1 = ((i - 1 : Nat) : Int) by omega]
            exact getD_at hq
          refine evPos (by omega) ?_
          rw [e2]
          refine Ev.bind (spec_l3Ahead_ev q e) ?_
          simp only [prev, if_neg hi, hq]
          cases ahead q e with
          | false => exact evNeg (by simp) (Ev.now _)
          | true => exact evPos rfl (evEq ih (by rw [Bool.true_and]))
theorem spec_EntriesOk_ev (xs : List S88) : Ev (fun k => spec_EntriesOk.f k xs) (entriesOk xs) := by
  simp only [spec_EntriesOk.f]
  unfold entriesOk
  by_cases h : (xs.length : Int) > 300
  · rw [decide_eq_false (by omega)]; exact evPos h (Ev.now _)
  · rw [decide_eq_true (by omega), Bool.true_and]
    exact evNeg h (spec_EntriesOk_l0_ev xs (by omega) xs 0 rfl)

theorem impl_within_ev (a b c : Int) : Ev (fun _ => impl_within.f a b c) (within a b c) := by
  refine evId (fun _ => ?_)
  unfold impl_within.f within
  by_cases h : a ≥ b
  · rw [if_pos h, decide_eq_true (show b ≤ a from h), Bool.true_and]
  · rw [if_neg h, decide_eq_false (show ¬ b ≤ a from h), Bool.false_and]

def ordI (x y : Int) : Int := if x < y then -1 else if x > y then 1 else 0
def ordS (x y : ByteArray) : Int := if Op.bytesLess x.toList y.toList = true then -1 else if Op.bytesLess y.toList x.toList = true then 1 else 0
def byOrder (a b : S88) : Int := if ordS a.f0 b.f0 = 0 then ordI b.f2 a.f2 else ordS a.f0 b.f0
theorem cmp_Compare_string_ev (x y : ByteArray) : Ev (fun _ => cmp_Compare_string.f x y) (ordS x y) := by
  refine evId (fun _ => ?_)
  unfold cmp_Compare_string.f cmp_isNaN_string.f ordS
  simp only [bne_self_eq_false, Option.bind_some, Bool.false_eq_true, if_false]
  split
  · rfl
  · split <;> rfl
theorem cmp_Compare_int64_ev (x y : Int) : Ev (fun _ => cmp_Compare_int64.f x y) (ordI x y) := by
  refine evId (fun _ => ?_)
  unfold cmp_Compare_int64.f cmp_isNaN_int64.f ordI
  simp only [bne_self_eq_false, Option.bind_some, Bool.false_eq_true, if_false]
  split
  · rfl
  · split <;> rfl
theorem cmp_Or_two (x y : Int) : Ev (fun k => cmp_Or_int.f k [x, y]) (if x = 0 then y else x) := by
  simp only [cmp_Or_int.f]
  refine ⟨3, fun k hk => ?_⟩
  obtain ⟨m, rfl⟩ : ∃ m, k = m + 3 := ⟨k - 3, by omega⟩
  have w1 : wrap64 (0 + 1) = 1 := w64 (x := 0 + 1) (by decide) (by decide)
  have w2 : wrap64 (1 + 1) = 2 := w64 (x := 1 + 1) (by decide) (by decide)
  have e0 : rd [x, y] 0 = x := rfl
  have e1 : rd [x, y] 1 = y := rfl
  simp only [cmp_Or_int.l0, w1, w2, e0, e1]
  by_cases hx : x = 0
  · by_cases hy : y = 0
    · simp [hx, hy]
    · simp [hx, hy]
  · simp [hx]
theorem impl_byOrder_ev (a b : S88) : Ev (fun k => impl_byOrder.f k a.f0 a.f1 a.f2 a.f3 b.f0 b.f1 b.f2 b.f3) (byOrder a b) := by
  simp only [impl_byOrder.f]
  exact Ev.bind (cmp_Compare_string_ev a.f0 b.f0) (Ev.bind (cmp_Compare_int64_ev b.f2 a.f2) (Ev.bind (cmp_Or_two _ _) (Ev.now _)))
theorem byOrder_ahead (a b : S88) : decide (byOrder a b ≥ 0) = !ahead a b := by
  unfold byOrder ahead ordS ordI
  cases h1 : Op.bytesLess a.f0.toList b.f0.toList with
  | true => simp
  | false =>
    cases h2 : Op.bytesLess b.f0.toList a.f0.toList with
    | true =>
      have : a.f0.toList ≠ b.f0.toList := by
        intro h
        rw [h, less_irrefl] at h2
        cases h2
      simp [this]
    | false =>
      have := less_tri _ _ h1 h2
      simp only [Bool.false_eq_true, if_false, if_true, this, decide_true, Bool.true_and, Bool.false_or]
      by_cases h3 : b.f2 < a.f2
      · rw [if_pos h3, decide_eq_true (show a.f2 > b.f2 from h3)]; decide
      · rw [if_neg h3, decide_eq_false (show ¬ a.f2 > b.f2 from h3)]
        split <;> decide

theorem impl_within_eq (a b c : Int) : impl_within.f a b c = some (within a b c) := by
  obtain ⟨k, h⟩ := (impl_within_ev a b c).rounds
  exact h
theorem impl_entryOk_ev (e : S88) : Ev (fun _ => impl_entryOk.f e.f0 e.f1 e.f2 e.f3) (entOk e) := by
  obtain ⟨a, b, c, g⟩ := e
  refine evId (fun _ => ?_)
  unfold impl_entryOk.f entOk
  simp only [impl_within_eq, Option.bind_some]
  cases h1 : within (a.size : Int) 1 40 with
  | false => simp
  | true =>
    rw [if_pos rfl]
    by_cases h3 : (b.size : Int) ≤ 200
    · rw [if_pos h3, decide_eq_true h3]
      cases g with
      | false => simp
      | true =>
        rw [if_pos rfl]
        by_cases h4 : b.toList = ([] : List UInt8)
        · rw [if_pos h4]; simp [h4]
        · rw [if_neg h4]; simp [h4]
    · rw [if_neg h3, decide_eq_false h3]; simp
theorem impl_EntriesOk_l0_ev (xs : List S88) (hl : xs.length ≤ 1000000000000000000) : ∀ (bs : List S88) (i : Nat), xs.drop i = bs → Ev (fun k => impl_EntriesOk.l0 k xs xs (xs.length : Int) i) (okL (prev xs i) bs)
  | [], i, hd => by
    have := drop_nil hd
    refine Ev.step (f := fun _ => some true) (fun k => ?_) (Ev.now _)
    simp only [impl_EntriesOk.l0]
    rw [if_neg (by omega)]
  | e :: bs, i, hd => by
    obtain ⟨h2, h3, h4⟩ := drop_cons hd
    have e1 : rd_T88 xs (i : Int) = e := getD_at h4
    have ih := impl_EntriesOk_l0_ev xs hl bs (i + 1) h3
    rw [prev_succ h4] at ih
    refine Ev.step (f := fun k => (impl_entryOk.f e.f0 e.f1 e.f2 e.f3).bind fun t127 => (if t127 = true then (if (i : Int) > 0 then ((impl_byOrder.f k (rd_T88 xs (wrap64 ((i : Int) - 1))).f0 (rd_T88 xs (wrap64 ((i : Int) - 1))).f1 (rd_T88 xs (wrap64 ((i : Int) - 1))).f2 (rd_T88 xs (wrap64 ((i : Int) - 1))).f3 e.f0 e.f1 e.f2 e.f3).bind fun t130 => (if t130 ≥ 0 then (some false) else (impl_EntriesOk.l0 k xs xs (xs.length : Int) ((i + 1 : Nat) : Int)))) else (impl_EntriesOk.l0 k xs xs (xs.length : Int) ((i + 1 : Nat) : Int))) else (some false))) (fun k => ?_) (Ev.bind (impl_entryOk_ev e) ?_)
    · simp only [impl_EntriesOk.l0]
      rw [if_pos (by omega), if_pos (by omega), if_pos (by omega), e1, w64s (by omega)]
      by_cases hi : (i : Int) > 0
      · simp only [if_pos hi, if_pos (show (0 : Int) ≤ wrap64 ((i : Int) - 1) by rw [w64 (by omega) (by omega)]; omega), if_pos (show wrap64 ((i : Int) - 1) < (xs.length : Int) by rw [w64 (by omega) (by omega)]; omega)]
      · simp only [if_neg hi]
    · unfold okL
      cases he : entOk e with
      | false => exact evNeg (by simp) (Ev.now _)
      | true =>
        refine evPos rfl ?_
        rw [Bool.true_and]
        by_cases hi : i = 0
        · subst hi
          refine evNeg (by omega) (evEq ih ?_)
          simp [prev]
        · obtain ⟨q, hq⟩ : ∃ q, xs[i - 1]? = some q := ⟨_, List.getElem?_eq_getElem (by omega)⟩
          have e2 : rd_T88 xs (wrap64 ((i : Int) - 1)) = q := by
            rw [w64 (by omega) (by omega), show (i : Int) - 1 = ((i - 1 : Nat) : Int) by omega]
            exact getD_at hq
          refine evPos (by omega) ?_
          rw [e2]
          refine Ev.bind (impl_byOrder_ev q e) ?_
          simp only [prev, if_neg hi, hq]
          have hb := byOrder_ahead q e
          cases ha : ahead q e with
          | false =>
            rw [ha] at hb
            exact evPos (of_decide_eq_true hb) (Ev.now _)
          | true =>
            rw [ha] at hb
            exact evNeg (of_decide_eq_false hb) (evEq ih (by rw [Bool.true_and]))
theorem impl_EntriesOk_ev (xs : List S88) : Ev (fun k => impl_EntriesOk.f k xs) (entriesOk xs) := by
  simp only [impl_EntriesOk.f]
  unfold entriesOk
  by_cases h : (xs.length : Int) > 300
  · rw [decide_eq_false (by omega)]; exact evPos h (Ev.now _)
  · rw [decide_eq_true (by omega), Bool.true_and]
    exact evNeg h (impl_EntriesOk_l0_ev xs (by omega) xs 0 rfl)

def seenL (key : ByteArray) (q : Int) : List S88 → Option S88
  | [] => none
  | e :: es => if e.f0.toList = key.toList ∧ e.f2 ≤ q then some e else seenL key q es
/-- What is told of an entry that is there or not: its parts, and whether. -/
def toldE : Option S88 → ByteArray × ByteArray × Int × Bool × Bool
  | none => ((⟨#[]⟩ : ByteArray), (⟨#[]⟩ : ByteArray), 0, false, false)
  | some e => (e.f0, e.f1, e.f2, e.f3, true)
theorem spec_l3Seen_l0_ev (xs : List S88) (hl : xs.length ≤ 1000000000000000000) (key : ByteArray) (q : Int) : ∀ (bs : List S88) (i : Nat), xs.drop i = bs → Ev (fun k => spec_l3Seen.l0 k xs key q i) (toldE (seenL key q bs))
  | [], i, hd => by
    have := drop_nil hd
    refine Ev.step (f := fun _ => some _) (fun k => ?_) (Ev.now _)
    simp only [spec_l3Seen.l0]
    rw [if_neg (by omega)]
    rfl
  | e :: bs, i, hd => by
    obtain ⟨h2, h3, h4⟩ := drop_cons hd
    have e1 : rd_T88 xs (i : Int) = e := getD_at h4
    unfold seenL
    by_cases h : e.f0.toList = key.toList ∧ e.f2 ≤ q
    · rw [if_pos h]
      refine Ev.step (f := fun _ => some _) (fun k => ?_) (Ev.now _)
      simp only [spec_l3Seen.l0]
      rw [if_pos (by omega), if_pos (by omega), e1, if_pos h.1, if_pos h.2]
      rfl
    · rw [if_neg h]
      refine Ev.step (f := fun k => spec_l3Seen.l0 k xs key q ((i + 1 : Nat) : Int)) (fun k => ?_) (spec_l3Seen_l0_ev xs hl key q bs (i + 1) h3)
      simp only [spec_l3Seen.l0]
      rw [if_pos (by omega), if_pos (by omega), e1, w64s (by omega)]
      by_cases h5 : e.f0.toList = key.toList
      · rw [if_pos h5, if_neg (fun h6 => h ⟨h5, h6⟩)]
      · rw [if_neg h5]
theorem spec_l3Seen_ev (xs : List S88) (hl : xs.length ≤ 1000000000000000000) (key : ByteArray) (q : Int) : Ev (fun k => spec_l3Seen.f k xs key q) (toldE (seenL key q xs)) :=
  spec_l3Seen_l0_ev xs hl key q xs 0 rfl
theorem seenL_some {key : ByteArray} {q : Int} : ∀ {xs : List S88} {e : S88}, seenL key q xs = some e → e ∈ xs ∧ e.f0.toList = key.toList ∧ e.f2 ≤ q
  | x :: xs, e, h => by
    unfold seenL at h
    by_cases hx : x.f0.toList = key.toList ∧ x.f2 ≤ q
    · rw [if_pos hx] at h
      obtain rfl := Option.some.inj h
      exact ⟨List.mem_cons_self, hx⟩
    · rw [if_neg hx] at h
      obtain ⟨h1, h2⟩ := seenL_some h
      exact ⟨List.mem_cons_of_mem _ h1, h2⟩
theorem seenL_none {key : ByteArray} {q : Int} : ∀ {xs : List S88}, (∀ e ∈ xs, e.f0.toList = key.toList → q < e.f2) → seenL key q xs = none
  | [], _ => rfl
  | x :: xs, h => by
    unfold seenL
    rw [if_neg (fun hx => by have := h x List.mem_cons_self hx.1; omega)]
    exact seenL_none (fun e he => h e (List.mem_cons_of_mem _ he))
theorem seenL_append {key : ByteArray} {q : Int} : ∀ (xs ys : List S88), seenL key q (xs ++ ys) = match seenL key q xs with | some e => some e | none => seenL key q ys
  | [], ys => rfl
  | x :: xs, ys => by
    rw [List.cons_append, seenL, seenL]
    by_cases hx : x.f0.toList = key.toList ∧ x.f2 ≤ q
    · rw [if_pos hx, if_pos hx]
    · rw [if_neg hx, if_neg hx, seenL_append xs ys]

theorem ahead_iff {a b : S88} : ahead a b = true ↔ Op.bytesLess a.f0.toList b.f0.toList = true ∨ (a.f0.toList = b.f0.toList ∧ b.f2 < a.f2) := by
  unfold ahead
  simp only [Bool.or_eq_true, Bool.and_eq_true, decide_eq_true_eq]
theorem ahead_trans {a b c : S88} (h : ahead a b = true) (k : ahead b c = true) : ahead a c = true := by
  rw [ahead_iff] at h k ⊢
  rcases h with h | ⟨h1, h2⟩
  · rcases k with k | ⟨k1, k2⟩
    · exact Or.inl (less_trans _ _ _ h k)
    · exact Or.inl (k1 ▸ h)
  · rcases k with k | ⟨k1, k2⟩
    · exact Or.inl (h1.symm ▸ k)
    · exact Or.inr ⟨h1.trans k1, by omega⟩
theorem ahead_same {a b : S88} (h : ahead a b = true) (hk : a.f0.toList = b.f0.toList) : b.f2 < a.f2 := by
  rw [ahead_iff] at h
  rcases h with h | ⟨_, h⟩
  · rw [hk, less_irrefl] at h; cases h
  · exact h
theorem ahead_mid {a b c : S88} (h : ahead a b = true) (k : ahead b c = true) (hk : a.f0.toList = c.f0.toList) : b.f0.toList = a.f0.toList := by
  rw [ahead_iff] at h k
  rcases h with h | ⟨h, _⟩
  · rcases k with k | ⟨k, _⟩
    · have := less_trans _ _ _ h k
      rw [hk, less_irrefl] at this; cases this
    · rw [hk, k, less_irrefl] at h; cases h
  · exact h.symm
theorem okL_pair : ∀ (xs : List S88) (p : Option S88), okL p xs = true → (∀ e ∈ xs, entOk e = true) ∧ (∀ q, p = some q → ∀ e ∈ xs, ahead q e = true) ∧ xs.Pairwise (fun a b => ahead a b = true)
  | [], p, _ => ⟨by simp, by simp, List.Pairwise.nil⟩
  | x :: xs, p, h => by
    unfold okL at h
    simp only [Bool.and_eq_true] at h
    obtain ⟨h1, h2, h3⟩ := h
    obtain ⟨k1, k2, k3⟩ := okL_pair xs (some x) h3
    refine ⟨?_, ?_, List.Pairwise.cons (k2 x rfl) k3⟩
    · intro e he
      rcases List.mem_cons.1 he with rfl | he
      · exact h1
      · exact k1 e he
    · rintro q rfl e he
      have hq : ahead q x = true := h2
      rcases List.mem_cons.1 he with rfl | he
      · exact hq
      · exact ahead_trans hq (k2 x rfl e he)
theorem entriesOk_pair {xs : List S88} (h : entriesOk xs = true) : xs.length ≤ 300 ∧ (∀ e ∈ xs, entOk e = true) ∧ xs.Pairwise (fun a b => ahead a b = true) := by
  unfold entriesOk at h
  simp only [Bool.and_eq_true, decide_eq_true_eq] at h
  obtain ⟨k1, _, k3⟩ := okL_pair xs none h.2
  exact ⟨h.1, k1, k3⟩
theorem entriesOk_len {xs : List S88} (h : entriesOk xs = true) : xs.length ≤ 300 := by
  unfold entriesOk at h
  simp only [Bool.and_eq_true, decide_eq_true_eq] at h
  exact h.1

/-- Is the entry the newest of its key up to a number, as a look tells it. -/
def seesI (xs : List S88) (e : S88) (n : Int) : Bool := match seenL e.f0 n xs with | some x => x.f2 == e.f2 | none => false
theorem seesI_eq {pre rest : List S88} {p e : S88} (h : (pre ++ p :: e :: rest).Pairwise (fun a b => ahead a b = true)) (hk : p.f0.toList = e.f0.toList) (n : Int) :
    seesI (pre ++ p :: e :: rest) e n = (decide (e.f2 ≤ n) && decide (n < p.f2)) := by
  obtain ⟨_, h2, h3⟩ := List.pairwise_append.1 h
  have hp : ∀ x ∈ pre, x.f0.toList = e.f0.toList → p.f2 < x.f2 := fun x hx hkx => ahead_same (h3 x hx p List.mem_cons_self) (hkx.trans hk.symm)
  obtain ⟨h4, h5⟩ := List.pairwise_cons.1 h2
  obtain ⟨h6, _⟩ := List.pairwise_cons.1 h5
  have hpe : e.f2 < p.f2 := ahead_same (h4 e List.mem_cons_self) hk
  have hr : ∀ x ∈ rest, x.f0.toList = e.f0.toList → x.f2 < e.f2 := fun x hx hkx => ahead_same (h6 x hx) hkx.symm
  unfold seesI
  rw [seenL_append]
  by_cases hn : n < p.f2
  · rw [seenL_none (fun x hx hkx => by have := hp x hx hkx; omega)]
    simp only
    rw [seenL, if_neg (fun hh => by omega), seenL, decide_eq_true hn, Bool.and_true]
    by_cases he : e.f2 ≤ n
    · rw [if_pos ⟨rfl, he⟩, decide_eq_true he]
      simp
    · rw [if_neg (fun hh => he hh.2), decide_eq_false he]
      cases hs : seenL e.f0 n rest with
      | none => rfl
      | some x =>
        obtain ⟨x1, x2, x3⟩ := seenL_some hs
        simp only [beq_eq_false_iff_ne]
        omega
  · rw [decide_eq_false hn, Bool.and_false]
    cases hs : seenL e.f0 n pre with
    | some x =>
      obtain ⟨x1, x2, x3⟩ := seenL_some hs
      have := hp x x1 x2
      simp only [beq_eq_false_iff_ne]
      omega
    | none =>
      simp only
      rw [seenL, if_pos ⟨hk, by omega⟩]
      simp only [beq_eq_false_iff_ne]
      omega
theorem split_at {α : Type} (xs : List α) (d : α) (i : Nat) (h : i + 1 < xs.length) : xs = xs.take i ++ xs.getD i d :: xs.getD (i + 1) d :: xs.drop (i + 2) := by
  have e1 : xs.drop i = xs.getD i d :: xs.drop (i + 1) := by
    rw [List.drop_eq_getElem_cons (by omega)]
    simp [List.getD_eq_getElem?_getD, List.getElem?_eq_getElem (show i < xs.length by omega)]
  have e2 : xs.drop (i + 1) = xs.getD (i + 1) d :: xs.drop (i + 2) := by
    rw [List.drop_eq_getElem_cons h]
    simp [List.getD_eq_getElem?_getD, List.getElem?_eq_getElem h]
  rw [← e2, ← e1, List.take_append_drop]
/-- Is the entry at place i kept, as the looks tell it. -/
def keepS (xs : List S88) (snaps : List Int) (i : Nat) : Bool :=
  (i == 0 || !((rd_T88 xs ((i : Int) - 1)).f0.toList == (rd_T88 xs i).f0.toList)) || snaps.any (seesI xs (rd_T88 xs i))
theorem keepS_eq (xs : List S88) (snaps : List Int) (h : xs.Pairwise (fun a b => ahead a b = true)) (i : Nat) (hi : i < xs.length) : keepS xs snaps i = keepE xs snaps i := by
  unfold keepS keepE
  cases i with
  | zero => rfl
  | succ i =>
    have ei : (((i + 1 : Nat) : Int) - 1) = (i : Int) := by omega
    rw [ei]
    have e1 : rd_T88 xs ((i : Nat) : Int) = xs.getD i z88 := by unfold rd_T88; rw [Int.toNat_natCast]
    have e2 : rd_T88 xs ((i + 1 : Nat) : Int) = xs.getD (i + 1) z88 := by unfold rd_T88; rw [Int.toNat_natCast]
    rw [e1, e2]
    have hs := split_at xs z88 i hi
    generalize xs.getD i z88 = p at hs ⊢
    generalize xs.getD (i + 1) z88 = e at hs ⊢
    by_cases hk : p.f0.toList = e.f0.toList
    · rw [show (p.f0.toList == e.f0.toList) = true from beq_iff_eq.mpr hk]
      have : seesI xs e = fun n => decide (e.f2 ≤ n) && decide (n < p.f2) := by
        funext n
        rw [hs] at h ⊢
        exact seesI_eq h hk n
      rw [this]
      simp
    · rw [show (p.f0.toList == e.f0.toList) = false from beq_eq_false_iff_ne.mpr hk]
      simp
def seens (xs : List S88) (snaps : List Int) : List S88 := if entriesOk xs = true ∧ (snaps.length : Int) ≤ 20 then seensF xs snaps xs.length 0 else []
theorem seens_le (xs : List S88) (snaps : List Int) : (seens xs snaps).length ≤ xs.length := by
  unfold seens
  split
  · exact seensF_length xs snaps _ _
  · simp
theorem spec_l6Seens_l1_ev (xs : List S88) (snaps : List Int) (acc : List S88) (i : Nat) (hi : i < xs.length) (hl : xs.length ≤ 1000000) (hs : snaps.length ≤ 1000000) (r : List S88) : ∀ (bs : List Int) (j : Nat) (k0 : Bool), snaps.drop j = bs →
    Ev (fun k => if (k0 || bs.any (seesI xs (rd_T88 xs i))) = true then (if 0 ≤ (i : Int) then (if (i : Int) < (xs.length : Int) then (if acc.length < 2932031007402 then (spec_l6Seens.l0 k xs snaps (acc ++ [rd_T88 xs i]) (wrap64 ((i : Int) + 1))) else none) else none) else none) else spec_l6Seens.l0 k xs snaps acc (wrap64 ((i : Int) + 1))) r →
    Ev (fun k => spec_l6Seens.l1 k xs snaps acc (i : Int) k0 (j : Int)) r
  | [], j, k0, hd, hc => by
    have := drop_nil hd
    rw [List.any_nil, Bool.or_false] at hc
    refine Ev.step (fun k => ?_) hc
    simp only [spec_l6Seens.l1]
    rw [if_neg (by omega)]
  | b :: bs, j, k0, hd, hc => by
    obtain ⟨h2, h3, h4⟩ := drop_cons hd
    have e1 : rd snaps (j : Int) = b := rd_at h4
    have ih := spec_l6Seens_l1_ev xs snaps acc i hi hl hs r bs (j + 1) (k0 || seesI xs (rd_T88 xs i) b) h3 (by rw [List.any_cons, ← Bool.or_assoc] at hc; exact hc)
    have hseen := spec_l3Seen_ev xs (by omega) (rd_T88 xs i).f0 b
    refine Ev.step (f := fun k => (spec_l3Seen.f k xs (rd_T88 xs i).f0 b).bind fun bt => (if k0 = true then (spec_l6Seens.l1 k xs snaps acc (i : Int) true ((j + 1 : Nat) : Int)) else (if bt.2.2.2.2 = true then (spec_l6Seens.l1 k xs snaps acc (i : Int) (bt.2.2.1 == (rd_T88 xs i).f2) ((j + 1 : Nat) : Int)) else (spec_l6Seens.l1 k xs snaps acc (i : Int) false ((j + 1 : Nat) : Int))))) (fun k => ?_) (Ev.bind hseen ?_)
    · simp only [spec_l6Seens.l1]
      rw [if_pos (by omega), if_pos (by omega), if_pos (by omega), if_pos (by omega), e1, w64s (by omega)]
    · cases k0 with
      | true => exact evPos rfl ih
      | false =>
        refine evNeg (by decide) ?_
        rw [Bool.false_or] at ih
        unfold seesI at ih
        cases hs2 : seenL (rd_T88 xs i).f0 b xs with
        | none => rw [hs2] at ih; exact evNeg (by simp [toldE]) ih
        | some x => rw [hs2] at ih; exact evPos rfl ih
theorem spec_l6Seens_l0_ev (xs : List S88) (snaps : List Int) (h : xs.Pairwise (fun a b => ahead a b = true)) (hl : xs.length ≤ 1000000) (hs : snaps.length ≤ 1000000) : ∀ (d i : Nat) (acc : List S88), i + d = xs.length → acc.length ≤ i →
    Ev (fun k => spec_l6Seens.l0 k xs snaps acc (i : Int)) (acc ++ seensF xs snaps d i)
  | 0, i, acc, hd, ha => by
    rw [seensF, List.append_nil]
    refine Ev.step (f := fun _ => some acc) (fun k => ?_) (Ev.now _)
    simp only [spec_l6Seens.l0]
    rw [if_neg (by omega)]
  | d + 1, i, acc, hd, ha => by
    have hi : i < xs.length := by omega
    have hK := keepS_eq xs snaps h i hi
    have ih1 := spec_l6Seens_l0_ev xs snaps h hl hs d (i + 1) (acc ++ [rd_T88 xs i]) (by omega) (by rw [List.length_append, List.length_singleton]; omega)
    have ih2 := spec_l6Seens_l0_ev xs snaps h hl hs d (i + 1) acc (by omega) (by omega)
    rw [List.append_assoc] at ih1
    have fin : ∀ k0 : Bool, (k0 || snaps.any (seesI xs (rd_T88 xs i))) = keepE xs snaps i → Ev (fun k => spec_l6Seens.j1 k xs snaps acc (i : Int) k0) (acc ++ seensF xs snaps (d + 1) i) := by
      intro k0 hk0
      refine Ev.step (f := fun k => spec_l6Seens.l1 k xs snaps acc (i : Int) k0 ((0 : Nat) : Int)) (fun k => by simp only [spec_l6Seens.j1]; rfl) (spec_l6Seens_l1_ev xs snaps acc i hi hl hs _ snaps 0 k0 rfl ?_)
      rw [hk0, seensF, w64s (by omega)]
      by_cases hh : keepE xs snaps i = true
      · rw [if_pos hh]
        exact evPos hh (evPos (by omega) (evPos (by omega) (evPos (by omega) ih1)))
      · rw [if_neg hh]
        exact evNeg hh ih2
    unfold keepS at hK
    cases i with
    | zero =>
      refine Ev.step (f := fun k => spec_l6Seens.j1 k xs snaps acc ((0 : Nat) : Int) true) (fun k => ?_) (fin true hK)
      simp only [spec_l6Seens.l0]
      rw [if_pos (by omega), if_pos (by omega)]
    | succ i =>
      have ei : (((i + 1 : Nat) : Int) - 1) = (i : Int) := by omega
      have e2 : wrap64 (((i + 1 : Nat) : Int) - 1) = (i : Int) := by rw [w64 (by omega) (by omega)]; omega
      rw [ei] at hK
      refine Ev.step (f := fun k => spec_l6Seens.j1 k xs snaps acc ((i + 1 : Nat) : Int) ((rd_T88 xs (i : Int)).f0.toList != (rd_T88 xs ((i + 1 : Nat) : Int)).f0.toList)) (fun k => ?_) (fin _ (by rw [← hK]; rfl))
      simp only [spec_l6Seens.l0]
      rw [if_pos (by omega), if_neg (by omega), e2, if_pos (by omega), if_pos (by omega), if_pos (by omega)]

theorem reverse_l0_ev : ∀ (m : Nat) (A M B : List S88), M.length = m → A.length + M.length + B.length ≤ 1000000000000000000 →
    Ev (fun k => slices_Reverse_Entry.l0 k (A ++ M ++ B) (A.length : Int) ((A.length : Int) + (M.length : Int) - 1)) (A ++ M.reverse ++ B) := by
  intro m
  induction m using Nat.strongRecOn with
  | ind m ih =>
    intro A M B hm hl
    match M, hm, hl with
    | [], hm, hl =>
      refine Ev.step (f := fun _ => some (A ++ [] ++ B)) (fun k => ?_) (Ev.now _)
      simp only [slices_Reverse_Entry.l0]
      rw [if_neg (by simp; omega)]
    | [a], hm, hl =>
      refine Ev.step (f := fun _ => some (A ++ [a] ++ B)) (fun k => ?_) (Ev.now _)
      simp only [slices_Reverse_Entry.l0]
      rw [if_neg (by simp)]
    | a :: c :: t, hm, hl =>
      obtain ⟨M', b, hM⟩ : ∃ M' b, c :: t = M' ++ [b] := ⟨(c :: t).dropLast, (c :: t).getLast (by simp), (List.dropLast_concat_getLast (by simp)).symm⟩
      rw [hM] at hm hl ⊢
      have hlen : (A ++ a :: (M' ++ [b]) ++ B).length = A.length + M'.length + 2 + B.length := by simp; omega
      have hlm : (a :: (M' ++ [b])).length = M'.length + 2 := by simp
      rw [hlm] at hl hm
      have e1 : rd_T88 (A ++ a :: (M' ++ [b]) ++ B) (A.length : Int) = a := getD_at (by simp)
      have ej : (A.length : Int) + ((a :: (M' ++ [b])).length : Int) - 1 = ((A ++ a :: M').length : Int) := by rw [hlm]; simp; omega
      have ex : A ++ a :: (M' ++ [b]) ++ B = (A ++ a :: M') ++ b :: B := by simp
      have e2 : rd_T88 (A ++ a :: (M' ++ [b]) ++ B) ((A ++ a :: M').length : Int) = b := getD_at (by rw [ex, List.getElem?_append_right (Nat.le_refl _), Nat.sub_self]; rfl)
      have hj : ((A ++ a :: M').length : Int) = (A.length : Int) + M'.length + 1 := by simp; omega
      have es : ((A ++ a :: (M' ++ [b]) ++ B).set A.length b).set (A ++ a :: M').length a = (A ++ [b]) ++ M' ++ (a :: B) := by
        have h1 : (A ++ a :: (M' ++ [b]) ++ B).set A.length b = (A ++ b :: M') ++ b :: B := by
          rw [List.append_assoc, List.set_append_right _ _ (Nat.le_refl _), Nat.sub_self]
          simp
        rw [h1, show (A ++ a :: M').length = (A ++ b :: M').length by simp, List.set_append_right _ _ (Nat.le_refl _), Nat.sub_self]
        simp
      have ih' := ih M'.length (by omega) (A ++ [b]) M' (a :: B) rfl (by simp; omega)
      have er : A ++ (a :: (M' ++ [b])).reverse ++ B = (A ++ [b]) ++ M'.reverse ++ (a :: B) := by simp
      rw [er]
      refine Ev.step (f := fun k => slices_Reverse_Entry.l0 k ((A ++ [b]) ++ M' ++ (a :: B)) ((A ++ [b]).length : Int) (((A ++ [b]).length : Int) + (M'.length : Int) - 1)) (fun k => ?_) ih'
      rw [ej]
      simp only [slices_Reverse_Entry.l0]
      rw [if_pos (by rw [hj]; omega), if_pos (by omega), if_pos (by rw [hlen, hj]; omega), if_pos (by omega), if_pos (by rw [hlen]; omega), e1, e2, Int.toNat_natCast, Int.toNat_natCast]
      rw [show (⟨b.f0, b.f1, b.f2, b.f3⟩ : S88) = b from rfl, show (⟨a.f0, a.f1, a.f2, a.f3⟩ : S88) = a from rfl, es]
      rw [w64 (x := (A.length : Int) + 1) (by omega) (by omega), w64 (x := ((A ++ a :: M').length : Int) - 1) (by rw [hj]; omega) (by rw [hj]; omega), hj]
      congr 1
      · simp
      · simp; omega
theorem reverse_ev (xs : List S88) (hl : xs.length ≤ 1000000000000000000) : Ev (fun k => slices_Reverse_Entry.f k xs) xs.reverse := by
  have := reverse_l0_ev xs.length [] xs [] rfl (by simpa using hl)
  simp only [slices_Reverse_Entry.f]
  rw [w64 (by omega) (by omega)]
  simpa using this
def bottom (xs : List S88) (snaps : List Int) : List S88 := (botF (seens xs snaps).reverse).reverse
theorem bottom_le (xs : List S88) (snaps : List Int) : (bottom xs snaps).length ≤ xs.length := by
  unfold bottom
  rw [List.length_reverse]
  exact Nat.le_trans (botF_length _) (seens_le xs snaps)
theorem impl_Bottom_ev (xs : List S88) (snaps : List Int) : Ev (fun k => impl_Bottom.f k xs snaps) (bottom xs snaps) := by
  simp only [impl_Bottom.f, impl_bottom.f, impl_seens.f]
  refine Ev.bind (impl_EntriesOk_ev xs) ?_
  by_cases h : entriesOk xs = true
  · have hl := (entriesOk_pair h).1
    by_cases hs : (snaps.length : Int) > 20
    · rw [show bottom xs snaps = [] by unfold bottom; rw [show seens xs snaps = [] from if_neg (fun hh => by omega)]; rfl]
      exact evPos h (evPos hs (Ev.now _))
    · have e : seens xs snaps = seensF xs snaps xs.length 0 := if_pos ⟨h, by omega⟩
      have hb := botF_length (seensF xs snaps xs.length 0)
      have hsl := seensF_length xs snaps xs.length 0
      unfold bottom
      rw [e]
      exact evPos h (evNeg hs (Ev.bind (Ev.bind (evPos (by omega) (Ev.now _)) (reverse_ev _ (by omega))) (Ev.now _)))
  · rw [show bottom xs snaps = [] by unfold bottom; rw [show seens xs snaps = [] from if_neg (fun hh => h hh.1)]; rfl]
    exact evNeg h (Ev.now _)
theorem spec_l6Bottom_l0_ev (zs : List S88) (hl : zs.length ≤ 1000000) : ∀ (i : Nat) (acc : List S88), i ≤ zs.length → acc.length + i ≤ 1000000 →
    Ev (fun k => spec_l6Bottom.l0 k zs acc.reverse ((i : Int) - 1)) ((zs.take i).reverse.foldl botStep acc).reverse
  | 0, acc, hi, ha => by
    refine Ev.step (f := fun _ => some acc.reverse) (fun k => ?_) (Ev.now _)
    simp only [spec_l6Bottom.l0]
    rw [if_neg (by omega)]
  | i + 1, acc, hi, ha => by
    obtain ⟨e, he⟩ : ∃ e, zs[i]? = some e := ⟨zs[i]'(by omega), List.getElem?_eq_getElem (by omega)⟩
    have e1 : rd_T88 zs (i : Int) = e := getD_at he
    have et : (zs.take (i + 1)).reverse = e :: (zs.take i).reverse := by
      rw [List.take_add_one, he]
      simp
    have hb := botStep_length acc e
    have ih := spec_l6Bottom_l0_ev zs hl i (botStep acc e) (by omega) (by omega)
    rw [et, List.foldl_cons]
    have ei : (((i + 1 : Nat) : Int) - 1) = (i : Int) := by omega
    have ew : wrap64 ((i : Int) - 1) = (i : Int) - 1 := w64 (by omega) (by omega)
    have hrl : (acc.reverse.length : Int) = acc.length := by rw [List.length_reverse]
    have hcons : [(⟨e.f0, e.f1, e.f2, e.f3⟩ : S88)] ++ acc.reverse = (acc ++ [e]).reverse := by simp
    refine Ev.step (f := fun k => spec_l6Bottom.l0 k zs (botStep acc e).reverse ((i : Int) - 1)) (fun k => ?_) ih
    rw [ei]
    simp only [spec_l6Bottom.l0]
    rw [if_pos (by omega), e1, ew, hrl]
    by_cases hz : acc = []
    · subst hz
      rw [if_pos (by simp), if_pos (by omega), if_pos (by omega)]
      by_cases hg : e.f3 = true
      · rw [if_pos hg, show botStep [] e = [] from if_pos ⟨hg, Or.inl rfl⟩]
      · rw [if_neg hg, show botStep [] e = [e] from if_neg (fun hh => hg hh.1)]
        simp only [Option.bind_some]
        rw [if_pos (by simp)]
        rfl
    · have hp := List.length_pos_iff.2 hz
      have e0 : rd_T88 acc.reverse 0 = rd_T88 acc ((acc.length : Int) - 1) := by
        unfold rd_T88
        rw [show ((acc.length : Int) - 1).toNat = acc.length - 1 by omega]
        simp only [List.getD_eq_getElem?_getD]
        congr 1
        rw [show (0 : Int).toNat = 0 from rfl, List.getElem?_reverse hp]
        congr 1
      rw [if_neg (by omega), if_pos (by omega), if_pos (by omega), if_pos (by omega), e0]
      have hsz : [(⟨e.f0, e.f1, e.f2, e.f3⟩ : S88)].length + acc.reverse.length < 2932031007402 := by rw [List.length_reverse, List.length_singleton]; omega
      by_cases hk : (rd_T88 acc ((acc.length : Int) - 1)).f0.toList = e.f0.toList
      · rw [if_neg (fun hh => hh hk)]
        simp only [Option.bind_some]
        rw [if_pos hsz, hcons, show botStep acc e = acc ++ [e] from if_neg (fun hh => hh.2.elim hz (fun h3 => h3 hk))]
      · rw [if_pos hk]
        by_cases hg : e.f3 = true
        · rw [if_pos hg, show botStep acc e = acc from if_pos ⟨hg, Or.inr hk⟩]
        · rw [if_neg hg]
          simp only [Option.bind_some]
          rw [if_pos hsz, hcons, show botStep acc e = acc ++ [e] from if_neg (fun hh => hg hh.1)]
theorem spec_Bottom_ev (xs : List S88) (snaps : List Int) : Ev (fun k => spec_Bottom.f k xs snaps) (bottom xs snaps) := by
  simp only [spec_Bottom.f, spec_l6Told.f, spec_l6Bottom.f, spec_l6Seens.f]
  by_cases h : entriesOk xs = true
  · obtain ⟨hl, hok, hp⟩ := entriesOk_pair h
    by_cases hs : (snaps.length : Int) ≤ 20
    · have e : seens xs snaps = seensF xs snaps xs.length 0 := if_pos ⟨h, hs⟩
      have hsl := seensF_length xs snaps xs.length 0
      unfold bottom
      rw [e]
      refine Ev.bind (Ev.bind (spec_EntriesOk_ev xs) (evPos h (Ev.now _))) (evPos (by rw [decide_eq_true hs]) (Ev.bind (Ev.bind (a := seensF xs snaps xs.length 0) ?_ ?_) (Ev.now _)))
      · simpa using spec_l6Seens_l0_ev xs snaps hp (by omega) (by omega) xs.length 0 [] (by omega) (Nat.le_refl _)
      · have := spec_l6Bottom_l0_ev (seensF xs snaps xs.length 0) (by omega) (seensF xs snaps xs.length 0).length [] (Nat.le_refl _) (by simp; omega)
        rw [List.take_length] at this
        rw [w64 (by omega) (by omega)]
        exact this
    · rw [show bottom xs snaps = [] by unfold bottom; rw [show seens xs snaps = [] from if_neg (fun hh => hs hh.2)]; rfl]
      exact Ev.bind (Ev.bind (spec_EntriesOk_ev xs) (evPos h (Ev.now _))) (evNeg (by rw [decide_eq_false hs]; decide) (Ev.now _))
  · rw [show bottom xs snaps = [] by unfold bottom; rw [show seens xs snaps = [] from if_neg (fun hh => h hh.1)]; rfl]
    exact Ev.bind (Ev.bind (spec_EntriesOk_ev xs) (evNeg h (Ev.now _))) (evNeg (by decide) (Ev.now _))

theorem laws_markText_l0_ev (n : Nat) : ∀ (s : ByteArray), s.size + n ≤ 2000000000000000000 → ∃ t, Ev (fun k => laws_markText.l0 k (n : Int) s) t := by
  induction n using Nat.strongRecOn with
  | ind n ih =>
    intro s hs
    by_cases h : n = 0
    · subst h
      refine ⟨_, Ev.step (f := fun _ => some ((⟨#[109]⟩ : ByteArray) ++ s)) (fun k => ?_) (Ev.now _)⟩
      simp only [laws_markText.l0]
      rw [if_neg (by simp), if_pos (by omega)]
    · have hsz : (strOfNums [wrap64 (48 + Int.tmod (n : Int) 10) % 256]).size = 1 := by rw [strOfNums_size]; rfl
      obtain ⟨t, ht⟩ := ih (n / 10) (by omega) (strOfNums [wrap64 (48 + Int.tmod (n : Int) 10) % 256] ++ s) (by rw [ByteArray.size_append, hsz]; omega)
      refine ⟨t, Ev.step (f := fun k => laws_markText.l0 k ((n / 10 : Nat) : Int) (strOfNums [wrap64 (48 + Int.tmod (n : Int) 10) % 256] ++ s)) (fun k => ?_) ht⟩
      simp only [laws_markText.l0]
      rw [if_pos (by omega)]
      simp only [Option.bind_some]
      rw [if_pos (by rw [hsz]; omega), Int.tdiv_eq_ediv_of_nonneg (by omega), w64 (x := (n : Int) / 10) (by omega) (by omega)]
      rfl
theorem laws_markText_ex (a : Int) (h : a ≤ 1500000000000000000) : ∃ t, Ev (fun k => laws_markText.f k a) t := by
  simp only [laws_markText.f]
  by_cases h0 : a ≤ 0
  · exact ⟨_, evPos h0 (Ev.now _)⟩
  · obtain ⟨t, ht⟩ := laws_markText_l0_ev a.toNat (⟨#[]⟩ : ByteArray) (by show 0 + _ ≤ _; omega)
    rw [show ((a.toNat : Nat) : Int) = a by omega] at ht
    exact ⟨t, evNeg h0 ht⟩
/-- The text by which a place is marked. -/
noncomputable def mtx (a : Int) : ByteArray := by
  classical
  exact if h : ∃ t, Ev (fun k => laws_markText.f k a) t then Classical.choose h else ByteArray.empty
theorem mtx_ev (a : Int) (h : a ≤ 1500000000000000000) : Ev (fun k => laws_markText.f k a) (mtx a) := by
  unfold mtx
  rw [dif_pos (laws_markText_ex a h)]
  exact Classical.choose_spec (laws_markText_ex a h)

/-- The entry by which a place is marked. -/
noncomputable def mte (a : Int) : S88 := ⟨mtx a, mtx (a + 1), a + 2, ((a + 3) % 3 == 0)⟩
theorem getD_set {α : Type} (xs : List α) (i : Nat) (h : i < xs.length) (v d : α) : (xs.set i v).getD ((i : Int)).toNat d = v := by
  simp [List.getD_eq_getElem?_getD, List.getElem?_set, h]
theorem laws_markEntryS_ev (xs : List S88) (hl : xs.length ≤ 1000000000000000) (a : Int) (h1 : 1 ≤ a) (h2 : a ≤ 10000000000000000) : Ev (fun k => laws_markEntryS.f k xs a) (a + 4 * xs.length, marksOf mte 4 xs.length a) := by
  refine mark_loop laws_markEntryS.l0 mte 4 (by decide) (fun k xs a i h => ?_) (fun xs a i r h hi h1 h2 hr => ?_) xs hl a h1 h2
  · simp only [laws_markEntryS.l0]
    rw [if_neg (by omega)]
  · have e1 : wrap64 (a + 1) = a + 1 := w64 (by omega) (by omega)
    have e2 : wrap64 (a + 1 + 1) = a + 2 := w64 (x := a + 1 + 1) (by omega) (by omega) |>.trans (by omega)
    have e3 : wrap64 (a + 2 + 1) = a + 3 := w64 (x := a + 2 + 1) (by omega) (by omega) |>.trans (by omega)
    have e4 : wrap64 (a + 3 + 1) = a + 4 := w64 (x := a + 3 + 1) (by omega) (by omega) |>.trans (by omega)
    refine Ev.step (f := fun k => (laws_markText.f k a).bind fun t => (laws_markText.f k (a + 1)).bind fun u => laws_markEntryS.l0 k (xs.set i ⟨t, u, a + 2, ((a + 3) % 3 == 0)⟩) (a + 4) ((i + 1 : Nat) : Int)) (fun k => ?_) (Ev.bind (mtx_ev a (by omega)) (Ev.bind (mtx_ev (a + 1) (by omega)) hr))
    simp only [laws_markEntryS.l0]
    rw [if_pos (by omega)]
    simp only [if_pos (show (0 : Int) ≤ i by omega), Option.bind_some, e1, e2, e3, e4, w64s (show i ≤ 1000000000000000000 by omega), rd_T88, getD_set _ _ h, getD_set _ _ (show i < (xs.set i _).length by simpa using h), Int.toNat_natCast, List.set_set]
    congr 1
    funext t
    congr 1
    funext u
    rw [Int.tmod_eq_emod_of_nonneg (by omega)]
    have g1 : ∀ (ys : List S88) (v d : S88), i < ys.length → (ys.set i v).getD i d = v := fun ys v d hh => by simp [List.getD_eq_getElem?_getD, List.getElem?_set, hh]
    simp only [g1 _ _ _ h, g1 _ _ _ (show i < (xs.set i _).length by simpa using h)]

theorem laws_heldEntryS_ev (n : Nat) (hl : n ≤ 1000000000000000) (a : Int) (h1 : 1 ≤ a) (h2 : a ≤ 10000000000000000) : Ev (fun k => laws_heldEntryS.f k (marksOf mte 4 n a) a) (a + 4 * n) := by
  refine held_loop laws_heldEntryS.l0 mte 4 (by decide) (fun k xs a i h => ?_) (fun xs a i r h hi hi2 h1 h2 hr => ?_) n hl a h1 h2
  · simp only [laws_heldEntryS.l0]
    rw [if_neg (by omega)]
  · have e1 : wrap64 (a + 1) = a + 1 := w64 (by omega) (by omega)
    have e2 : wrap64 (a + 1 + 1) = a + 2 := w64 (x := a + 1 + 1) (by omega) (by omega) |>.trans (by omega)
    have e3 : wrap64 (a + 2 + 1) = a + 3 := w64 (x := a + 2 + 1) (by omega) (by omega) |>.trans (by omega)
    have e4 : wrap64 (a + 3 + 1) = a + 4 := w64 (x := a + 3 + 1) (by omega) (by omega) |>.trans (by omega)
    have e5 : rd_T88 xs (i : Int) = mte a := getD_at h
    have e6 : Int.tmod (a + 3) 3 = (a + 3) % 3 := Int.tmod_eq_emod_of_nonneg (by omega)
    refine Ev.step (fun k => by simp only [laws_heldEntryS.l0]; rw [if_pos (by omega), if_pos (by omega), e5, e1, e2, e3, e4, e6, w64s (by omega)]) ?_
    refine Ev.bind (mtx_ev a (by omega)) (evPos rfl (Ev.bind (mtx_ev (a + 1) (by omega)) (evPos rfl (evPos rfl (evNeg ?_ hr)))))
    simp [mte]

theorem laws_toInt64S_ev (xs : List Int) (hl : xs.length ≤ 35184372088832) : Ev (fun k => laws_toInt64S.f k xs) xs := by
  simp only [laws_toInt64S.f]
  refine evPos (by omega) (evPos (by omega) ?_)
  have := copy_loop laws_toInt64S.l0 (fun x => x) 0 (fun k xs ys i h => by simp only [laws_toInt64S.l0]; rw [if_neg (by omega)])
    (fun k xs ys i a hi ha h1 h2 => by
      simp only [laws_toInt64S.l0]
      rw [if_pos (by omega), if_pos (by omega), if_pos (by omega), w64s (by omega), show rd xs (i : Int) = a from rd_at ha, Int.toNat_natCast]) xs (by omega)
  simpa using this
theorem laws_eqInt64S_self (xs : List Int) (hl : xs.length ≤ 1000000000000000000) : Ev (fun k => laws_eqInt64S.f k xs xs) true := by
  simp only [laws_eqInt64S.f]
  refine evPos trivial (self_loop laws_eqInt64S.l0 (fun k xs i h => by simp only [laws_eqInt64S.l0]; rw [if_neg (by omega)]) (fun k xs i a hi ha h1 => ?_) xs hl)
  simp only [laws_eqInt64S.l0]
  rw [if_pos (by omega), if_pos (by omega), if_pos (by omega), if_pos trivial, w64s (by omega)]

theorem laws_markInt64S_ev (xs : List Int) (hl : xs.length ≤ 1000000000000000) (a : Int) (h1 : 1 ≤ a) (h2 : a ≤ 10000000000000000) : Ev (fun k => laws_markInt64S.f k xs a) (a + 1 * xs.length, marksOf (fun a => a) 1 xs.length a) := by
  simp only [laws_markInt64S.f]
  refine mark_loop laws_markInt64S.l0 (fun a => a) 1 (by decide) (fun k xs a i h => by simp only [laws_markInt64S.l0]; rw [if_neg (by omega)]) (fun xs a i r hi hi2 ha hb h => ?_) xs hl a h1 h2
  refine Ev.step (fun k => ?_) h
  simp only [laws_markInt64S.l0]
  rw [if_pos (by omega), if_pos (by omega), w64 (x := a + 1) (by omega) (by omega), w64s (by omega), Int.toNat_natCast]

theorem FnExactBottom (xs : List S86) (ns : List Int) (hm : xs.length ≤ maxLen) (hw : ∀ e ∈ xs, e.f0.size ≤ maxLen ∧ e.f1.size ≤ maxLen ∧ (Lit.int .i64 e.f2).wf = true ∧ True) (hn1 : ns.length ≤ maxLen) (hn2 : ∀ n ∈ ns, (Lit.int .i64 n).wf = true) : ∃ k, laws_FnExactBottom.f k xs ns = some true := by
  refine Ev.rounds (g := fun k => laws_FnExactBottom.f k xs ns) ?_
  simp only [laws_FnExactBottom.f]
  by_cases hns : (ns.length : Int) > 1048576
  · exact evPos hns (Ev.now _)
  refine evNeg hns ?_
  obtain ⟨r, hr, _, _, hk⟩ := laws_szEntryS_ev xs hm (fun e h => ⟨(hw e h).1, (hw e h).2.1⟩) 1048576 (by decide) (by decide)
  refine Ev.step (fun k => by simp only [laws_FnExactBottom.j0]; exact rfl) ?_
  refine Ev.bind hr ?_
  by_cases h0 : r < 0
  · exact evPos h0 (Ev.now _)
  obtain ⟨hl, hs⟩ := hk (by omega)
  have toS := laws_toEntryS_ev xs (by omega)
  have toI := laws_toInt64S_ev ns (by omega)
  have sp := spec_Bottom_ev (xs.map toE) ns
  have im := impl_Bottom_ev (xs.map toE) ns
  have hb := bottom_le (xs.map toE) ns
  rw [List.length_map] at hb
  have hself0 := laws_eqEntryS_self (xs.map toE) (by rw [List.length_map]; omega)
  have hselfI := laws_eqInt64S_self ns (by omega)
  have hmark0 := laws_markEntryS_ev (xs.map toE) (by rw [List.length_map]; omega) 1 (by omega) (by omega)
  have hmarkI := laws_markInt64S_ev ns (by omega) (1 + 4 * (xs.map toE).length) (by omega) (by rw [List.length_map]; omega)
  generalize bottom (xs.map toE) ns = d at sp im hb
  have hself := laws_eqEntryS_self d (by omega)
  have hmark := laws_markEntryS_ev d (by omega) 1 (by omega) (by omega)
  have hheld := laws_heldEntryS_ev d.length (by omega) 1 (by omega) (by omega)
  have t9 : Ev (fun k => laws_FnExactBottom.j9 k (marksOf mte 4 d.length 1) (1 + 4 * d.length)) true := by
    refine Ev.step (fun k => by simp only [laws_FnExactBottom.j9]; exact rfl) ?_
    exact Ev.bind hheld (evNeg (by omega) (evPos rfl (Ev.now _)))
  have t8 : Ev (fun k => laws_FnExactBottom.j8 k xs ns d (marksOf mte 4 d.length 1) (1 + 4 * d.length)) true := by
    refine Ev.step (fun k => by simp only [laws_FnExactBottom.j8]; exact rfl) ?_
    exact Ev.bind toS (Ev.bind toI (Ev.bind im (Ev.bind hself (evPos rfl t9))))
  have t6 : Ev (fun k => laws_FnExactBottom.j6 k xs ns d d) true := by
    refine Ev.step (fun k => by simp only [laws_FnExactBottom.j6]; exact rfl) ?_
    refine Ev.bind hmark (Ev.bind hheld (evNeg (by omega) ?_))
    refine Ev.step (fun k => by simp only [laws_FnExactBottom.j7]; exact rfl) ?_
    exact evPos trivial t8
  have t4 : Ev (fun k => laws_FnExactBottom.j4 k xs ns d (xs.map toE) ns d) true := by
    refine Ev.step (fun k => by simp only [laws_FnExactBottom.j4]; exact rfl) ?_
    refine Ev.bind hmark0 (Ev.bind hmarkI (evNeg (by rw [List.length_map]; omega) (Ev.bind hself ?_)))
    refine Ev.step (fun k => by simp only [laws_FnExactBottom.j5]; exact rfl) ?_
    exact evNeg (by simp) t6
  refine evNeg h0 ?_
  refine Ev.step (fun k => by simp only [laws_FnExactBottom.j1]; exact rfl) ?_
  refine Ev.bind toS (Ev.bind toI (Ev.bind sp (Ev.bind toS (Ev.bind toI (Ev.bind im (Ev.bind hself (evPos rfl ?_)))))))
  refine Ev.step (fun k => by simp only [laws_FnExactBottom.j2]; exact rfl) ?_
  refine Ev.bind toS (Ev.bind hself0 (evPos rfl ?_))
  refine Ev.step (fun k => by simp only [laws_FnExactBottom.j3]; exact rfl) ?_
  exact Ev.bind toI (Ev.bind hselfI (evPos rfl t4))
end Go.Proofs.Ytajidjlbgpaaoaa.Pure

/- Proves the plain law behind this statement of the seat (what its functions come to, over numbers and lists): that it answers true. No condition beyond the statement's own. -/
import Derived.Test.YtaiggfjkikfcbaaPFnExactPutx
import Derived.Test.YtaiggfjkikfcbaaLib
import Derived.Test.YtaiggfjkikfcbaaLibHit
import Derived.Test.YtaiggfjkikfcbaaLibRow
import Derived.Test.YtaiggfjkikfcbaaLibStr
namespace Go.Proofs.Ytaiggfjkikfcbaa.Pure
open Go Go.RowKit Go.Proofs.Ytaiggfjkikfcbaa.PFnExactPut Go.Proofs.YtaiggfjkikfcbaaW.PrintWords Go.Proofs.YtaiggfjkikfcbaaW.PrintLast Go.Proofs.YtaiggfjkikfcbaaW.PrintMore Go.Proofs.Ytaiggfjkikfcbaa.Lib
set_option linter.unusedVariables false
set_option linter.unusedSimpArgs false
def szE (left : Int) : List S24 → Int
  | [] => left
  | e :: xs => if left - e.f0.size < 0 ∨ left - e.f0.size - e.f1.size < 0 then -1 else szE (left - e.f0.size - e.f1.size) xs
theorem szE_bd : ∀ (xs : List S24) (left : Int), 0 ≤ szE left xs → 0 ≤ left → ∀ e ∈ xs, (e.f0.size : Int) ≤ left ∧ (e.f1.size : Int) ≤ left
  | [], _, _, _, s, hs => by simp at hs
  | x :: xs, left, h, h0, s, hs => by
    unfold szE at h
    by_cases hx : left - x.f0.size < 0 ∨ left - x.f0.size - x.f1.size < 0
    · rw [if_pos hx] at h; omega
    · rw [if_neg hx] at h
      rcases List.mem_cons.1 hs with rfl | hs
      · omega
      · have := szE_bd xs _ h (by omega) s hs
        omega
theorem szE_range : ∀ (xs : List S24) (left : Int), 0 ≤ left → -1 ≤ szE left xs ∧ szE left xs ≤ left
  | [], left, h => by unfold szE; omega
  | x :: xs, left, h => by
    unfold szE
    by_cases hx : left - x.f0.size < 0 ∨ left - x.f0.size - x.f1.size < 0
    · rw [if_pos hx]; omega
    · rw [if_neg hx]
      have := szE_range xs (left - x.f0.size - x.f1.size) (by omega)
      omega
theorem laws_szEntry_eq (e : S24) (left : Int) (h0 : 0 ≤ left) (h1 : left ≤ 1048576) (hb : e.f0.size ≤ maxLen ∧ e.f1.size ≤ maxLen) :
    laws_szEntry.f e.f0 e.f1 e.f2 e.f3 left = some (if left - e.f0.size < 0 ∨ left - e.f0.size - e.f1.size < 0 then -1 else left - e.f0.size - e.f1.size) := by
  have hm : maxLen = 9223372036854775807 := rfl
  have e1 : wrap64 (left - (e.f0.size : Int)) = left - e.f0.size := w64 (by omega) (by omega)
  simp only [laws_szEntry.f, e1]
  by_cases hx : left - (e.f0.size : Int) < 0
  · rw [if_pos hx, if_pos (Or.inl hx)]
  · have e2 : wrap64 (left - (e.f0.size : Int) - (e.f1.size : Int)) = left - e.f0.size - e.f1.size := w64 (by omega) (by omega)
    rw [if_neg hx, e2]
    by_cases hy : left - (e.f0.size : Int) - (e.f1.size : Int) < 0
    · rw [if_pos hy, if_pos (Or.inr hy)]
    · rw [if_neg hy, if_neg (fun h => h.elim hx hy)]
theorem laws_szEntryS_l0_ev (xs : List S24) (hl : xs.length ≤ 1000000000000000000) (hs : ∀ e ∈ xs, e.f0.size ≤ maxLen ∧ e.f1.size ≤ maxLen) : ∀ (bs : List S24) (i : Nat) (left : Int), xs.drop i = bs → 0 ≤ left → left ≤ 1048576 → Ev (fun k => laws_szEntryS.l0 k xs left i) (szE left bs)
  | [], i, left, hd, h0, h1 => by
    have := drop_nil hd
    refine Ev.step (f := fun _ => some left) (fun k => ?_) (Ev.now _)
    simp only [laws_szEntryS.l0]
    rw [if_neg (by omega)]
  | b :: bs, i, left, hd, h0, h1 => by
    obtain ⟨h2, h3, h4⟩ := drop_cons hd
    have e1 : rd_T24 xs (i : Int) = b := getD_at h4
    have e2 := laws_szEntry_eq b left h0 h1 (hs b (List.mem_of_getElem? h4))
    unfold szE
    by_cases hx : left - b.f0.size < 0 ∨ left - b.f0.size - b.f1.size < 0
    · rw [if_pos hx] at e2 ⊢
      refine Ev.step (f := fun _ => some (-1)) (fun k => ?_) (Ev.now _)
      simp only [laws_szEntryS.l0]
      rw [if_pos (by omega), if_pos (by omega), e1, e2]
      rfl
    · rw [if_neg hx] at e2 ⊢
      refine Ev.step (f := fun k => laws_szEntryS.l0 k xs (left - b.f0.size - b.f1.size) ((i + 1 : Nat) : Int)) (fun k => ?_) (laws_szEntryS_l0_ev xs hl hs bs (i + 1) _ h3 (by omega) (by omega))
      simp only [laws_szEntryS.l0]
      rw [if_pos (by omega), if_pos (by omega), e1, e2]
      simp only [Option.bind_some]
      rw [if_neg (by omega), w64s (by omega)]
theorem laws_szEntryS_ev (xs : List S24) (hl : xs.length ≤ maxLen) (hs : ∀ e ∈ xs, e.f0.size ≤ maxLen ∧ e.f1.size ≤ maxLen) (left : Int) (h0 : 0 ≤ left) (h1 : left ≤ 1048576) :
    ∃ r, Ev (fun k => laws_szEntryS.f k xs left) r ∧ -1 ≤ r ∧ r ≤ left ∧ (0 ≤ r → (xs.length : Int) ≤ left ∧ ∀ e ∈ xs, (e.f0.size : Int) ≤ left ∧ (e.f1.size : Int) ≤ left) := by
  have hm : maxLen = 9223372036854775807 := rfl
  have e : wrap64 (left - (xs.length : Int)) = left - xs.length := w64 (by omega) (by omega)
  by_cases h : left - (xs.length : Int) < 0
  · refine ⟨-1, ?_, by omega, by omega, fun h => by omega⟩
    simp only [laws_szEntryS.f]
    exact evPos (by rw [e]; exact h) (Ev.now _)
  · refine ⟨szE (left - xs.length) xs, ?_, ?_, ?_, fun hr => ⟨by omega, fun s h' => ?_⟩⟩
    · simp only [laws_szEntryS.f]
      refine evNeg (by rw [e]; exact h) ?_
      rw [e]
      exact laws_szEntryS_l0_ev xs (by omega) hs xs 0 _ rfl (by omega) (by omega)
    · exact (szE_range xs _ (by omega)).1
    · have := (szE_range xs (left - xs.length) (by omega)).2; omega
    · have := szE_bd xs _ hr (by omega) s h'; omega

/-- The law's record as the program's. -/
def toE (x : S24) : S31 := ⟨x.f0, x.f1, x.f2, x.f3⟩
theorem laws_toEntryS_ev (xs : List S24) (hl : xs.length ≤ 5864062014805) : Ev (fun k => laws_toEntryS.f k xs) (xs.map toE) := by
  simp only [laws_toEntryS.f]
  refine evPos (by omega) (evPos (by omega) ?_)
  exact copy_loop laws_toEntryS.l0 toE z31 (fun k xs ys i h => by simp only [laws_toEntryS.l0]; rw [if_neg (by omega)])
    (fun k xs ys i a hi ha h1 h2 => by
      simp only [laws_toEntryS.l0, laws_toEntry.f, Option.bind_some]
      rw [if_pos (by omega), if_pos (by omega), if_pos (by omega), w64s (by omega), show rd_T24 xs (i : Int) = a from getD_at ha, Int.toNat_natCast]
      rfl) xs (by omega)

theorem laws_eqEntry_self (e : S31) : laws_eqEntry.f e.f0 e.f1 e.f2 e.f3 e.f0 e.f1 e.f2 e.f3 = some true := by
  simp [laws_eqEntry.f]
theorem laws_eqEntryS_self (xs : List S31) (hl : xs.length ≤ 1000000000000000000) : Ev (fun k => laws_eqEntryS.f k xs xs) true := by
  simp only [laws_eqEntryS.f]
  refine evPos trivial (self_loop laws_eqEntryS.l0 (fun k xs i h => by simp only [laws_eqEntryS.l0]; rw [if_neg (by omega)]) (fun k xs i a hi ha h1 => ?_) xs hl)
  simp only [laws_eqEntryS.l0]
  rw [if_pos (by omega), if_pos (by omega), if_pos (by omega), laws_eqEntry_self, w64s (by omega)]
  rfl

/-- Is an entry right? -/
def entOk (e : S31) : Bool := within e.f0.size 1 40 && (decide ((e.f1.size : Int) ≤ 200) && ((!e.f3 || decide (e.f1.toList = ([] : List UInt8))) && within e.f2 1 1000000))
/-- Is the one ahead of the other? -/
def ahead (a b : S31) : Bool := Op.bytesLess a.f0.toList b.f0.toList || (decide (a.f0.toList = b.f0.toList) && decide (a.f2 > b.f2))
def okL : Option S31 → List S31 → Bool
  | _, [] => true
  | p, e :: es => entOk e && ((match p with | none => true | some q => ahead q e) && okL (some e) es)
def entriesOk (xs : List S31) : Bool := decide (xs.length ≤ 300) && okL none xs
theorem entOk_iff {e : S31} : entOk e = true ↔ (1 ≤ e.f0.size ∧ e.f0.size ≤ 40) ∧ e.f1.size ≤ 200 ∧ (e.f3 = true → e.f1.toList = []) ∧ 1 ≤ e.f2 ∧ e.f2 ≤ 1000000 := by
  unfold entOk within
  simp only [Bool.and_eq_true, Bool.or_eq_true, decide_eq_true_eq, Bool.not_eq_true']
  constructor
  · rintro ⟨⟨h1, h2⟩, h3, h4, h5, h6⟩
    refine ⟨⟨by omega, by omega⟩, by omega, fun hg => ?_, h5, h6⟩
    rcases h4 with h4 | h4
    · rw [hg] at h4; cases h4
    · exact h4
  · rintro ⟨⟨h1, h2⟩, h3, h4, h5, h6⟩
    refine ⟨⟨by omega, by omega⟩, by omega, ?_, h5, h6⟩
    cases h : e.f3 with
    | false => exact Or.inl rfl
    | true => exact Or.inr (h4 h)
/-- The entry ahead of place i. -/
def prev (xs : List S31) (i : Nat) : Option S31 := if i = 0 then none else xs[i - 1]?
theorem prev_succ {xs : List S31} {i : Nat} {e : S31} (h : xs[i]? = some e) : prev xs (i + 1) = some e := by
  unfold prev
  rw [if_neg (by omega), show i + 1 - 1 = i by omega, h]

theorem ahead_iff {a b : S31} : ahead a b = true ↔ Op.bytesLess a.f0.toList b.f0.toList = true ∨ (a.f0.toList = b.f0.toList ∧ b.f2 < a.f2) := by
  unfold ahead
  simp only [Bool.or_eq_true, Bool.and_eq_true, decide_eq_true_eq]
theorem ahead_trans {a b c : S31} (h : ahead a b = true) (k : ahead b c = true) : ahead a c = true := by
  rw [ahead_iff] at h k ⊢
  rcases h with h | ⟨h1, h2⟩
  · rcases k with k | ⟨k1, k2⟩
    · exact Or.inl (less_trans _ _ _ h k)
    · exact Or.inl (k1 ▸ h)
  · rcases k with k | ⟨k1, k2⟩
    · exact Or.inl (h1.symm ▸ k)
    · exact Or.inr ⟨h1.trans k1, by omega⟩
theorem ahead_same {a b : S31} (h : ahead a b = true) (hk : a.f0.toList = b.f0.toList) : b.f2 < a.f2 := by
  rw [ahead_iff] at h
  rcases h with h | ⟨_, h⟩
  · rw [hk, less_irrefl] at h; cases h
  · exact h
theorem ahead_mid {a b c : S31} (h : ahead a b = true) (k : ahead b c = true) (hk : a.f0.toList = c.f0.toList) : b.f0.toList = a.f0.toList := by
  rw [ahead_iff] at h k
  rcases h with h | ⟨h, _⟩
  · rcases k with k | ⟨k, _⟩
    · have := less_trans _ _ _ h k
      rw [hk, less_irrefl] at this; cases this
    · rw [hk, k, less_irrefl] at h; cases h
  · exact h.symm
theorem okL_pair : ∀ (xs : List S31) (p : Option S31), okL p xs = true → (∀ e ∈ xs, entOk e = true) ∧ (∀ q, p = some q → ∀ e ∈ xs, ahead q e = true) ∧ xs.Pairwise (fun a b => ahead a b = true)
  | [], p, _ => ⟨by simp, by simp, List.Pairwise.nil⟩
  | x :: xs, p, h => by
    unfold okL at h
    simp only [Bool.and_eq_true] at h
    obtain ⟨h1, h2, h3⟩ := h
    obtain ⟨k1, k2, k3⟩ := okL_pair xs (some x) h3
    refine ⟨?_, ?_, List.Pairwise.cons (k2 x rfl) k3⟩
    · intro e he
      rcases List.mem_cons.1 he with rfl | he
      · exact h1
      · exact k1 e he
    · rintro q rfl e he
      have hq : ahead q x = true := h2
      rcases List.mem_cons.1 he with rfl | he
      · exact hq
      · exact ahead_trans hq (k2 x rfl e he)
theorem entriesOk_pair {xs : List S31} (h : entriesOk xs = true) : xs.length ≤ 300 ∧ (∀ e ∈ xs, entOk e = true) ∧ xs.Pairwise (fun a b => ahead a b = true) := by
  unfold entriesOk at h
  simp only [Bool.and_eq_true, decide_eq_true_eq] at h
  obtain ⟨k1, _, k3⟩ := okL_pair xs none h.2
  exact ⟨h.1, k1, k3⟩
theorem entriesOk_len {xs : List S31} (h : entriesOk xs = true) : xs.length ≤ 300 := by
  unfold entriesOk at h
  simp only [Bool.and_eq_true, decide_eq_true_eq] at h
  exact h.1

theorem impl_within_ev (a b c : Int) : Ev (fun _ => impl_within.f a b c) (within a b c) := by
  refine evId (fun _ => ?_)
  unfold impl_within.f within
  by_cases h : a ≥ b
  · rw [if_pos h, decide_eq_true (show b ≤ a from h), Bool.true_and]
  · rw [if_neg h, decide_eq_false (show ¬ b ≤ a from h), Bool.false_and]

def ordI (x y : Int) : Int := if x < y then -1 else if x > y then 1 else 0
def ordS (x y : ByteArray) : Int := if Op.bytesLess x.toList y.toList = true then -1 else if Op.bytesLess y.toList x.toList = true then 1 else 0
def byOrder (a b : S31) : Int := if ordS a.f0 b.f0 = 0 then ordI b.f2 a.f2 else ordS a.f0 b.f0
theorem cmp_Compare_string_ev (x y : ByteArray) : Ev (fun _ => cmp_Compare_string.f x y) (ordS x y) := by
  refine evId (fun _ => ?_)
  unfold cmp_Compare_string.f cmp_isNaN_string.f ordS
  simp only [bne_self_eq_false, Option.bind_some, Bool.false_eq_true, if_false]
  split
  · rfl
  · split <;> rfl
theorem cmp_Compare_int64_ev (x y : Int) : Ev (fun _ => cmp_Compare_int64.f x y) (ordI x y) := by
  refine evId (fun _ => ?_)
  unfold cmp_Compare_int64.f cmp_isNaN_int64.f ordI
  simp only [bne_self_eq_false, Option.bind_some, Bool.false_eq_true, if_false]
  split
  · rfl
  · split <;> rfl
theorem cmp_Or_two (x y : Int) : Ev (fun k => cmp_Or_int.f k [x, y]) (if x = 0 then y else x) := by
  simp only [cmp_Or_int.f]
  refine ⟨3, fun k hk => ?_⟩
  obtain ⟨m, rfl⟩ : ∃ m, k = m + 3 := ⟨k - 3, by omega⟩
  have w1 : wrap64 (0 + 1) = 1 := w64 (x := 0 + 1) (by decide) (by decide)
  have w2 : wrap64 (1 + 1) = 2 := w64 (x := 1 + 1) (by decide) (by decide)
  have e0 : rd [x, y] 0 = x := rfl
  have e1 : rd [x, y] 1 = y := rfl
  simp only [cmp_Or_int.l0, w1, w2, e0, e1]
  by_cases hx : x = 0
  · by_cases hy : y = 0
    · simp [hx, hy]
    · simp [hx, hy]
  · simp [hx]
theorem impl_byOrder_ev (a b : S31) : Ev (fun k => impl_byOrder.f k a.f0 a.f1 a.f2 a.f3 b.f0 b.f1 b.f2 b.f3) (byOrder a b) := by
  simp only [impl_byOrder.f]
  exact Ev.bind (cmp_Compare_string_ev a.f0 b.f0) (Ev.bind (cmp_Compare_int64_ev b.f2 a.f2) (Ev.bind (cmp_Or_two _ _) (Ev.now _)))
theorem byOrder_ahead (a b : S31) : decide (byOrder a b ≥ 0) = !ahead a b := by
  unfold byOrder ahead ordS ordI
  cases h1 : Op.bytesLess a.f0.toList b.f0.toList with
  | true => simp
  | false =>
    cases h2 : Op.bytesLess b.f0.toList a.f0.toList with
    | true =>
      have : a.f0.toList ≠ b.f0.toList := by
        intro h
        rw [h, less_irrefl] at h2
        cases h2
      simp [this]
    | false =>
      have := less_tri _ _ h1 h2
      simp only [Bool.false_eq_true, if_false, if_true, this, decide_true, Bool.true_and, Bool.false_or]
      by_cases h3 : b.f2 < a.f2
      · rw [if_pos h3, decide_eq_true (show a.f2 > b.f2 from h3)]; decide
      · rw [if_neg h3, decide_eq_false (show ¬ a.f2 > b.f2 from h3)]
        split <;> decide

theorem impl_within_eq (a b c : Int) : impl_within.f a b c = some (within a b c) := by
  obtain ⟨k, h⟩ := (impl_within_ev a b c).rounds
  exact h
theorem impl_entryOk_ev (e : S31) : Ev (fun _ => impl_entryOk.f e.f0 e.f1 e.f2 e.f3) (entOk e) := by
  obtain ⟨a, b, c, g⟩ := e
  refine evId (fun _ => ?_)
  unfold impl_entryOk.f entOk
  simp only [impl_within_eq, Option.bind_some]
  cases h1 : within (a.size : Int) 1 40 with
  | false => simp
  | true =>
    rw [if_pos rfl]
    by_cases h3 : (b.size : Int) ≤ 200
    · rw [if_pos h3, decide_eq_true h3]
      cases g with
      | false => simp
      | true =>
        rw [if_pos rfl]
        by_cases h4 : b.toList = ([] : List UInt8)
        · rw [if_pos h4]; simp [h4]
        · rw [if_neg h4]; simp [h4]
    · rw [if_neg h3, decide_eq_false h3]; simp
theorem impl_EntriesOk_l0_ev (xs : List S31) (hl : xs.length ≤ 1000000000000000000) : ∀ (bs : List S31) (i : Nat), xs.drop i = bs → Ev (fun k => impl_EntriesOk.l0 k xs xs (xs.length : Int) i) (okL (prev xs i) bs)
  | [], i, hd => by
    have := drop_nil hd
    refine Ev.step (f := fun _ => some true) (fun k => ?_) (Ev.now _)
    simp only [impl_EntriesOk.l0]
    rw [if_neg (by omega)]
  | e :: bs, i, hd => by
    obtain ⟨h2, h3, h4⟩ := drop_cons hd
    have e1 : rd_T31 xs (i : Int) = e := getD_at h4
    have ih := impl_EntriesOk_l0_ev xs hl bs (i + 1) h3
    rw [prev_succ h4] at ih
    refine Ev.step (f := fun k => (impl_entryOk.f e.f0 e.f1 e.f2 e.f3).bind fun t127 => (if t127 = true then (if (i : Int) > 0 then ((impl_byOrder.f k (rd_T31 xs (wrap64 ((i : Int) - 1))).f0 (rd_T31 xs (wrap64 ((i : Int) - 1))).f1 (rd_T31 xs (wrap64 ((i : Int) - 1))).f2 (rd_T31 xs (wrap64 ((i : Int) - 1))).f3 e.f0 e.f1 e.f2 e.f3).bind fun t130 => (if t130 ≥ 0 then (some false) else (impl_EntriesOk.l0 k xs xs (xs.length : Int) ((i + 1 : Nat) : Int)))) else (impl_EntriesOk.l0 k xs xs (xs.length : Int) ((i + 1 : Nat) : Int))) else (some false))) (fun k => ?_) (Ev.bind (impl_entryOk_ev e) ?_)
    · simp only [impl_EntriesOk.l0]
      rw [if_pos (by omega), if_pos (by omega), if_pos (by omega), e1, w64s (by omega)]
      by_cases hi : (i : Int) > 0
      · simp only [if_pos hi, if_pos (show (0 : Int) ≤ wrap64 ((i : Int) - 1) by rw [w64 (by omega) (by omega)]; omega), if_pos (show wrap64 ((i : Int) - 1) < (xs.length : Int) by rw [w64 (by omega) (by omega)]; omega)]
      · simp only [if_neg hi]
    · unfold okL
      cases he : entOk e with
      | false => exact evNeg (by simp) (Ev.now _)
      | true =>
        refine evPos rfl ?_
        rw [Bool.true_and]
        by_cases hi : i = 0
        · subst hi
          refine evNeg (by omega) (evEq ih ?_)
          simp [prev]
        · obtain ⟨q, hq⟩ : ∃ q, xs[i - 1]? = some q := ⟨_, List.getElem?_eq_getElem (by omega)⟩
          have e2 : rd_T31 xs (wrap64 ((i : Int) - 1)) = q := by
            rw [w64 (by omega) (by omega), show (i : Int) - 1 = ((i - 1 : Nat) : Int) by omega]
            exact getD_at hq
          refine evPos (by omega) ?_
          rw [e2]
          refine Ev.bind (impl_byOrder_ev q e) ?_
          simp only [prev, if_neg hi, hq]
          have hb := byOrder_ahead q e
          cases ha : ahead q e with
          | false =>
            rw [ha] at hb
            exact evPos (of_decide_eq_true hb) (Ev.now _)
          | true =>
            rw [ha] at hb
            exact evNeg (of_decide_eq_false hb) (evEq ih (by rw [Bool.true_and]))
theorem impl_EntriesOk_ev (xs : List S31) : Ev (fun k => impl_EntriesOk.f k xs) (entriesOk xs) := by
  simp only [impl_EntriesOk.f]
  unfold entriesOk
  by_cases h : (xs.length : Int) > 300
  · rw [decide_eq_false (by omega)]; exact evPos h (Ev.now _)
  · rw [decide_eq_true (by omega), Bool.true_and]
    exact evNeg h (impl_EntriesOk_l0_ev xs (by omega) xs 0 rfl)

theorem spec_l1In_ev (a b c : Int) : Ev (fun _ => spec_l1In.f a b c) (within a b c) := by
  refine evId (fun _ => ?_)
  unfold spec_l1In.f within
  by_cases h : a ≥ b
  · rw [if_pos h, decide_eq_true (show b ≤ a from h), Bool.true_and]
  · rw [if_neg h, decide_eq_false (show ¬ b ≤ a from h), Bool.false_and]

theorem spec_l3Entry_ev (e : S31) : Ev (fun _ => spec_l3Entry.f e.f0 e.f1 e.f2 e.f3) (entOk e) := by
  obtain ⟨a, b, c, g⟩ := e
  refine evId (fun _ => ?_)
  have hin : spec_l1In.f c 1 1000000 = some (within c 1 1000000) := by
    obtain ⟨k, h⟩ := (spec_l1In_ev c 1 1000000).rounds
    exact h
  unfold spec_l3Entry.f entOk
  simp only [hin, Option.bind_some]
  by_cases h1 : (a.size : Int) ≥ 1
  · by_cases h2 : (a.size : Int) ≤ 40
    · by_cases h3 : (b.size : Int) ≤ 200
      · rw [if_pos h1, if_pos h2, if_pos h3]
        have : within (a.size : Int) 1 40 = true := by simp [within]; omega
        rw [this, decide_eq_true h3]
        cases g with
        | false => simp
        | true =>
          rw [if_pos rfl]
          by_cases h4 : b.toList = ([] : List UInt8)
          · rw [if_pos h4]; simp [h4]
          · rw [if_neg h4]; simp [h4]
      · rw [if_pos h1, if_pos h2, if_neg h3, decide_eq_false h3]; simp
    · rw [if_pos h1, if_neg h2]
      have : within (a.size : Int) 1 40 = false := by simp [within]; omega
      rw [this]; simp
  · rw [if_neg h1]
    have : within (a.size : Int) 1 40 = false := by simp [within]; omega
    rw [this]; simp
theorem spec_l3Ahead_ev (a b : S31) : Ev (fun _ => spec_l3Ahead.f a.f0 a.f1 a.f2 a.f3 b.f0 b.f1 b.f2 b.f3) (ahead a b) := by
  refine evId (fun _ => ?_)
  unfold spec_l3Ahead.f ahead
  cases h : Op.bytesLess a.f0.toList b.f0.toList with
  | true => simp
  | false =>
    rw [if_neg (by simp)]
    by_cases h2 : a.f0.toList = b.f0.toList
    · rw [if_pos h2]; simp [h2]
    · rw [if_neg h2]; simp [h2]
theorem spec_EntriesOk_l0_ev (xs : List S31) (hl : xs.length ≤ 1000000000000000000) : ∀ (bs : List S31) (i : Nat), xs.drop i = bs → Ev (fun k => spec_EntriesOk.l0 k xs i) (okL (prev xs i) bs)
  | [], i, hd => by
    have := drop_nil hd
    refine Ev.step (f := fun _ => some true) (fun k => ?_) (Ev.now _)
    simp only [spec_EntriesOk.l0]
    rw [if_neg (by omega)]
  | e :: bs, i, hd => by
    obtain ⟨h2, h3, h4⟩ := drop_cons hd
    have e1 : rd_T31 xs (i : Int) = e := getD_at h4
    have ih := spec_EntriesOk_l0_ev xs hl bs (i + 1) h3
    rw [prev_succ h4] at ih
    refine Ev.step (f := fun k => (spec_l3Entry.f e.f0 e.f1 e.f2 e.f3).bind fun t127 => (if t127 = true then (if (i : Int) > 0 then ((spec_l3Ahead.f (rd_T31 xs (wrap64 ((i : Int) - 1))).f0 (rd_T31 xs (wrap64 ((i : Int) - 1))).f1 (rd_T31 xs (wrap64 ((i : Int) - 1))).f2 (rd_T31 xs (wrap64 ((i : Int) - 1))).f3 e.f0 e.f1 e.f2 e.f3).bind fun t130 => (if t130 = true then (spec_EntriesOk.l0 k xs ((i + 1 : Nat) : Int)) else (some false))) else (spec_EntriesOk.l0 k xs ((i + 1 : Nat) : Int))) else (some false))) (fun k => ?_) (Ev.bind (spec_l3Entry_ev e) ?_)
    · simp only [spec_EntriesOk.l0]
      rw [if_pos (by omega), if_pos (by omega), e1, w64s (by omega)]
      by_cases hi : (i : Int) > 0
      · simp only [if_pos hi, if_pos (show (0 : Int) ≤ wrap64 ((i : Int) - 1) by rw [w64 (by omega) (by omega)]; omega), if_pos (show wrap64 ((i : Int) - 1) < (xs.length : Int) by rw [w64 (by omega) (by omega)]; omega)]
      · simp only [if_neg hi]
    · unfold okL
      cases he : entOk e with
      | false => exact evNeg (by simp) (Ev.now _)
      | true =>
        refine evPos rfl ?_
        rw [Bool.true_and]
        by_cases hi : i = 0
        · subst hi
          refine evNeg (by omega) (evEq ih ?_)
          simp [prev]
        · obtain ⟨q, hq⟩ : ∃ q, xs[i - 1]? = some q := ⟨_, List.getElem?_eq_getElem (by omega)⟩
          have e2 : rd_T31 xs (wrap64 ((i : Int) - 1)) = q := by
            rw [w64 (by omega) (by omega), show (i : Int) - 1 = ((i - 1 : Nat) : Int) by omega]
            exact getD_at hq
          refine evPos (by omega) ?_
          rw [e2]
          refine Ev.bind (spec_l3Ahead_ev q e) ?_
          simp only [prev, if_neg hi, hq]
          cases ahead q e with
          | false => exact evNeg (by simp) (Ev.now _)
          | true => exact evPos rfl (evEq ih (by rw [Bool.true_and]))
theorem spec_EntriesOk_ev (xs : List S31) : Ev (fun k => spec_EntriesOk.f k xs) (entriesOk xs) := by
  simp only [spec_EntriesOk.f]
  unfold entriesOk
  by_cases h : (xs.length : Int) > 300
  · rw [decide_eq_false (by omega)]; exact evPos h (Ev.now _)
  · rw [decide_eq_true (by omega), Bool.true_and]
    exact evNeg h (spec_EntriesOk_l0_ev xs (by omega) xs 0 rfl)

def sameE (a b : S31) : Bool := decide (a.f0.toList = b.f0.toList) && decide (a.f2 = b.f2)
/-- An entry into a list in order. -/
def insE (xs : List S31) (e : S31) : List S31 := xs.takeWhile (fun x => ahead x e) ++ e :: xs.dropWhile (fun x => ahead x e)
def put (xs : List S31) (e : S31) : List S31 × Bool :=
  if entriesOk xs = true ∧ entOk e = true ∧ xs.length ≠ 300 ∧ xs.any (fun x => sameE x e) = false then (insE xs e, true) else ([], false)
theorem insE_length (xs : List S31) (e : S31) : (insE xs e).length = xs.length + 1 := by
  have h := congrArg List.length (List.takeWhile_append_dropWhile (p := fun x => ahead x e) (l := xs))
  rw [List.length_append] at h
  unfold insE
  rw [List.length_append, List.length_cons]
  omega
theorem insE_cons_pos {x e : S31} {xs : List S31} (h : ahead x e = true) : insE (x :: xs) e = x :: insE xs e := by
  unfold insE
  rw [List.takeWhile_cons_of_pos (p := fun x => ahead x e) h, List.dropWhile_cons_of_pos (p := fun x => ahead x e) h]
  rfl
theorem insE_cons_neg {x e : S31} {xs : List S31} (h : ahead x e = false) : insE (x :: xs) e = e :: x :: xs := by
  unfold insE
  have h' : ¬ ahead x e = true := by rw [h]; exact Bool.false_ne_true
  rw [List.takeWhile_cons_of_neg (p := fun x => ahead x e) h', List.dropWhile_cons_of_neg (p := fun x => ahead x e) h']
  rfl
theorem put_le (xs : List S31) (e : S31) : (put xs e).1.length ≤ 301 := by
  unfold put
  split
  · rename_i h
    have := entriesOk_len h.1
    simp only [insE_length]
    omega
  · simp
theorem spec_l3Put_l0_val (xs : List S31) (hl : xs.length ≤ 1000000) (e : S31) : ∀ (bs : List S31) (i : Nat), xs.drop i = bs → i ≤ xs.length → Ev (fun k => spec_l3Put.l0 k xs i e.f0 e.f1 e.f2 e.f3) (xs.take i ++ insE bs e)
  | [], i, hd, hi => by
    have := drop_nil hd
    have e1 : xs.take i ++ insE [] e = [] ++ xs.take i ++ [e] ++ xs.drop i := by rw [hd]; simp [insE]
    rw [e1]
    refine Ev.step (f := fun _ => some _) (fun k => ?_) (Ev.now _)
    simp only [spec_l3Put.l0]
    rw [if_neg (by omega)]
    simp only [Option.bind_some, Int.toNat_natCast]
    rw [if_pos (by omega), if_pos (by omega), if_pos (by simp; omega), if_pos (by simp; omega), if_pos (by simp; omega)]
  | x :: bs, i, hd, hi => by
    obtain ⟨h2, h3, h4⟩ := drop_cons hd
    have e1 : rd_T31 xs (i : Int) = x := getD_at h4
    have ha := spec_l3Ahead_ev x e
    cases hx : ahead x e with
    | true =>
      rw [hx] at ha
      have ih := spec_l3Put_l0_val xs hl e bs (i + 1) h3 (by omega)
      have e2 : xs.take i ++ insE (x :: bs) e = xs.take (i + 1) ++ insE bs e := by
        rw [insE_cons_pos hx, List.take_add_one, h4]
        simp
      rw [e2]
      exact Ev.step (fun k => by simp only [spec_l3Put.l0]; rw [if_pos (by omega), if_pos (by omega), e1, w64s (by omega)]) (Ev.bind ha (evPos rfl ih))
    | false =>
      rw [hx] at ha
      have e2 : xs.take i ++ insE (x :: bs) e = [] ++ xs.take i ++ [e] ++ xs.drop i := by
        rw [insE_cons_neg hx, hd]
        simp
      rw [e2]
      refine Ev.step (fun k => by simp only [spec_l3Put.l0]; rw [if_pos (by omega), if_pos (by omega), e1]) (Ev.bind ha (evNeg Bool.false_ne_true (evId (fun k => ?_))))
      simp only [Option.bind_some, Int.toNat_natCast]
      rw [if_pos (by omega), if_pos (by simp; omega), if_pos (by simp; omega), if_pos (by simp; omega)]
theorem spec_l3Put_val (xs : List S31) (hl : xs.length ≤ 1000000) (e : S31) : Ev (fun k => spec_l3Put.f k xs e.f0 e.f1 e.f2 e.f3) (insE xs e) := by
  have := spec_l3Put_l0_val xs hl e xs 0 rfl (Nat.zero_le _)
  rw [List.take_zero, List.nil_append] at this
  exact this
theorem spec_Put_l0_ev (xs : List S31) (hl : xs.length ≤ 1000000) (e : S31) : ∀ (bs : List S31) (i : Nat), xs.drop i = bs → Ev (fun k => spec_Put.l0 k xs i e.f0 e.f1 e.f2 e.f3) (if bs.any (fun x => sameE x e) = true then ([], false) else (insE xs e, true))
  | [], i, hd => by
    have := drop_nil hd
    refine Ev.step (f := fun k => (spec_l3Put.f k xs e.f0 e.f1 e.f2 e.f3).bind fun t => some (t, true)) (fun k => ?_) (evEq (Ev.bind (spec_l3Put_val xs hl e) (Ev.now _)) (by simp))
    simp only [spec_Put.l0]
    rw [if_neg (by omega)]
  | x :: bs, i, hd => by
    obtain ⟨h2, h3, h4⟩ := drop_cons hd
    have e1 : rd_T31 xs (i : Int) = x := getD_at h4
    have ih := spec_Put_l0_ev xs hl e bs (i + 1) h3
    rw [List.any_cons]
    by_cases h5 : x.f0.toList = e.f0.toList
    · by_cases h6 : x.f2 = e.f2
      · have hs : sameE x e = true := by simp [sameE, h5, h6]
        rw [hs, Bool.true_or, if_pos rfl]
        refine Ev.step (f := fun _ => some _) (fun k => ?_) (Ev.now _)
        simp only [spec_Put.l0]
        rw [if_pos (by omega), if_pos (by omega), e1, if_pos h5, if_pos h6]
      · have hs : sameE x e = false := by simp [sameE, h6]
        rw [hs, Bool.false_or]
        refine Ev.step (fun k => ?_) ih
        simp only [spec_Put.l0]
        rw [if_pos (by omega), if_pos (by omega), e1, if_pos h5, if_neg h6, w64s (by omega)]
    · have hs : sameE x e = false := by simp [sameE, h5]
      rw [hs, Bool.false_or]
      refine Ev.step (fun k => ?_) ih
      simp only [spec_Put.l0]
      rw [if_pos (by omega), if_pos (by omega), e1, if_neg h5, w64s (by omega)]
theorem spec_Put_ev (xs : List S31) (e : S31) : Ev (fun k => spec_Put.f k xs e.f0 e.f1 e.f2 e.f3) (put xs e) := by
  simp only [spec_Put.f]
  refine Ev.bind (spec_EntriesOk_ev xs) ?_
  unfold put
  have bad : Ev (fun k => spec_Put.j0 k xs true e.f0 e.f1 e.f2 e.f3) ([], false) := Ev.step (fun k => by simp only [spec_Put.j0]; exact rfl) (evPos trivial (Ev.now _))
  by_cases h1 : entriesOk xs = true
  · refine evPos h1 (Ev.bind (spec_l3Entry_ev e) ?_)
    by_cases h2 : entOk e = true
    · refine evPos h2 ?_
      by_cases h3 : (xs.length : Int) = 300
      · rw [if_neg (fun h => h.2.2.1 (by omega))]
        refine evEq (Ev.step (fun k => by simp only [spec_Put.j0]; exact rfl) (evPos (beq_iff_eq.mpr h3) (Ev.now _))) rfl
      · have hl := entriesOk_len h1
        refine Ev.step (fun k => by simp only [spec_Put.j0]; exact rfl) (evNeg (by simpa using h3) (evEq (spec_Put_l0_ev xs (by omega) e xs 0 rfl) ?_))
        cases h4 : xs.any (fun x => sameE x e) with
        | true => rw [if_pos rfl, if_neg (fun h => by cases h.2.2.2)]
        | false => rw [if_neg Bool.false_ne_true, if_pos ⟨h1, h2, fun h => h3 (by omega), rfl⟩]
    · rw [if_neg (fun h => h2 h.2.1)]; exact evNeg h2 bad
  · rw [if_neg (fun h => h1 h.1)]; exact evNeg h1 bad
/-! where an entry belongs -/
theorem byOrder_neg (a b : S31) : byOrder a b < 0 ↔ ahead a b = true := by
  have h := byOrder_ahead a b
  cases h2 : ahead a b with
  | true =>
    rw [h2] at h
    have := of_decide_eq_false h
    constructor
    · intro _; rfl
    · intro _; omega
  | false =>
    rw [h2] at h
    have := of_decide_eq_true h
    constructor
    · intro h3; omega
    · intro h3; cases h3
theorem byOrder_zero (a b : S31) : (byOrder a b == 0) = sameE a b := by
  unfold byOrder sameE ordS ordI
  cases h1 : Op.bytesLess a.f0.toList b.f0.toList with
  | true =>
    have : a.f0.toList ≠ b.f0.toList := fun h => by rw [h, less_irrefl] at h1; cases h1
    simp [this]
  | false =>
    cases h2 : Op.bytesLess b.f0.toList a.f0.toList with
    | true =>
      have : a.f0.toList ≠ b.f0.toList := fun h => by rw [h, less_irrefl] at h2; cases h2
      simp [this]
    | false =>
      have := less_tri _ _ h1 h2
      simp only [Bool.false_eq_true, if_false, if_true, this, decide_true, Bool.true_and]
      by_cases h3 : b.f2 < a.f2
      · rw [if_pos h3, decide_eq_false (show ¬ a.f2 = b.f2 by omega)]; decide
      · rw [if_neg h3]
        by_cases h4 : b.f2 > a.f2
        · rw [if_pos h4, decide_eq_false (show ¬ a.f2 = b.f2 by omega)]; decide
        · rw [if_neg h4, decide_eq_true (show a.f2 = b.f2 by omega)]; decide
theorem ahead_irrefl {a b : S31} (h : sameE a b = true) : ahead a b = false := by
  simp only [sameE, Bool.and_eq_true, decide_eq_true_eq] at h
  cases h1 : ahead a b with
  | false => rfl
  | true => have := ahead_same h1 h.1; omega
theorem ahead_congr {a b c : S31} (h : sameE b c = true) (k : ahead a b = true) : ahead a c = true := by
  simp only [sameE, Bool.and_eq_true, decide_eq_true_eq] at h
  rw [ahead_iff] at k ⊢
  rw [h.1, h.2] at k
  exact k
/-- How many are ahead of it. -/
def place (xs : List S31) (e : S31) : Nat := (xs.takeWhile (fun x => ahead x e)).length
theorem place_le (xs : List S31) (e : S31) : place xs e ≤ xs.length := by
  have h := congrArg List.length (List.takeWhile_append_dropWhile (p := fun x => ahead x e) (l := xs))
  rw [List.length_append] at h
  unfold place
  omega
theorem place_iff : ∀ (xs : List S31) (e : S31), xs.Pairwise (fun a b => ahead a b = true) → ∀ (h : Nat) (x : S31), xs[h]? = some x → (ahead x e = true ↔ h < place xs e)
  | [], e, _, h, x, hx => by simp at hx
  | y :: xs, e, hp, h, x, hx => by
    obtain ⟨p1, p2⟩ := List.pairwise_cons.1 hp
    unfold place
    cases hy : ahead y e with
    | true =>
      rw [List.takeWhile_cons_of_pos (p := fun x => ahead x e) hy, List.length_cons]
      cases h with
      | zero =>
        obtain rfl : y = x := by simpa using hx
        exact ⟨fun _ => by omega, fun _ => hy⟩
      | succ h =>
        have := place_iff xs e p2 h x (by simpa using hx)
        unfold place at this
        rw [this]
        omega
    | false =>
      rw [List.takeWhile_cons_of_neg (p := fun x => ahead x e) (by show ¬ ahead y e = true; rw [hy]; exact Bool.false_ne_true), List.length_nil]
      refine ⟨fun hxe => ?_, fun h => by omega⟩
      exfalso
      cases h with
      | zero =>
        obtain rfl : y = x := by simpa using hx
        rw [hy] at hxe; cases hxe
      | succ h =>
        have hm : x ∈ xs := List.mem_of_getElem? (show xs[h]? = some x by simpa using hx)
        have := ahead_trans (p1 x hm) hxe
        rw [hy] at this; cases this
theorem place_any {xs : List S31} {e : S31} (hp : xs.Pairwise (fun a b => ahead a b = true)) : xs.any (fun x => sameE x e) = (match xs[place xs e]? with | some x => sameE x e | none => false) := by
  cases ha : xs.any (fun x => sameE x e) with
  | true =>
    obtain ⟨x, hx, hs⟩ := List.any_eq_true.1 ha
    obtain ⟨j, hj⟩ := List.getElem?_of_mem hx
    have h1 : ¬ j < place xs e := fun h => by
      have := (place_iff xs e hp j x hj).2 h
      rw [ahead_irrefl hs] at this; cases this
    have h2 : ¬ place xs e < j := fun h => by
      have hjl := (List.getElem?_eq_some_iff.1 hj).1
      have hpl : place xs e < xs.length := by omega
      have h3 : ahead xs[place xs e] x = true := by
        have h4 := List.pairwise_iff_getElem.1 hp (place xs e) j hpl hjl h
        rw [(List.getElem?_eq_some_iff.1 hj).2] at h4
        exact h4
      have := (place_iff xs e hp (place xs e) _ (List.getElem?_eq_getElem hpl)).1 (ahead_congr hs h3)
      omega
    have h3 : place xs e = j := by omega
    rw [h3, hj]
    exact hs.symm
  | false =>
    cases hx : xs[place xs e]? with
    | none => rfl
    | some x =>
      have := List.any_eq_false.1 ha x (List.mem_of_getElem? hx)
      cases hs : sameE x e with
      | false => simp [hs]
      | true => exact absurd hs this
theorem insE_place (xs : List S31) (e : S31) : insE xs e = xs.take (place xs e) ++ e :: xs.drop (place xs e) := by
  have h := List.takeWhile_append_dropWhile (p := fun x => ahead x e) (l := xs)
  unfold insE place
  congr 1
  · conv => rhs; rw [← h]
    rw [List.take_left' (by rw [h])]
  · congr 1
    conv => rhs; rw [← h]
    rw [List.drop_left' (by rw [h])]
theorem half_eq (a b : Nat) (h : a + b ≤ 1000000000000000) : wrap64 ((IntKind.u64.wrap (wrap64 ((a : Int) + (b : Int)))) / 2) = (((a + b) / 2 : Nat) : Int) := by
  rw [w64 (x := (a : Int) + (b : Int)) (by omega) (by omega), IntKind.wrap_u64, w64 (by omega) (by omega)]
  omega
theorem bsearch_l0_ev (xs : List S31) (hl : xs.length ≤ 1000000) (e : S31) (hp : xs.Pairwise (fun a b => ahead a b = true)) : ∀ (d i j : Nat), j - i ≤ d → i ≤ place xs e → place xs e ≤ j → j ≤ xs.length →
    Ev (fun k => slices_BinarySearchFunc_Entry.l0 k xs (xs.length : Int) (i : Int) (j : Int) e.f0 e.f1 e.f2 e.f3) ((place xs e : Int), xs.any (fun x => sameE x e)) := by
  intro d
  induction d with
  | zero =>
    intro i j hd h1 h2 h3
    obtain rfl : i = place xs e := by omega
    obtain rfl : j = place xs e := by omega
    rw [place_any hp]
    by_cases hb : place xs e < xs.length
    · have hx := List.getElem?_eq_getElem hb
      have e1 : rd_T31 xs (place xs e : Int) = xs[place xs e] := getD_at hx
      refine Ev.step (f := fun k => (impl_byOrder.f k xs[place xs e].f0 xs[place xs e].f1 xs[place xs e].f2 xs[place xs e].f3 e.f0 e.f1 e.f2 e.f3).bind fun t => some ((place xs e : Int), (t == 0))) (fun k => ?_) (Ev.bind (impl_byOrder_ev _ e) (evEq (Ev.now _) ?_))
      · simp only [slices_BinarySearchFunc_Entry.l0]
        rw [if_neg (by omega), if_pos (by omega), if_pos (by omega), if_pos (by omega), e1]
      · rw [byOrder_zero, hx]
    · refine Ev.step (f := fun _ => some _) (fun k => ?_) (Ev.now _)
      simp only [slices_BinarySearchFunc_Entry.l0]
      rw [if_neg (by omega), if_neg (by omega), List.getElem?_eq_none (by omega)]
  | succ d ih =>
    intro i j hd h1 h2 h3
    by_cases hij : i < j
    · have hm := half_eq i j (by omega)
      have hx := List.getElem?_eq_getElem (show (i + j) / 2 < xs.length by omega)
      have e1 : rd_T31 xs (((i + j) / 2 : Nat) : Int) = xs[(i + j) / 2] := getD_at hx
      have hpi := place_iff xs e hp _ _ hx
      refine Ev.step (fun k => by simp only [slices_BinarySearchFunc_Entry.l0]; rw [if_pos (by omega), hm, if_pos (by omega), if_pos (by omega), e1]) (Ev.bind (impl_byOrder_ev _ e) ?_)
      by_cases hlt : byOrder xs[(i + j) / 2] e < 0
      · have h5 := hpi.1 ((byOrder_neg _ _).1 hlt)
        refine evPos hlt ?_
        rw [w64s (by omega)]
        exact ih _ _ (by omega) (by omega) h2 h3
      · have h5 : ¬ (i + j) / 2 < place xs e := fun h => hlt ((byOrder_neg _ _).2 (hpi.2 h))
        exact evNeg hlt (ih _ _ (by omega) h1 (by omega) (by omega))
    · have := ih i j (by omega) h1 h2 h3
      exact this
theorem impl_Put_ev (xs : List S31) (e : S31) : Ev (fun k => impl_Put.f k xs e.f0 e.f1 e.f2 e.f3) (put xs e) := by
  simp only [impl_Put.f]
  refine Ev.bind (impl_EntriesOk_ev xs) ?_
  unfold put
  by_cases h1 : entriesOk xs = true
  · refine evPos h1 (Ev.bind (impl_entryOk_ev e) ?_)
    by_cases h2 : entOk e = true
    · refine evPos h2 ?_
      by_cases h3 : (xs.length : Int) = 300
      · rw [if_neg (fun h => h.2.2.1 (by omega))]; exact evPos h3 (Ev.now _)
      · refine evNeg h3 ?_
        obtain ⟨hl, _, hp⟩ := entriesOk_pair h1
        have hbs := bsearch_l0_ev xs (by omega) e hp xs.length 0 xs.length (by omega) (by omega) (place_le xs e) (by omega)
        have hpl := place_le xs e
        simp only [impl_put.f, slices_BinarySearchFunc_Entry.f]
        cases h4 : xs.any (fun x => sameE x e) with
        | true =>
          rw [h4] at hbs
          rw [if_neg (fun h => by cases h.2.2.2)]
          exact Ev.bind (Ev.bind hbs (evPos rfl (Ev.now _))) (Ev.now _)
        | false =>
          rw [h4] at hbs
          rw [if_pos ⟨h1, h2, fun h => h3 (by omega), rfl⟩]
          refine Ev.bind (Ev.bind hbs (evNeg Bool.false_ne_true (evPos ⟨by omega, by omega, by omega⟩ (Ev.now _)))) (evEq (Ev.now _) ?_)
          simp only [Int.toNat_natCast]
          rw [insE_place]
    · rw [if_neg (fun h => h2 h.2.1)]; exact evNeg h2 (Ev.now _)
  · rw [if_neg (fun h => h1 h.1)]; exact evNeg h1 (Ev.now _)

theorem laws_markText_l0_ev (n : Nat) : ∀ (s : ByteArray), s.size + n ≤ 2000000000000000000 → ∃ t, Ev (fun k => laws_markText.l0 k (n : Int) s) t := by
  induction n using Nat.strongRecOn with
  | ind n ih =>
    intro s hs
    by_cases h : n = 0
    · subst h
      refine ⟨_, Ev.step (f := fun _ => some ((⟨#[109]⟩ : ByteArray) ++ s)) (fun k => ?_) (Ev.now _)⟩
      simp only [laws_markText.l0]
      rw [if_neg (by simp), if_pos (by omega)]
    · have hsz : (strOfNums [wrap64 (48 + Int.tmod (n : Int) 10) % 256]).size = 1 := by rw [strOfNums_size]; rfl
      obtain ⟨t, ht⟩ := ih (n / 10) (by omega) (strOfNums [wrap64 (48 + Int.tmod (n : Int) 10) % 256] ++ s) (by rw [ByteArray.size_append, hsz]; omega)
      refine ⟨t, Ev.step (f := fun k => laws_markText.l0 k ((n / 10 : Nat) : Int) (strOfNums [wrap64 (48 + Int.tmod (n : Int) 10) % 256] ++ s)) (fun k => ?_) ht⟩
      simp only [laws_markText.l0]
      rw [if_pos (by omega)]
      simp only [Option.bind_some]
      rw [if_pos (by rw [hsz]; omega), Int.tdiv_eq_ediv_of_nonneg (by omega), w64 (x := (n : Int) / 10) (by omega) (by omega)]
      rfl
theorem laws_markText_ex (a : Int) (h : a ≤ 1500000000000000000) : ∃ t, Ev (fun k => laws_markText.f k a) t := by
  simp only [laws_markText.f]
  by_cases h0 : a ≤ 0
  · exact ⟨_, evPos h0 (Ev.now _)⟩
  · obtain ⟨t, ht⟩ := laws_markText_l0_ev a.toNat (⟨#[]⟩ : ByteArray) (by show 0 + _ ≤ _; omega)
    rw [show ((a.toNat : Nat) : Int) = a by omega] at ht
    exact ⟨t, evNeg h0 ht⟩
/-- The text by which a place is marked. -/
noncomputable def mtx (a : Int) : ByteArray := by
  classical
  exact if h : ∃ t, Ev (fun k => laws_markText.f k a) t then Classical.choose h else ByteArray.empty
theorem mtx_ev (a : Int) (h : a ≤ 1500000000000000000) : Ev (fun k => laws_markText.f k a) (mtx a) := by
  unfold mtx
  rw [dif_pos (laws_markText_ex a h)]
  exact Classical.choose_spec (laws_markText_ex a h)

/-- The entry by which a place is marked. -/
noncomputable def mte (a : Int) : S31 := ⟨mtx a, mtx (a + 1), a + 2, ((a + 3) % 3 == 0)⟩
theorem getD_set {α : Type} (xs : List α) (i : Nat) (h : i < xs.length) (v d : α) : (xs.set i v).getD ((i : Int)).toNat d = v := by
  simp [List.getD_eq_getElem?_getD, List.getElem?_set, h]
theorem laws_markEntryS_ev (xs : List S31) (hl : xs.length ≤ 1000000000000000) (a : Int) (h1 : 1 ≤ a) (h2 : a ≤ 10000000000000000) : Ev (fun k => laws_markEntryS.f k xs a) (a + 4 * xs.length, marksOf mte 4 xs.length a) := by
  refine mark_loop laws_markEntryS.l0 mte 4 (by decide) (fun k xs a i h => ?_) (fun xs a i r h hi h1 h2 hr => ?_) xs hl a h1 h2
  · simp only [laws_markEntryS.l0]
    rw [if_neg (by omega)]
  · have e1 : wrap64 (a + 1) = a + 1 := w64 (by omega) (by omega)
    have e2 : wrap64 (a + 1 + 1) = a + 2 := w64 (x := a + 1 + 1) (by omega) (by omega) |>.trans (by omega)
    have e3 : wrap64 (a + 2 + 1) = a + 3 := w64 (x := a + 2 + 1) (by omega) (by omega) |>.trans (by omega)
    have e4 : wrap64 (a + 3 + 1) = a + 4 := w64 (x := a + 3 + 1) (by omega) (by omega) |>.trans (by omega)
    refine Ev.step (f := fun k => (laws_markText.f k a).bind fun t => (laws_markText.f k (a + 1)).bind fun u => laws_markEntryS.l0 k (xs.set i ⟨t, u, a + 2, ((a + 3) % 3 == 0)⟩) (a + 4) ((i + 1 : Nat) : Int)) (fun k => ?_) (Ev.bind (mtx_ev a (by omega)) (Ev.bind (mtx_ev (a + 1) (by omega)) hr))
    simp only [laws_markEntryS.l0]
    rw [if_pos (by omega)]
    simp only [if_pos (show (0 : Int) ≤ i by omega), Option.bind_some, e1, e2, e3, e4, w64s (show i ≤ 1000000000000000000 by omega), rd_T31, getD_set _ _ h, getD_set _ _ (show i < (xs.set i _).length by simpa using h), Int.toNat_natCast, List.set_set]
    congr 1
    funext t
    congr 1
    funext u
    rw [Int.tmod_eq_emod_of_nonneg (by omega)]
    have g1 : ∀ (ys : List S31) (v d : S31), i < ys.length → (ys.set i v).getD i d = v := fun ys v d hh => by simp [List.getD_eq_getElem?_getD, List.getElem?_set, hh]
    simp only [g1 _ _ _ h, g1 _ _ _ (show i < (xs.set i _).length by simpa using h)]

theorem laws_heldEntryS_ev (n : Nat) (hl : n ≤ 1000000000000000) (a : Int) (h1 : 1 ≤ a) (h2 : a ≤ 10000000000000000) : Ev (fun k => laws_heldEntryS.f k (marksOf mte 4 n a) a) (a + 4 * n) := by
  refine held_loop laws_heldEntryS.l0 mte 4 (by decide) (fun k xs a i h => ?_) (fun xs a i r h hi hi2 h1 h2 hr => ?_) n hl a h1 h2
  · simp only [laws_heldEntryS.l0]
    rw [if_neg (by omega)]
  · have e1 : wrap64 (a + 1) = a + 1 := w64 (by omega) (by omega)
    have e2 : wrap64 (a + 1 + 1) = a + 2 := w64 (x := a + 1 + 1) (by omega) (by omega) |>.trans (by omega)
    have e3 : wrap64 (a + 2 + 1) = a + 3 := w64 (x := a + 2 + 1) (by omega) (by omega) |>.trans (by omega)
    have e4 : wrap64 (a + 3 + 1) = a + 4 := w64 (x := a + 3 + 1) (by omega) (by omega) |>.trans (by omega)
    have e5 : rd_T31 xs (i : Int) = mte a := getD_at h
    have e6 : Int.tmod (a + 3) 3 = (a + 3) % 3 := Int.tmod_eq_emod_of_nonneg (by omega)
    refine Ev.step (fun k => by simp only [laws_heldEntryS.l0]; rw [if_pos (by omega), if_pos (by omega), e5, e1, e2, e3, e4, e6, w64s (by omega)]) ?_
    refine Ev.bind (mtx_ev a (by omega)) (evPos rfl (Ev.bind (mtx_ev (a + 1) (by omega)) (evPos rfl (evPos rfl (evNeg ?_ hr)))))
    simp [mte]

theorem laws_szEntry_some (a b : ByteArray) (c : Int) (g : Bool) (r : Int) : ∃ q, laws_szEntry.f a b c g r = some q := by
  unfold laws_szEntry.f
  split
  · exact ⟨_, rfl⟩
  · split <;> exact ⟨_, rfl⟩
theorem FnExactPut (xs : List S24) (a : ByteArray) (b : ByteArray) (c : Int) (g : Bool) (hm : xs.length ≤ maxLen) (hw : ∀ e ∈ xs, e.f0.size ≤ maxLen ∧ e.f1.size ≤ maxLen ∧ (Lit.int .i64 e.f2).wf = true ∧ True) (ha : a.size ≤ maxLen) (hb : b.size ≤ maxLen) (hc : (Lit.int .i64 c).wf = true) : ∃ k, laws_FnExactPut.f k xs a b c g = some true := by
  refine Ev.rounds (g := fun k => laws_FnExactPut.f k xs a b c g) ?_
  simp only [laws_FnExactPut.f]
  obtain ⟨r, hr, _, _, hk⟩ := laws_szEntryS_ev xs hm (fun e h => ⟨(hw e h).1, (hw e h).2.1⟩) 1048576 (by decide) (by decide)
  refine Ev.bind hr ?_
  by_cases h1 : r < 0
  · exact evPos h1 (Ev.now _)
  obtain ⟨hl, hs⟩ := hk (by omega)
  obtain ⟨q, hq⟩ := laws_szEntry_some a b c g r
  refine evNeg h1 (Ev.bind (evId (fun _ => hq)) ?_)
  by_cases h2 : q < 0
  · exact evPos h2 (Ev.now _)
  refine evNeg h2 ?_
  have toS := laws_toEntryS_ev xs (by omega)
  have toE1 : Ev (fun _ : Nat => laws_toEntry.f a b c g) (a, b, c, g) := evId (fun _ => rfl)
  have sp := spec_Put_ev (xs.map toE) ⟨a, b, c, g⟩
  have im := impl_Put_ev (xs.map toE) ⟨a, b, c, g⟩
  have hb := put_le (xs.map toE) ⟨a, b, c, g⟩
  have hself0 := laws_eqEntryS_self (xs.map toE) (by rw [List.length_map]; omega)
  have hmark0 := laws_markEntryS_ev (xs.map toE) (by rw [List.length_map]; omega) 1 (by omega) (by omega)
  generalize put (xs.map toE) ⟨a, b, c, g⟩ = p at sp im hb
  obtain ⟨d, is⟩ := p
  simp only at hb
  have hself := laws_eqEntryS_self d (by omega)
  have hmark := laws_markEntryS_ev d (by omega) 1 (by omega) (by omega)
  have hheld := laws_heldEntryS_ev d.length (by omega) 1 (by omega) (by omega)
  have t2 : Ev (fun k => laws_FnExactPut.j2 k (marksOf mte 4 d.length 1) (1 + 4 * d.length) (is != is)) true := by
    refine Ev.step (fun k => by simp only [laws_FnExactPut.j2]; exact rfl) ?_
    exact evNeg (by simp) (Ev.bind hheld (evNeg (by omega) (evPos rfl (Ev.now _))))
  have t1 : Ev (fun k => laws_FnExactPut.j1 k xs d is d (is != is) a b c g) true := by
    refine Ev.step (fun k => by simp only [laws_FnExactPut.j1]; exact rfl) ?_
    exact evNeg (by simp) (Ev.bind hmark (Ev.bind hheld (evNeg (by omega) (evPos rfl (Ev.bind toS (Ev.bind toE1 (Ev.bind im (Ev.bind hself (evPos rfl t2)))))))))
  have t0 : Ev (fun k => laws_FnExactPut.j0 k xs d is (xs.map toE) d is (is != is) a b c g) true := by
    refine Ev.step (fun k => by simp only [laws_FnExactPut.j0]; exact rfl) ?_
    exact evNeg (by simp) (Ev.bind toS (Ev.bind hself0 (evPos rfl (Ev.bind hmark0 (evNeg (by rw [List.length_map]; omega) (Ev.bind hself (evPos rfl t1)))))))
  exact Ev.bind toS (Ev.bind toE1 (Ev.bind sp (Ev.bind toS (Ev.bind toE1 (Ev.bind im (Ev.bind hself (evPos rfl t0)))))))
end Go.Proofs.Ytaiggfjkikfcbaa.Pure

/- Proves the plain law behind this statement of the seat (what its functions come to, over numbers and lists): that it answers true. No condition beyond the statement's own. -/
import Derived.Test.YthkhfmomibfkjaaPFnExactReadTextsx
import Derived.Test.YthkhfmomibfkjaaLib
import Derived.Test.YthkhfmomibfkjaaLibRow
import Derived.Test.YthkhfmomibfkjaaLibStr
namespace Go.Proofs.Ythkhfmomibfkjaa.Pure
open Go Go.RowKit Go.Proofs.Ythkhfmomibfkjaa.PFnExactReadTexts Go.Proofs.YthkhfmomibfkjaaW.PrintWords Go.Proofs.YthkhfmomibfkjaaW.PrintLast Go.Proofs.YthkhfmomibfkjaaW.PrintMore Go.Proofs.Ythkhfmomibfkjaa.Lib
set_option linter.unusedVariables false
set_option linter.unusedSimpArgs false
theorem spec_ReadNumber_l0_ev (xs : List Int) (hx : ∀ x ∈ xs, 0 ≤ x ∧ x < 256) : ∀ (bs : List Int) (i : Nat) (p n : Int), xs.drop i = bs → PW i p → i ≤ 6 → 0 ≤ n → n < p → Ev (fun k => spec_ReadNumber.l0 k xs n p i) (rnum i p n bs)
  | [], i, p, n, hd, hP, hi, h0, h1 => by
    have := drop_nil hd
    refine Ev.step (f := fun k => spec_ReadNumber.j1 k xs n p i false) (fun k => ?_) (Ev.step (f := fun _ => some (0, 0)) (fun k => ?_) (Ev.now _))
    · simp only [spec_ReadNumber.l0]
      rw [if_neg (by omega)]
    · simp only [spec_ReadNumber.j1]
      rw [if_neg (by decide)]
  | b :: bs, i, p, n, hd, hP, hi, h0, h1 => by
    obtain ⟨h2, h3, h4⟩ := drop_cons hd
    obtain ⟨b0, b1⟩ := hx b (List.mem_of_getElem? h4)
    by_cases h6 : i < 6
    · have hp := hP.pos
      have hq := hP.le (by omega)
      have hm := digit_mul b p hp
      have e2 : wrap64 (rd xs i) = b := by rw [rd_at h4, w64 (by omega) (by omega)]
      have e3 : Int.tmod b 128 = b % 128 := Int.tmod_eq_emod_of_nonneg (by omega)
      have ih := spec_ReadNumber_l0_ev xs hx bs (i + 1) (p * 128) (n + b % 128 * p) h3 hP.step (by omega)
      have hi1 : wrap64 ((i : Int) + 1) = (i : Int) + 1 := w64 (by omega) (by omega)
      have hip : (0 : Int) ≤ i := by omega
      have hil : (i : Int) < xs.length := by omega
      simp only [rnum, if_pos h6]
      have e4 : wrap64 (b % 128 * p) = b % 128 * p := by
        generalize b % 128 * p = q at hm; exact w64 (by omega) (by omega)
      have e1 : wrap64 (n + b % 128 * p) = n + b % 128 * p := by
        generalize b % 128 * p = q at hm; exact w64 (by omega) (by omega)
      have e5 : wrap64 (p * 128) = p * 128 := w64 (by omega) (by omega)
      have ih' : Ev (fun k => spec_ReadNumber.l0 k xs (n + b % 128 * p) (p * 128) ((i + 1 : Nat) : Int)) (rnum (i + 1) (p * 128) (n + b % 128 * p) bs) := by
        generalize b % 128 * p = q at hm ih ⊢; exact ih (by omega) (by omega)
      clear ih
      refine Ev.step (f := fun k => spec_ReadNumber.j1 k xs n p i true) (fun k => ?_) ?_
      · simp only [spec_ReadNumber.l0]
        rw [if_pos hil, decide_eq_true (by omega : (i : Int) < 6)]
      · by_cases hb : b < 128
        · rw [if_pos hb]
          refine Ev.step (f := fun _ => some _) (fun k => ?_) (Ev.now _)
          simp only [spec_ReadNumber.j1]
          rw [if_pos trivial, if_pos hip, if_pos hil, e2, e3, e4, e1, if_pos hb, hi1]
          generalize n + b % 128 * p = q
          by_cases hn : q > 1099511627776
          · rw [if_pos hn, if_pos (Or.inl hn)]
          · rw [if_neg hn]
            by_cases hi0 : 0 < i
            · rw [if_pos (by omega)]
              by_cases hb0 : b = 0
              · rw [if_pos hb0, if_pos (Or.inr ⟨hi0, hb0⟩)]
              · rw [if_neg hb0, if_neg (fun h => h.elim hn (fun h => hb0 h.2))]
            · rw [if_neg (by omega), if_neg (fun h => h.elim hn (fun h => hi0 h.1))]
        · rw [if_neg hb]
          refine Ev.step (f := fun k => spec_ReadNumber.l0 k xs (n + b % 128 * p) (p * 128) ((i + 1 : Nat) : Int)) (fun k => ?_) ih'
          simp only [spec_ReadNumber.j1]
          rw [if_pos trivial, if_pos hip, if_pos hil, e2, e3, e4, e1, if_neg hb, e5, hi1]
          rfl
    · refine Ev.step (f := fun k => spec_ReadNumber.j1 k xs n p i false) (fun k => ?_) (Ev.step (f := fun _ => some (0, 0)) (fun k => ?_) (evEq (Ev.now _) ?_))
      · simp only [spec_ReadNumber.l0]
        rw [if_pos (by omega), decide_eq_false (by omega : ¬ (i : Int) < 6)]
      · simp only [spec_ReadNumber.j1]
        rw [if_neg (by decide)]
      · simp only [rnum, if_neg h6]
theorem spec_ReadNumber_ev (xs : List Int) (hx : ∀ x ∈ xs, 0 ≤ x ∧ x < 256) : Ev (fun k => spec_ReadNumber.f k xs) (readNumber xs) :=
  spec_ReadNumber_l0_ev xs hx xs 0 1 0 rfl PW.zero (by decide) (by decide) (by decide)

theorem spec_ReadText_ev (xs : List Int) (hl : xs.length ≤ 1000000000000000000) (hx : ∀ x ∈ xs, 0 ≤ x ∧ x < 256) : Ev (fun k => spec_ReadText.f k xs) (readText xs) := by
  simp only [spec_ReadText.f]
  refine Ev.bind (spec_ReadNumber_ev xs hx) ?_
  have hb := readNumber_bd xs hx
  unfold readText
  generalize readNumber xs = p at hb ⊢
  obtain ⟨n, t⟩ := p
  simp only at hb ⊢
  by_cases h0 : t = 0
  · rw [if_pos (Or.inl h0)]; exact evPos h0 (Ev.now _)
  refine evNeg h0 ?_
  by_cases h1 : n > 3000
  · rw [if_pos (Or.inr (Or.inl h1))]; exact evPos h1 (Ev.now _)
  refine evNeg h1 ?_
  have e1 : wrap64 ((xs.length : Int) - t) = (xs.length : Int) - t := w64 (by omega) (by omega)
  rw [e1]
  by_cases h2 : n > (xs.length : Int) - t
  · rw [if_pos (Or.inr (Or.inr h2))]; exact evPos h2 (Ev.now _)
  refine evNeg h2 ?_
  have e2 : wrap64 (t + n) = t + n := w64 (by omega) (by omega)
  rw [e2]
  exact evEq (evPos (by omega) (evPos (by omega) (evPos (by omega) (Ev.now _)))) (if_neg (fun h => by rcases h with h | h | h <;> omega)).symm

theorem spec_l1ReadTexts_l0_ev (xs : List Int) (hl : xs.length ≤ 1000000000000) (hx : ∀ x ∈ xs, 0 ≤ x ∧ x < 256) : ∀ (n at_ : Nat) (out : List ByteArray), at_ ≤ xs.length → n ≤ 1000 → out.length + n ≤ 100000 →
    Ev (fun k => spec_l1ReadTexts.l0 k xs (n : Int) (at_ : Int) out) (match rts n (xs.drop at_) with | none => ([], 0) | some p => (out ++ p.1, (xs.length : Int) - p.2.length))
  | 0, at_, out, ha, hn, ho => by
    refine Ev.step (f := fun _ => some (out, (at_ : Int))) (fun k => ?_) (evEq (Ev.now _) ?_)
    · simp only [spec_l1ReadTexts.l0]
      rw [if_neg (by simp)]
    · simp only [rts, List.append_nil, List.length_drop]
      congr 1
      omega
  | n + 1, at_, out, ha, hn, ho => by
    have hd := drop_byte hx at_
    have hb := readText_bd (xs.drop at_) hd
    rw [List.length_drop] at hb
    have hr := spec_ReadText_ev (xs.drop at_) (by rw [List.length_drop]; omega) hd
    refine Ev.step (f := fun k => (spec_ReadText.f k (xs.drop at_)).bind fun bt => (if bt.2 = 0 then (some ((([] : List ByteArray)), 0)) else (if out.length < 8796093022208 then (spec_l1ReadTexts.l0 k xs (wrap64 (((n + 1 : Nat) : Int) - 1)) (wrap64 ((at_ : Int) + bt.2)) (out ++ [bt.1])) else (none)))) (fun k => ?_) (Ev.bind hr ?_)
    · simp only [spec_l1ReadTexts.l0]
      rw [if_pos (by omega), if_pos (by omega), if_pos (by omega), Int.toNat_natCast]
    · unfold rts
      by_cases h0 : (readText (xs.drop at_)).2 = 0
      · rw [if_pos h0]
        exact evPos h0 (Ev.now _)
      · rw [if_neg h0]
        refine evNeg h0 (evPos (by omega) ?_)
        obtain ⟨t, ht⟩ : ∃ t : Nat, (readText (xs.drop at_)).2 = t := ⟨(readText (xs.drop at_)).2.toNat, by omega⟩
        have ih := spec_l1ReadTexts_l0_ev xs hl hx n (at_ + t) (out ++ [(readText (xs.drop at_)).1]) (by omega) (by omega) (by simp; omega)
        rw [ht, w64 (x := ((n + 1 : Nat) : Int) - 1) (by omega) (by omega), w64 (x := (at_ : Int) + t) (by omega) (by omega), Int.toNat_natCast, List.drop_drop]
        rw [show ((n + 1 : Nat) : Int) - 1 = (n : Int) by omega, show (at_ : Int) + t = ((at_ + t : Nat) : Int) by omega]
        refine evEq ih ?_
        cases rts n (xs.drop (at_ + t)) with
        | none => rfl
        | some p => simp
theorem spec_ReadTexts_ev (xs : List Int) (hl : xs.length ≤ 1000000000000) (hx : ∀ x ∈ xs, 0 ≤ x ∧ x < 256) : Ev (fun k => spec_ReadTexts.f k xs) (readTexts xs) := by
  have hb := readNumber_bd xs hx
  simp only [spec_ReadTexts.f, spec_l1ReadTexts.f]
  unfold readTexts
  obtain ⟨n, hn⟩ : ∃ n : Nat, (readNumber xs).1 = n := ⟨(readNumber xs).1.toNat, by omega⟩
  obtain ⟨t, ht⟩ : ∃ t : Nat, (readNumber xs).2 = t := ⟨(readNumber xs).2.toNat, by omega⟩
  by_cases h : (readNumber xs).2 = 0 ∨ (readNumber xs).1 > 200
  · rw [if_pos h]
    refine Ev.bind (a := ([], 0)) (Ev.bind (spec_ReadNumber_ev xs hx) ?_) (evPos rfl (Ev.now _))
    simp only [Option.bind_some]
    have j0 : Ev (fun k => spec_l1ReadTexts.j0 k xs (readNumber xs).1 (readNumber xs).2 ([] : List ByteArray) true) ([], 0) := by
      refine Ev.step (f := fun _ => some ([], 0)) (fun k => ?_) (Ev.now _)
      simp only [spec_l1ReadTexts.j0]
      rw [if_pos trivial]
    by_cases h0 : (readNumber xs).2 = 0
    · exact evPos h0 j0
    · refine evNeg h0 ?_
      rw [decide_eq_true (h.resolve_left h0)]
      exact j0
  · rw [if_neg h]
    have h0 : ¬ (readNumber xs).2 = 0 := fun e => h (Or.inl e)
    have h1 : ¬ (readNumber xs).1 > 200 := fun e => h (Or.inr e)
    refine Ev.bind (a := match rts n (xs.drop t) with | none => ([], 0) | some p => (([] : List ByteArray) ++ p.1, (xs.length : Int) - p.2.length)) (Ev.bind (spec_ReadNumber_ev xs hx) ?_) ?_
    · simp only [Option.bind_some]
      refine evNeg h0 ?_
      rw [decide_eq_false h1]
      refine Ev.step (f := fun k => spec_l1ReadTexts.l0 k xs (n : Int) (t : Int) []) (fun k => ?_) (spec_l1ReadTexts_l0_ev xs hl hx n t [] (by omega) (by omega) (by simp; omega))
      simp only [spec_l1ReadTexts.j0]
      rw [if_neg (by decide), hn, ht]
    · rw [hn, ht, Int.toNat_natCast, Int.toNat_natCast]
      cases hr : rts n (xs.drop t) with
      | none => exact evPos rfl (Ev.now _)
      | some p =>
        obtain ⟨l, r⟩ := p
        have hlen := (rts_len _ _ _ _ hr).2
        rw [List.length_drop] at hlen
        simp only
        refine evNeg (by omega) ?_
        cases r with
        | nil => exact evPos (by simp) (evEq (Ev.now _) (by simp))
        | cons y r => exact evNeg (by simp; omega) (Ev.now _)

theorem impl_ReadNumber_l0_ev (xs : List Int) (hl : xs.length ≤ 1000000000000000000) (hx : ∀ x ∈ xs, 0 ≤ x ∧ x < 256) : ∀ (bs : List Int) (i : Nat) (p n : Int), xs.drop i = bs → PW i p → i ≤ 6 → 0 ≤ n → n < p → Ev (fun k => impl_ReadNumber.l0 k n xs (xs.length : Int) i) (rnum i p n bs)
  | [], i, p, n, hd, hP, hi, h0, h1 => by
    have := drop_nil hd
    refine Ev.step (f := fun _ => some (0, 0)) (fun k => ?_) (Ev.now _)
    simp only [impl_ReadNumber.l0]
    rw [if_neg (by omega)]
  | b :: bs, i, p, n, hd, hP, hi, h0, h1 => by
    obtain ⟨h2, h3, h4⟩ := drop_cons hd
    obtain ⟨b0, b1⟩ := hx b (List.mem_of_getElem? h4)
    have hip : (0 : Int) ≤ i := by omega
    have hil : (i : Int) < xs.length := by omega
    by_cases h6 : i < 6
    · have hp := hP.pos
      have hq := hP.le (by omega)
      have hm := digit_mul b p hp
      have e1 := join_eq (n := n) (b := b) (i := i) hP (by omega) h0 h1 b0 b1
      have e3 : (0 : Int) ≤ wrap64 (7 * (i : Int)) := by rw [w64 (by omega) (by omega)]; omega
      have hi1 : wrap64 ((i : Int) + 1) = (i : Int) + 1 := w64 (by omega) (by omega)
      have ih := impl_ReadNumber_l0_ev xs hl hx bs (i + 1) (p * 128) (n + b % 128 * p) h3 hP.step (by omega)
      have ih' : Ev (fun k => impl_ReadNumber.l0 k (n + b % 128 * p) xs (xs.length : Int) ((i + 1 : Nat) : Int)) (rnum (i + 1) (p * 128) (n + b % 128 * p) bs) := by
        generalize b % 128 * p = q at hm ih ⊢; exact ih (by omega) (by omega)
      clear ih
      simp only [rnum, if_pos h6]
      by_cases hb : b < 128
      · rw [if_pos hb]
        refine Ev.step (f := fun _ => some _) (fun k => ?_) (Ev.now _)
        simp only [impl_ReadNumber.l0]
        rw [if_pos hil, if_pos hip, if_pos hil, if_neg (by omega), if_pos e3, rd_at h4, e1, if_pos hb, hi1]
        generalize n + b % 128 * p = q
        by_cases hi0 : 0 < i
        · rw [if_pos (by omega)]
          by_cases hb0 : b = 0
          · rw [if_pos hb0, if_pos (Or.inr ⟨hi0, hb0⟩)]
          · rw [if_neg hb0]
            by_cases hn : q > 1099511627776
            · rw [if_pos hn, if_pos (Or.inl hn)]
            · rw [if_neg hn, if_neg (fun h => h.elim hn (fun h => hb0 h.2))]
        · rw [if_neg (by omega)]
          by_cases hn : q > 1099511627776
          · rw [if_pos hn, if_pos (Or.inl hn)]
          · rw [if_neg hn, if_neg (fun h => h.elim hn (fun h => hi0 h.1))]
      · rw [if_neg hb]
        refine Ev.step (f := fun k => impl_ReadNumber.l0 k (n + b % 128 * p) xs (xs.length : Int) ((i + 1 : Nat) : Int)) (fun k => ?_) ih'
        simp only [impl_ReadNumber.l0]
        rw [if_pos hil, if_pos hip, if_pos hil, if_neg (by omega), if_pos e3, rd_at h4, e1, if_neg hb, hi1]
        rfl
    · refine Ev.step (f := fun _ => some (0, 0)) (fun k => ?_) (evEq (Ev.now _) ?_)
      · simp only [impl_ReadNumber.l0]
        rw [if_pos hil, if_pos hip, if_pos hil, if_pos (by omega)]
      · simp only [rnum, if_neg h6]
theorem impl_ReadNumber_ev (xs : List Int) (hl : xs.length ≤ 1000000000000000000) (hx : ∀ x ∈ xs, 0 ≤ x ∧ x < 256) : Ev (fun k => impl_ReadNumber.f k xs) (readNumber xs) :=
  impl_ReadNumber_l0_ev xs hl hx xs 0 1 0 rfl PW.zero (by decide) (by decide) (by decide)

theorem impl_ReadText_ev (xs : List Int) (hl : xs.length ≤ 1000000000000000000) (hx : ∀ x ∈ xs, 0 ≤ x ∧ x < 256) : Ev (fun k => impl_ReadText.f k xs) (readText xs) := by
  simp only [impl_ReadText.f]
  refine Ev.bind (impl_ReadNumber_ev xs hl hx) ?_
  have hb := readNumber_bd xs hx
  unfold readText
  generalize readNumber xs = p at hb ⊢
  obtain ⟨n, t⟩ := p
  simp only at hb ⊢
  by_cases h0 : t = 0
  · rw [if_pos (Or.inl h0)]; exact evPos h0 (Ev.now _)
  refine evNeg h0 ?_
  by_cases h1 : n > 3000
  · rw [if_pos (Or.inr (Or.inl h1))]; exact evPos h1 (Ev.now _)
  refine evNeg h1 ?_
  have e1 : wrap64 ((xs.length : Int) - t) = (xs.length : Int) - t := w64 (by omega) (by omega)
  rw [e1]
  by_cases h2 : n > (xs.length : Int) - t
  · rw [if_pos (Or.inr (Or.inr h2))]; exact evPos h2 (Ev.now _)
  refine evNeg h2 ?_
  have e2 : wrap64 (t + n) = t + n := w64 (by omega) (by omega)
  rw [e2]
  exact evEq (evPos (by omega) (evPos (by omega) (evPos (by omega) (Ev.now _)))) (if_neg (fun h => by rcases h with h | h | h <;> omega)).symm

theorem impl_cursor_goes_ev (xs : List Int) (b : Bool) (t : Int) (h0 : 0 ≤ t) (h1 : t ≤ xs.length) : Ev (fun _ => impl_cursor_goes.f xs b t) (xs.drop t.toNat, (b || t == 0)) := by
  simp only [impl_cursor_goes.f]
  exact evPos h0 (evPos h1 (Ev.now _))
theorem impl_cursor_number_ev (xs : List Int) (b : Bool) (hl : xs.length ≤ 1000000000000000000) (hx : ∀ x ∈ xs, 0 ≤ x ∧ x < 256) : Ev (fun k => impl_cursor_number.f k xs b) ((readNumber xs).1, xs.drop (readNumber xs).2.toNat, (b || (readNumber xs).2 == 0)) := by
  have hb := readNumber_bd xs hx
  simp only [impl_cursor_number.f]
  exact Ev.bind (impl_ReadNumber_ev xs hl hx) (Ev.bind (impl_cursor_goes_ev xs b _ (by omega) (by omega)) (Ev.now _))
theorem impl_cursor_text_ev (xs : List Int) (b : Bool) (hl : xs.length ≤ 1000000000000000000) (hx : ∀ x ∈ xs, 0 ≤ x ∧ x < 256) : Ev (fun k => impl_cursor_text.f k xs b) ((readText xs).1, xs.drop (readText xs).2.toNat, (b || (readText xs).2 == 0)) := by
  have hb := readText_bd xs hx
  simp only [impl_cursor_text.f]
  exact Ev.bind (impl_ReadText_ev xs hl hx) (Ev.bind (impl_cursor_goes_ev xs b _ (by omega) (by omega)) (Ev.now _))
theorem impl_cursor_ended_ev (xs : List Int) (b : Bool) : Ev (fun _ => impl_cursor_ended.f xs b) (!b && decide (xs = []), xs, b) := by
  simp only [impl_cursor_ended.f]
  cases b with
  | true => exact evPos rfl (Ev.now _)
  | false =>
    refine evNeg (by decide) (evEq (Ev.now _) ?_)
    cases xs with
    | nil => rfl
    | cons y ys =>
      have : ((((y :: ys).length : Nat) : Int) == 0) = false := by
        rw [beq_eq_false_iff_ne]; simp; omega
      rw [this]; simp

theorem impl_cursor_texts_bad (k : Nat) (n : Int) (out : List ByteArray) (xs : List Int) : impl_cursor_texts.l0 (k + 1) n out xs true = some (out, xs, true) := by
  simp only [impl_cursor_texts.l0]
  split <;> rfl
theorem impl_cursor_texts_l0_ev : ∀ (n : Nat) (xs : List Int) (out : List ByteArray), xs.length ≤ 1000000000000 → (∀ x ∈ xs, 0 ≤ x ∧ x < 256) → n ≤ 1000 → out.length + n ≤ 100000 →
    (∀ l r, rts n xs = some (l, r) → Ev (fun k => impl_cursor_texts.l0 k (n : Int) out xs false) (out ++ l, r, false)) ∧ (rts n xs = none → ∃ o x, Ev (fun k => impl_cursor_texts.l0 k (n : Int) out xs false) (o, x, true))
  | 0, xs, out, hl, hx, hn, ho => by
    refine ⟨fun l r h => ?_, fun h => by simp [rts] at h⟩
    simp only [rts, Option.some.injEq, Prod.mk.injEq] at h
    obtain ⟨rfl, rfl⟩ := h
    refine Ev.step (f := fun _ => some (out, xs, false)) (fun k => ?_) (evEq (Ev.now _) (by simp))
    simp only [impl_cursor_texts.l0]
    rw [if_neg (by simp)]
  | n + 1, xs, out, hl, hx, hn, ho => by
    have hb := readText_bd xs hx
    have step : ∀ r, Ev (fun k => impl_cursor_texts.l0 k (n : Int) (out ++ [(readText xs).1]) (xs.drop (readText xs).2.toNat) (false || (readText xs).2 == 0)) r → Ev (fun k => impl_cursor_texts.l0 k ((n + 1 : Nat) : Int) out xs false) r := by
      intro r hr
      refine Ev.step (f := fun k => (impl_cursor_text.f k xs false).bind fun bt => (if out.length < 8796093022208 then (impl_cursor_texts.l0 k (wrap64 (((n + 1 : Nat) : Int) - 1)) (out ++ [bt.1]) bt.2.1 bt.2.2) else (none))) (fun k => ?_) (Ev.bind (impl_cursor_text_ev xs false (by omega) hx) (evPos (by omega) ?_))
      · simp only [impl_cursor_texts.l0]
        rw [if_pos (by omega), if_neg (by decide)]
      · rw [w64 (by omega) (by omega), show ((n + 1 : Nat) : Int) - 1 = (n : Int) by omega]
        exact hr
    obtain ⟨ih1, ih2⟩ := impl_cursor_texts_l0_ev n (xs.drop (readText xs).2.toNat) (out ++ [(readText xs).1]) (by rw [List.length_drop]; omega) (drop_byte hx _) (by omega) (by simp; omega)
    unfold rts
    by_cases h0 : (readText xs).2 = 0
    · rw [if_pos h0]
      refine ⟨fun l r h => (by cases h), fun _ => ⟨out ++ [(readText xs).1], xs.drop (readText xs).2.toNat, step _ ?_⟩⟩
      have e : (false || (readText xs).2 == 0) = true := by rw [h0]; rfl
      rw [e]
      exact Ev.step (f := fun _ => some _) (fun k => impl_cursor_texts_bad k _ _ _) (Ev.now _)
    · rw [if_neg h0]
      have e : (false || (readText xs).2 == 0) = false := by rw [Bool.false_or, beq_eq_false_iff_ne]; exact h0
      rw [e] at step
      refine ⟨fun l r h => ?_, fun h => ?_⟩
      · obtain ⟨⟨l', r'⟩, h1, h2⟩ := Option.map_eq_some_iff.1 h
        simp only [Prod.mk.injEq] at h2
        obtain ⟨rfl, rfl⟩ := h2
        refine step _ (evEq (ih1 _ _ h1) (by simp))
      · rw [Option.map_eq_none_iff] at h
        obtain ⟨o, x, hh⟩ := ih2 h
        exact ⟨o, x, step _ hh⟩
theorem impl_ReadTexts_ev (xs : List Int) (hl : xs.length ≤ 1000000000000) (hx : ∀ x ∈ xs, 0 ≤ x ∧ x < 256) : Ev (fun k => impl_ReadTexts.f k xs) (readTexts xs) := by
  have hb := readNumber_bd xs hx
  obtain ⟨n, hn⟩ : ∃ n : Nat, (readNumber xs).1 = n := ⟨(readNumber xs).1.toNat, by omega⟩
  have bad : ∀ (m : Int) (ys : List Int), Ev (fun k => impl_cursor_texts.j0 k m ([] : List ByteArray) ys true) ([], ys, true) := fun m ys =>
    Ev.step (f := fun k => impl_cursor_texts.l0 k m [] ys true) (fun k => by simp only [impl_cursor_texts.j0]) (Ev.step (f := fun _ => some _) (fun k => impl_cursor_texts_bad k _ _ _) (Ev.now _))
  have fin : ∀ (o : List ByteArray) (ys : List Int), Ev (fun k => (impl_cursor_ended.f ys true).bind fun bt166 => (if bt166.1 = true then (some (o, true)) else (some (([] : List ByteArray), false)))) ([], false) := fun o ys =>
    Ev.bind (impl_cursor_ended_ev ys true) (evNeg (by simp) (Ev.now _))
  simp only [impl_ReadTexts.f, impl_cursor_texts.f]
  unfold readTexts
  by_cases h : (readNumber xs).2 = 0 ∨ (readNumber xs).1 > 200
  · rw [if_pos h]
    refine Ev.bind (a := ([], xs.drop (readNumber xs).2.toNat, true)) (Ev.bind (impl_cursor_number_ev xs false (by omega) hx) ?_) (fin [] _)
    simp only [Option.bind_some]
    by_cases h1 : (readNumber xs).1 > 200
    · exact evPos h1 (bad _ _)
    · refine evNeg h1 ?_
      have e : (false || (readNumber xs).2 == 0) = true := by rw [h.resolve_right h1]; rfl
      rw [e]
      exact bad _ _
  · rw [if_neg h]
    have h0 : ¬ (readNumber xs).2 = 0 := fun e => h (Or.inl e)
    have h1 : ¬ (readNumber xs).1 > 200 := fun e => h (Or.inr e)
    have e : (false || (readNumber xs).2 == 0) = false := by rw [Bool.false_or, beq_eq_false_iff_ne]; exact h0
    have num := impl_cursor_number_ev xs false (by omega) hx
    rw [e] at num
    obtain ⟨ih1, ih2⟩ := impl_cursor_texts_l0_ev n (xs.drop (readNumber xs).2.toNat) [] (by rw [List.length_drop]; omega) (drop_byte hx _) (by omega) (by simp; omega)
    have j0 : ∀ r, Ev (fun k => impl_cursor_texts.l0 k (n : Int) ([] : List ByteArray) (xs.drop (readNumber xs).2.toNat) false) r → Ev (fun k => (impl_cursor_number.f k xs false).bind fun bt148 => ((some (([] : List ByteArray) : List ByteArray)).bind fun y151 => (if bt148.1 > 200 then (impl_cursor_texts.j0 k bt148.1 y151 bt148.2.1 true) else (impl_cursor_texts.j0 k bt148.1 y151 bt148.2.1 bt148.2.2)))) r := by
      intro r hr
      refine Ev.bind num ?_
      simp only [Option.bind_some]
      refine evNeg h1 (Ev.step (f := fun k => impl_cursor_texts.l0 k (n : Int) ([] : List ByteArray) (xs.drop (readNumber xs).2.toNat) false) (fun k => ?_) hr)
      simp only [impl_cursor_texts.j0]
      rw [hn]
    rw [hn, Int.toNat_natCast]
    cases hr : rts n (xs.drop (readNumber xs).2.toNat) with
    | none =>
      obtain ⟨o, x, hh⟩ := ih2 hr
      exact Ev.bind (j0 _ hh) (fin o x)
    | some p =>
      obtain ⟨l, r⟩ := p
      refine Ev.bind (j0 _ (ih1 l r hr)) (Ev.bind (impl_cursor_ended_ev r false) ?_)
      cases r with
      | nil => exact evPos (by simp) (evEq (Ev.now _) (by simp))
      | cons y r => exact evNeg (by simp) (Ev.now _)

theorem laws_toByteS_l0_ev (xs : List Int) (hl : xs.length ≤ 1000000000000000000) : ∀ (bs pre : List Int), xs = pre ++ bs → Ev (fun k => laws_toByteS.l0 k xs (pre ++ List.replicate bs.length 0) (pre.length : Int)) xs
  | [], pre, h => by
    refine Ev.step (f := fun _ => some xs) (fun k => ?_) (Ev.now _)
    simp only [laws_toByteS.l0]
    have : xs.length = pre.length := by rw [h]; simp
    rw [if_neg (by omega)]
    simp [h]
  | b :: bs, pre, h => by
    have hlen : xs.length = pre.length + (bs.length + 1) := by rw [h]; simp
    have ih := laws_toByteS_l0_ev xs hl bs (pre ++ [b]) (by rw [h]; simp)
    refine Ev.step (f := fun k => laws_toByteS.l0 k xs ((pre ++ [b]) ++ List.replicate bs.length 0) ((pre ++ [b]).length : Int)) (fun k => ?_) ih
    simp only [laws_toByteS.l0]
    have e : rd xs (pre.length : Int) = b := rd_at (by rw [h]; simp)
    rw [if_pos (by omega), if_pos (by omega), if_pos (by simp; omega), e, w64s (by omega), Int.toNat_natCast, List.length_cons, set_mid, List.length_append, List.length_singleton]
theorem laws_toByteS_ev (xs : List Int) (hl : xs.length ≤ 281474976710656) : Ev (fun k => laws_toByteS.f k xs) xs := by
  simp only [laws_toByteS.f]
  refine evPos (by omega) (evPos (by omega) ?_)
  have := laws_toByteS_l0_ev xs (by omega) xs [] rfl
  simpa using this

theorem laws_eqByteS_l0_ev (xs ys : List Int) (hl : xs.length ≤ 1000000000000000000) (he : xs.length = ys.length) : ∀ (av bs : List Int) (i : Nat), xs.drop i = av → ys.drop i = bs → Ev (fun k => laws_eqByteS.l0 k xs ys i) (decide (av = bs))
  | [], bs, i, ha, hb => by
    have h1 := drop_nil ha
    have h2 : bs = [] := by rw [← hb]; exact drop_end _ _ (by omega)
    subst h2
    refine Ev.step (f := fun _ => some true) (fun k => ?_) (by simpa using Ev.now true)
    simp only [laws_eqByteS.l0]
    rw [if_neg (by omega)]
  | a :: av, [], i, ha, hb => by
    have h1 := drop_nil hb
    obtain ⟨h2, h3, h4⟩ := drop_cons ha
    omega
  | a :: av, b :: bs, i, ha, hb => by
    obtain ⟨h2, h3, h4⟩ := drop_cons ha
    obtain ⟨g2, g3, g4⟩ := drop_cons hb
    by_cases e : a = b
    · have ih := laws_eqByteS_l0_ev xs ys hl he av bs (i + 1) h3 g3
      refine Ev.step (f := fun k => laws_eqByteS.l0 k xs ys ((i + 1 : Nat) : Int)) (fun k => ?_) (evEq ih (by simp [e]))
      simp only [laws_eqByteS.l0]
      rw [if_pos (by omega), if_pos (by omega), if_pos (by omega), rd_at h4, rd_at g4, if_pos e, w64s (by omega)]
    · refine Ev.step (f := fun _ => some false) (fun k => ?_) (evEq (Ev.now false) (by simp [e]))
      simp only [laws_eqByteS.l0]
      rw [if_pos (by omega), if_pos (by omega), if_pos (by omega), rd_at h4, rd_at g4, if_neg e]
theorem laws_eqByteS_ev (xs ys : List Int) (hl : xs.length ≤ 1000000000000000000) : Ev (fun k => laws_eqByteS.f k xs ys) (decide (xs = ys)) := by
  simp only [laws_eqByteS.f]
  by_cases he : xs.length = ys.length
  · exact evPos (by omega) (laws_eqByteS_l0_ev xs ys hl he xs ys 0 rfl rfl)
  · refine evNeg (by omega) (evEq (Ev.now false) ?_)
    symm
    rw [decide_eq_false_iff_not]
    intro h
    exact he (by rw [h])
theorem laws_eqByteS_self (xs : List Int) (hl : xs.length ≤ 1000000000000000000) : Ev (fun k => laws_eqByteS.f k xs xs) true := evEq (laws_eqByteS_ev xs xs hl) (by simp)

theorem laws_markByteS_ev (xs : List Int) (hl : xs.length ≤ 1000000000000000) (a : Int) (h1 : 1 ≤ a) (h2 : a ≤ 10000000000000000) : Ev (fun k => laws_markByteS.f k xs a) (a + 1 * xs.length, marksOf (fun b => b % 256) 1 xs.length a) := by
  refine mark_loop laws_markByteS.l0 (fun b => b % 256) 1 (by decide) (fun k xs a i h => ?_) (fun xs a i r h hi h1 h2 hr => ?_) xs hl a h1 h2
  · simp only [laws_markByteS.l0]
    rw [if_neg (by omega)]
  · refine Ev.step (f := fun k => laws_markByteS.l0 k (xs.set i (a % 256)) (a + 1) ((i + 1 : Nat) : Int)) (fun k => ?_) hr
    simp only [laws_markByteS.l0]
    rw [if_pos (by omega), if_pos (by omega), w64s (by omega), w64 (x := a + 1) (by omega) (by omega), Int.toNat_natCast]

theorem laws_eqStringS_self (xs : List ByteArray) (hl : xs.length ≤ 1000000000000000000) : Ev (fun k => laws_eqStringS.f k xs xs) true := by
  simp only [laws_eqStringS.f]
  refine evPos trivial (self_loop laws_eqStringS.l0 (fun k xs i h => by simp only [laws_eqStringS.l0]; rw [if_neg (by omega)]) (fun k xs i a hi ha h1 => ?_) xs hl)
  simp only [laws_eqStringS.l0]
  rw [if_pos (by omega), if_pos (by omega), if_pos (by omega), w64s (by omega), if_pos trivial]

theorem laws_markText_l0_ev (n : Nat) : ∀ (s : ByteArray), s.size + n ≤ 2000000000000000000 → ∃ t, Ev (fun k => laws_markText.l0 k (n : Int) s) t := by
  induction n using Nat.strongRecOn with
  | ind n ih =>
    intro s hs
    by_cases h : n = 0
    · subst h
      refine ⟨_, Ev.step (f := fun _ => some ((⟨#[109]⟩ : ByteArray) ++ s)) (fun k => ?_) (Ev.now _)⟩
      simp only [laws_markText.l0]
      rw [if_neg (by simp), if_pos (by omega)]
    · have hsz : (strOfNums [wrap64 (48 + Int.tmod (n : Int) 10) % 256]).size = 1 := by rw [strOfNums_size]; rfl
      obtain ⟨t, ht⟩ := ih (n / 10) (by omega) (strOfNums [wrap64 (48 + Int.tmod (n : Int) 10) % 256] ++ s) (by rw [ByteArray.size_append, hsz]; omega)
      refine ⟨t, Ev.step (f := fun k => laws_markText.l0 k ((n / 10 : Nat) : Int) (strOfNums [wrap64 (48 + Int.tmod (n : Int) 10) % 256] ++ s)) (fun k => ?_) ht⟩
      simp only [laws_markText.l0]
      rw [if_pos (by omega)]
      simp only [Option.bind_some]
      rw [if_pos (by rw [hsz]; omega), Int.tdiv_eq_ediv_of_nonneg (by omega), w64 (x := (n : Int) / 10) (by omega) (by omega)]
      rfl
theorem laws_markText_ex (a : Int) (h : a ≤ 1500000000000000000) : ∃ t, Ev (fun k => laws_markText.f k a) t := by
  simp only [laws_markText.f]
  by_cases h0 : a ≤ 0
  · exact ⟨_, evPos h0 (Ev.now _)⟩
  · obtain ⟨t, ht⟩ := laws_markText_l0_ev a.toNat (⟨#[]⟩ : ByteArray) (by show 0 + _ ≤ _; omega)
    rw [show ((a.toNat : Nat) : Int) = a by omega] at ht
    exact ⟨t, evNeg h0 ht⟩
/-- The text by which a place is marked. -/
noncomputable def mtx (a : Int) : ByteArray := by
  classical
  exact if h : ∃ t, Ev (fun k => laws_markText.f k a) t then Classical.choose h else ByteArray.empty
theorem mtx_ev (a : Int) (h : a ≤ 1500000000000000000) : Ev (fun k => laws_markText.f k a) (mtx a) := by
  unfold mtx
  rw [dif_pos (laws_markText_ex a h)]
  exact Classical.choose_spec (laws_markText_ex a h)

theorem laws_markStringS_ev (xs : List ByteArray) (hl : xs.length ≤ 1000000000000000) (a : Int) (h1 : 1 ≤ a) (h2 : a ≤ 10000000000000000) : Ev (fun k => laws_markStringS.f k xs a) (a + 1 * xs.length, marksOf mtx 1 xs.length a) := by
  refine mark_loop laws_markStringS.l0 mtx 1 (by decide) (fun k xs a i h => ?_) (fun xs a i r h hi h1 h2 hr => ?_) xs hl a h1 h2
  · simp only [laws_markStringS.l0]
    rw [if_neg (by omega)]
  · refine Ev.step (f := fun k => (laws_markText.f k a).bind fun t => laws_markStringS.l0 k (xs.set i t) (a + 1) ((i + 1 : Nat) : Int)) (fun k => ?_) (Ev.bind (mtx_ev a (by omega)) hr)
    simp only [laws_markStringS.l0]
    rw [if_pos (by omega)]
    simp only [if_pos (show (0 : Int) ≤ i by omega), w64s (show i ≤ 1000000000000000000 by omega), w64 (x := a + 1) (by omega) (by omega), Int.toNat_natCast]

theorem laws_heldStringS_ev (n : Nat) (hl : n ≤ 1000000000000000) (a : Int) (h1 : 1 ≤ a) (h2 : a ≤ 10000000000000000) : Ev (fun k => laws_heldStringS.f k (marksOf mtx 1 n a) a) (a + 1 * n) := by
  refine held_loop laws_heldStringS.l0 mtx 1 (by decide) (fun k xs a i h => ?_) (fun xs a i r h hi hi2 h1 h2 hr => ?_) n hl a h1 h2
  · simp only [laws_heldStringS.l0]
    rw [if_neg (by omega)]
  · refine Ev.step (f := fun k => (laws_markText.f k a).bind fun t => if (rdOf ByteArray.empty xs (i : Int)).toList = t.toList then laws_heldStringS.l0 k xs (a + 1) ((i + 1 : Nat) : Int) else some (-1)) (fun k => ?_) (Ev.bind (mtx_ev a (by omega)) (evPos (by rw [show rdOf ByteArray.empty xs (i : Int) = mtx a from getD_at h]) hr))
    simp only [laws_heldStringS.l0]
    rw [if_pos (by omega), if_pos (by omega), w64s (by omega), w64 (x := a + 1) (by omega) (by omega)]

theorem FnExactReadTexts (xs : List Int) (hl : xs.length ≤ maxLen) (hw : ∀ x ∈ xs, (Lit.int .u8 x).wf = true) : ∃ k, laws_FnExactReadTexts.f k xs = some true := by
  have hx : ∀ x ∈ xs, 0 ≤ x ∧ x < 256 := fun x h => byte_wf (hw x h)
  refine Ev.rounds (g := fun k => laws_FnExactReadTexts.f k xs) ?_
  simp only [laws_FnExactReadTexts.f]
  by_cases h1 : (xs.length : Int) > 1048576
  · exact evPos h1 (Ev.now _)
  have toB := laws_toByteS_ev xs (by omega)
  have sp := spec_ReadTexts_ev xs (by omega) hx
  have im := impl_ReadTexts_ev xs (by omega) hx
  have hlen := readTexts_len xs
  generalize readTexts xs = p at sp im hlen
  obtain ⟨l, b⟩ := p
  simp only at hlen
  have hself := laws_eqStringS_self l (by omega)
  have hmark := laws_markStringS_ev l (by omega) 1 (by decide) (by decide)
  have hheld := laws_heldStringS_ev l.length (by omega) 1 (by decide) (by decide)
  have t2 : Ev (fun k => laws_FnExactReadTexts.j2 k (marksOf mtx 1 l.length 1) (1 + 1 * l.length) false) true := by
    refine Ev.step (fun k => by simp only [laws_FnExactReadTexts.j2]; exact rfl) ?_
    exact evNeg (by simp) (Ev.bind hheld (evNeg (by omega) (evPos rfl (Ev.now _))))
  have t1 : Ev (fun k => laws_FnExactReadTexts.j1 k xs l b l false) true := by
    refine Ev.step (fun k => by simp only [laws_FnExactReadTexts.j1]; exact rfl) ?_
    refine evNeg (by simp) (Ev.bind hmark (Ev.bind hheld (evNeg (by omega) (evPos rfl (Ev.bind toB (Ev.bind im (Ev.bind hself (evPos rfl ?_))))))))
    simpa using t2
  refine evNeg h1 (Ev.bind toB (Ev.bind sp (Ev.bind toB (Ev.bind im (Ev.bind hself (evPos rfl ?_))))))
  refine Ev.step (fun k => by simp only [laws_FnExactReadTexts.j0]; exact rfl) ?_
  refine evNeg (by simp) (Ev.bind toB (Ev.bind (laws_eqByteS_self xs (by omega)) (evPos rfl (Ev.bind (laws_markByteS_ev xs (by omega) 1 (by decide) (by decide)) (evNeg (by omega) (Ev.bind hself (evPos rfl ?_)))))))
  simpa using t1
end Go.Proofs.Ythkhfmomibfkjaa.Pure

/- Proves the plain law behind this statement of the seat (what its functions come to, over numbers and lists): that it answers true. No condition beyond the statement's own. -/
import Derived.Test.YthkhfmomibfkjaaPFnExactReadTextx
import Derived.Test.YthkhfmomibfkjaaLib
import Derived.Test.YthkhfmomibfkjaaLibRow
namespace Go.Proofs.Ythkhfmomibfkjaa.Pure
open Go Go.RowKit Go.Proofs.Ythkhfmomibfkjaa.PFnExactReadText Go.Proofs.YthkhfmomibfkjaaW.PrintWords Go.Proofs.YthkhfmomibfkjaaW.PrintLast Go.Proofs.YthkhfmomibfkjaaW.PrintMore Go.Proofs.Ythkhfmomibfkjaa.Lib
set_option linter.unusedVariables false
set_option linter.unusedSimpArgs false
theorem spec_ReadNumber_l0_ev (xs : List Int) (hx : ∀ x ∈ xs, 0 ≤ x ∧ x < 256) : ∀ (bs : List Int) (i : Nat) (p n : Int), xs.drop i = bs → PW i p → i ≤ 6 → 0 ≤ n → n < p → Ev (fun k => spec_ReadNumber.l0 k xs n p i) (rnum i p n bs)
  | [], i, p, n, hd, hP, hi, h0, h1 => by
    have := drop_nil hd
    refine Ev.step (f := fun k => spec_ReadNumber.j1 k xs n p i false) (fun k => ?_) (Ev.step (f := fun _ => some (0, 0)) (fun k => ?_) (Ev.now _))
    · simp only [spec_ReadNumber.l0]
      rw [if_neg (by omega)]
    · simp only [spec_ReadNumber.j1]
      rw [if_neg (by decide)]
  | b :: bs, i, p, n, hd, hP, hi, h0, h1 => by
    obtain ⟨h2, h3, h4⟩ := drop_cons hd
    obtain ⟨b0, b1⟩ := hx b (List.mem_of_getElem? h4)
    by_cases h6 : i < 6
    · have hp := hP.pos
      have hq := hP.le (by omega)
      have hm := digit_mul b p hp
      have e2 : wrap64 (rd xs i) = b := by rw [rd_at h4, w64 (by omega) (by omega)]
      have e3 : Int.tmod b 128 = b % 128 := Int.tmod_eq_emod_of_nonneg (by omega)
      have ih := spec_ReadNumber_l0_ev xs hx bs (i + 1) (p * 128) (n + b % 128 * p) h3 hP.step (by omega)
      have hi1 : wrap64 ((i : Int) + 1) = (i : Int) + 1 := w64 (by omega) (by omega)
      have hip : (0 : Int) ≤ i := by omega
      have hil : (i : Int) < xs.length := by omega
      simp only [rnum, if_pos h6]
      have e4 : wrap64 (b % 128 * p) = b % 128 * p := by
        generalize b % 128 * p = q at hm; exact w64 (by omega) (by omega)
      have e1 : wrap64 (n + b % 128 * p) = n + b % 128 * p := by
        generalize b % 128 * p = q at hm; exact w64 (by omega) (by omega)
      have e5 : wrap64 (p * 128) = p * 128 := w64 (by omega) (by omega)
      have ih' : Ev (fun k => spec_ReadNumber.l0 k xs (n + b % 128 * p) (p * 128) ((i + 1 : Nat) : Int)) (rnum (i + 1) (p * 128) (n + b % 128 * p) bs) := by
        generalize b % 128 * p = q at hm ih ⊢; exact ih (by omega) (by omega)
      clear ih
      refine Ev.step (f := fun k => spec_ReadNumber.j1 k xs n p i true) (fun k => ?_) ?_
      · simp only [spec_ReadNumber.l0]
        rw [if_pos hil, decide_eq_true (by omega : (i : Int) < 6)]
      · by_cases hb : b < 128
        · rw [if_pos hb]
          refine Ev.step (f := fun _ => some _) (fun k => ?_) (Ev.now _)
          simp only [spec_ReadNumber.j1]
          rw [if_pos trivial, if_pos hip, if_pos hil, e2, e3, e4, e1, if_pos hb, hi1]
          generalize n + b % 128 * p = q
          by_cases hn : q > 1099511627776
          · rw [if_pos hn, if_pos (Or.inl hn)]
          · rw [if_neg hn]
            by_cases hi0 : 0 < i
            · rw [if_pos (by omega)]
              by_cases hb0 : b = 0
              · rw [if_pos hb0, if_pos (Or.inr ⟨hi0, hb0⟩)]
              · rw [if_neg hb0, if_neg (fun h => h.elim hn (fun h => hb0 h.2))]
            · rw [if_neg (by omega), if_neg (fun h => h.elim hn (fun h => hi0 h.1))]
        · rw [if_neg hb]
          refine Ev.step (f := fun k => spec_ReadNumber.l0 k xs (n + b % 128 * p) (p * 128) ((i + 1 : Nat) : Int)) (fun k => ?_) ih'
          simp only [spec_ReadNumber.j1]
          rw [if_pos trivial, if_pos hip, if_pos hil, e2, e3, e4, e1, if_neg hb, e5, hi1]
          rfl
    · refine Ev.step (f := fun k => spec_ReadNumber.j1 k xs n p i false) (fun k => ?_) (Ev.step (f := fun _ => some (0, 0)) (fun k => ?_) (evEq (Ev.now _) ?_))
      · simp only [spec_ReadNumber.l0]
        rw [if_pos (by omega), decide_eq_false (by omega : ¬ (i : Int) < 6)]
      · simp only [spec_ReadNumber.j1]
        rw [if_neg (by decide)]
      · simp only [rnum, if_neg h6]
theorem spec_ReadNumber_ev (xs : List Int) (hx : ∀ x ∈ xs, 0 ≤ x ∧ x < 256) : Ev (fun k => spec_ReadNumber.f k xs) (readNumber xs) :=
  spec_ReadNumber_l0_ev xs hx xs 0 1 0 rfl PW.zero (by decide) (by decide) (by decide)
theorem impl_ReadNumber_l0_ev (xs : List Int) (hl : xs.length ≤ 1000000000000000000) (hx : ∀ x ∈ xs, 0 ≤ x ∧ x < 256) : ∀ (bs : List Int) (i : Nat) (p n : Int), xs.drop i = bs → PW i p → i ≤ 6 → 0 ≤ n → n < p → Ev (fun k => impl_ReadNumber.l0 k n xs (xs.length : Int) i) (rnum i p n bs)
  | [], i, p, n, hd, hP, hi, h0, h1 => by
    have := drop_nil hd
    refine Ev.step (f := fun _ => some (0, 0)) (fun k => ?_) (Ev.now _)
    simp only [impl_ReadNumber.l0]
    rw [if_neg (by omega)]
  | b :: bs, i, p, n, hd, hP, hi, h0, h1 => by
    obtain ⟨h2, h3, h4⟩ := drop_cons hd
    obtain ⟨b0, b1⟩ := hx b (List.mem_of_getElem? h4)
    have hip : (0 : Int) ≤ i := by omega
    have hil : (i : Int) < xs.length := by omega
    by_cases h6 : i < 6
    · have hp := hP.pos
      have hq := hP.le (by omega)
      have hm := digit_mul b p hp
      have e1 := join_eq (n := n) (b := b) (i := i) hP (by omega) h0 h1 b0 b1
      have e3 : (0 : Int) ≤ wrap64 (7 * (i : Int)) := by rw [w64 (by omega) (by omega)]; omega
      have hi1 : wrap64 ((i : Int) + 1) = (i : Int) + 1 := w64 (by omega) (by omega)
      have ih := impl_ReadNumber_l0_ev xs hl hx bs (i + 1) (p * 128) (n + b % 128 * p) h3 hP.step (by omega)
      have ih' : Ev (fun k => impl_ReadNumber.l0 k (n + b % 128 * p) xs (xs.length : Int) ((i + 1 : Nat) : Int)) (rnum (i + 1) (p * 128) (n + b % 128 * p) bs) := by
        generalize b % 128 * p = q at hm ih ⊢; exact ih (by omega) (by omega)
      clear ih
      simp only [rnum, if_pos h6]
      by_cases hb : b < 128
      · rw [if_pos hb]
        refine Ev.step (f := fun _ => some _) (fun k => ?_) (Ev.now _)
        simp only [impl_ReadNumber.l0]
        rw [if_pos hil, if_pos hip, if_pos hil, if_neg (by omega), if_pos e3, rd_at h4, e1, if_pos hb, hi1]
        generalize n + b % 128 * p = q
        by_cases hi0 : 0 < i
        · rw [if_pos (by omega)]
          by_cases hb0 : b = 0
          · rw [if_pos hb0, if_pos (Or.inr ⟨hi0, hb0⟩)]
          · rw [if_neg hb0]
            by_cases hn : q > 1099511627776
            · rw [if_pos hn, if_pos (Or.inl hn)]
            · rw [if_neg hn, if_neg (fun h => h.elim hn (fun h => hb0 h.2))]
        · rw [if_neg (by omega)]
          by_cases hn : q > 1099511627776
          · rw [if_pos hn, if_pos (Or.inl hn)]
          · rw [if_neg hn, if_neg (fun h => h.elim hn (fun h => hi0 h.1))]
      · rw [if_neg hb]
        refine Ev.step (f := fun k => impl_ReadNumber.l0 k (n + b % 128 * p) xs (xs.length : Int) ((i + 1 : Nat) : Int)) (fun k => ?_) ih'
        simp only [impl_ReadNumber.l0]
        rw [if_pos hil, if_pos hip, if_pos hil, if_neg (by omega), if_pos e3, rd_at h4, e1, if_neg hb, hi1]
        rfl
    · refine Ev.step (f := fun _ => some (0, 0)) (fun k => ?_) (evEq (Ev.now _) ?_)
      · simp only [impl_ReadNumber.l0]
        rw [if_pos hil, if_pos hip, if_pos hil, if_pos (by omega)]
      · simp only [rnum, if_neg h6]
theorem impl_ReadNumber_ev (xs : List Int) (hl : xs.length ≤ 1000000000000000000) (hx : ∀ x ∈ xs, 0 ≤ x ∧ x < 256) : Ev (fun k => impl_ReadNumber.f k xs) (readNumber xs) :=
  impl_ReadNumber_l0_ev xs hl hx xs 0 1 0 rfl PW.zero (by decide) (by decide) (by decide)

theorem spec_ReadText_ev (xs : List Int) (hl : xs.length ≤ 1000000000000000000) (hx : ∀ x ∈ xs, 0 ≤ x ∧ x < 256) : Ev (fun k => spec_ReadText.f k xs) (readText xs) := by
  simp only [spec_ReadText.f]
  refine Ev.bind (spec_ReadNumber_ev xs hx) ?_
  have hb := readNumber_bd xs hx
  unfold readText
  generalize readNumber xs = p at hb ⊢
  obtain ⟨n, t⟩ := p
  simp only at hb ⊢
  by_cases h0 : t = 0
  · rw [if_pos (Or.inl h0)]; exact evPos h0 (Ev.now _)
  refine evNeg h0 ?_
  by_cases h1 : n > 3000
  · rw [if_pos (Or.inr (Or.inl h1))]; exact evPos h1 (Ev.now _)
  refine evNeg h1 ?_
  have e1 : wrap64 ((xs.length : Int) - t) = (xs.length : Int) - t := w64 (by omega) (by omega)
  rw [e1]
  by_cases h2 : n > (xs.length : Int) - t
  · rw [if_pos (Or.inr (Or.inr h2))]; exact evPos h2 (Ev.now _)
  refine evNeg h2 ?_
  have e2 : wrap64 (t + n) = t + n := w64 (by omega) (by omega)
  rw [e2]
  exact evEq (evPos (by omega) (evPos (by omega) (evPos (by omega) (Ev.now _)))) (if_neg (fun h => by rcases h with h | h | h <;> omega)).symm
theorem impl_ReadText_ev (xs : List Int) (hl : xs.length ≤ 1000000000000000000) (hx : ∀ x ∈ xs, 0 ≤ x ∧ x < 256) : Ev (fun k => impl_ReadText.f k xs) (readText xs) := by
  simp only [impl_ReadText.f]
  refine Ev.bind (impl_ReadNumber_ev xs hl hx) ?_
  have hb := readNumber_bd xs hx
  unfold readText
  generalize readNumber xs = p at hb ⊢
  obtain ⟨n, t⟩ := p
  simp only at hb ⊢
  by_cases h0 : t = 0
  · rw [if_pos (Or.inl h0)]; exact evPos h0 (Ev.now _)
  refine evNeg h0 ?_
  by_cases h1 : n > 3000
  · rw [if_pos (Or.inr (Or.inl h1))]; exact evPos h1 (Ev.now _)
  refine evNeg h1 ?_
  have e1 : wrap64 ((xs.length : Int) - t) = (xs.length : Int) - t := w64 (by omega) (by omega)
  rw [e1]
  by_cases h2 : n > (xs.length : Int) - t
  · rw [if_pos (Or.inr (Or.inr h2))]; exact evPos h2 (Ev.now _)
  refine evNeg h2 ?_
  have e2 : wrap64 (t + n) = t + n := w64 (by omega) (by omega)
  rw [e2]
  exact evEq (evPos (by omega) (evPos (by omega) (evPos (by omega) (Ev.now _)))) (if_neg (fun h => by rcases h with h | h | h <;> omega)).symm

theorem laws_toByteS_l0_ev (xs : List Int) (hl : xs.length ≤ 1000000000000000000) : ∀ (bs pre : List Int), xs = pre ++ bs → Ev (fun k => laws_toByteS.l0 k xs (pre ++ List.replicate bs.length 0) (pre.length : Int)) xs
  | [], pre, h => by
    refine Ev.step (f := fun _ => some xs) (fun k => ?_) (Ev.now _)
    simp only [laws_toByteS.l0]
    have : xs.length = pre.length := by rw [h]; simp
    rw [if_neg (by omega)]
    simp [h]
  | b :: bs, pre, h => by
    have hlen : xs.length = pre.length + (bs.length + 1) := by rw [h]; simp
    have ih := laws_toByteS_l0_ev xs hl bs (pre ++ [b]) (by rw [h]; simp)
    refine Ev.step (f := fun k => laws_toByteS.l0 k xs ((pre ++ [b]) ++ List.replicate bs.length 0) ((pre ++ [b]).length : Int)) (fun k => ?_) ih
    simp only [laws_toByteS.l0]
    have e : rd xs (pre.length : Int) = b := rd_at (by rw [h]; simp)
    rw [if_pos (by omega), if_pos (by omega), if_pos (by simp; omega), e, w64s (by omega), Int.toNat_natCast, List.length_cons, set_mid, List.length_append, List.length_singleton]
theorem laws_toByteS_ev (xs : List Int) (hl : xs.length ≤ 281474976710656) : Ev (fun k => laws_toByteS.f k xs) xs := by
  simp only [laws_toByteS.f]
  refine evPos (by omega) (evPos (by omega) ?_)
  have := laws_toByteS_l0_ev xs (by omega) xs [] rfl
  simpa using this

theorem laws_eqByteS_l0_ev (xs ys : List Int) (hl : xs.length ≤ 1000000000000000000) (he : xs.length = ys.length) : ∀ (av bs : List Int) (i : Nat), xs.drop i = av → ys.drop i = bs → Ev (fun k => laws_eqByteS.l0 k xs ys i) (decide (av = bs))
  | [], bs, i, ha, hb => by
    have h1 := drop_nil ha
    have h2 : bs = [] := by rw [← hb]; exact drop_end _ _ (by omega)
    subst h2
    refine Ev.step (f := fun _ => some true) (fun k => ?_) (by simpa using Ev.now true)
    simp only [laws_eqByteS.l0]
    rw [if_neg (by omega)]
  | a :: av, [], i, ha, hb => by
    have h1 := drop_nil hb
    obtain ⟨h2, h3, h4⟩ := drop_cons ha
    omega
  | a :: av, b :: bs, i, ha, hb => by
    obtain ⟨h2, h3, h4⟩ := drop_cons ha
    obtain ⟨g2, g3, g4⟩ := drop_cons hb
    by_cases e : a = b
    · have ih := laws_eqByteS_l0_ev xs ys hl he av bs (i + 1) h3 g3
      refine Ev.step (f := fun k => laws_eqByteS.l0 k xs ys ((i + 1 : Nat) : Int)) (fun k => ?_) (evEq ih (by simp [e]))
      simp only [laws_eqByteS.l0]
      rw [if_pos (by omega), if_pos (by omega), if_pos (by omega), rd_at h4, rd_at g4, if_pos e, w64s (by omega)]
    · refine Ev.step (f := fun _ => some false) (fun k => ?_) (evEq (Ev.now false) (by simp [e]))
      simp only [laws_eqByteS.l0]
      rw [if_pos (by omega), if_pos (by omega), if_pos (by omega), rd_at h4, rd_at g4, if_neg e]
theorem laws_eqByteS_ev (xs ys : List Int) (hl : xs.length ≤ 1000000000000000000) : Ev (fun k => laws_eqByteS.f k xs ys) (decide (xs = ys)) := by
  simp only [laws_eqByteS.f]
  by_cases he : xs.length = ys.length
  · exact evPos (by omega) (laws_eqByteS_l0_ev xs ys hl he xs ys 0 rfl rfl)
  · refine evNeg (by omega) (evEq (Ev.now false) ?_)
    symm
    rw [decide_eq_false_iff_not]
    intro h
    exact he (by rw [h])
theorem laws_eqByteS_self (xs : List Int) (hl : xs.length ≤ 1000000000000000000) : Ev (fun k => laws_eqByteS.f k xs xs) true := evEq (laws_eqByteS_ev xs xs hl) (by simp)

theorem FnExactReadText (xs : List Int) (hl : xs.length ≤ maxLen) (hw : ∀ x ∈ xs, (Lit.int .u8 x).wf = true) : ∃ k, laws_FnExactReadText.f k xs = some true := by
  have hx : ∀ x ∈ xs, 0 ≤ x ∧ x < 256 := fun x h => byte_wf (hw x h)
  refine Ev.rounds (g := fun k => laws_FnExactReadText.f k xs) ?_
  simp only [laws_FnExactReadText.f]
  by_cases h1 : (xs.length : Int) > 1048576
  · exact evPos h1 (Ev.now _)
  refine evNeg h1 (Ev.bind (laws_toByteS_ev xs (by omega)) (Ev.bind (spec_ReadText_ev xs (by omega) hx) (Ev.bind (laws_toByteS_ev xs (by omega)) (Ev.bind (impl_ReadText_ev xs (by omega) hx) (evPos rfl ?_)))))
  refine Ev.step (fun k => by simp only [laws_FnExactReadText.j0]; exact rfl) ?_
  refine evNeg (by simp) (Ev.bind (laws_toByteS_ev xs (by omega)) (Ev.bind (laws_eqByteS_self xs (by omega)) (evPos rfl (Ev.now _))))
end Go.Proofs.Ythkhfmomibfkjaa.Pure

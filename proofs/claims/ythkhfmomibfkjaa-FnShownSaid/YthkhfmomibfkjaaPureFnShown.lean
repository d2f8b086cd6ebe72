/- Proves the plain law behind this statement of the seat (what its functions come to, over numbers and lists): that it answers true. No condition beyond the statement's own. -/
import Derived.Test.YthkhfmomibfkjaaPFnShownx
import Derived.Test.YthkhfmomibfkjaaLib
import Derived.Test.YthkhfmomibfkjaaLibHit
import Derived.Test.YthkhfmomibfkjaaLibRow
import Derived.Test.YthkhfmomibfkjaaLibStr
namespace Go.Proofs.Ythkhfmomibfkjaa.Pure
open Go Go.RowKit Go.Proofs.Ythkhfmomibfkjaa.PFnShown Go.Proofs.YthkhfmomibfkjaaW.PrintWords Go.Proofs.YthkhfmomibfkjaaW.PrintLast Go.Proofs.YthkhfmomibfkjaaW.PrintMore Go.Proofs.Ythkhfmomibfkjaa.Lib
set_option linter.unusedVariables false
set_option linter.unusedSimpArgs false
theorem and255 (y : Int) : 0 ≤ Go.bits .and .i64 y 255 ∧ Go.bits .and .i64 y 255 ≤ 255 := by
  have e : ((BitVec.ofInt IntKind.i64.bits y) &&& (BitVec.ofInt IntKind.i64.bits 255)).toNat ≤ 255 := by
    rw [BitVec.toNat_and]
    exact Nat.le_trans Nat.and_le_right (by decide)
  have e2 : Go.bits .and .i64 y 255 = (((BitVec.ofInt IntKind.i64.bits y) &&& (BitVec.ofInt IntKind.i64.bits 255)).toNat : Int) := by
    simp only [Go.bits]
    rw [IntKind.wrap_i64]
    generalize ((BitVec.ofInt IntKind.i64.bits y) &&& (BitVec.ofInt IntKind.i64.bits 255)).toNat = n at e ⊢
    omega
  rw [e2]
  generalize ((BitVec.ofInt IntKind.i64.bits y) &&& (BitVec.ofInt IntKind.i64.bits 255)).toNat = n at e ⊢
  omega
theorem spec_l1New_l0_ev (b : List Int) (hl : b.length ≤ 1000000000000000000) : ∀ (bs : List Int) (i : Nat) (h : Int), b.drop i = bs → ∃ h', Ev (fun k => spec_l1New.l0 k b h i) (b, 0, h')
  | [], i, h, hd => by
    have := drop_nil hd
    refine ⟨h, Ev.step (f := fun _ => some _) (fun k => ?_) (Ev.now _)⟩
    simp only [spec_l1New.l0]
    rw [if_neg (by omega)]
  | x :: bs, i, h, hd => by
    obtain ⟨h2, h3, h4⟩ := drop_cons hd
    obtain ⟨h', hh⟩ := spec_l1New_l0_ev b hl bs (i + 1) (Go.bits .and .i64 (wrap64 ((wrap64 ((wrap64 (h * 137)) + (wrap64 (rd b i)))) + 11)) 1073741823) h3
    refine ⟨h', Ev.step (fun k => ?_) hh⟩
    simp only [spec_l1New.l0]
    rw [if_pos (by omega), if_pos (by omega), w64s (by omega)]
theorem spec_l1New_ev (b : List Int) (hl : b.length ≤ 1000000000000000000) : ∃ h, Ev (fun k => spec_l1New.f k b) (b, 0, h) := spec_l1New_l0_ev b hl b 0 _ rfl
theorem spec_l1Byte_eq (b : List Int) (hl : b.length ≤ 1000000000000000000) (i h : Int) (hi : 0 ≤ i) : ∃ x i' h', spec_l1Byte.f b i h = some (x, i', h') ∧ 0 ≤ x ∧ x ≤ 255 ∧ 0 ≤ i' := by
  unfold spec_l1Byte.f
  by_cases hx : i < (b.length : Int)
  · rw [if_pos hx, if_pos hi]
    refine ⟨_, _, _, rfl, (and255 _).1, (and255 _).2, ?_⟩
    rw [w64 (by omega) (by omega)]
    omega
  · rw [if_neg hx]
    exact ⟨_, _, _, rfl, (and255 _).1, (and255 _).2, hi⟩
theorem spec_l1Below_eq (b : List Int) (hl : b.length ≤ 1000000000000000000) (i h : Int) (hi : 0 ≤ i) (n : Int) : ∃ x i' h', spec_l1Below.f b i h n = some (x, i', h') ∧ 0 ≤ x ∧ (0 < n → x < n) ∧ 0 ≤ i' := by
  unfold spec_l1Below.f
  by_cases h0 : n ≤ 0
  · rw [if_pos h0]
    exact ⟨_, _, _, rfl, Int.le_refl _, fun h => absurd h (by omega), hi⟩
  rw [if_neg h0]
  obtain ⟨x, i1, h1, e1, x0, x1, hi1⟩ := spec_l1Byte_eq b hl i h hi
  rw [e1]
  simp only [Option.bind_some]
  have fin : ∀ y : Int, 0 ≤ y → 0 ≤ Int.tmod y n ∧ (0 < n → Int.tmod y n < n) := fun y hy => ⟨Int.tmod_nonneg _ hy, fun hn => Int.tmod_lt_of_pos _ hn⟩
  by_cases h2 : n ≤ 256
  · rw [if_pos h2, if_neg (by omega)]
    exact ⟨_, _, _, rfl, (fin x x0).1, (fin x x0).2, hi1⟩
  rw [if_neg h2]
  obtain ⟨y, i2, g2, e2, y0, y1, hi2⟩ := spec_l1Byte_eq b hl i1 h1 hi1
  rw [e2]
  simp only [Option.bind_some]
  obtain ⟨z, i3, g3, e3, z0, z1, hi3⟩ := spec_l1Byte_eq b hl i2 g2 hi2
  rw [e3]
  simp only [Option.bind_some]
  obtain ⟨w, i4, g4, e4, w0, w1, hi4⟩ := spec_l1Byte_eq b hl i3 g3 hi3
  rw [e4]
  simp only [Option.bind_some]
  rw [if_neg (by omega)]
  have ee : (wrap64 ((wrap64 ((wrap64 ((wrap64 (x * 16777216)) + (wrap64 (y * 65536)))) + (wrap64 (z * 256)))) + w)) = x * 16777216 + y * 65536 + z * 256 + w := by
    rw [w64 (x := x * 16777216) (by omega) (by omega), w64 (x := y * 65536) (by omega) (by omega), w64 (x := z * 256) (by omega) (by omega), w64 (x := x * 16777216 + y * 65536) (by omega) (by omega), w64 (x := x * 16777216 + y * 65536 + z * 256) (by omega) (by omega), w64 (by omega) (by omega)]
  rw [ee]
  exact ⟨_, _, _, rfl, (fin _ (by omega)).1, (fin _ (by omega)).2, hi4⟩
theorem spec_l1Once_eq (b : List Int) (hl : b.length ≤ 1000000000000000000) (i h : Int) (hi : 0 ≤ i) (n : Int) : ∃ x i' h', spec_l1Once.f b i h n = some (x, i', h') ∧ 0 ≤ i' := by
  obtain ⟨x, i1, h1, e1, _, _, hi1⟩ := spec_l1Below_eq b hl i h hi n
  unfold spec_l1Once.f
  rw [e1]
  exact ⟨_, _, _, rfl, hi1⟩
theorem strOfNums_le (xs : List Int) : (strOfNums xs).size = xs.length := by rw [strOfNums_size]

theorem spec_l1DrawText_l0_ev (b : List Int) (hl : b.length ≤ 1000000000000000000) : ∀ (n : Nat) (acc : List Int) (i h : Int), 0 ≤ i → acc.length + n ≤ 1000 →
    ∃ s i' h', Ev (fun k => spec_l1DrawText.l0 k acc (n : Int) b i h) (s, i', h') ∧ s.size ≤ acc.length + n + 1 ∧ 0 ≤ i'
  | 0, acc, i, h, hi, ha => by
    obtain ⟨x, i1, h1, e1, hi1⟩ := spec_l1Once_eq b hl i h hi 6
    obtain ⟨y, i2, h2, e2, _, _, hi2⟩ := spec_l1Byte_eq b hl i1 h1 hi1
    cases x with
    | true =>
      refine ⟨_, _, _, Ev.step (f := fun _ => some (strOfNums (acc ++ [y % 256]), i2, h2)) (fun k => ?_) (Ev.now _), ?_, hi2⟩
      · simp only [spec_l1DrawText.l0]
        rw [if_neg (by omega), e1]
        simp only [Option.bind_some]
        rw [if_pos trivial, e2]
        simp only [Option.bind_some]
        rw [if_pos (by omega)]
      · rw [strOfNums_le, List.length_append, List.length_singleton]; omega
    | false =>
      refine ⟨_, _, _, Ev.step (f := fun _ => some (strOfNums acc, i1, h1)) (fun k => ?_) (Ev.now _), ?_, hi1⟩
      · simp only [spec_l1DrawText.l0]
        rw [if_neg (by omega), e1]
        simp only [Option.bind_some]
        rw [if_neg (by decide)]
      · rw [strOfNums_le]; omega
  | n + 1, acc, i, h, hi, ha => by
    obtain ⟨x, i1, h1, e1, x0, x1, hi1⟩ := spec_l1Below_eq b hl i h hi 4
    obtain ⟨s, i2, h2, hs, hz, hi2⟩ := spec_l1DrawText_l0_ev b hl n (acc ++ [(wrap64 (97 + x)) % 256]) i1 h1 hi1 (by rw [List.length_append, List.length_singleton]; omega)
    rw [List.length_append, List.length_singleton] at hz
    refine ⟨s, i2, h2, Ev.step (fun k => ?_) hs, by omega, hi2⟩
    simp only [spec_l1DrawText.l0]
    rw [if_pos (by omega), e1]
    simp only [Option.bind_some]
    rw [if_pos (by omega), w64 (x := ((n + 1 : Nat) : Int) - 1) (by omega) (by omega), show ((n + 1 : Nat) : Int) - 1 = (n : Int) by omega]
theorem spec_l1DrawText_ev (b : List Int) (hl : b.length ≤ 1000000000000000000) (i h : Int) (hi : 0 ≤ i) :
    ∃ s i' h', Ev (fun k => spec_l1DrawText.f k b i h) (s, i', h') ∧ s.size ≤ 8 ∧ 0 ≤ i' := by
  obtain ⟨x, i1, h1, e1, x0, x1, hi1⟩ := spec_l1Below_eq b hl i h hi 8
  obtain ⟨n, rfl⟩ := Int.eq_ofNat_of_zero_le x0
  have hn := x1 (by decide)
  obtain ⟨s, i2, h2, hs, hz, hi2⟩ := spec_l1DrawText_l0_ev b hl n [] i1 h1 hi1 (by simp; omega)
  simp only [List.length_nil] at hz
  refine ⟨s, i2, h2, ?_, by omega, hi2⟩
  simp only [spec_l1DrawText.f]
  exact Ev.bind (evId (fun _ => e1)) hs

/-- Is an entry right? -/
def entOk (e : S49) : Bool := within e.f0.size 1 40 && (decide ((e.f1.size : Int) ≤ 200) && ((!e.f3 || decide (e.f1.toList = ([] : List UInt8))) && within e.f2 1 1000000))
/-- Is the one ahead of the other? -/
def ahead (a b : S49) : Bool := Op.bytesLess a.f0.toList b.f0.toList || (decide (a.f0.toList = b.f0.toList) && decide (a.f2 > b.f2))
def okL : Option S49 → List S49 → Bool
  | _, [] => true
  | p, e :: es => entOk e && ((match p with | none => true | some q => ahead q e) && okL (some e) es)
def entriesOk (xs : List S49) : Bool := decide (xs.length ≤ 300) && okL none xs
theorem entOk_iff {e : S49} : entOk e = true ↔ (1 ≤ e.f0.size ∧ e.f0.size ≤ 40) ∧ e.f1.size ≤ 200 ∧ (e.f3 = true → e.f1.toList = []) ∧ 1 ≤ e.f2 ∧ e.f2 ≤ 1000000 := by
  unfold entOk within
  simp only [Bool.and_eq_true, Bool.or_eq_true, decide_eq_true_eq, Bool.not_eq_true']
  constructor
  · rintro ⟨⟨h1, h2⟩, h3, h4, h5, h6⟩
    refine ⟨⟨by omega, by omega⟩, by omega, fun hg => ?_, h5, h6⟩
    rcases h4 with h4 | h4
    · rw [hg] at h4; cases h4
    · exact h4
  · rintro ⟨⟨h1, h2⟩, h3, h4, h5, h6⟩
    refine ⟨⟨by omega, by omega⟩, by omega, ?_, h5, h6⟩
    cases h : e.f3 with
    | false => exact Or.inl rfl
    | true => exact Or.inr (h4 h)
/-- The entry ahead of place i. -/
def prev (xs : List S49) (i : Nat) : Option S49 := if i = 0 then none else xs[i - 1]?
theorem prev_succ {xs : List S49} {i : Nat} {e : S49} (h : xs[i]? = some e) : prev xs (i + 1) = some e := by
  unfold prev
  rw [if_neg (by omega), show i + 1 - 1 = i by omega, h]

theorem spec_l1In_ev (a b c : Int) : Ev (fun _ => spec_l1In.f a b c) (within a b c) := by
  refine evId (fun _ => ?_)
  unfold spec_l1In.f within
  by_cases h : a ≥ b
  · rw [if_pos h, decide_eq_true (show b ≤ a from h), Bool.true_and]
  · rw [if_neg h, decide_eq_false (show ¬ b ≤ a from h), Bool.false_and]

theorem spec_l3Entry_ev (e : S49) : Ev (fun _ => spec_l3Entry.f e.f0 e.f1 e.f2 e.f3) (entOk e) := by
  obtain ⟨a, b, c, g⟩ := e
  refine evId (fun _ => ?_)
  have hin : spec_l1In.f c 1 1000000 = some (within c 1 1000000) := by
    obtain ⟨k, h⟩ := (spec_l1In_ev c 1 1000000).rounds
    exact h
  unfold spec_l3Entry.f entOk
  simp only [hin, Option.bind_some]
  by_cases h1 : (a.size : Int) ≥ 1
  · by_cases h2 : (a.size : Int) ≤ 40
    · by_cases h3 : (b.size : Int) ≤ 200
      · rw [if_pos h1, if_pos h2, if_pos h3]
        have : within (a.size : Int) 1 40 = true := by simp [within]; omega
        rw [this, decide_eq_true h3]
        cases g with
        | false => simp
        | true =>
          rw [if_pos rfl]
          by_cases h4 : b.toList = ([] : List UInt8)
          · rw [if_pos h4]; simp [h4]
          · rw [if_neg h4]; simp [h4]
      · rw [if_pos h1, if_pos h2, if_neg h3, decide_eq_false h3]; simp
    · rw [if_pos h1, if_neg h2]
      have : within (a.size : Int) 1 40 = false := by simp [within]; omega
      rw [this]; simp
  · rw [if_neg h1]
    have : within (a.size : Int) 1 40 = false := by simp [within]; omega
    rw [this]; simp
theorem spec_l3Ahead_ev (a b : S49) : Ev (fun _ => spec_l3Ahead.f a.f0 a.f1 a.f2 a.f3 b.f0 b.f1 b.f2 b.f3) (ahead a b) := by
  refine evId (fun _ => ?_)
  unfold spec_l3Ahead.f ahead
  cases h : Op.bytesLess a.f0.toList b.f0.toList with
  | true => simp
  | false =>
    rw [if_neg (by simp)]
    by_cases h2 : a.f0.toList = b.f0.toList
    · rw [if_pos h2]; simp [h2]
    · rw [if_neg h2]; simp [h2]
theorem spec_EntriesOk_l0_ev (xs : List S49) (hl : xs.length ≤ 1000000000000000000) : ∀ (bs : List S49) (i : Nat), xs.drop i = bs → Ev (fun k => spec_EntriesOk.l0 k xs i) (okL (prev xs i) bs)
  | [], i, hd => by
    have := drop_nil hd
    refine Ev.step (f := fun _ => some true) (fun k => ?_) (Ev.now _)
    simp only [spec_EntriesOk.l0]
    rw [if_neg (by omega)]
  | e :: bs, i, hd => by
    obtain ⟨h2, h3, h4⟩ := drop_cons hd
    have e1 : rd_T49 xs (i : Int) = e := getD_at h4
    have ih := spec_EntriesOk_l0_ev xs hl bs (i + 1) h3
    rw [prev_succ h4] at ih
    refine Ev.step (f := fun k => (spec_l3Entry.f e.f0 e.f1 e.f2 e.f3).bind fun t127 => (if t127 = true then (if (i : Int) > 0 then ((spec_l3Ahead.f (rd_T49 xs (wrap64 ((i : Int) - 1))).f0 (rd_T49 xs (wrap64 ((i : Int) - 1))).f1 (rd_T49 xs (wrap64 ((i : Int) - 1))).f2 (rd_T49 xs (wrap64 ((i : Int) - 1))).f3 e.f0 e.f1 e.f2 e.f3).bind fun t130 => (if t130 = true then (spec_EntriesOk.l0 k xs ((i + 1 : Nat) : Int)) else (some false))) else (spec_EntriesOk.l0 k xs ((i + 1 : Nat) : Int))) else (some false))) (fun k => ?_) (Ev.bind (spec_l3Entry_ev e) ?_)
    · simp only [spec_EntriesOk.l0]
      rw [if_pos (by omega), if_pos (by omega), e1, w64s (by omega)]
      by_cases hi : (i : Int) > 0
      · simp only [if_pos hi, if_pos (show (0 : Int) ≤ wrap64 ((i : Int) - 1) by rw [w64 (by omega) (by omega)]; omega), if_pos (show wrap64 ((i : Int) - 1) < (xs.length : Int) by rw [w64 (by omega) (by omega)]; omega)]
      · simp only [if_neg hi]
    · unfold okL
      cases he : entOk e with
      | false => exact evNeg (by simp) (Ev.now _)
      | true =>
        refine evPos rfl ?_
        rw [Bool.true_and]
        by_cases hi : i = 0
        · subst hi
          refine evNeg (by omega) (evEq ih ?_)
          simp [prev]
        · obtain ⟨q, hq⟩ : ∃ q, xs[i - 1]? = some q := ⟨_, List.getElem?_eq_getElem (by omega)⟩
          have e2 : rd_T49 xs (wrap64 ((i : Int) - 1)) = q := by
            rw [w64 (by omega) (by omega), show (i : Int) - 1 = ((i - 1 : Nat) : Int) by omega]
            exact getD_at hq
          refine evPos (by omega) ?_
          rw [e2]
          refine Ev.bind (spec_l3Ahead_ev q e) ?_
          simp only [prev, if_neg hi, hq]
          cases ahead q e with
          | false => exact evNeg (by simp) (Ev.now _)
          | true => exact evPos rfl (evEq ih (by rw [Bool.true_and]))
theorem spec_EntriesOk_ev (xs : List S49) : Ev (fun k => spec_EntriesOk.f k xs) (entriesOk xs) := by
  simp only [spec_EntriesOk.f]
  unfold entriesOk
  by_cases h : (xs.length : Int) > 300
  · rw [decide_eq_false (by omega)]; exact evPos h (Ev.now _)
  · rw [decide_eq_true (by omega), Bool.true_and]
    exact evNeg h (spec_EntriesOk_l0_ev xs (by omega) xs 0 rfl)

theorem spec_l3DrawKey_eq (b : List Int) (hl : b.length ≤ 1000000000000000000) (i h : Int) (hi : 0 ≤ i) : ∃ s i' h', spec_l3DrawKey.f b i h = some (s, i', h') ∧ 0 ≤ i' := by
  obtain ⟨x, i1, h1, e1, x0, x1, hi1⟩ := spec_l1Below_eq b hl i h hi 6
  have hx := x1 (by decide)
  unfold spec_l3DrawKey.f
  simp only [Option.bind_some]
  rw [e1]
  simp only [Option.bind_some]
  rw [if_pos x0, if_pos (by simpa using hx)]
  exact ⟨_, _, _, rfl, hi1⟩
theorem spec_l3DrawEntry_ev (b : List Int) (hl : b.length ≤ 1000000000000000000) (i h : Int) (hi : 0 ≤ i) (q : Int) : ∃ (e : S49) (i' h' : Int), Ev (fun k => spec_l3DrawEntry.f k b i h q) (e.f0, e.f1, e.f2, e.f3, i', h') ∧ 0 ≤ i' := by
  obtain ⟨s, i1, h1, e1, hi1⟩ := spec_l3DrawKey_eq b hl i h hi
  obtain ⟨t, i2, h2, ht, _, hi2⟩ := spec_l1DrawText_ev b hl i1 h1 hi1
  obtain ⟨g, i3, h3, e3, hi3⟩ := spec_l1Once_eq b hl i2 h2 hi2 4
  simp only [spec_l3DrawEntry.f]
  cases g with
  | true => exact ⟨⟨s, (⟨#[]⟩ : ByteArray), q, true⟩, i3, h3, Ev.bind (evId (fun _ => e1)) (Ev.bind ht (Ev.bind (evId (fun _ => e3)) (evPos rfl (Ev.now _)))), hi3⟩
  | false => exact ⟨⟨s, t, q, false⟩, i3, h3, Ev.bind (evId (fun _ => e1)) (Ev.bind ht (Ev.bind (evId (fun _ => e3)) (evNeg Bool.false_ne_true (Ev.now _)))), hi3⟩
theorem spec_l3Put_l0_ev (xs : List S49) (hl : xs.length ≤ 1000000) (e : S49) : ∀ (bs : List S49) (i : Nat), xs.drop i = bs → i ≤ xs.length → ∃ ys : List S49, Ev (fun k => spec_l3Put.l0 k xs i e.f0 e.f1 e.f2 e.f3) ys ∧ ys.length = xs.length + 1
  | [], i, hd, hi => by
    have := drop_nil hd
    refine ⟨[] ++ xs.take i ++ [e] ++ xs.drop i, Ev.step (f := fun _ => some _) (fun k => ?_) (Ev.now _), by simp; omega⟩
    simp only [spec_l3Put.l0]
    rw [if_neg (by omega)]
    simp only [Option.bind_some, Int.toNat_natCast]
    rw [if_pos (by omega), if_pos (by omega), if_pos (by simp; omega), if_pos (by simp; omega), if_pos (by simp; omega)]
  | x :: bs, i, hd, hi => by
    obtain ⟨h2, h3, h4⟩ := drop_cons hd
    have e1 : rd_T49 xs (i : Int) = x := getD_at h4
    have ha := spec_l3Ahead_ev x e
    cases hx : ahead x e with
    | true =>
      rw [hx] at ha
      obtain ⟨ys, hy, hz⟩ := spec_l3Put_l0_ev xs hl e bs (i + 1) h3 (by omega)
      refine ⟨ys, Ev.step (fun k => by simp only [spec_l3Put.l0]; rw [if_pos (by omega), if_pos (by omega), e1, w64s (by omega)]) (Ev.bind ha (evPos rfl hy)), hz⟩
    | false =>
      rw [hx] at ha
      refine ⟨[] ++ xs.take i ++ [e] ++ xs.drop i, Ev.step (fun k => by simp only [spec_l3Put.l0]; rw [if_pos (by omega), if_pos (by omega), e1]) (Ev.bind ha (evNeg Bool.false_ne_true (evId (fun k => ?_)))), by simp; omega⟩
      simp only [Option.bind_some, Int.toNat_natCast]
      rw [if_pos (by omega), if_pos (by simp; omega), if_pos (by simp; omega), if_pos (by simp; omega)]
theorem spec_l3Put_ev (xs : List S49) (hl : xs.length ≤ 1000000) (e : S49) : ∃ ys : List S49, Ev (fun k => spec_l3Put.f k xs e.f0 e.f1 e.f2 e.f3) ys ∧ ys.length = xs.length + 1 := spec_l3Put_l0_ev xs hl e xs 0 rfl (Nat.zero_le _)
theorem spec_l3DrawFrom_l0_ev (b : List Int) (hl : b.length ≤ 1000000000000000000) : ∀ (n : Nat) (q : Int) (acc : List S49) (i h : Int), 0 ≤ i → acc.length + n ≤ 1000000 →
    ∃ (ys : List S49) (i' h' : Int), Ev (fun k => spec_l3DrawFrom.l0 k q acc (n : Int) b i h) (ys, i', h') ∧ ys.length = acc.length + n ∧ 0 ≤ i'
  | 0, q, acc, i, h, hi, ha => by
    refine ⟨acc, i, h, Ev.step (f := fun _ => some _) (fun k => ?_) (Ev.now _), rfl, hi⟩
    simp only [spec_l3DrawFrom.l0]
    rw [if_neg (by omega)]
  | n + 1, q, acc, i, h, hi, ha => by
    obtain ⟨e, i1, h1, he, hi1⟩ := spec_l3DrawEntry_ev b hl i h hi q
    obtain ⟨ys, hy, hz⟩ := spec_l3Put_ev acc (by omega) e
    obtain ⟨x, i2, h2, e2, x0, x1, hi2⟩ := spec_l1Below_eq b hl i1 h1 hi1 2
    obtain ⟨zs, i3, h3, hzs, hlz, hi3⟩ := spec_l3DrawFrom_l0_ev b hl n (wrap64 ((wrap64 (q + 1)) + x)) ys i2 h2 hi2 (by omega)
    refine ⟨zs, i3, h3, Ev.step (fun k => by simp only [spec_l3DrawFrom.l0]; rw [if_pos (by omega), w64 (x := ((n + 1 : Nat) : Int) - 1) (by omega) (by omega), show ((n + 1 : Nat) : Int) - 1 = (n : Int) by omega]) (Ev.bind he (Ev.bind hy (Ev.bind (evId (fun _ => e2)) hzs))), by omega, hi3⟩
theorem spec_l3DrawFrom_ev (b : List Int) (hl : b.length ≤ 1000000000000000000) (i h : Int) (hi : 0 ≤ i) (q m : Int) (h0 : 0 ≤ m) (h1 : m ≤ 1000) : ∃ (ys : List S49) (i' h' : Int), Ev (fun k => spec_l3DrawFrom.f k b i h q m) (ys, i', h') ∧ (ys.length : Int) ≤ m ∧ 0 ≤ i' := by
  obtain ⟨x, i1, g1, e1, x0, x1, hi1⟩ := spec_l1Below_eq b hl i h hi (m + 1)
  obtain ⟨n, rfl⟩ := Int.eq_ofNat_of_zero_le x0
  have hn := x1 (by omega)
  obtain ⟨ys, i2, h2, hy, hz, hi2⟩ := spec_l3DrawFrom_l0_ev b hl n q [] i1 g1 hi1 (by simp; omega)
  simp only [List.length_nil] at hz
  refine ⟨ys, i2, h2, ?_, by omega, hi2⟩
  simp only [spec_l3DrawFrom.f, w64 (x := m + 1) (by omega) (by omega)]
  exact Ev.bind (evId (fun _ => e1)) hy
theorem spec_l3DrawAny_l0_ev (b : List Int) (hl : b.length ≤ 1000000000000000000) : ∀ (d j : Nat) (acc : List S49) (i h : Int), j + d = 301 → 0 ≤ i → acc.length ≤ j →
    ∃ (ys : List S49) (i' h' : Int), Ev (fun k => spec_l3DrawAny.l0 k acc (j : Int) b i h) (ys, i', h') ∧ ys.length ≤ 301 ∧ 0 ≤ i' := by
  intro d
  induction d with
  | zero =>
    intro j acc i h hd hi ha
    obtain ⟨x, i1, h1, e1, x0, x1, hi1⟩ := spec_l1Below_eq b hl i h hi 2
    have hx := x1 (by decide)
    refine ⟨acc, i1, h1, Ev.step (fun k => by simp only [spec_l3DrawAny.l0]; exact rfl) (Ev.bind (evId (fun _ => e1)) (evNeg ?_ (Ev.now _))), by omega, hi1⟩
    rw [w64 (by simp only; omega) (by simp only; omega)]
    simp only
    omega
  | succ d ih =>
    intro j acc i h hd hi ha
    obtain ⟨x, i1, h1, e1, x0, x1, hi1⟩ := spec_l1Below_eq b hl i h hi 2
    have hx := x1 (by decide)
    by_cases hj : (j : Int) < 300 + x
    · obtain ⟨ys, i2, h2, hy, hz, hi2⟩ := ih (j + 1) (acc ++ [⟨(⟨#[107]⟩ : ByteArray), (⟨#[]⟩ : ByteArray), wrap64 (1000 - (j : Int)), false⟩]) i1 h1 (by omega) hi1 (by rw [List.length_append, List.length_singleton]; omega)
      refine ⟨ys, i2, h2, Ev.step (fun k => by simp only [spec_l3DrawAny.l0]; rw [w64s (i := j) (by omega)]) (Ev.bind (evId (fun _ => e1)) (evPos ?_ (evPos (show acc.length < 2932031007402 by omega) hy))), hz, hi2⟩
      rw [w64 (by simp only; omega) (by simp only; omega)]
      exact hj
    · refine ⟨acc, i1, h1, Ev.step (fun k => by simp only [spec_l3DrawAny.l0]; exact rfl) (Ev.bind (evId (fun _ => e1)) (evNeg ?_ (Ev.now _))), by omega, hi1⟩
      rw [w64 (by simp only; omega) (by simp only; omega)]
      exact hj
theorem spec_l3DrawAny_ev (b : List Int) (hl : b.length ≤ 1000000000000000000) (i h : Int) (hi : 0 ≤ i) : ∃ (ys : List S49) (i' h' : Int), Ev (fun k => spec_l3DrawAny.f k b i h) (ys, i', h') ∧ ys.length ≤ 1000 ∧ 0 ≤ i' := by
  obtain ⟨xs, i1, h1, hxs, hlx, hi1⟩ := spec_l3DrawFrom_ev b hl i h hi 1 10 (by decide) (by decide)
  obtain ⟨g, i2, h2, e2, hi2⟩ := spec_l1Once_eq b hl i1 h1 hi1 12
  simp only [spec_l3DrawAny.f]
  cases g with
  | false => exact ⟨xs, i2, h2, Ev.bind hxs (Ev.bind (evId (fun _ => e2)) (evNeg Bool.false_ne_true (Ev.now _))), by omega, hi2⟩
  | true =>
    obtain ⟨v, i3, h3, e3, v0, v1, hi3⟩ := spec_l1Below_eq b hl i2 h2 hi2 4
    have hv := v1 (by decide)
    obtain ⟨n, rfl⟩ := Int.eq_ofNat_of_zero_le v0
    match n, hv, e3 with
    | 0, _, e3 =>
      obtain ⟨e, i4, h4, he, hi4⟩ := spec_l3DrawEntry_ev b hl i3 h3 hi3 3
      exact ⟨xs ++ [e], i4, h4, Ev.bind hxs (Ev.bind (evId (fun _ => e2)) (evPos rfl (Ev.bind (evId (fun _ => e3)) (evPos rfl (Ev.bind he (evPos (by simp only; omega) (Ev.now _))))))), by rw [List.length_append, List.length_singleton]; omega, hi4⟩
    | 1, _, e3 =>
      obtain ⟨x, i4, h4, e4, x0, x1, hi4⟩ := spec_l1Below_eq b hl i3 h3 hi3 3
      obtain ⟨y, i5, h5, e5, y0, y1, hi5⟩ := spec_l1Below_eq b hl i4 h4 hi4 4
      have hx := x1 (by decide)
      have hy := y1 (by decide)
      exact ⟨xs ++ [_], i5, h5, Ev.bind hxs (Ev.bind (evId (fun _ => e2)) (evPos rfl (Ev.bind (evId (fun _ => e3)) (evNeg (show ¬ ((1 : Nat) : Int) = 0 by decide) (evPos rfl (evPos (by decide) (Ev.bind (evId (fun _ => rfl)) (Ev.bind (evId (fun _ => e4)) (evPos x0 (evPos (by simpa using hx) (Ev.bind (evId (fun _ => rfl)) (Ev.bind (evId (fun _ => e5)) (evPos y0 (evPos (by simpa using hy) (evPos (by simp only; omega) (Ev.now _)))))))))))))))), by rw [List.length_append, List.length_singleton]; omega, hi5⟩
    | 2, _, e3 =>
      obtain ⟨x, i4, h4, e4, x0, x1, hi4⟩ := spec_l1Below_eq b hl i3 h3 hi3 2
      obtain ⟨y, i5, h5, e5, hi5⟩ := spec_l1Once_eq b hl i4 h4 hi4 2
      have hx := x1 (by decide)
      have hw : wrap64 (200 + x) = 200 + x := w64 (by omega) (by omega)
      exact ⟨xs ++ [_], i5, h5, Ev.bind hxs (Ev.bind (evId (fun _ => e2)) (evPos rfl (Ev.bind (evId (fun _ => e3)) (evNeg (show ¬ ((2 : Nat) : Int) = 0 by decide) (evNeg (show ¬ ((2 : Nat) : Int) = 1 by decide) (evPos rfl (Ev.bind (evId (fun _ => e4)) (evPos (by simp only [hw]; omega) (evPos (by simp only [hw]; omega) (Ev.bind (evId (fun _ => e5)) (evPos (by simp only; omega) (Ev.now _)))))))))))), by rw [List.length_append, List.length_singleton]; omega, hi5⟩
    | 3, _, e3 =>
      obtain ⟨ys, i4, h4, hy, hz, hi4⟩ := spec_l3DrawAny_l0_ev b hl 301 0 [] i3 h3 rfl hi3 (Nat.le_refl _)
      exact ⟨ys, i4, h4, Ev.bind hxs (Ev.bind (evId (fun _ => e2)) (evPos rfl (Ev.bind (evId (fun _ => e3)) (evNeg (show ¬ ((3 : Nat) : Int) = 0 by decide) (evNeg (show ¬ ((3 : Nat) : Int) = 1 by decide) (evNeg (show ¬ ((3 : Nat) : Int) = 2 by decide) (evPos rfl hy))))))), by omega, hi4⟩
    | n + 4, hv, _ => omega

def seenL (key : ByteArray) (q : Int) : List S49 → Option S49
  | [] => none
  | e :: es => if e.f0.toList = key.toList ∧ e.f2 ≤ q then some e else seenL key q es
/-- What is told of an entry that is there or not: its parts, and whether. -/
def toldE : Option S49 → ByteArray × ByteArray × Int × Bool × Bool
  | none => ((⟨#[]⟩ : ByteArray), (⟨#[]⟩ : ByteArray), 0, false, false)
  | some e => (e.f0, e.f1, e.f2, e.f3, true)
theorem spec_l3Seen_l0_ev (xs : List S49) (hl : xs.length ≤ 1000000000000000000) (key : ByteArray) (q : Int) : ∀ (bs : List S49) (i : Nat), xs.drop i = bs → Ev (fun k => spec_l3Seen.l0 k xs key q i) (toldE (seenL key q bs))
  | [], i, hd => by
    have := drop_nil hd
    refine Ev.step (f := fun _ => some _) (fun k => ?_) (Ev.now _)
    simp only [spec_l3Seen.l0]
    rw [if_neg (by omega)]
    rfl
  | e :: bs, i, hd => by
    obtain ⟨h2, h3, h4⟩ := drop_cons hd
    have e1 : rd_T49 xs (i : Int) = e := getD_at h4
    unfold seenL
    by_cases h : e.f0.toList = key.toList ∧ e.f2 ≤ q
    · rw [if_pos h]
      refine Ev.step (f := fun _ => some _) (fun k => ?_) (Ev.now _)
      simp only [spec_l3Seen.l0]
      rw [if_pos (by omega), if_pos (by omega), e1, if_pos h.1, if_pos h.2]
      rfl
    · rw [if_neg h]
      refine Ev.step (f := fun k => spec_l3Seen.l0 k xs key q ((i + 1 : Nat) : Int)) (fun k => ?_) (spec_l3Seen_l0_ev xs hl key q bs (i + 1) h3)
      simp only [spec_l3Seen.l0]
      rw [if_pos (by omega), if_pos (by omega), e1, w64s (by omega)]
      by_cases h5 : e.f0.toList = key.toList
      · rw [if_pos h5, if_neg (fun h6 => h ⟨h5, h6⟩)]
      · rw [if_neg h5]
theorem spec_l3Seen_ev (xs : List S49) (hl : xs.length ≤ 1000000000000000000) (key : ByteArray) (q : Int) : Ev (fun k => spec_l3Seen.f k xs key q) (toldE (seenL key q xs)) :=
  spec_l3Seen_l0_ev xs hl key q xs 0 rfl
theorem seenL_some {key : ByteArray} {q : Int} : ∀ {xs : List S49} {e : S49}, seenL key q xs = some e → e ∈ xs ∧ e.f0.toList = key.toList ∧ e.f2 ≤ q
  | x :: xs, e, h => by
    unfold seenL at h
    by_cases hx : x.f0.toList = key.toList ∧ x.f2 ≤ q
    · rw [if_pos hx] at h
      obtain rfl := Option.some.inj h
      exact ⟨List.mem_cons_self, hx⟩
    · rw [if_neg hx] at h
      obtain ⟨h1, h2⟩ := seenL_some h
      exact ⟨List.mem_cons_of_mem _ h1, h2⟩
theorem seenL_none {key : ByteArray} {q : Int} : ∀ {xs : List S49}, (∀ e ∈ xs, e.f0.toList = key.toList → q < e.f2) → seenL key q xs = none
  | [], _ => rfl
  | x :: xs, h => by
    unfold seenL
    rw [if_neg (fun hx => by have := h x List.mem_cons_self hx.1; omega)]
    exact seenL_none (fun e he => h e (List.mem_cons_of_mem _ he))
theorem seenL_append {key : ByteArray} {q : Int} : ∀ (xs ys : List S49), seenL key q (xs ++ ys) = match seenL key q xs with | some e => some e | none => seenL key q ys
  | [], ys => rfl
  | x :: xs, ys => by
    rw [List.cons_append, seenL, seenL]
    by_cases hx : x.f0.toList = key.toList ∧ x.f2 ≤ q
    · rw [if_pos hx, if_pos hx]
    · rw [if_neg hx, if_neg hx, seenL_append xs ys]

def seen (xs : List S49) (key : ByteArray) (q : Int) : Option S49 := if entriesOk xs = true then seenL key q xs else none
theorem spec_Seen_ev (xs : List S49) (key : ByteArray) (q : Int) : Ev (fun k => spec_Seen.f k xs key q) (toldE (seen xs key q)) := by
  simp only [spec_Seen.f]
  refine Ev.bind (spec_EntriesOk_ev xs) ?_
  unfold seen
  by_cases h : entriesOk xs = true
  · rw [if_pos h]
    have hl : xs.length ≤ 300 := by
      unfold entriesOk at h
      simp only [Bool.and_eq_true, decide_eq_true_eq] at h
      exact h.1
    exact evPos h (Ev.bind (spec_l3Seen_ev xs (by omega) key q) (Ev.now _))
  · rw [if_neg h]
    exact evNeg h (Ev.now _)

theorem impl_within_ev (a b c : Int) : Ev (fun _ => impl_within.f a b c) (within a b c) := by
  refine evId (fun _ => ?_)
  unfold impl_within.f within
  by_cases h : a ≥ b
  · rw [if_pos h, decide_eq_true (show b ≤ a from h), Bool.true_and]
  · rw [if_neg h, decide_eq_false (show ¬ b ≤ a from h), Bool.false_and]

def ordI (x y : Int) : Int := if x < y then -1 else if x > y then 1 else 0
def ordS (x y : ByteArray) : Int := if Op.bytesLess x.toList y.toList = true then -1 else if Op.bytesLess y.toList x.toList = true then 1 else 0
def byOrder (a b : S49) : Int := if ordS a.f0 b.f0 = 0 then ordI b.f2 a.f2 else ordS a.f0 b.f0
theorem cmp_Compare_string_ev (x y : ByteArray) : Ev (fun _ => cmp_Compare_string.f x y) (ordS x y) := by
  refine evId (fun _ => ?_)
  unfold cmp_Compare_string.f cmp_isNaN_string.f ordS
  simp only [bne_self_eq_false, Option.bind_some, Bool.false_eq_true, if_false]
  split
  · rfl
  · split <;> rfl
theorem cmp_Compare_int64_ev (x y : Int) : Ev (fun _ => cmp_Compare_int64.f x y) (ordI x y) := by
  refine evId (fun _ => ?_)
  unfold cmp_Compare_int64.f cmp_isNaN_int64.f ordI
  simp only [bne_self_eq_false, Option.bind_some, Bool.false_eq_true, if_false]
  split
  · rfl
  · split <;> rfl
theorem cmp_Or_two (x y : Int) : Ev (fun k => cmp_Or_int.f k [x, y]) (if x = 0 then y else x) := by
  simp only [cmp_Or_int.f]
  refine ⟨3, fun k hk => ?_⟩
  obtain ⟨m, rfl⟩ : ∃ m, k = m + 3 := ⟨k - 3, by omega⟩
  have w1 : wrap64 (0 + 1) = 1 := w64 (x := 0 + 1) (by decide) (by decide)
  have w2 : wrap64 (1 + 1) = 2 := w64 (x := 1 + 1) (by decide) (by decide)
  have e0 : rd [x, y] 0 = x := rfl
  have e1 : rd [x, y] 1 = y := rfl
  simp only [cmp_Or_int.l0, w1, w2, e0, e1]
  by_cases hx : x = 0
  · by_cases hy : y = 0
    · simp [hx, hy]
    · simp [hx, hy]
  · simp [hx]
theorem impl_byOrder_ev (a b : S49) : Ev (fun k => impl_byOrder.f k a.f0 a.f1 a.f2 a.f3 b.f0 b.f1 b.f2 b.f3) (byOrder a b) := by
  simp only [impl_byOrder.f]
  exact Ev.bind (cmp_Compare_string_ev a.f0 b.f0) (Ev.bind (cmp_Compare_int64_ev b.f2 a.f2) (Ev.bind (cmp_Or_two _ _) (Ev.now _)))
theorem byOrder_ahead (a b : S49) : decide (byOrder a b ≥ 0) = !ahead a b := by
  unfold byOrder ahead ordS ordI
  cases h1 : Op.bytesLess a.f0.toList b.f0.toList with
  | true => simp
  | false =>
    cases h2 : Op.bytesLess b.f0.toList a.f0.toList with
    | true =>
      have : a.f0.toList ≠ b.f0.toList := by
        intro h
        rw [h, less_irrefl] at h2
        cases h2
      simp [this]
    | false =>
      have := less_tri _ _ h1 h2
      simp only [Bool.false_eq_true, if_false, if_true, this, decide_true, Bool.true_and, Bool.false_or]
      by_cases h3 : b.f2 < a.f2
      · rw [if_pos h3, decide_eq_true (show a.f2 > b.f2 from h3)]; decide
      · rw [if_neg h3, decide_eq_false (show ¬ a.f2 > b.f2 from h3)]
        split <;> decide

theorem impl_within_eq (a b c : Int) : impl_within.f a b c = some (within a b c) := by
  obtain ⟨k, h⟩ := (impl_within_ev a b c).rounds
  exact h
theorem impl_entryOk_ev (e : S49) : Ev (fun _ => impl_entryOk.f e.f0 e.f1 e.f2 e.f3) (entOk e) := by
  obtain ⟨a, b, c, g⟩ := e
  refine evId (fun _ => ?_)
  unfold impl_entryOk.f entOk
  simp only [impl_within_eq, Option.bind_some]
  cases h1 : within (a.size : Int) 1 40 with
  | false => simp
  | true =>
    rw [if_pos rfl]
    by_cases h3 : (b.size : Int) ≤ 200
    · rw [if_pos h3, decide_eq_true h3]
      cases g with
      | false => simp
      | true =>
        rw [if_pos rfl]
        by_cases h4 : b.toList = ([] : List UInt8)
        · rw [if_pos h4]; simp [h4]
        · rw [if_neg h4]; simp [h4]
    · rw [if_neg h3, decide_eq_false h3]; simp
theorem impl_EntriesOk_l0_ev (xs : List S49) (hl : xs.length ≤ 1000000000000000000) : ∀ (bs : List S49) (i : Nat), xs.drop i = bs → Ev (fun k => impl_EntriesOk.l0 k xs xs (xs.length : Int) i) (okL (prev xs i) bs)
  | [], i, hd => by
    have := drop_nil hd
    refine Ev.step (f := fun _ => some true) (fun k => ?_) (Ev.now _)
    simp only [impl_EntriesOk.l0]
    rw [if_neg (by omega)]
  | e :: bs, i, hd => by
    obtain ⟨h2, h3, h4⟩ := drop_cons hd
    have e1 : rd_T49 xs (i : Int) = e := getD_at h4
    have ih := impl_EntriesOk_l0_ev xs hl bs (i + 1) h3
    rw [prev_succ h4] at ih
    refine Ev.step (f := fun k => (impl_entryOk.f e.f0 e.f1 e.f2 e.f3).bind fun t127 => (if t127 = true then (if (i : Int) > 0 then ((impl_byOrder.f k (rd_T49 xs (wrap64 ((i : Int) - 1))).f0 (rd_T49 xs (wrap64 ((i : Int) - 1))).f1 (rd_T49 xs (wrap64 ((i : Int) - 1))).f2 (rd_T49 xs (wrap64 ((i : Int) - 1))).f3 e.f0 e.f1 e.f2 e.f3).bind fun t130 => (if t130 ≥ 0 then (some false) else (impl_EntriesOk.l0 k xs xs (xs.length : Int) ((i + 1 : Nat) : Int)))) else (impl_EntriesOk.l0 k xs xs (xs.length : Int) ((i + 1 : Nat) : Int))) else (some false))) (fun k => ?_) (Ev.bind (impl_entryOk_ev e) ?_)
    · simp only [impl_EntriesOk.l0]
      rw [if_pos (by omega), if_pos (by omega), if_pos (by omega), e1, w64s (by omega)]
      by_cases hi : (i : Int) > 0
      · simp only [if_pos hi, if_pos (show (0 : Int) ≤ wrap64 ((i : Int) - 1) by rw [w64 (by omega) (by omega)]; omega), if_pos (show wrap64 ((i : Int) - 1) < (xs.length : Int) by rw [w64 (by omega) (by omega)]; omega)]
      · simp only [if_neg hi]
    · unfold okL
      cases he : entOk e with
      | false => exact evNeg (by simp) (Ev.now _)
      | true =>
        refine evPos rfl ?_
        rw [Bool.true_and]
        by_cases hi : i = 0
        · subst hi
          refine evNeg (by omega) (evEq ih ?_)
          simp [prev]
        · obtain ⟨q, hq⟩ : ∃ q, xs[i - 1]? = some q := ⟨_, List.getElem?_eq_getElem (by omega)⟩
          have e2 : rd_T49 xs (wrap64 ((i : Int) - 1)) = q := by
            rw [w64 (by omega) (by omega), show (i : Int) - 1 = ((i - 1 : Nat) : Int) by omega]
            exact getD_at hq
          refine evPos (by omega) ?_
          rw [e2]
          refine Ev.bind (impl_byOrder_ev q e) ?_
          simp only [prev, if_neg hi, hq]
          have hb := byOrder_ahead q e
          cases ha : ahead q e with
          | false =>
            rw [ha] at hb
            exact evPos (of_decide_eq_true hb) (Ev.now _)
          | true =>
            rw [ha] at hb
            exact evNeg (of_decide_eq_false hb) (evEq ih (by rw [Bool.true_and]))
theorem impl_EntriesOk_ev (xs : List S49) : Ev (fun k => impl_EntriesOk.f k xs) (entriesOk xs) := by
  simp only [impl_EntriesOk.f]
  unfold entriesOk
  by_cases h : (xs.length : Int) > 300
  · rw [decide_eq_false (by omega)]; exact evPos h (Ev.now _)
  · rw [decide_eq_true (by omega), Bool.true_and]
    exact evNeg h (impl_EntriesOk_l0_ev xs (by omega) xs 0 rfl)

def shownL (q : Int) (last : ByteArray) (acc : List S49) : List S49 → List S49
  | [] => acc
  | e :: es => if e.f2 > q ∨ e.f0.toList = last.toList then shownL q last acc es else shownL q e.f0 (if e.f3 = true then acc else acc ++ [e]) es
def shown (xs : List S49) (q : Int) : List S49 := if entriesOk xs = true then shownL q (⟨#[]⟩ : ByteArray) [] xs else []
theorem shownL_le (q : Int) : ∀ (xs : List S49) (last : ByteArray) (acc : List S49), (shownL q last acc xs).length ≤ acc.length + xs.length
  | [], _, acc => by simp [shownL]
  | e :: es, last, acc => by
    unfold shownL
    split
    · have := shownL_le q es last acc; rw [List.length_cons]; omega
    · have := shownL_le q es e.f0 (if e.f3 = true then acc else acc ++ [e])
      have h2 : (if e.f3 = true then acc else acc ++ [e]).length ≤ acc.length + 1 := by split <;> simp
      rw [List.length_cons]
      omega
theorem spec_l3Shown_l0_ev (xs : List S49) (hl : xs.length ≤ 1000000000) (q : Int) : ∀ (bs : List S49) (i : Nat) (acc : List S49) (last : ByteArray), xs.drop i = bs → acc.length + bs.length ≤ 1000000000 → Ev (fun k => spec_l3Shown.l0 k xs q acc last i) (shownL q last acc bs)
  | [], i, acc, last, hd, ha => by
    have := drop_nil hd
    refine Ev.step (f := fun _ => some acc) (fun k => ?_) (Ev.now _)
    simp only [spec_l3Shown.l0]
    rw [if_neg (by omega)]
  | e :: bs, i, acc, last, hd, ha => by
    obtain ⟨h2, h3, h4⟩ := drop_cons hd
    have e1 : rd_T49 xs (i : Int) = e := getD_at h4
    rw [List.length_cons] at ha
    refine Ev.step (f := fun k => spec_l3Shown.j1 k xs q acc last i (decide (e.f2 > q ∨ e.f0.toList = last.toList))) (fun k => ?_) ?_
    · simp only [spec_l3Shown.l0]
      rw [if_pos (by omega), if_pos (by omega), e1]
      by_cases h5 : e.f2 > q
      · rw [if_pos h5, decide_eq_true (Or.inl h5)]
      · rw [if_neg h5]
        congr 1
        rw [Bool.eq_iff_iff]
        simp [h5]
    · unfold shownL
      by_cases h : e.f2 > q ∨ e.f0.toList = last.toList
      · rw [if_pos h, decide_eq_true h]
        refine Ev.step (f := fun k => spec_l3Shown.l0 k xs q acc last ((i + 1 : Nat) : Int)) (fun k => ?_) (spec_l3Shown_l0_ev xs hl q bs (i + 1) acc last h3 (by omega))
        simp only [spec_l3Shown.j1]
        rw [if_pos trivial, w64s (by omega)]
      · rw [if_neg h, decide_eq_false h]
        cases hg : e.f3 with
        | true =>
          rw [if_pos rfl]
          refine Ev.step (f := fun k => spec_l3Shown.l0 k xs q acc e.f0 ((i + 1 : Nat) : Int)) (fun k => ?_) (spec_l3Shown_l0_ev xs hl q bs (i + 1) acc e.f0 h3 (by omega))
          simp only [spec_l3Shown.j1]
          rw [if_neg (by decide), if_pos (by omega), if_pos (by omega), e1, if_pos hg, w64s (by omega)]
        | false =>
          rw [if_neg (by decide)]
          refine Ev.step (f := fun k => spec_l3Shown.l0 k xs q (acc ++ [e]) e.f0 ((i + 1 : Nat) : Int)) (fun k => ?_) (spec_l3Shown_l0_ev xs hl q bs (i + 1) (acc ++ [e]) e.f0 h3 (by rw [List.length_append, List.length_singleton]; omega))
          simp only [spec_l3Shown.j1]
          rw [if_neg (by decide), if_pos (by omega), if_pos (by omega), e1, if_neg (by rw [hg]; decide), if_pos (by omega), w64s (by omega)]
theorem spec_l3Shown_ev (xs : List S49) (hl : xs.length ≤ 1000000) (q : Int) : Ev (fun k => spec_l3Shown.f k xs q) (shownL q (⟨#[]⟩ : ByteArray) [] xs) :=
  spec_l3Shown_l0_ev xs (by omega) q xs 0 [] _ rfl (by simp; omega)
theorem spec_Shown_ev (xs : List S49) (q : Int) : Ev (fun k => spec_Shown.f k xs q) (shown xs q) := by
  simp only [spec_Shown.f]
  refine Ev.bind (spec_EntriesOk_ev xs) ?_
  unfold shown
  by_cases h : entriesOk xs = true
  · rw [if_pos h]
    have hl : xs.length ≤ 300 := by
      unfold entriesOk at h
      simp only [Bool.and_eq_true, decide_eq_true_eq] at h
      exact h.1
    exact evPos h (Ev.bind (spec_l3Shown_ev xs (by omega) q) (Ev.now _))
  · rw [if_neg h]
    exact evNeg h (Ev.now _)
theorem impl_shown_l0_ev (xs : List S49) (hl : xs.length ≤ 1000000000) (q : Int) : ∀ (bs : List S49) (i : Nat) (acc : List S49) (last : ByteArray), xs.drop i = bs → acc.length + bs.length ≤ 1000000000 → Ev (fun k => impl_shown.l0 k q acc last xs (xs.length : Int) i) (shownL q last acc bs)
  | [], i, acc, last, hd, ha => by
    have := drop_nil hd
    refine Ev.step (f := fun _ => some acc) (fun k => ?_) (Ev.now _)
    simp only [impl_shown.l0]
    rw [if_neg (by omega)]
  | e :: bs, i, acc, last, hd, ha => by
    obtain ⟨h2, h3, h4⟩ := drop_cons hd
    have e1 : rd_T49 xs (i : Int) = e := getD_at h4
    rw [List.length_cons] at ha
    refine Ev.step (f := fun k => impl_shown.j1 k q acc last xs (xs.length : Int) i (decide (e.f2 > q ∨ e.f0.toList = last.toList)) e.f0 e.f1 e.f2 e.f3) (fun k => ?_) ?_
    · simp only [impl_shown.l0]
      rw [if_pos (by omega), if_pos (by omega), if_pos (by omega), e1]
      by_cases h5 : e.f0.toList = last.toList
      · rw [if_pos h5, decide_eq_true (Or.inr h5)]
      · rw [if_neg h5]
        congr 1
        rw [Bool.eq_iff_iff]
        simp [h5]
    · unfold shownL
      by_cases h : e.f2 > q ∨ e.f0.toList = last.toList
      · rw [if_pos h, decide_eq_true h]
        refine Ev.step (f := fun k => impl_shown.l0 k q acc last xs (xs.length : Int) ((i + 1 : Nat) : Int)) (fun k => ?_) (impl_shown_l0_ev xs hl q bs (i + 1) acc last h3 (by omega))
        simp only [impl_shown.j1]
        rw [if_pos trivial, w64s (by omega)]
      · rw [if_neg h, decide_eq_false h]
        cases hg : e.f3 with
        | true =>
          rw [if_pos rfl]
          refine Ev.step (f := fun k => impl_shown.l0 k q acc e.f0 xs (xs.length : Int) ((i + 1 : Nat) : Int)) (fun k => ?_) (impl_shown_l0_ev xs hl q bs (i + 1) acc e.f0 h3 (by omega))
          simp only [impl_shown.j1]
          rw [if_neg (by decide), if_pos trivial, w64s (by omega)]
        | false =>
          rw [if_neg (by decide)]
          refine Ev.step (f := fun k => impl_shown.l0 k q (acc ++ [e]) e.f0 xs (xs.length : Int) ((i + 1 : Nat) : Int)) (fun k => ?_) (impl_shown_l0_ev xs hl q bs (i + 1) (acc ++ [e]) e.f0 h3 (by rw [List.length_append, List.length_singleton]; omega))
          simp only [impl_shown.j1]
          rw [if_neg (by decide), if_neg (by decide), if_pos (by omega), w64s (by omega)]
          rw [← hg]
theorem impl_shown_ev (xs : List S49) (hl : xs.length ≤ 1000000) (q : Int) : Ev (fun k => impl_shown.f k xs q) (shownL q (⟨#[]⟩ : ByteArray) [] xs) :=
  impl_shown_l0_ev xs (by omega) q xs 0 [] _ rfl (by simp; omega)
theorem impl_Shown_ev (xs : List S49) (q : Int) : Ev (fun k => impl_Shown.f k xs q) (shown xs q) := by
  simp only [impl_Shown.f]
  refine Ev.bind (impl_EntriesOk_ev xs) ?_
  unfold shown
  by_cases h : entriesOk xs = true
  · rw [if_pos h]
    have hl : xs.length ≤ 300 := by
      unfold entriesOk at h
      simp only [Bool.and_eq_true, decide_eq_true_eq] at h
      exact h.1
    exact evPos h (Ev.bind (impl_shown_ev xs (by omega) q) (Ev.now _))
  · rw [if_neg h]
    exact evNeg h (Ev.now _)
theorem shown_le (xs : List S49) (q : Int) : (shown xs q).length ≤ xs.length := by
  unfold shown
  split
  · have := shownL_le q xs (⟨#[]⟩ : ByteArray) []; simpa using this
  · simp

theorem ahead_iff {a b : S49} : ahead a b = true ↔ Op.bytesLess a.f0.toList b.f0.toList = true ∨ (a.f0.toList = b.f0.toList ∧ b.f2 < a.f2) := by
  unfold ahead
  simp only [Bool.or_eq_true, Bool.and_eq_true, decide_eq_true_eq]
theorem ahead_trans {a b c : S49} (h : ahead a b = true) (k : ahead b c = true) : ahead a c = true := by
  rw [ahead_iff] at h k ⊢
  rcases h with h | ⟨h1, h2⟩
  · rcases k with k | ⟨k1, k2⟩
    · exact Or.inl (less_trans _ _ _ h k)
    · exact Or.inl (k1 ▸ h)
  · rcases k with k | ⟨k1, k2⟩
    · exact Or.inl (h1.symm ▸ k)
    · exact Or.inr ⟨h1.trans k1, by omega⟩
theorem ahead_same {a b : S49} (h : ahead a b = true) (hk : a.f0.toList = b.f0.toList) : b.f2 < a.f2 := by
  rw [ahead_iff] at h
  rcases h with h | ⟨_, h⟩
  · rw [hk, less_irrefl] at h; cases h
  · exact h
theorem ahead_mid {a b c : S49} (h : ahead a b = true) (k : ahead b c = true) (hk : a.f0.toList = c.f0.toList) : b.f0.toList = a.f0.toList := by
  rw [ahead_iff] at h k
  rcases h with h | ⟨h, _⟩
  · rcases k with k | ⟨k, _⟩
    · have := less_trans _ _ _ h k
      rw [hk, less_irrefl] at this; cases this
    · rw [hk, k, less_irrefl] at h; cases h
  · exact h.symm
theorem okL_pair : ∀ (xs : List S49) (p : Option S49), okL p xs = true → (∀ e ∈ xs, entOk e = true) ∧ (∀ q, p = some q → ∀ e ∈ xs, ahead q e = true) ∧ xs.Pairwise (fun a b => ahead a b = true)
  | [], p, _ => ⟨by simp, by simp, List.Pairwise.nil⟩
  | x :: xs, p, h => by
    unfold okL at h
    simp only [Bool.and_eq_true] at h
    obtain ⟨h1, h2, h3⟩ := h
    obtain ⟨k1, k2, k3⟩ := okL_pair xs (some x) h3
    refine ⟨?_, ?_, List.Pairwise.cons (k2 x rfl) k3⟩
    · intro e he
      rcases List.mem_cons.1 he with rfl | he
      · exact h1
      · exact k1 e he
    · rintro q rfl e he
      have hq : ahead q x = true := h2
      rcases List.mem_cons.1 he with rfl | he
      · exact hq
      · exact ahead_trans hq (k2 x rfl e he)
theorem entriesOk_pair {xs : List S49} (h : entriesOk xs = true) : xs.length ≤ 300 ∧ (∀ e ∈ xs, entOk e = true) ∧ xs.Pairwise (fun a b => ahead a b = true) := by
  unfold entriesOk at h
  simp only [Bool.and_eq_true, decide_eq_true_eq] at h
  obtain ⟨k1, _, k3⟩ := okL_pair xs none h.2
  exact ⟨h.1, k1, k3⟩
theorem entriesOk_len {xs : List S49} (h : entriesOk xs = true) : xs.length ≤ 300 := by
  unfold entriesOk at h
  simp only [Bool.and_eq_true, decide_eq_true_eq] at h
  exact h.1

theorem shownL_acc (q : Int) : ∀ (xs : List S49) (last : ByteArray) (acc : List S49), shownL q last acc xs = acc ++ shownL q last [] xs
  | [], _, acc => by simp [shownL]
  | e :: es, last, acc => by
    unfold shownL
    split
    · exact shownL_acc q es last acc
    · split
      · exact shownL_acc q es e.f0 acc
      · rw [shownL_acc q es e.f0 (acc ++ [e]), shownL_acc q es e.f0 ([] ++ [e])]
        simp
theorem shownL_sub (q : Int) : ∀ (xs : List S49) (last : ByteArray), (shownL q last [] xs).Sublist xs
  | [], _ => by simp [shownL]
  | e :: es, last => by
    unfold shownL
    split
    · exact (shownL_sub q es last).cons e
    · split
      · exact (shownL_sub q es e.f0).cons e
      · rw [shownL_acc]
        exact (shownL_sub q es e.f0).cons_cons e
theorem okL_of_pair : ∀ (xs : List S49) (p : Option S49), (∀ e ∈ xs, entOk e = true) → (∀ q, p = some q → ∀ e ∈ xs, ahead q e = true) → xs.Pairwise (fun a b => ahead a b = true) → okL p xs = true
  | [], _, _, _, _ => by unfold okL; rfl
  | x :: xs, p, h1, h2, h3 => by
    unfold okL
    obtain ⟨h4, h5⟩ := List.pairwise_cons.1 h3
    rw [h1 x List.mem_cons_self, okL_of_pair xs (some x) (fun e he => h1 e (List.mem_cons_of_mem _ he)) (fun q hq e he => by cases hq; exact h4 e he) h5]
    cases p with
    | none => rfl
    | some q => simp only [h2 q rfl x List.mem_cons_self]; rfl
theorem entriesOk_sub {xs ys : List S49} (h : entriesOk xs = true) (hs : ys.Sublist xs) : entriesOk ys = true := by
  obtain ⟨h1, h2, h3⟩ := entriesOk_pair h
  have hl := hs.length_le
  unfold entriesOk
  rw [decide_eq_true (by omega), okL_of_pair ys none (fun e he => h2 e (hs.subset he)) (fun _ h => by cases h) (h3.sublist hs)]
  rfl

theorem laws_likeEntries_self (xs : List S49) (hl : xs.length ≤ 1000000000000000000) : Ev (fun k => laws_likeEntries.f k xs xs) true := by
  simp only [laws_likeEntries.f]
  refine evPos trivial (self_loop laws_likeEntries.l0 (fun k xs i h => by simp only [laws_likeEntries.l0]; rw [if_neg (by omega)]) (fun k xs i a hi ha h1 => ?_) xs hl)
  simp only [laws_likeEntries.l0]
  rw [if_pos (by omega), if_pos (by omega), if_pos (by omega), if_neg (by simp), w64s (by omega)]

theorem evBoth {α : Type} {c : Prop} [Decidable c] {f g : Nat → Option α} {r : α} (h1 : c → Ev f r) (h2 : ¬ c → Ev g r) : Ev (fun k => if c then f k else g k) r := by
  by_cases hc : c
  · exact evPos hc (h1 hc)
  · exact evNeg hc (h2 hc)
def shInv (q : Int) (pre rest : List S49) (last : ByteArray) : Prop :=
  (∀ p ∈ pre, p.f2 ≤ q → ∀ e ∈ rest, e.f0.toList = p.f0.toList → last.toList = e.f0.toList) ∧ (last.toList ≠ [] → ∃ p ∈ pre, p.f2 ≤ q ∧ p.f0.toList = last.toList)
theorem laws_FnShown_l0_ev (xs : List S49) (q : Int) (hok : entriesOk xs = true) (s : List S49) (hsok : entriesOk s = true) : ∀ (bs pre acc : List S49) (last : ByteArray), xs = pre ++ bs → s = acc ++ shownL q last [] bs → shInv q pre bs last →
    Ev (fun k => laws_FnShown.l0 k xs q s (acc.length : Int) (pre.length : Int)) true
  | [], pre, acc, last, hx, hs, hi => by
    have e1 : s = acc := by rw [hs]; simp [shownL]
    have e2 : xs = pre := by rw [hx, List.append_nil]
    refine Ev.step (f := fun k => (impl_EntriesOk.f k s).bind fun t => some t) (fun k => ?_) (Ev.bind (impl_EntriesOk_ev s) (by rw [hsok]; exact Ev.now _))
    simp only [laws_FnShown.l0]
    rw [if_neg (by rw [← e2]; omega), if_pos (by rw [e1])]
  | e :: bs, pre, acc, last, hx, hs, hi => by
    obtain ⟨hl, hent, hpair⟩ := entriesOk_pair hok
    have hsl := entriesOk_len hsok
    have hxl : xs.length = pre.length + bs.length + 1 := by rw [hx]; simp; omega
    have hsl2 : s.length = acc.length + (shownL q last [] (e :: bs)).length := by rw [hs]; simp
    have e1 : rd_T49 xs (pre.length : Int) = e := getD_at (by rw [hx]; simp)
    have hseen := spec_Seen_ev xs e.f0 q
    have hx2 : xs = (pre ++ [e]) ++ bs := by rw [hx]; simp
    have hlen : ((pre ++ [e]).length : Int) = (pre.length : Int) + 1 := by simp
    obtain ⟨hp1, hp2, hp3⟩ := List.pairwise_append.1 (hx ▸ hpair)
    obtain ⟨hp4, hp5⟩ := List.pairwise_cons.1 hp2
    have hne : e.f0.toList ≠ [] := by
      have := (entOk_iff.1 (hent e (by rw [hx]; simp))).1.1
      intro h0
      rw [ByteArray.toList_eq] at h0
      have h1 := congrArg List.length h0
      rw [Array.length_toList, List.length_nil] at h1
      have h2 : e.f0.size = e.f0.data.size := rfl
      omega
    have step : ∀ F : Nat → Option Bool, (∀ k, laws_FnShown.l0 (k + 1) xs q s (acc.length : Int) (pre.length : Int) = F k) → Ev F true → Ev (fun k => laws_FnShown.l0 k xs q s (acc.length : Int) (pre.length : Int)) true := fun F h1 h2 => Ev.step h1 h2
    have no : ∀ (f g c d : _), (∀ (last' : ByteArray), s = acc ++ shownL q last' [] bs → shInv q (pre ++ [e]) bs last' → Ev (fun k => laws_FnShown.j1 k xs q s (acc.length : Int) (pre.length : Int) false f g c d) true) := by
      intro f g c d last' hs' hi'
      have ih := laws_FnShown_l0_ev xs q hok s hsok bs (pre ++ [e]) acc last' hx2 hs' hi'
      refine Ev.step (fun k => by simp only [laws_FnShown.j1]; exact rfl) (evNeg Bool.false_ne_true ?_)
      rw [hlen] at ih
      rw [w64 (by omega) (by omega)]
      exact ih
    have yes : s = (acc ++ [e]) ++ shownL q e.f0 [] bs → shInv q (pre ++ [e]) bs e.f0 → Ev (fun k => laws_FnShown.j1 k xs q s (acc.length : Int) (pre.length : Int) true e.f0 e.f1 e.f2 e.f3) true := by
      intro hs' hi'
      have ih := laws_FnShown_l0_ev xs q hok s hsok bs (pre ++ [e]) (acc ++ [e]) e.f0 hx2 hs' hi'
      have e2 : rd_T49 s (acc.length : Int) = e := getD_at (by rw [hs']; simp)
      have hal : s.length = acc.length + 1 + (shownL q e.f0 [] bs).length := by rw [hs']; simp; omega
      refine Ev.step (fun k => by simp only [laws_FnShown.j1]; exact rfl) (evPos trivial (evNeg (by omega) (evPos (by omega) (evPos (by omega) (evNeg ?_ ?_)))))
      · rw [e2]; simp
      · rw [w64 (x := (acc.length : Int) + 1) (by omega) (by omega), w64 (x := (pre.length : Int) + 1) (by omega) (by omega)]
        rw [hlen, show ((acc ++ [e]).length : Int) = (acc.length : Int) + 1 by simp] at ih
        exact ih
    have hseenx : seen xs e.f0 q = match seenL e.f0 q pre with | some x => some x | none => seenL e.f0 q (e :: bs) := by
      unfold seen
      rw [if_pos hok, hx, seenL_append]
    refine step _ (fun k => by simp only [laws_FnShown.l0]; rw [if_pos (by omega), if_pos (by omega), e1]) (Ev.bind hseen ?_)
    rw [hseenx]
    cases hpre : seenL e.f0 q pre with
    | some x =>
      obtain ⟨x1, x2, x3⟩ := seenL_some hpre
      have hxe := ahead_same (hp3 x x1 e List.mem_cons_self) x2
      have hlast : last.toList = e.f0.toList := hi.1 x x1 x3 e List.mem_cons_self x2.symm
      have hs' : s = acc ++ shownL q last [] bs := by
        rw [hs]
        conv => lhs; rw [shownL]
        rw [if_pos (Or.inr hlast.symm)]
      have hi' : shInv q (pre ++ [e]) bs last := by
        refine ⟨fun p hp hpq e' he' hk => ?_, fun h => ?_⟩
        · rcases List.mem_append.1 hp with hp | hp
          · exact hi.1 p hp hpq e' (List.mem_cons_of_mem _ he') hk
          · rw [List.mem_singleton.1 hp] at hk; exact hlast.trans hk.symm
        · obtain ⟨p, hp, h2⟩ := hi.2 h
          exact ⟨p, List.mem_append_left _ hp, h2⟩
      refine evPos rfl ?_
      have hne2 : (x.f2 == e.f2) = false := by rw [beq_eq_false_iff_ne]; omega
      refine evBoth ?_ ?_
      · intro _; exact no _ _ _ _ last hs' hi'
      · intro _
        simp only [toldE, hne2, Bool.false_and, Bool.and_false]
        exact no _ _ _ _ last hs' hi'
    | none =>
      have hnl : last.toList ≠ e.f0.toList := by
        intro h
        obtain ⟨p, p1, p2, p3⟩ := hi.2 (by rw [h]; exact hne)
        have : ∀ (l : List S49), p ∈ l → seenL e.f0 q l = none → False := by
          intro l
          induction l with
          | nil => intro h1; cases h1
          | cons y l ih =>
            intro h1 h2
            unfold seenL at h2
            by_cases hy : y.f0.toList = e.f0.toList ∧ y.f2 ≤ q
            · rw [if_pos hy] at h2; cases h2
            · rw [if_neg hy] at h2
              rcases List.mem_cons.1 h1 with rfl | h1
              · exact hy ⟨p3.trans h, p2⟩
              · exact ih h1 h2
        exact this pre p1 hpre
      simp only
      by_cases hq : e.f2 ≤ q
      · have e5 : seenL e.f0 q (e :: bs) = some e := by unfold seenL; rw [if_pos ⟨rfl, hq⟩]
        rw [e5]
        have hi' : shInv q (pre ++ [e]) bs e.f0 := by
          refine ⟨fun p hp hpq e' he' hk => ?_, fun _ => ⟨e, by simp, hq, rfl⟩⟩
          rcases List.mem_append.1 hp with hp | hp
          · have := ahead_mid (hp3 p hp e List.mem_cons_self) (hp4 e' he') hk.symm
            exact this.trans hk.symm
          · rw [List.mem_singleton.1 hp] at hk; exact hk.symm
        have hsx : shownL q last [] (e :: bs) = shownL q e.f0 (if e.f3 = true then [] else [e]) bs := by
          conv => lhs; rw [shownL]
          rw [if_neg (fun h => h.elim (fun h => by omega) (fun h => hnl h.symm))]
          rfl
        refine evPos rfl ?_
        cases hg : e.f3 with
        | true =>
          rw [hg, if_pos rfl] at hsx
          refine evPos ?_ (no _ _ _ _ e.f0 (by rw [hs, hsx]) hi')
          simp [toldE, hg]
        | false =>
          rw [hg, if_neg Bool.false_ne_true, shownL_acc q bs e.f0 [e]] at hsx
          refine evNeg ?_ ?_
          · simp [toldE, hg]
          · have := yes (by rw [hs, hsx]; simp) hi'
            simpa [toldE, hg] using this
      · have hs' : s = acc ++ shownL q last [] bs := by
          rw [hs]
          conv => lhs; rw [shownL]
          rw [if_pos (Or.inl (by omega))]
        have hi' : shInv q (pre ++ [e]) bs last := by
          refine ⟨fun p hp hpq e' he' hk => ?_, fun h => ?_⟩
          · rcases List.mem_append.1 hp with hp | hp
            · exact hi.1 p hp hpq e' (List.mem_cons_of_mem _ he') hk
            · rw [List.mem_singleton.1 hp] at hpq; omega
          · obtain ⟨p, hp, h2⟩ := hi.2 h
            exact ⟨p, List.mem_append_left _ hp, h2⟩
        have e5 : seenL e.f0 q (e :: bs) = seenL e.f0 q bs := by
          conv => lhs; unfold seenL
          rw [if_neg (fun h => hq h.2)]
        rw [e5]
        cases hb : seenL e.f0 q bs with
        | none => exact evNeg (by simp [toldE]) (no _ _ _ _ last hs' hi')
        | some x =>
          obtain ⟨x1, x2, x3⟩ := seenL_some hb
          have hne2 : (x.f2 == e.f2) = false := by rw [beq_eq_false_iff_ne]; omega
          refine evPos rfl (evBoth ?_ ?_)
          · intro _; exact no _ _ _ _ last hs' hi'
          · intro _
            simp only [toldE, hne2, Bool.false_and, Bool.and_false]
            exact no _ _ _ _ last hs' hi'
theorem FnShown (l : List Int) (hl : l.length ≤ maxLen) (hw : ∀ e ∈ l, (Lit.int .u8 e).wf = true) : ∃ k, laws_FnShown.f k l = some true := by
  refine Ev.rounds (g := fun k => laws_FnShown.f k l) ?_
  simp only [laws_FnShown.f]
  refine Ev.bind (evId (fun _ => rfl)) ?_
  by_cases hb : (l.length : Int) > 4096
  · exact evPos (decide_eq_true hb) (Ev.now _)
  refine evNeg (by simpa using hb) ?_
  have hl2 : l.length ≤ 1000000000000000000 := by omega
  obtain ⟨h, hn⟩ := spec_l1New_ev l hl2
  obtain ⟨xs, i1, h1, hxs, hxl, hi1⟩ := spec_l3DrawAny_ev l hl2 0 h (Int.le_refl _)
  obtain ⟨x, i2, h2, e2, x0, x1, hi2⟩ := spec_l1Below_eq l hl2 i1 h1 hi1 (wrap64 ((wrap64 (25 - (-1))) + 1))
  have hd : Ev (fun k => spec_DrawShown.f k l) (xs, wrap64 (-1 + x)) := by
    simp only [spec_DrawShown.f, spec_l1From.f]
    exact Ev.bind hn (Ev.bind hxs (Ev.bind (Ev.bind (evId (fun _ => e2)) (Ev.now _)) (Ev.now _)))
  generalize wrap64 (-1 + x) = q at hd
  have hle := shown_le xs q
  refine Ev.bind hd (Ev.bind (impl_Shown_ev xs q) (Ev.bind (spec_Shown_ev xs q) (Ev.bind (laws_likeEntries_self _ (by omega)) (evPos rfl (Ev.bind (spec_EntriesOk_ev xs) ?_)))))
  by_cases hok : entriesOk xs = true
  · refine evPos hok ?_
    have e3 : shown xs q = shownL q (⟨#[]⟩ : ByteArray) [] xs := by unfold shown; rw [if_pos hok]
    have hso : entriesOk (shown xs q) = true := entriesOk_sub hok (by rw [e3]; exact shownL_sub q xs _)
    exact laws_FnShown_l0_ev xs q hok (shown xs q) hso xs [] [] (⟨#[]⟩ : ByteArray) rfl e3 ⟨fun p hp => by simp at hp, fun h => absurd (by rw [ByteArray.toList_eq]) h⟩
  · refine evNeg hok (evEq (Ev.now _) ?_)
    unfold shown
    rw [if_neg hok]
    rfl
end Go.Proofs.Ythkhfmomibfkjaa.Pure

/- Proves the plain law behind this statement of the seat (what its functions come to, over numbers and lists): that it answers true. No condition beyond the statement's own. -/
import Derived.Test.YtaiggfjkikfcbaaPFnPutx
import Derived.Test.YtaiggfjkikfcbaaLib
import Derived.Test.YtaiggfjkikfcbaaLibHit
import Derived.Test.YtaiggfjkikfcbaaLibRow
import Derived.Test.YtaiggfjkikfcbaaLibStr
namespace Go.Proofs.Ytaiggfjkikfcbaa.Pure
open Go Go.RowKit Go.Proofs.Ytaiggfjkikfcbaa.PFnPut Go.Proofs.YtaiggfjkikfcbaaW.PrintWords Go.Proofs.YtaiggfjkikfcbaaW.PrintLast Go.Proofs.YtaiggfjkikfcbaaW.PrintMore Go.Proofs.Ytaiggfjkikfcbaa.Lib
set_option linter.unusedVariables false
set_option linter.unusedSimpArgs false
theorem and255 (y : Int) : 0 ≤ Go.bits .and .i64 y 255 ∧ Go.bits .and .i64 y 255 ≤ 255 := by
  have e : ((BitVec.ofInt IntKind.i64.bits y) &&& (BitVec.ofInt IntKind.i64.bits 255)).toNat ≤ 255 := by
    rw [BitVec.toNat_and]
    exact Nat.le_trans Nat.and_le_right (by decide)
  have e2 : Go.bits .and .i64 y 255 = (((BitVec.ofInt IntKind.i64.bits y) &&& (BitVec.ofInt IntKind.i64.bits 255)).toNat : Int) := by
    simp only [Go.bits]
    rw [IntKind.wrap_i64]
    generalize ((BitVec.ofInt IntKind.i64.bits y) &&& (BitVec.ofInt IntKind.i64.bits 255)).toNat = n at e ⊢
    omega
  rw [e2]
  generalize ((BitVec.ofInt IntKind.i64.bits y) &&& (BitVec.ofInt IntKind.i64.bits 255)).toNat = n at e ⊢
  omega
theorem spec_l1New_l0_ev (b : List Int) (hl : b.length ≤ 1000000000000000000) : ∀ (bs : List Int) (i : Nat) (h : Int), b.drop i = bs → ∃ h', Ev (fun k => spec_l1New.l0 k b h i) (b, 0, h')
  | [], i, h, hd => by
    have := drop_nil hd
    refine ⟨h, Ev.step (f := fun _ => some _) (fun k => ?_) (Ev.now _)⟩
    simp only [spec_l1New.l0]
    rw [if_neg (by omega)]
  | x :: bs, i, h, hd => by
    obtain ⟨h2, h3, h4⟩ := drop_cons hd
    obtain ⟨h', hh⟩ := spec_l1New_l0_ev b hl bs (i + 1) (Go.bits .and .i64 (wrap64 ((wrap64 ((wrap64 (h * 137)) + (wrap64 (rd b i)))) + 11)) 1073741823) h3
    refine ⟨h', Ev.step (fun k => ?_) hh⟩
    simp only [spec_l1New.l0]
    rw [if_pos (by omega), if_pos (by omega), w64s (by omega)]
theorem spec_l1New_ev (b : List Int) (hl : b.length ≤ 1000000000000000000) : ∃ h, Ev (fun k => spec_l1New.f k b) (b, 0, h) := spec_l1New_l0_ev b hl b 0 _ rfl
theorem spec_l1Byte_eq (b : List Int) (hl : b.length ≤ 1000000000000000000) (i h : Int) (hi : 0 ≤ i) : ∃ x i' h', spec_l1Byte.f b i h = some (x, i', h') ∧ 0 ≤ x ∧ x ≤ 255 ∧ 0 ≤ i' := by
  unfold spec_l1Byte.f
  by_cases hx : i < (b.length : Int)
  · rw [if_pos hx, if_pos hi]
    refine ⟨_, _, _, rfl, (and255 _).1, (and255 _).2, ?_⟩
    rw [w64 (by omega) (by omega)]
    omega
  · rw [if_neg hx]
    exact ⟨_, _, _, rfl, (and255 _).1, (and255 _).2, hi⟩
theorem spec_l1Below_eq (b : List Int) (hl : b.length ≤ 1000000000000000000) (i h : Int) (hi : 0 ≤ i) (n : Int) : ∃ x i' h', spec_l1Below.f b i h n = some (x, i', h') ∧ 0 ≤ x ∧ (0 < n → x < n) ∧ 0 ≤ i' := by
  unfold spec_l1Below.f
  by_cases h0 : n ≤ 0
  · rw [if_pos h0]
    exact ⟨_, _, _, rfl, Int.le_refl _, fun h => absurd h (by omega), hi⟩
  rw [if_neg h0]
  obtain ⟨x, i1, h1, e1, x0, x1, hi1⟩ := spec_l1Byte_eq b hl i h hi
  rw [e1]
  simp only [Option.bind_some]
  have fin : ∀ y : Int, 0 ≤ y → 0 ≤ Int.tmod y n ∧ (0 < n → Int.tmod y n < n) := fun y hy => ⟨Int.tmod_nonneg _ hy, fun hn => Int.tmod_lt_of_pos _ hn⟩
  by_cases h2 : n ≤ 256
  · rw [if_pos h2, if_neg (by omega)]
    exact ⟨_, _, _, rfl, (fin x x0).1, (fin x x0).2, hi1⟩
  rw [if_neg h2]
  obtain ⟨y, i2, g2, e2, y0, y1, hi2⟩ := spec_l1Byte_eq b hl i1 h1 hi1
  rw [e2]
  simp only [Option.bind_some]
  obtain ⟨z, i3, g3, e3, z0, z1, hi3⟩ := spec_l1Byte_eq b hl i2 g2 hi2
  rw [e3]
  simp only [Option.bind_some]
  obtain ⟨w, i4, g4, e4, w0, w1, hi4⟩ := spec_l1Byte_eq b hl i3 g3 hi3
  rw [e4]
  simp only [Option.bind_some]
  rw [if_neg (by omega)]
  have ee : (wrap64 ((wrap64 ((wrap64 ((wrap64 (x * 16777216)) + (wrap64 (y * 65536)))) + (wrap64 (z * 256)))) + w)) = x * 16777216 + y * 65536 + z * 256 + w := by
    rw [w64 (x := x * 16777216) (by omega) (by omega), w64 (x := y * 65536) (by omega) (by omega), w64 (x := z * 256) (by omega) (by omega), w64 (x := x * 16777216 + y * 65536) (by omega) (by omega), w64 (x := x * 16777216 + y * 65536 + z * 256) (by omega) (by omega), w64 (by omega) (by omega)]
  rw [ee]
  exact ⟨_, _, _, rfl, (fin _ (by omega)).1, (fin _ (by omega)).2, hi4⟩
theorem spec_l1Once_eq (b : List Int) (hl : b.length ≤ 1000000000000000000) (i h : Int) (hi : 0 ≤ i) (n : Int) : ∃ x i' h', spec_l1Once.f b i h n = some (x, i', h') ∧ 0 ≤ i' := by
  obtain ⟨x, i1, h1, e1, _, _, hi1⟩ := spec_l1Below_eq b hl i h hi n
  unfold spec_l1Once.f
  rw [e1]
  exact ⟨_, _, _, rfl, hi1⟩
theorem strOfNums_le (xs : List Int) : (strOfNums xs).size = xs.length := by rw [strOfNums_size]

theorem spec_l1DrawText_l0_ev (b : List Int) (hl : b.length ≤ 1000000000000000000) : ∀ (n : Nat) (acc : List Int) (i h : Int), 0 ≤ i → acc.length + n ≤ 1000 →
    ∃ s i' h', Ev (fun k => spec_l1DrawText.l0 k acc (n : Int) b i h) (s, i', h') ∧ s.size ≤ acc.length + n + 1 ∧ 0 ≤ i'
  | 0, acc, i, h, hi, ha => by
    obtain ⟨x, i1, h1, e1, hi1⟩ := spec_l1Once_eq b hl i h hi 6
    obtain ⟨y, i2, h2, e2, _, _, hi2⟩ := spec_l1Byte_eq b hl i1 h1 hi1
    cases x with
    | true =>
      refine ⟨_, _, _, Ev.step (f := fun _ => some (strOfNums (acc ++ [y % 256]), i2, h2)) (fun k => ?_) (Ev.now _), ?_, hi2⟩
      · simp only [spec_l1DrawText.l0]
        rw [if_neg (by omega), e1]
        simp only [Option.bind_some]
        rw [if_pos trivial, e2]
        simp only [Option.bind_some]
        rw [if_pos (by omega)]
      · rw [strOfNums_le, List.length_append, List.length_singleton]; omega
    | false =>
      refine ⟨_, _, _, Ev.step (f := fun _ => some (strOfNums acc, i1, h1)) (fun k => ?_) (Ev.now _), ?_, hi1⟩
      · simp only [spec_l1DrawText.l0]
        rw [if_neg (by omega), e1]
        simp only [Option.bind_some]
        rw [if_neg (by decide)]
      · rw [strOfNums_le]; omega
  | n + 1, acc, i, h, hi, ha => by
    obtain ⟨x, i1, h1, e1, x0, x1, hi1⟩ := spec_l1Below_eq b hl i h hi 4
    obtain ⟨s, i2, h2, hs, hz, hi2⟩ := spec_l1DrawText_l0_ev b hl n (acc ++ [(wrap64 (97 + x)) % 256]) i1 h1 hi1 (by rw [List.length_append, List.length_singleton]; omega)
    rw [List.length_append, List.length_singleton] at hz
    refine ⟨s, i2, h2, Ev.step (fun k => ?_) hs, by omega, hi2⟩
    simp only [spec_l1DrawText.l0]
    rw [if_pos (by omega), e1]
    simp only [Option.bind_some]
    rw [if_pos (by omega), w64 (x := ((n + 1 : Nat) : Int) - 1) (by omega) (by omega), show ((n + 1 : Nat) : Int) - 1 = (n : Int) by omega]
theorem spec_l1DrawText_ev (b : List Int) (hl : b.length ≤ 1000000000000000000) (i h : Int) (hi : 0 ≤ i) :
    ∃ s i' h', Ev (fun k => spec_l1DrawText.f k b i h) (s, i', h') ∧ s.size ≤ 8 ∧ 0 ≤ i' := by
  obtain ⟨x, i1, h1, e1, x0, x1, hi1⟩ := spec_l1Below_eq b hl i h hi 8
  obtain ⟨n, rfl⟩ := Int.eq_ofNat_of_zero_le x0
  have hn := x1 (by decide)
  obtain ⟨s, i2, h2, hs, hz, hi2⟩ := spec_l1DrawText_l0_ev b hl n [] i1 h1 hi1 (by simp; omega)
  simp only [List.length_nil] at hz
  refine ⟨s, i2, h2, ?_, by omega, hi2⟩
  simp only [spec_l1DrawText.f]
  exact Ev.bind (evId (fun _ => e1)) hs

/-- Is an entry right? -/
def entOk (e : S31) : Bool := within e.f0.size 1 40 && (decide ((e.f1.size : Int) ≤ 200) && ((!e.f3 || decide (e.f1.toList = ([] : List UInt8))) && within e.f2 1 1000000))
/-- Is the one ahead of the other? -/
def ahead (a b : S31) : Bool := Op.bytesLess a.f0.toList b.f0.toList || (decide (a.f0.toList = b.f0.toList) && decide (a.f2 > b.f2))
def okL : Option S31 → List S31 → Bool
  | _, [] => true
  | p, e :: es => entOk e && ((match p with | none => true | some q => ahead q e) && okL (some e) es)
def entriesOk (xs : List S31) : Bool := decide (xs.length ≤ 300) && okL none xs
/-- The entry ahead of place i. -/
def prev (xs : List S31) (i : Nat) : Option S31 := if i = 0 then none else xs[i - 1]?
theorem prev_succ {xs : List S31} {i : Nat} {e : S31} (h : xs[i]? = some e) : prev xs (i + 1) = some e := by
  unfold prev
  rw [if_neg (by omega), show i + 1 - 1 = i by omega, h]

theorem spec_l1In_ev (a b c : Int) : Ev (fun _ => spec_l1In.f a b c) (within a b c) := by
  refine evId (fun _ => ?_)
  unfold spec_l1In.f within
  by_cases h : a ≥ b
  · rw [if_pos h, decide_eq_true (show b ≤ a from h), Bool.true_and]
  · rw [if_neg h, decide_eq_false (show ¬ b ≤ a from h), Bool.false_and]

theorem spec_l3Entry_ev (e : S31) : Ev (fun _ => spec_l3Entry.f e.f0 e.f1 e.f2 e.f3) (entOk e) := by
  obtain ⟨a, b, c, g⟩ := e
  refine evId (fun _ => ?_)
  have hin : spec_l1In.f c 1 1000000 = some (within c 1 1000000) := by
    obtain ⟨k, h⟩ := (spec_l1In_ev c 1 1000000).rounds
    exact h
  unfold spec_l3Entry.f entOk
  simp only [hin, Option.bind_some]
  by_cases h1 : (a.size : Int) ≥ 1
  · by_cases h2 : (a.size : Int) ≤ 40
    · by_cases h3 : (b.size : Int) ≤ 200
      · rw [if_pos h1, if_pos h2, if_pos h3]
        have : within (a.size : Int) 1 40 = true := by simp [within]; omega
        rw [this, decide_eq_true h3]
        cases g with
        | false => simp
        | true =>
          rw [if_pos rfl]
          by_cases h4 : b.toList = ([] : List UInt8)
          · rw [if_pos h4]; simp [h4]
          · rw [if_neg h4]; simp [h4]
      · rw [if_pos h1, if_pos h2, if_neg h3, decide_eq_false h3]; simp
    · rw [if_pos h1, if_neg h2]
      have : within (a.size : Int) 1 40 = false := by simp [within]; omega
      rw [this]; simp
  · rw [if_neg h1]
    have : within (a.size : Int) 1 40 = false := by simp [within]; omega
    rw [this]; simp
theorem spec_l3Ahead_ev (a b : S31) : Ev (fun _ => spec_l3Ahead.f a.f0 a.f1 a.f2 a.f3 b.f0 b.f1 b.f2 b.f3) (ahead a b) := by
  refine evId (fun _ => ?_)
  unfold spec_l3Ahead.f ahead
  cases h : Op.bytesLess a.f0.toList b.f0.toList with
  | true => simp
  | false =>
    rw [if_neg (by simp)]
    by_cases h2 : a.f0.toList = b.f0.toList
    · rw [if_pos h2]; simp [h2]
    · rw [if_neg h2]; simp [h2]
theorem spec_EntriesOk_l0_ev (xs : List S31) (hl : xs.length ≤ 1000000000000000000) : ∀ (bs : List S31) (i : Nat), xs.drop i = bs → Ev (fun k => spec_EntriesOk.l0 k xs i) (okL (prev xs i) bs)
  | [], i, hd => by
    have := drop_nil hd
    refine Ev.step (f := fun _ => some true) (fun k => ?_) (Ev.now _)
    simp only [spec_EntriesOk.l0]
    rw [if_neg (by omega)]
  | e :: bs, i, hd => by
    obtain ⟨h2, h3, h4⟩ := drop_cons hd
    have e1 : rd_T31 xs (i : Int) = e := getD_at h4
    have ih := spec_EntriesOk_l0_ev xs hl bs (i + 1) h3
    rw [prev_succ h4] at ih
    refine Ev.step (f := fun k => (spec_l3Entry.f e.f0 e.f1 e.f2 e.f3).bind fun t127 => (if t127 = true then (if (i : Int) > 0 then ((spec_l3Ahead.f (rd_T31 xs (wrap64 ((i : Int) - 1))).f0 (rd_T31 xs (wrap64 ((i : Int) - 1))).f1 (rd_T31 xs (wrap64 ((i : Int) - 1))).f2 (rd_T31 xs (wrap64 ((i : Int) - 1))).f3 e.f0 e.f1 e.f2 e.f3).bind fun t130 => (if t130 = true then (spec_EntriesOk.l0 k xs ((i + 1 : Nat) : Int)) else (some false))) else (spec_EntriesOk.l0 k xs ((i + 1 : Nat) : Int))) else (some false))) (fun k => ?_) (Ev.bind (spec_l3Entry_ev e) ?_)
    · simp only [spec_EntriesOk.l0]
      rw [if_pos (by omega), if_pos (by omega), e1, w64s (by omega)]
      by_cases hi : (i : Int) > 0
      · simp only [if_pos hi, if_pos (show (0 : Int) ≤ wrap64 ((i : Int) - 1) by rw [w64 (by omega) (by omega)]; omega), if_pos (show wrap64 ((i : Int) - 1) < (xs.length : Int) by rw [w64 (by omega) (by omega)]; omega)]
      · simp only [if_neg hi]
    · unfold okL
      cases he : entOk e with
      | false => exact evNeg (by simp) (Ev.now _)
      | true =>
        refine evPos rfl ?_
        rw [Bool.true_and]
        by_cases hi : i = 0
        · subst hi
          refine evNeg (by omega) (evEq ih ?_)
          simp [prev]
        · obtain ⟨q, hq⟩ : ∃ q, xs[i - 1]? = some q := ⟨_, List.getElem?_eq_getElem (by omega)⟩
          have e2 : rd_T31 xs (wrap64 ((i : Int) - 1)) = q := by
            rw [w64 (by omega) (by omega), show (i : Int) - 1 = ((i - 1 : Nat) : Int) by omega]
            exact getD_at hq
          refine evPos (by omega) ?_
          rw [e2]
          refine Ev.bind (spec_l3Ahead_ev q e) ?_
          simp only [prev, if_neg hi, hq]
          cases ahead q e with
          | false => exact evNeg (by simp) (Ev.now _)
          | true => exact evPos rfl (evEq ih (by rw [Bool.true_and]))
theorem spec_EntriesOk_ev (xs : List S31) : Ev (fun k => spec_EntriesOk.f k xs) (entriesOk xs) := by
  simp only [spec_EntriesOk.f]
  unfold entriesOk
  by_cases h : (xs.length : Int) > 300
  · rw [decide_eq_false (by omega)]; exact evPos h (Ev.now _)
  · rw [decide_eq_true (by omega), Bool.true_and]
    exact evNeg h (spec_EntriesOk_l0_ev xs (by omega) xs 0 rfl)

theorem spec_l3DrawKey_eq (b : List Int) (hl : b.length ≤ 1000000000000000000) (i h : Int) (hi : 0 ≤ i) : ∃ s i' h', spec_l3DrawKey.f b i h = some (s, i', h') ∧ 0 ≤ i' := by
  obtain ⟨x, i1, h1, e1, x0, x1, hi1⟩ := spec_l1Below_eq b hl i h hi 6
  have hx := x1 (by decide)
  unfold spec_l3DrawKey.f
  simp only [Option.bind_some]
  rw [e1]
  simp only [Option.bind_some]
  rw [if_pos x0, if_pos (by simpa using hx)]
  exact ⟨_, _, _, rfl, hi1⟩
theorem spec_l3DrawEntry_ev (b : List Int) (hl : b.length ≤ 1000000000000000000) (i h : Int) (hi : 0 ≤ i) (q : Int) : ∃ (e : S31) (i' h' : Int), Ev (fun k => spec_l3DrawEntry.f k b i h q) (e.f0, e.f1, e.f2, e.f3, i', h') ∧ 0 ≤ i' := by
  obtain ⟨s, i1, h1, e1, hi1⟩ := spec_l3DrawKey_eq b hl i h hi
  obtain ⟨t, i2, h2, ht, _, hi2⟩ := spec_l1DrawText_ev b hl i1 h1 hi1
  obtain ⟨g, i3, h3, e3, hi3⟩ := spec_l1Once_eq b hl i2 h2 hi2 4
  simp only [spec_l3DrawEntry.f]
  cases g with
  | true => exact ⟨⟨s, (⟨#[]⟩ : ByteArray), q, true⟩, i3, h3, Ev.bind (evId (fun _ => e1)) (Ev.bind ht (Ev.bind (evId (fun _ => e3)) (evPos rfl (Ev.now _)))), hi3⟩
  | false => exact ⟨⟨s, t, q, false⟩, i3, h3, Ev.bind (evId (fun _ => e1)) (Ev.bind ht (Ev.bind (evId (fun _ => e3)) (evNeg Bool.false_ne_true (Ev.now _)))), hi3⟩
theorem spec_l3Put_l0_ev (xs : List S31) (hl : xs.length ≤ 1000000) (e : S31) : ∀ (bs : List S31) (i : Nat), xs.drop i = bs → i ≤ xs.length → ∃ ys : List S31, Ev (fun k => spec_l3Put.l0 k xs i e.f0 e.f1 e.f2 e.f3) ys ∧ ys.length = xs.length + 1
  | [], i, hd, hi => by
    have := drop_nil hd
    refine ⟨[] ++ xs.take i ++ [e] ++ xs.drop i, Ev.step (f := fun _ => some _) (fun k => ?_) (Ev.now _), by simp; omega⟩
    simp only [spec_l3Put.l0]
    rw [if_neg (by omega)]
    simp only [Option.bind_some, Int.toNat_natCast]
    rw [if_pos (by omega), if_pos (by omega), if_pos (by simp; omega), if_pos (by simp; omega), if_pos (by simp; omega)]
  | x :: bs, i, hd, hi => by
    obtain ⟨h2, h3, h4⟩ := drop_cons hd
    have e1 : rd_T31 xs (i : Int) = x := getD_at h4
    have ha := spec_l3Ahead_ev x e
    cases hx : ahead x e with
    | true =>
      rw [hx] at ha
      obtain ⟨ys, hy, hz⟩ := spec_l3Put_l0_ev xs hl e bs (i + 1) h3 (by omega)
      refine ⟨ys, Ev.step (fun k => by simp only [spec_l3Put.l0]; rw [if_pos (by omega), if_pos (by omega), e1, w64s (by omega)]) (Ev.bind ha (evPos rfl hy)), hz⟩
    | false =>
      rw [hx] at ha
      refine ⟨[] ++ xs.take i ++ [e] ++ xs.drop i, Ev.step (fun k => by simp only [spec_l3Put.l0]; rw [if_pos (by omega), if_pos (by omega), e1]) (Ev.bind ha (evNeg Bool.false_ne_true (evId (fun k => ?_)))), by simp; omega⟩
      simp only [Option.bind_some, Int.toNat_natCast]
      rw [if_pos (by omega), if_pos (by simp; omega), if_pos (by simp; omega), if_pos (by simp; omega)]
theorem spec_l3Put_ev (xs : List S31) (hl : xs.length ≤ 1000000) (e : S31) : ∃ ys : List S31, Ev (fun k => spec_l3Put.f k xs e.f0 e.f1 e.f2 e.f3) ys ∧ ys.length = xs.length + 1 := spec_l3Put_l0_ev xs hl e xs 0 rfl (Nat.zero_le _)
theorem spec_l3DrawFrom_l0_ev (b : List Int) (hl : b.length ≤ 1000000000000000000) : ∀ (n : Nat) (q : Int) (acc : List S31) (i h : Int), 0 ≤ i → acc.length + n ≤ 1000000 →
    ∃ (ys : List S31) (i' h' : Int), Ev (fun k => spec_l3DrawFrom.l0 k q acc (n : Int) b i h) (ys, i', h') ∧ ys.length = acc.length + n ∧ 0 ≤ i'
  | 0, q, acc, i, h, hi, ha => by
    refine ⟨acc, i, h, Ev.step (f := fun _ => some _) (fun k => ?_) (Ev.now _), rfl, hi⟩
    simp only [spec_l3DrawFrom.l0]
    rw [if_neg (by omega)]
  | n + 1, q, acc, i, h, hi, ha => by
    obtain ⟨e, i1, h1, he, hi1⟩ := spec_l3DrawEntry_ev b hl i h hi q
    obtain ⟨ys, hy, hz⟩ := spec_l3Put_ev acc (by omega) e
    obtain ⟨x, i2, h2, e2, x0, x1, hi2⟩ := spec_l1Below_eq b hl i1 h1 hi1 2
    obtain ⟨zs, i3, h3, hzs, hlz, hi3⟩ := spec_l3DrawFrom_l0_ev b hl n (wrap64 ((wrap64 (q + 1)) + x)) ys i2 h2 hi2 (by omega)
    refine ⟨zs, i3, h3, Ev.step (fun k => by simp only [spec_l3DrawFrom.l0]; rw [if_pos (by omega), w64 (x := ((n + 1 : Nat) : Int) - 1) (by omega) (by omega), show ((n + 1 : Nat) : Int) - 1 = (n : Int) by omega]) (Ev.bind he (Ev.bind hy (Ev.bind (evId (fun _ => e2)) hzs))), by omega, hi3⟩
theorem spec_l3DrawFrom_ev (b : List Int) (hl : b.length ≤ 1000000000000000000) (i h : Int) (hi : 0 ≤ i) (q m : Int) (h0 : 0 ≤ m) (h1 : m ≤ 1000) : ∃ (ys : List S31) (i' h' : Int), Ev (fun k => spec_l3DrawFrom.f k b i h q m) (ys, i', h') ∧ (ys.length : Int) ≤ m ∧ 0 ≤ i' := by
  obtain ⟨x, i1, g1, e1, x0, x1, hi1⟩ := spec_l1Below_eq b hl i h hi (m + 1)
  obtain ⟨n, rfl⟩ := Int.eq_ofNat_of_zero_le x0
  have hn := x1 (by omega)
  obtain ⟨ys, i2, h2, hy, hz, hi2⟩ := spec_l3DrawFrom_l0_ev b hl n q [] i1 g1 hi1 (by simp; omega)
  simp only [List.length_nil] at hz
  refine ⟨ys, i2, h2, ?_, by omega, hi2⟩
  simp only [spec_l3DrawFrom.f, w64 (x := m + 1) (by omega) (by omega)]
  exact Ev.bind (evId (fun _ => e1)) hy
theorem spec_l3DrawAny_l0_ev (b : List Int) (hl : b.length ≤ 1000000000000000000) : ∀ (d j : Nat) (acc : List S31) (i h : Int), j + d = 301 → 0 ≤ i → acc.length ≤ j →
    ∃ (ys : List S31) (i' h' : Int), Ev (fun k => spec_l3DrawAny.l0 k acc (j : Int) b i h) (ys, i', h') ∧ ys.length ≤ 301 ∧ 0 ≤ i' := by
  intro d
  induction d with
  | zero =>
    intro j acc i h hd hi ha
    obtain ⟨x, i1, h1, e1, x0, x1, hi1⟩ := spec_l1Below_eq b hl i h hi 2
    have hx := x1 (by decide)
    refine ⟨acc, i1, h1, Ev.step (fun k => by simp only [spec_l3DrawAny.l0]; exact rfl) (Ev.bind (evId (fun _ => e1)) (evNeg ?_ (Ev.now _))), by omega, hi1⟩
    rw [w64 (by simp only; omega) (by simp only; omega)]
    simp only
    omega
  | succ d ih =>
    intro j acc i h hd hi ha
    obtain ⟨x, i1, h1, e1, x0, x1, hi1⟩ := spec_l1Below_eq b hl i h hi 2
    have hx := x1 (by decide)
    by_cases hj : (j : Int) < 300 + x
    · obtain ⟨ys, i2, h2, hy, hz, hi2⟩ := ih (j + 1) (acc ++ [⟨(⟨#[107]⟩ : ByteArray), (⟨#[]⟩ : ByteArray), wrap64 (1000 - (j : Int)), false⟩]) i1 h1 (by omega) hi1 (by rw [List.length_append, List.length_singleton]; omega)
      refine ⟨ys, i2, h2, Ev.step (fun k => by simp only [spec_l3DrawAny.l0]; rw [w64s (i := j) (by omega)]) (Ev.bind (evId (fun _ => e1)) (evPos ?_ (evPos (show acc.length < 2932031007402 by omega) hy))), hz, hi2⟩
      rw [w64 (by simp only; omega) (by simp only; omega)]
      exact hj
    · refine ⟨acc, i1, h1, Ev.step (fun k => by simp only [spec_l3DrawAny.l0]; exact rfl) (Ev.bind (evId (fun _ => e1)) (evNeg ?_ (Ev.now _))), by omega, hi1⟩
      rw [w64 (by simp only; omega) (by simp only; omega)]
      exact hj
theorem spec_l3DrawAny_ev (b : List Int) (hl : b.length ≤ 1000000000000000000) (i h : Int) (hi : 0 ≤ i) : ∃ (ys : List S31) (i' h' : Int), Ev (fun k => spec_l3DrawAny.f k b i h) (ys, i', h') ∧ ys.length ≤ 1000 ∧ 0 ≤ i' := by
  obtain ⟨xs, i1, h1, hxs, hlx, hi1⟩ := spec_l3DrawFrom_ev b hl i h hi 1 10 (by decide) (by decide)
  obtain ⟨g, i2, h2, e2, hi2⟩ := spec_l1Once_eq b hl i1 h1 hi1 12
  simp only [spec_l3DrawAny.f]
  cases g with
  | false => exact ⟨xs, i2, h2, Ev.bind hxs (Ev.bind (evId (fun _ => e2)) (evNeg Bool.false_ne_true (Ev.now _))), by omega, hi2⟩
  | true =>
    obtain ⟨v, i3, h3, e3, v0, v1, hi3⟩ := spec_l1Below_eq b hl i2 h2 hi2 4
    have hv := v1 (by decide)
    obtain ⟨n, rfl⟩ := Int.eq_ofNat_of_zero_le v0
    match n, hv, e3 with
    | 0, _, e3 =>
      obtain ⟨e, i4, h4, he, hi4⟩ := spec_l3DrawEntry_ev b hl i3 h3 hi3 3
      exact ⟨xs ++ [e], i4, h4, Ev.bind hxs (Ev.bind (evId (fun _ => e2)) (evPos rfl (Ev.bind (evId (fun _ => e3)) (evPos rfl (Ev.bind he (evPos (by simp only; omega) (Ev.now _))))))), by rw [List.length_append, List.length_singleton]; omega, hi4⟩
    | 1, _, e3 =>
      obtain ⟨x, i4, h4, e4, x0, x1, hi4⟩ := spec_l1Below_eq b hl i3 h3 hi3 3
      obtain ⟨y, i5, h5, e5, y0, y1, hi5⟩ := spec_l1Below_eq b hl i4 h4 hi4 4
      have hx := x1 (by decide)
      have hy := y1 (by decide)
      exact ⟨xs ++ [_], i5, h5, Ev.bind hxs (Ev.bind (evId (fun _ => e2)) (evPos rfl (Ev.bind (evId (fun _ => e3)) (evNeg (show ¬ ((1 : Nat) : Int) = 0 by decide) (evPos rfl (evPos (by decide) (Ev.bind (evId (fun _ => rfl)) (Ev.bind (evId (fun _ => e4)) (evPos x0 (evPos (by simpa using hx) (Ev.bind (evId (fun _ => rfl)) (Ev.bind (evId (fun _ => e5)) (evPos y0 (evPos (by simpa using hy) (evPos (by simp only; omega) (Ev.now _)))))))))))))))), by rw [List.length_append, List.length_singleton]; omega, hi5⟩
    | 2, _, e3 =>
      obtain ⟨x, i4, h4, e4, x0, x1, hi4⟩ := spec_l1Below_eq b hl i3 h3 hi3 2
      obtain ⟨y, i5, h5, e5, hi5⟩ := spec_l1Once_eq b hl i4 h4 hi4 2
      have hx := x1 (by decide)
      have hw : wrap64 (200 + x) = 200 + x := w64 (by omega) (by omega)
      exact ⟨xs ++ [_], i5, h5, Ev.bind hxs (Ev.bind (evId (fun _ => e2)) (evPos rfl (Ev.bind (evId (fun _ => e3)) (evNeg (show ¬ ((2 : Nat) : Int) = 0 by decide) (evNeg (show ¬ ((2 : Nat) : Int) = 1 by decide) (evPos rfl (Ev.bind (evId (fun _ => e4)) (evPos (by simp only [hw]; omega) (evPos (by simp only [hw]; omega) (Ev.bind (evId (fun _ => e5)) (evPos (by simp only; omega) (Ev.now _)))))))))))), by rw [List.length_append, List.length_singleton]; omega, hi5⟩
    | 3, _, e3 =>
      obtain ⟨ys, i4, h4, hy, hz, hi4⟩ := spec_l3DrawAny_l0_ev b hl 301 0 [] i3 h3 rfl hi3 (Nat.le_refl _)
      exact ⟨ys, i4, h4, Ev.bind hxs (Ev.bind (evId (fun _ => e2)) (evPos rfl (Ev.bind (evId (fun _ => e3)) (evNeg (show ¬ ((3 : Nat) : Int) = 0 by decide) (evNeg (show ¬ ((3 : Nat) : Int) = 1 by decide) (evNeg (show ¬ ((3 : Nat) : Int) = 2 by decide) (evPos rfl hy))))))), by omega, hi4⟩
    | n + 4, hv, _ => omega

theorem ahead_iff {a b : S31} : ahead a b = true ↔ Op.bytesLess a.f0.toList b.f0.toList = true ∨ (a.f0.toList = b.f0.toList ∧ b.f2 < a.f2) := by
  unfold ahead
  simp only [Bool.or_eq_true, Bool.and_eq_true, decide_eq_true_eq]
theorem ahead_trans {a b c : S31} (h : ahead a b = true) (k : ahead b c = true) : ahead a c = true := by
  rw [ahead_iff] at h k ⊢
  rcases h with h | ⟨h1, h2⟩
  · rcases k with k | ⟨k1, k2⟩
    · exact Or.inl (less_trans _ _ _ h k)
    · exact Or.inl (k1 ▸ h)
  · rcases k with k | ⟨k1, k2⟩
    · exact Or.inl (h1.symm ▸ k)
    · exact Or.inr ⟨h1.trans k1, by omega⟩
theorem ahead_same {a b : S31} (h : ahead a b = true) (hk : a.f0.toList = b.f0.toList) : b.f2 < a.f2 := by
  rw [ahead_iff] at h
  rcases h with h | ⟨_, h⟩
  · rw [hk, less_irrefl] at h; cases h
  · exact h
theorem okL_pair : ∀ (xs : List S31) (p : Option S31), okL p xs = true → (∀ e ∈ xs, entOk e = true) ∧ (∀ q, p = some q → ∀ e ∈ xs, ahead q e = true) ∧ xs.Pairwise (fun a b => ahead a b = true)
  | [], p, _ => ⟨by simp, by simp, List.Pairwise.nil⟩
  | x :: xs, p, h => by
    unfold okL at h
    simp only [Bool.and_eq_true] at h
    obtain ⟨h1, h2, h3⟩ := h
    obtain ⟨k1, k2, k3⟩ := okL_pair xs (some x) h3
    refine ⟨?_, ?_, List.Pairwise.cons (k2 x rfl) k3⟩
    · intro e he
      rcases List.mem_cons.1 he with rfl | he
      · exact h1
      · exact k1 e he
    · rintro q rfl e he
      have hq : ahead q x = true := h2
      rcases List.mem_cons.1 he with rfl | he
      · exact hq
      · exact ahead_trans hq (k2 x rfl e he)
theorem entriesOk_pair {xs : List S31} (h : entriesOk xs = true) : xs.length ≤ 300 ∧ (∀ e ∈ xs, entOk e = true) ∧ xs.Pairwise (fun a b => ahead a b = true) := by
  unfold entriesOk at h
  simp only [Bool.and_eq_true, decide_eq_true_eq] at h
  obtain ⟨k1, _, k3⟩ := okL_pair xs none h.2
  exact ⟨h.1, k1, k3⟩
theorem entriesOk_len {xs : List S31} (h : entriesOk xs = true) : xs.length ≤ 300 := by
  unfold entriesOk at h
  simp only [Bool.and_eq_true, decide_eq_true_eq] at h
  exact h.1

theorem impl_within_ev (a b c : Int) : Ev (fun _ => impl_within.f a b c) (within a b c) := by
  refine evId (fun _ => ?_)
  unfold impl_within.f within
  by_cases h : a ≥ b
  · rw [if_pos h, decide_eq_true (show b ≤ a from h), Bool.true_and]
  · rw [if_neg h, decide_eq_false (show ¬ b ≤ a from h), Bool.false_and]

def ordI (x y : Int) : Int := if x < y then -1 else if x > y then 1 else 0
def ordS (x y : ByteArray) : Int := if Op.bytesLess x.toList y.toList = true then -1 else if Op.bytesLess y.toList x.toList = true then 1 else 0
def byOrder (a b : S31) : Int := if ordS a.f0 b.f0 = 0 then ordI b.f2 a.f2 else ordS a.f0 b.f0
theorem cmp_Compare_string_ev (x y : ByteArray) : Ev (fun _ => cmp_Compare_string.f x y) (ordS x y) := by
  refine evId (fun _ => ?_)
  unfold cmp_Compare_string.f cmp_isNaN_string.f ordS
  simp only [bne_self_eq_false, Option.bind_some, Bool.false_eq_true, if_false]
  split
  · rfl
  · split <;> rfl
theorem cmp_Compare_int64_ev (x y : Int) : Ev (fun _ => cmp_Compare_int64.f x y) (ordI x y) := by
  refine evId (fun _ => ?_)
  unfold cmp_Compare_int64.f cmp_isNaN_int64.f ordI
  simp only [bne_self_eq_false, Option.bind_some, Bool.false_eq_true, if_false]
  split
  · rfl
  · split <;> rfl
theorem cmp_Or_two (x y : Int) : Ev (fun k => cmp_Or_int.f k [x, y]) (if x = 0 then y else x) := by
  simp only [cmp_Or_int.f]
  refine ⟨3, fun k hk => ?_⟩
  obtain ⟨m, rfl⟩ : ∃ m, k = m + 3 := ⟨k - 3, by omega⟩
  have w1 : wrap64 (0 + 1) = 1 := w64 (x := 0 + 1) (by decide) (by decide)
  have w2 : wrap64 (1 + 1) = 2 := w64 (x := 1 + 1) (by decide) (by decide)
  have e0 : rd [x, y] 0 = x := rfl
  have e1 : rd [x, y] 1 = y := rfl
  simp only [cmp_Or_int.l0, w1, w2, e0, e1]
  by_cases hx : x = 0
  · by_cases hy : y = 0
    · simp [hx, hy]
    · simp [hx, hy]
  · simp [hx]
theorem impl_byOrder_ev (a b : S31) : Ev (fun k => impl_byOrder.f k a.f0 a.f1 a.f2 a.f3 b.f0 b.f1 b.f2 b.f3) (byOrder a b) := by
  simp only [impl_byOrder.f]
  exact Ev.bind (cmp_Compare_string_ev a.f0 b.f0) (Ev.bind (cmp_Compare_int64_ev b.f2 a.f2) (Ev.bind (cmp_Or_two _ _) (Ev.now _)))
theorem byOrder_ahead (a b : S31) : decide (byOrder a b ≥ 0) = !ahead a b := by
  unfold byOrder ahead ordS ordI
  cases h1 : Op.bytesLess a.f0.toList b.f0.toList with
  | true => simp
  | false =>
    cases h2 : Op.bytesLess b.f0.toList a.f0.toList with
    | true =>
      have : a.f0.toList ≠ b.f0.toList := by
        intro h
        rw [h, less_irrefl] at h2
        cases h2
      simp [this]
    | false =>
      have := less_tri _ _ h1 h2
      simp only [Bool.false_eq_true, if_false, if_true, this, decide_true, Bool.true_and, Bool.false_or]
      by_cases h3 : b.f2 < a.f2
      · rw [if_pos h3, decide_eq_true (show a.f2 > b.f2 from h3)]; decide
      · rw [if_neg h3, decide_eq_false (show ¬ a.f2 > b.f2 from h3)]
        split <;> decide

theorem impl_within_eq (a b c : Int) : impl_within.f a b c = some (within a b c) := by
  obtain ⟨k, h⟩ := (impl_within_ev a b c).rounds
  exact h
theorem impl_entryOk_ev (e : S31) : Ev (fun _ => impl_entryOk.f e.f0 e.f1 e.f2 e.f3) (entOk e) := by
  obtain ⟨a, b, c, g⟩ := e
  refine evId (fun _ => ?_)
  unfold impl_entryOk.f entOk
  simp only [impl_within_eq, Option.bind_some]
  cases h1 : within (a.size : Int) 1 40 with
  | false => simp
  | true =>
    rw [if_pos rfl]
    by_cases h3 : (b.size : Int) ≤ 200
    · rw [if_pos h3, decide_eq_true h3]
      cases g with
      | false => simp
      | true =>
        rw [if_pos rfl]
        by_cases h4 : b.toList = ([] : List UInt8)
        · rw [if_pos h4]; simp [h4]
        · rw [if_neg h4]; simp [h4]
    · rw [if_neg h3, decide_eq_false h3]; simp
theorem impl_EntriesOk_l0_ev (xs : List S31) (hl : xs.length ≤ 1000000000000000000) : ∀ (bs : List S31) (i : Nat), xs.drop i = bs → Ev (fun k => impl_EntriesOk.l0 k xs xs (xs.length : Int) i) (okL (prev xs i) bs)
  | [], i, hd => by
    have := drop_nil hd
    refine Ev.step (f := fun _ => some true) (fun k => ?_) (Ev.now _)
    simp only [impl_EntriesOk.l0]
    rw [if_neg (by omega)]
  | e :: bs, i, hd => by
    obtain ⟨h2, h3, h4⟩ := drop_cons hd
    have e1 : rd_T31 xs (i : Int) = e := getD_at h4
    have ih := impl_EntriesOk_l0_ev xs hl bs (i + 1) h3
    rw [prev_succ h4] at ih
    refine Ev.step (f := fun k => (impl_entryOk.f e.f0 e.f1 e.f2 e.f3).bind fun t127 => (if t127 = true then (if (i : Int) > 0 then ((impl_byOrder.f k (rd_T31 xs (wrap64 ((i : Int) - 1))).f0 (rd_T31 xs (wrap64 ((i : Int) - 1))).f1 (rd_T31 xs (wrap64 ((i : Int) - 1))).f2 (rd_T31 xs (wrap64 ((i : Int) - 1))).f3 e.f0 e.f1 e.f2 e.f3).bind fun t130 => (if t130 ≥ 0 then (some false) else (impl_EntriesOk.l0 k xs xs (xs.length : Int) ((i + 1 : Nat) : Int)))) else (impl_EntriesOk.l0 k xs xs (xs.length : Int) ((i + 1 : Nat) : Int))) else (some false))) (fun k => ?_) (Ev.bind (impl_entryOk_ev e) ?_)
    · simp only [impl_EntriesOk.l0]
      rw [if_pos (by omega), if_pos (by omega), if_pos (by omega), e1, w64s (by omega)]
      by_cases hi : (i : Int) > 0
      · simp only [if_pos hi, if_pos (show (0 : Int) ≤ wrap64 ((i : Int) - 1) by rw [w64 (by omega) (by omega)]; omega), if_pos (show wrap64 ((i : Int) - 1) < (xs.length : Int) by rw [w64 (by omega) (by omega)]; omega)]
      · simp only [if_neg hi]
    · unfold okL
      cases he : entOk e with
      | false => exact evNeg (by simp) (Ev.now _)
      | true =>
        refine evPos rfl ?_
        rw [Bool.true_and]
        by_cases hi : i = 0
        · subst hi
          refine evNeg (by omega) (evEq ih ?_)
          simp [prev]
        · obtain ⟨q, hq⟩ : ∃ q, xs[i - 1]? = some q := ⟨_, List.getElem?_eq_getElem (by omega)⟩
          have e2 : rd_T31 xs (wrap64 ((i : Int) - 1)) = q := by
            rw [w64 (by omega) (by omega), show (i : Int) - 1 = ((i - 1 : Nat) : Int) by omega]
            exact getD_at hq
          refine evPos (by omega) ?_
          rw [e2]
          refine Ev.bind (impl_byOrder_ev q e) ?_
          simp only [prev, if_neg hi, hq]
          have hb := byOrder_ahead q e
          cases ha : ahead q e with
          | false =>
            rw [ha] at hb
            exact evPos (of_decide_eq_true hb) (Ev.now _)
          | true =>
            rw [ha] at hb
            exact evNeg (of_decide_eq_false hb) (evEq ih (by rw [Bool.true_and]))
theorem impl_EntriesOk_ev (xs : List S31) : Ev (fun k => impl_EntriesOk.f k xs) (entriesOk xs) := by
  simp only [impl_EntriesOk.f]
  unfold entriesOk
  by_cases h : (xs.length : Int) > 300
  · rw [decide_eq_false (by omega)]; exact evPos h (Ev.now _)
  · rw [decide_eq_true (by omega), Bool.true_and]
    exact evNeg h (impl_EntriesOk_l0_ev xs (by omega) xs 0 rfl)

def sameE (a b : S31) : Bool := decide (a.f0.toList = b.f0.toList) && decide (a.f2 = b.f2)
/-- An entry into a list in order. -/
def insE (xs : List S31) (e : S31) : List S31 := xs.takeWhile (fun x => ahead x e) ++ e :: xs.dropWhile (fun x => ahead x e)
def put (xs : List S31) (e : S31) : List S31 × Bool :=
  if entriesOk xs = true ∧ entOk e = true ∧ xs.length ≠ 300 ∧ xs.any (fun x => sameE x e) = false then (insE xs e, true) else ([], false)
theorem insE_length (xs : List S31) (e : S31) : (insE xs e).length = xs.length + 1 := by
  have h := congrArg List.length (List.takeWhile_append_dropWhile (p := fun x => ahead x e) (l := xs))
  rw [List.length_append] at h
  unfold insE
  rw [List.length_append, List.length_cons]
  omega
theorem insE_cons_pos {x e : S31} {xs : List S31} (h : ahead x e = true) : insE (x :: xs) e = x :: insE xs e := by
  unfold insE
  rw [List.takeWhile_cons_of_pos (p := fun x => ahead x e) h, List.dropWhile_cons_of_pos (p := fun x => ahead x e) h]
  rfl
theorem insE_cons_neg {x e : S31} {xs : List S31} (h : ahead x e = false) : insE (x :: xs) e = e :: x :: xs := by
  unfold insE
  have h' : ¬ ahead x e = true := by rw [h]; exact Bool.false_ne_true
  rw [List.takeWhile_cons_of_neg (p := fun x => ahead x e) h', List.dropWhile_cons_of_neg (p := fun x => ahead x e) h']
  rfl
theorem put_le (xs : List S31) (e : S31) : (put xs e).1.length ≤ 301 := by
  unfold put
  split
  · rename_i h
    have := entriesOk_len h.1
    simp only [insE_length]
    omega
  · simp
theorem spec_l3Put_l0_val (xs : List S31) (hl : xs.length ≤ 1000000) (e : S31) : ∀ (bs : List S31) (i : Nat), xs.drop i = bs → i ≤ xs.length → Ev (fun k => spec_l3Put.l0 k xs i e.f0 e.f1 e.f2 e.f3) (xs.take i ++ insE bs e)
  | [], i, hd, hi => by
    have := drop_nil hd
    have e1 : xs.take i ++ insE [] e = [] ++ xs.take i ++ [e] ++ xs.drop i := by rw [hd]; simp [insE]
    rw [e1]
    refine Ev.step (f := fun _ => some _) (fun k => ?_) (Ev.now _)
    simp only [spec_l3Put.l0]
    rw [if_neg (by omega)]
    simp only [Option.bind_some, Int.toNat_natCast]
    rw [if_pos (by omega), if_pos (by omega), if_pos (by simp; omega), if_pos (by simp; omega), if_pos (by simp; omega)]
  | x :: bs, i, hd, hi => by
    obtain ⟨h2, h3, h4⟩ := drop_cons hd
    have e1 : rd_T31 xs (i : Int) = x := getD_at h4
    have ha := spec_l3Ahead_ev x e
    cases hx : ahead x e with
    | true =>
      rw [hx] at ha
      have ih := spec_l3Put_l0_val xs hl e bs (i + 1) h3 (by omega)
      have e2 : xs.take i ++ insE (x :: bs) e = xs.take (i + 1) ++ insE bs e := by
        rw [insE_cons_pos hx, List.take_add_one, h4]
        simp
      rw [e2]
      exact Ev.step (fun k => by simp only [spec_l3Put.l0]; rw [if_pos (by omega), if_pos (by omega), e1, w64s (by omega)]) (Ev.bind ha (evPos rfl ih))
    | false =>
      rw [hx] at ha
      have e2 : xs.take i ++ insE (x :: bs) e = [] ++ xs.take i ++ [e] ++ xs.drop i := by
        rw [insE_cons_neg hx, hd]
        simp
      rw [e2]
      refine Ev.step (fun k => by simp only [spec_l3Put.l0]; rw [if_pos (by omega), if_pos (by omega), e1]) (Ev.bind ha (evNeg Bool.false_ne_true (evId (fun k => ?_))))
      simp only [Option.bind_some, Int.toNat_natCast]
      rw [if_pos (by omega), if_pos (by simp; omega), if_pos (by simp; omega), if_pos (by simp; omega)]
theorem spec_l3Put_val (xs : List S31) (hl : xs.length ≤ 1000000) (e : S31) : Ev (fun k => spec_l3Put.f k xs e.f0 e.f1 e.f2 e.f3) (insE xs e) := by
  have := spec_l3Put_l0_val xs hl e xs 0 rfl (Nat.zero_le _)
  rw [List.take_zero, List.nil_append] at this
  exact this
theorem spec_Put_l0_ev (xs : List S31) (hl : xs.length ≤ 1000000) (e : S31) : ∀ (bs : List S31) (i : Nat), xs.drop i = bs → Ev (fun k => spec_Put.l0 k xs i e.f0 e.f1 e.f2 e.f3) (if bs.any (fun x => sameE x e) = true then ([], false) else (insE xs e, true))
  | [], i, hd => by
    have := drop_nil hd
    refine Ev.step (f := fun k => (spec_l3Put.f k xs e.f0 e.f1 e.f2 e.f3).bind fun t => some (t, true)) (fun k => ?_) (evEq (Ev.bind (spec_l3Put_val xs hl e) (Ev.now _)) (by simp))
    simp only [spec_Put.l0]
    rw [if_neg (by omega)]
  | x :: bs, i, hd => by
    obtain ⟨h2, h3, h4⟩ := drop_cons hd
    have e1 : rd_T31 xs (i : Int) = x := getD_at h4
    have ih := spec_Put_l0_ev xs hl e bs (i + 1) h3
    rw [List.any_cons]
    by_cases h5 : x.f0.toList = e.f0.toList
    · by_cases h6 : x.f2 = e.f2
      · have hs : sameE x e = true := by simp [sameE, h5, h6]
        rw [hs, Bool.true_or, if_pos rfl]
        refine Ev.step (f := fun _ => some _) (fun k => ?_) (Ev.now _)
        simp only [spec_Put.l0]
        rw [if_pos (by omega), if_pos (by omega), e1, if_pos h5, if_pos h6]
      · have hs : sameE x e = false := by simp [sameE, h6]
        rw [hs, Bool.false_or]
        refine Ev.step (fun k => ?_) ih
        simp only [spec_Put.l0]
        rw [if_pos (by omega), if_pos (by omega), e1, if_pos h5, if_neg h6, w64s (by omega)]
    · have hs : sameE x e = false := by simp [sameE, h5]
      rw [hs, Bool.false_or]
      refine Ev.step (fun k => ?_) ih
      simp only [spec_Put.l0]
      rw [if_pos (by omega), if_pos (by omega), e1, if_neg h5, w64s (by omega)]
theorem spec_Put_ev (xs : List S31) (e : S31) : Ev (fun k => spec_Put.f k xs e.f0 e.f1 e.f2 e.f3) (put xs e) := by
  simp only [spec_Put.f]
  refine Ev.bind (spec_EntriesOk_ev xs) ?_
  unfold put
  have bad : Ev (fun k => spec_Put.j0 k xs true e.f0 e.f1 e.f2 e.f3) ([], false) := Ev.step (fun k => by simp only [spec_Put.j0]; exact rfl) (evPos trivial (Ev.now _))
  by_cases h1 : entriesOk xs = true
  · refine evPos h1 (Ev.bind (spec_l3Entry_ev e) ?_)
    by_cases h2 : entOk e = true
    · refine evPos h2 ?_
      by_cases h3 : (xs.length : Int) = 300
      · rw [if_neg (fun h => h.2.2.1 (by omega))]
        refine evEq (Ev.step (fun k => by simp only [spec_Put.j0]; exact rfl) (evPos (beq_iff_eq.mpr h3) (Ev.now _))) rfl
      · have hl := entriesOk_len h1
        refine Ev.step (fun k => by simp only [spec_Put.j0]; exact rfl) (evNeg (by simpa using h3) (evEq (spec_Put_l0_ev xs (by omega) e xs 0 rfl) ?_))
        cases h4 : xs.any (fun x => sameE x e) with
        | true => rw [if_pos rfl, if_neg (fun h => by cases h.2.2.2)]
        | false => rw [if_neg Bool.false_ne_true, if_pos ⟨h1, h2, fun h => h3 (by omega), rfl⟩]
    · rw [if_neg (fun h => h2 h.2.1)]; exact evNeg h2 bad
  · rw [if_neg (fun h => h1 h.1)]; exact evNeg h1 bad
theorem byOrder_neg (a b : S31) : byOrder a b < 0 ↔ ahead a b = true := by
  have h := byOrder_ahead a b
  cases h2 : ahead a b with
  | true =>
    rw [h2] at h
    have := of_decide_eq_false h
    constructor
    · intro _; rfl
    · intro _; omega
  | false =>
    rw [h2] at h
    have := of_decide_eq_true h
    constructor
    · intro h3; omega
    · intro h3; cases h3
theorem byOrder_zero (a b : S31) : (byOrder a b == 0) = sameE a b := by
  unfold byOrder sameE ordS ordI
  cases h1 : Op.bytesLess a.f0.toList b.f0.toList with
  | true =>
    have : a.f0.toList ≠ b.f0.toList := fun h => by rw [h, less_irrefl] at h1; cases h1
    simp [this]
  | false =>
    cases h2 : Op.bytesLess b.f0.toList a.f0.toList with
    | true =>
      have : a.f0.toList ≠ b.f0.toList := fun h => by rw [h, less_irrefl] at h2; cases h2
      simp [this]
    | false =>
      have := less_tri _ _ h1 h2
      simp only [Bool.false_eq_true, if_false, if_true, this, decide_true, Bool.true_and]
      by_cases h3 : b.f2 < a.f2
      · rw [if_pos h3, decide_eq_false (show ¬ a.f2 = b.f2 by omega)]; decide
      · rw [if_neg h3]
        by_cases h4 : b.f2 > a.f2
        · rw [if_pos h4, decide_eq_false (show ¬ a.f2 = b.f2 by omega)]; decide
        · rw [if_neg h4, decide_eq_true (show a.f2 = b.f2 by omega)]; decide
theorem ahead_irrefl {a b : S31} (h : sameE a b = true) : ahead a b = false := by
  simp only [sameE, Bool.and_eq_true, decide_eq_true_eq] at h
  cases h1 : ahead a b with
  | false => rfl
  | true => have := ahead_same h1 h.1; omega
theorem ahead_congr {a b c : S31} (h : sameE b c = true) (k : ahead a b = true) : ahead a c = true := by
  simp only [sameE, Bool.and_eq_true, decide_eq_true_eq] at h
  rw [ahead_iff] at k ⊢
  rw [h.1, h.2] at k
  exact k
/-- How many are ahead of it. -/
def place (xs : List S31) (e : S31) : Nat := (xs.takeWhile (fun x => ahead x e)).length
theorem place_le (xs : List S31) (e : S31) : place xs e ≤ xs.length := by
  have h := congrArg List.length (List.takeWhile_append_dropWhile (p := fun x => ahead x e) (l := xs))
  rw [List.length_append] at h
  unfold place
  omega
theorem place_iff : ∀ (xs : List S31) (e : S31), xs.Pairwise (fun a b => ahead a b = true) → ∀ (h : Nat) (x : S31), xs[h]? = some x → (ahead x e = true ↔ h < place xs e)
  | [], e, _, h, x, hx => by simp at hx
  | y :: xs, e, hp, h, x, hx => by
    obtain ⟨p1, p2⟩ := List.pairwise_cons.1 hp
    unfold place
    cases hy : ahead y e with
    | true =>
      rw [List.takeWhile_cons_of_pos (p := fun x => ahead x e) hy, List.length_cons]
      cases h with
      | zero =>
        obtain rfl : y = x := by simpa using hx
        exact ⟨fun _ => by omega, fun _ => hy⟩
      | succ h =>
        have := place_iff xs e p2 h x (by simpa using hx)
        unfold place at this
        rw [this]
        omega
    | false =>
      rw [List.takeWhile_cons_of_neg (p := fun x => ahead x e) (by show ¬ ahead y e = true; rw [hy]; exact Bool.false_ne_true), List.length_nil]
      refine ⟨fun hxe => ?_, fun h => by omega⟩
      exfalso
      cases h with
      | zero =>
        obtain rfl : y = x := by simpa using hx
        rw [hy] at hxe; cases hxe
      | succ h =>
        have hm : x ∈ xs := List.mem_of_getElem? (show xs[h]? = some x by simpa using hx)
        have := ahead_trans (p1 x hm) hxe
        rw [hy] at this; cases this
theorem place_any {xs : List S31} {e : S31} (hp : xs.Pairwise (fun a b => ahead a b = true)) : xs.any (fun x => sameE x e) = (match xs[place xs e]? with | some x => sameE x e | none => false) := by
  cases ha : xs.any (fun x => sameE x e) with
  | true =>
    obtain ⟨x, hx, hs⟩ := List.any_eq_true.1 ha
    obtain ⟨j, hj⟩ := List.getElem?_of_mem hx
    have h1 : ¬ j < place xs e := fun h => by
      have := (place_iff xs e hp j x hj).2 h
      rw [ahead_irrefl hs] at this; cases this
    have h2 : ¬ place xs e < j := fun h => by
      have hjl := (List.getElem?_eq_some_iff.1 hj).1
      have hpl : place xs e < xs.length := by omega
      have h3 : ahead xs[place xs e] x = true := by
        have h4 := List.pairwise_iff_getElem.1 hp (place xs e) j hpl hjl h
        rw [(List.getElem?_eq_some_iff.1 hj).2] at h4
        exact h4
      have := (place_iff xs e hp (place xs e) _ (List.getElem?_eq_getElem hpl)).1 (ahead_congr hs h3)
      omega
    have h3 : place xs e = j := by omega
    rw [h3, hj]
    exact hs.symm
  | false =>
    cases hx : xs[place xs e]? with
    | none => rfl
    | some x =>
      have := List.any_eq_false.1 ha x (List.mem_of_getElem? hx)
      cases hs : sameE x e with
      | false => simp [hs]
      | true => exact absurd hs this
theorem insE_place (xs : List S31) (e : S31) : insE xs e = xs.take (place xs e) ++ e :: xs.drop (place xs e) := by
  have h := List.takeWhile_append_dropWhile (p := fun x => ahead x e) (l := xs)
  unfold insE place
  congr 1
  · conv => rhs; rw [← h]
    rw [List.take_left' (by rw [h])]
  · congr 1
    conv => rhs; rw [← h]
    rw [List.drop_left' (by rw [h])]
theorem half_eq (a b : Nat) (h : a + b ≤ 1000000000000000) : wrap64 ((IntKind.u64.wrap (wrap64 ((a : Int) + (b : Int)))) / 2) = (((a + b) / 2 : Nat) : Int) := by
  rw [w64 (x := (a : Int) + (b : Int)) (by omega) (by omega), IntKind.wrap_u64, w64 (by omega) (by omega)]
  omega
theorem bsearch_l0_ev (xs : List S31) (hl : xs.length ≤ 1000000) (e : S31) (hp : xs.Pairwise (fun a b => ahead a b = true)) : ∀ (d i j : Nat), j - i ≤ d → i ≤ place xs e → place xs e ≤ j → j ≤ xs.length →
    Ev (fun k => slices_BinarySearchFunc_Entry.l0 k xs (xs.length : Int) (i : Int) (j : Int) e.f0 e.f1 e.f2 e.f3) ((place xs e : Int), xs.any (fun x => sameE x e)) := by
  intro d
  induction d with
  | zero =>
    intro i j hd h1 h2 h3
    obtain rfl : i = place xs e := by omega
    obtain rfl : j = place xs e := by omega
    rw [place_any hp]
    by_cases hb : place xs e < xs.length
    · have hx := List.getElem?_eq_getElem hb
      have e1 : rd_T31 xs (place xs e : Int) = xs[place xs e] := getD_at hx
      refine Ev.step (f := fun k => (impl_byOrder.f k xs[place xs e].f0 xs[place xs e].f1 xs[place xs e].f2 xs[place xs e].f3 e.f0 e.f1 e.f2 e.f3).bind fun t => some ((place xs e : Int), (t == 0))) (fun k => ?_) (Ev.bind (impl_byOrder_ev _ e) (evEq (Ev.now _) ?_))
      · simp only [slices_BinarySearchFunc_Entry.l0]
        rw [if_neg (by omega), if_pos (by omega), if_pos (by omega), if_pos (by omega), e1]
      · rw [byOrder_zero, hx]
    · refine Ev.step (f := fun _ => some _) (fun k => ?_) (Ev.now _)
      simp only [slices_BinarySearchFunc_Entry.l0]
      rw [if_neg (by omega), if_neg (by omega), List.getElem?_eq_none (by omega)]
  | succ d ih =>
    intro i j hd h1 h2 h3
    by_cases hij : i < j
    · have hm := half_eq i j (by omega)
      have hx := List.getElem?_eq_getElem (show (i + j) / 2 < xs.length by omega)
      have e1 : rd_T31 xs (((i + j) / 2 : Nat) : Int) = xs[(i + j) / 2] := getD_at hx
      have hpi := place_iff xs e hp _ _ hx
      refine Ev.step (fun k => by simp only [slices_BinarySearchFunc_Entry.l0]; rw [if_pos (by omega), hm, if_pos (by omega), if_pos (by omega), e1]) (Ev.bind (impl_byOrder_ev _ e) ?_)
      by_cases hlt : byOrder xs[(i + j) / 2] e < 0
      · have h5 := hpi.1 ((byOrder_neg _ _).1 hlt)
        refine evPos hlt ?_
        rw [w64s (by omega)]
        exact ih _ _ (by omega) (by omega) h2 h3
      · have h5 : ¬ (i + j) / 2 < place xs e := fun h => hlt ((byOrder_neg _ _).2 (hpi.2 h))
        exact evNeg hlt (ih _ _ (by omega) h1 (by omega) (by omega))
    · have := ih i j (by omega) h1 h2 h3
      exact this
theorem impl_Put_ev (xs : List S31) (e : S31) : Ev (fun k => impl_Put.f k xs e.f0 e.f1 e.f2 e.f3) (put xs e) := by
  simp only [impl_Put.f]
  refine Ev.bind (impl_EntriesOk_ev xs) ?_
  unfold put
  by_cases h1 : entriesOk xs = true
  · refine evPos h1 (Ev.bind (impl_entryOk_ev e) ?_)
    by_cases h2 : entOk e = true
    · refine evPos h2 ?_
      by_cases h3 : (xs.length : Int) = 300
      · rw [if_neg (fun h => h.2.2.1 (by omega))]; exact evPos h3 (Ev.now _)
      · refine evNeg h3 ?_
        obtain ⟨hl, _, hp⟩ := entriesOk_pair h1
        have hbs := bsearch_l0_ev xs (by omega) e hp xs.length 0 xs.length (by omega) (by omega) (place_le xs e) (by omega)
        have hpl := place_le xs e
        simp only [impl_put.f, slices_BinarySearchFunc_Entry.f]
        cases h4 : xs.any (fun x => sameE x e) with
        | true =>
          rw [h4] at hbs
          rw [if_neg (fun h => by cases h.2.2.2)]
          exact Ev.bind (Ev.bind hbs (evPos rfl (Ev.now _))) (Ev.now _)
        | false =>
          rw [h4] at hbs
          rw [if_pos ⟨h1, h2, fun h => h3 (by omega), rfl⟩]
          refine Ev.bind (Ev.bind hbs (evNeg Bool.false_ne_true (evPos ⟨by omega, by omega, by omega⟩ (Ev.now _)))) (evEq (Ev.now _) ?_)
          simp only [Int.toNat_natCast]
          rw [insE_place]
    · rw [if_neg (fun h => h2 h.2.1)]; exact evNeg h2 (Ev.now _)
  · rw [if_neg (fun h => h1 h.1)]; exact evNeg h1 (Ev.now _)

def seenL (key : ByteArray) (q : Int) : List S31 → Option S31
  | [] => none
  | e :: es => if e.f0.toList = key.toList ∧ e.f2 ≤ q then some e else seenL key q es
/-- What is told of an entry that is there or not: its parts, and whether. -/
def toldE : Option S31 → ByteArray × ByteArray × Int × Bool × Bool
  | none => ((⟨#[]⟩ : ByteArray), (⟨#[]⟩ : ByteArray), 0, false, false)
  | some e => (e.f0, e.f1, e.f2, e.f3, true)
theorem spec_l3Seen_l0_ev (xs : List S31) (hl : xs.length ≤ 1000000000000000000) (key : ByteArray) (q : Int) : ∀ (bs : List S31) (i : Nat), xs.drop i = bs → Ev (fun k => spec_l3Seen.l0 k xs key q i) (toldE (seenL key q bs))
  | [], i, hd => by
    have := drop_nil hd
    refine Ev.step (f := fun _ => some _) (fun k => ?_) (Ev.now _)
    simp only [spec_l3Seen.l0]
    rw [if_neg (by omega)]
    rfl
  | e :: bs, i, hd => by
    obtain ⟨h2, h3, h4⟩ := drop_cons hd
    have e1 : rd_T31 xs (i : Int) = e := getD_at h4
    unfold seenL
    by_cases h : e.f0.toList = key.toList ∧ e.f2 ≤ q
    · rw [if_pos h]
      refine Ev.step (f := fun _ => some _) (fun k => ?_) (Ev.now _)
      simp only [spec_l3Seen.l0]
      rw [if_pos (by omega), if_pos (by omega), e1, if_pos h.1, if_pos h.2]
      rfl
    · rw [if_neg h]
      refine Ev.step (f := fun k => spec_l3Seen.l0 k xs key q ((i + 1 : Nat) : Int)) (fun k => ?_) (spec_l3Seen_l0_ev xs hl key q bs (i + 1) h3)
      simp only [spec_l3Seen.l0]
      rw [if_pos (by omega), if_pos (by omega), e1, w64s (by omega)]
      by_cases h5 : e.f0.toList = key.toList
      · rw [if_pos h5, if_neg (fun h6 => h ⟨h5, h6⟩)]
      · rw [if_neg h5]
theorem spec_l3Seen_ev (xs : List S31) (hl : xs.length ≤ 1000000000000000000) (key : ByteArray) (q : Int) : Ev (fun k => spec_l3Seen.f k xs key q) (toldE (seenL key q xs)) :=
  spec_l3Seen_l0_ev xs hl key q xs 0 rfl
theorem seenL_some {key : ByteArray} {q : Int} : ∀ {xs : List S31} {e : S31}, seenL key q xs = some e → e ∈ xs ∧ e.f0.toList = key.toList ∧ e.f2 ≤ q
  | x :: xs, e, h => by
    unfold seenL at h
    by_cases hx : x.f0.toList = key.toList ∧ x.f2 ≤ q
    · rw [if_pos hx] at h
      obtain rfl := Option.some.inj h
      exact ⟨List.mem_cons_self, hx⟩
    · rw [if_neg hx] at h
      obtain ⟨h1, h2⟩ := seenL_some h
      exact ⟨List.mem_cons_of_mem _ h1, h2⟩
theorem okL_of_pair : ∀ (xs : List S31) (p : Option S31), (∀ e ∈ xs, entOk e = true) → (∀ q, p = some q → ∀ e ∈ xs, ahead q e = true) → xs.Pairwise (fun a b => ahead a b = true) → okL p xs = true
  | [], _, _, _, _ => by unfold okL; rfl
  | x :: xs, p, h1, h2, h3 => by
    unfold okL
    obtain ⟨h4, h5⟩ := List.pairwise_cons.1 h3
    rw [h1 x List.mem_cons_self, okL_of_pair xs (some x) (fun e he => h1 e (List.mem_cons_of_mem _ he)) (fun q hq e he => by cases hq; exact h4 e he) h5]
    cases p with
    | none => rfl
    | some q => simp only [h2 q rfl x List.mem_cons_self]; rfl
def seen (xs : List S31) (key : ByteArray) (q : Int) : Option S31 := if entriesOk xs = true then seenL key q xs else none
theorem spec_Seen_ev (xs : List S31) (key : ByteArray) (q : Int) : Ev (fun k => spec_Seen.f k xs key q) (toldE (seen xs key q)) := by
  simp only [spec_Seen.f]
  refine Ev.bind (spec_EntriesOk_ev xs) ?_
  unfold seen
  by_cases h : entriesOk xs = true
  · rw [if_pos h]
    have hl : xs.length ≤ 300 := by
      unfold entriesOk at h
      simp only [Bool.and_eq_true, decide_eq_true_eq] at h
      exact h.1
    exact evPos h (Ev.bind (spec_l3Seen_ev xs (by omega) key q) (Ev.now _))
  · rw [if_neg h]
    exact evNeg h (Ev.now _)

theorem ahead_total {a b : S31} (h : ahead a b = false) (k : sameE a b = false) : ahead b a = true := by
  rw [ahead_iff]
  cases h1 : Op.bytesLess b.f0.toList a.f0.toList with
  | true => exact Or.inl rfl
  | false =>
    cases h2 : Op.bytesLess a.f0.toList b.f0.toList with
    | true =>
      have : ahead a b = true := ahead_iff.2 (Or.inl h2)
      rw [h] at this; cases this
    | false =>
      have e := less_tri _ _ h2 h1
      refine Or.inr ⟨e.symm, ?_⟩
      by_cases h3 : b.f2 < a.f2
      · have : ahead a b = true := ahead_iff.2 (Or.inr ⟨e, h3⟩)
        rw [h] at this; cases this
      · by_cases h4 : a.f2 = b.f2
        · have : sameE a b = true := by simp [sameE, e, h4]
          rw [k] at this; cases this
        · omega
theorem insE_pair {xs : List S31} {e : S31} (hp : xs.Pairwise (fun a b => ahead a b = true)) (ha : xs.any (fun x => sameE x e) = false) : (insE xs e).Pairwise (fun a b => ahead a b = true) := by
  induction xs with
  | nil => exact List.pairwise_singleton _ _
  | cons x xs ih =>
    obtain ⟨h1, h2⟩ := List.pairwise_cons.1 hp
    rw [List.any_cons, Bool.or_eq_false_iff] at ha
    cases hx : ahead x e with
    | true =>
      rw [insE_cons_pos hx]
      refine List.Pairwise.cons (fun y hy => ?_) (ih h2 ha.2)
      unfold insE at hy
      rcases List.mem_append.1 hy with hy | hy
      · exact h1 y ((List.takeWhile_sublist _).subset hy)
      · rcases List.mem_cons.1 hy with rfl | hy
        · exact hx
        · exact h1 y ((List.dropWhile_sublist _).subset hy)
    | false =>
      rw [insE_cons_neg hx]
      have hex := ahead_total hx ha.1
      refine List.Pairwise.cons (fun y hy => ?_) hp
      rcases List.mem_cons.1 hy with rfl | hy
      · exact hex
      · exact ahead_trans hex (h1 y hy)
theorem insE_mem {xs : List S31} {e y : S31} : y ∈ insE xs e ↔ y = e ∨ y ∈ xs := by
  have h := List.takeWhile_append_dropWhile (p := fun x => ahead x e) (l := xs)
  have h2 : y ∈ xs ↔ y ∈ xs.takeWhile (fun x => ahead x e) ∨ y ∈ xs.dropWhile (fun x => ahead x e) := by
    conv => lhs; rw [← h]
    exact List.mem_append
  unfold insE
  rw [List.mem_append, List.mem_cons, h2]
  constructor
  · rintro (h | h | h) <;> simp [h]
  · rintro (h | h | h) <;> simp [h]
theorem insE_ok {xs : List S31} {e : S31} (h1 : entriesOk xs = true) (h2 : entOk e = true) (h3 : xs.length ≠ 300) (h4 : xs.any (fun x => sameE x e) = false) : entriesOk (insE xs e) = true := by
  obtain ⟨k1, k2, k3⟩ := entriesOk_pair h1
  unfold entriesOk
  rw [decide_eq_true (by rw [insE_length]; omega), okL_of_pair _ none (fun y hy => ?_) (fun _ h => by cases h) (insE_pair k3 h4)]
  · rfl
  · rcases insE_mem.1 hy with rfl | hy
    · exact h2
    · exact k2 y hy
/-- Each of a list in order is seen at its own number. -/
theorem seenL_self : ∀ (xs : List S31), xs.Pairwise (fun a b => ahead a b = true) → ∀ x ∈ xs, seenL x.f0 x.f2 xs = some x
  | [], _, x, hx => by cases hx
  | y :: xs, hp, x, hx => by
    obtain ⟨h1, h2⟩ := List.pairwise_cons.1 hp
    unfold seenL
    rcases List.mem_cons.1 hx with rfl | hx
    · rw [if_pos ⟨rfl, Int.le_refl _⟩]
    · rw [if_neg (fun h => by have := ahead_same (h1 x hx) h.1; omega)]
      exact seenL_self xs h2 x hx
theorem seen_self {xs : List S31} (h : entriesOk xs = true) {x : S31} (hx : x ∈ xs) : seen xs x.f0 x.f2 = some x := by
  unfold seen
  rw [if_pos h]
  exact seenL_self xs (entriesOk_pair h).2.2 x hx

theorem impl_seen_l0_ev (xs : List S31) (hl : xs.length ≤ 1000000000000000000) (key : ByteArray) (q : Int) : ∀ (bs : List S31) (i : Nat), xs.drop i = bs → Ev (fun k => impl_seen.l0 k key q xs (xs.length : Int) i) (toldE (seenL key q bs))
  | [], i, hd => by
    have := drop_nil hd
    refine Ev.step (f := fun _ => some _) (fun k => ?_) (Ev.now _)
    simp only [impl_seen.l0]
    rw [if_neg (by omega)]
    rfl
  | e :: bs, i, hd => by
    obtain ⟨h2, h3, h4⟩ := drop_cons hd
    have e1 : rd_T31 xs (i : Int) = e := getD_at h4
    unfold seenL
    by_cases h : e.f0.toList = key.toList ∧ e.f2 ≤ q
    · rw [if_pos h]
      refine Ev.step (f := fun _ => some _) (fun k => ?_) (Ev.now _)
      simp only [impl_seen.l0]
      rw [if_pos (by omega), if_pos (by omega), if_pos (by omega), e1, if_pos h.1, if_pos h.2]
      rfl
    · rw [if_neg h]
      refine Ev.step (f := fun k => impl_seen.l0 k key q xs (xs.length : Int) ((i + 1 : Nat) : Int)) (fun k => ?_) (impl_seen_l0_ev xs hl key q bs (i + 1) h3)
      simp only [impl_seen.l0]
      rw [if_pos (by omega), if_pos (by omega), if_pos (by omega), e1, w64s (by omega)]
      by_cases h5 : e.f0.toList = key.toList
      · rw [if_pos h5, if_neg (fun h6 => h ⟨h5, h6⟩)]
      · rw [if_neg h5]
theorem impl_seen_ev (xs : List S31) (hl : xs.length ≤ 1000000000000000000) (key : ByteArray) (q : Int) : Ev (fun k => impl_seen.f k xs key q) (toldE (seenL key q xs)) :=
  impl_seen_l0_ev xs hl key q xs 0 rfl
theorem impl_Seen_ev (xs : List S31) (key : ByteArray) (q : Int) : Ev (fun k => impl_Seen.f k xs key q) (toldE (seen xs key q)) := by
  simp only [impl_Seen.f]
  refine Ev.bind (impl_EntriesOk_ev xs) ?_
  unfold seen
  by_cases h : entriesOk xs = true
  · rw [if_pos h]
    have hl := entriesOk_len h
    exact evPos h (Ev.bind (impl_seen_ev xs (by omega) key q) (Ev.now _))
  · rw [if_neg h]
    exact evNeg h (Ev.now _)

theorem laws_likeEntries_self (xs : List S31) (hl : xs.length ≤ 1000000000000000000) : Ev (fun k => laws_likeEntries.f k xs xs) true := by
  simp only [laws_likeEntries.f]
  refine evPos trivial (self_loop laws_likeEntries.l0 (fun k xs i h => by simp only [laws_likeEntries.l0]; rw [if_neg (by omega)]) (fun k xs i a hi ha h1 => ?_) xs hl)
  simp only [laws_likeEntries.l0]
  rw [if_pos (by omega), if_pos (by omega), if_pos (by omega), if_neg (by simp), w64s (by omega)]

theorem laws_FnPut_l0_ev (xs ys : List S31) (hl : xs.length ≤ 1000000) (hok : entriesOk ys = true) (hsub : ∀ x ∈ xs, x ∈ ys) : ∀ (bs : List S31) (i : Nat), xs.drop i = bs → Ev (fun k => laws_FnPut.l0 k xs ys (i : Int)) true
  | [], i, hd => by
    have := drop_nil hd
    refine Ev.step (f := fun _ => some _) (fun k => ?_) (Ev.now _)
    simp only [laws_FnPut.l0]
    rw [if_neg (by omega)]
  | x :: bs, i, hd => by
    obtain ⟨h2, h3, h4⟩ := drop_cons hd
    have e1 : rd_T31 xs (i : Int) = x := getD_at h4
    have ih := laws_FnPut_l0_ev xs ys hl hok hsub bs (i + 1) h3
    have hs := impl_Seen_ev ys x.f0 x.f2
    rw [seen_self hok (hsub x (List.mem_of_getElem? h4))] at hs
    refine Ev.step (fun k => by simp only [laws_FnPut.l0]; rw [if_pos (by omega), if_pos (by omega), e1, w64s (by omega)]) (Ev.bind hs (evPos rfl (evNeg ?_ ih)))
    simp [toldE]
theorem FnPut (l : List Int) (hl : l.length ≤ maxLen) (hw : ∀ e ∈ l, (Lit.int .u8 e).wf = true) : ∃ k, laws_FnPut.f k l = some true := by
  refine Ev.rounds (g := fun k => laws_FnPut.f k l) ?_
  simp only [laws_FnPut.f]
  refine Ev.bind (evId (fun _ => rfl)) ?_
  by_cases hb : (l.length : Int) > 4096
  · exact evPos (decide_eq_true hb) (Ev.now _)
  refine evNeg (by simpa using hb) ?_
  have hl2 : l.length ≤ 1000000000000000000 := by omega
  -- what is drawn
  have hd1 : ∃ (xs : List S31) (e : S31), Ev (fun k => spec_DrawPut.f k l) (xs, e.f0, e.f1, e.f2, e.f3) ∧ xs.length ≤ 1000 := by
    obtain ⟨h, hn⟩ := spec_l1New_ev l hl2
    obtain ⟨xs, i1, h1, hxs, hxl, hi1⟩ := spec_l3DrawAny_ev l hl2 0 h (Int.le_refl _)
    obtain ⟨x, i2, h2, e2, x0, x1, hi2⟩ := spec_l1Below_eq l hl2 i1 h1 hi1 25
    obtain ⟨e, i3, h3, he, hi3⟩ := spec_l3DrawEntry_ev l hl2 i2 h2 hi2 (wrap64 (1 + x))
    obtain ⟨g, i4, h4, e4, hi4⟩ := spec_l1Once_eq l hl2 i3 h3 hi3 12
    simp only [spec_DrawPut.f]
    cases g with
    | false => exact ⟨xs, e, Ev.bind hn (Ev.bind hxs (Ev.bind (evId (fun _ => e2)) (Ev.bind he (Ev.bind (evId (fun _ => e4)) (evNeg Bool.false_ne_true (Ev.now _)))))), hxl⟩
    | true =>
      obtain ⟨y, i5, h5, e5, y0, y1, hi5⟩ := spec_l1Below_eq l hl2 i4 h4 hi4 3
      have hy := y1 (by decide)
      exact ⟨xs, ⟨e.f0, e.f1, rd [0, 1000000, 1000001] y, e.f3⟩, Ev.bind hn (Ev.bind hxs (Ev.bind (evId (fun _ => e2)) (Ev.bind he (Ev.bind (evId (fun _ => e4)) (evPos rfl (Ev.bind (evId (fun _ => rfl)) (Ev.bind (evId (fun _ => e5)) (evPos y0 (evPos (by simpa using hy) (Ev.now _)))))))))), hxl⟩
  have hd2 : ∃ (ms : List S31) (key : ByteArray) (q : Int), Ev (fun k => spec_DrawSeen.f k l) (ms, key, q) := by
    obtain ⟨h, hn⟩ := spec_l1New_ev l hl2
    obtain ⟨xs, i1, h1, hxs, hxl, hi1⟩ := spec_l3DrawAny_ev l hl2 0 h (Int.le_refl _)
    obtain ⟨s, i2, h2, e2, hi2⟩ := spec_l3DrawKey_eq l hl2 i1 h1 hi1
    obtain ⟨x, i3, h3, e3, x0, x1, hi3⟩ := spec_l1Below_eq l hl2 i2 h2 hi2 (wrap64 ((wrap64 (20 - (-1))) + 1))
    simp only [spec_DrawSeen.f, spec_l1From.f]
    exact ⟨xs, s, wrap64 (-1 + x), Ev.bind hn (Ev.bind hxs (Ev.bind (evId (fun _ => e2)) (Ev.bind (Ev.bind (evId (fun _ => e3)) (Ev.now _)) (Ev.now _))))⟩
  obtain ⟨xs, e, hd1, hxl⟩ := hd1
  obtain ⟨ms, key, q, hd2⟩ := hd2
  have im := impl_Put_ev xs e
  have sp := spec_Put_ev xs e
  have hle := put_le xs e
  have is := impl_Seen_ev ms key q
  have ss := spec_Seen_ev ms key q
  refine Ev.bind hd1 (Ev.bind im (Ev.bind hd2 (Ev.bind is (Ev.bind sp (evNeg ?_ (Ev.bind (laws_likeEntries_self _ (by omega)) (evPos rfl (Ev.bind (impl_EntriesOk_ev xs) (Ev.bind (spec_EntriesOk_ev xs) ?_)))))))))
  · simp
  refine Ev.step (fun k => by simp only [laws_FnPut.j0]; exact rfl) (evNeg (by simp) (Ev.bind ss (evNeg ?_ ?_)))
  · simp
  -- behind what is seen of the second list
  have t5 : Ev (fun k => laws_FnPut.j2 k xs (put xs e).1 (put xs e).2 false e.f0 e.f1 e.f2 e.f3) true := by
    unfold put
    by_cases hc : entriesOk xs = true ∧ entOk e = true ∧ xs.length ≠ 300 ∧ xs.any (fun x => sameE x e) = false
    · rw [if_pos hc]
      obtain ⟨c1, c2, c3, c4⟩ := hc
      have hok := insE_ok c1 c2 c3 c4
      have hs := impl_Seen_ev (insE xs e) e.f0 e.f2
      rw [seen_self hok (insE_mem.2 (Or.inl rfl))] at hs
      have hx := entriesOk_len c1
      have hlen := insE_length xs e
      refine Ev.step (fun k => by simp only [laws_FnPut.j2]; exact rfl) (evNeg Bool.false_ne_true (evPos trivial (Ev.bind hs (evPos rfl (evNeg ?_ (Ev.bind (impl_EntriesOk_ev _) (evPos hok ?_)))))))
      · simp [toldE]
      refine Ev.step (fun k => by simp only [laws_FnPut.j3]; exact rfl) (evNeg (by rw [w64 (by omega) (by omega), hlen]; simp) ?_)
      exact laws_FnPut_l0_ev xs (insE xs e) (by omega) hok (fun x hx => insE_mem.2 (Or.inr hx)) xs 0 rfl
    · rw [if_neg hc]
      refine Ev.step (fun k => by simp only [laws_FnPut.j2]; exact rfl) (evNeg Bool.false_ne_true (evNeg Bool.false_ne_true (evEq (Ev.now _) rfl)))
  refine Ev.step (fun k => by simp only [laws_FnPut.j1]; exact rfl) (evNeg (by simp) ?_)
  have hseen : ∀ x, seen ms key q = some x → x.f0.toList = key.toList ∧ x.f2 ≤ q := fun x h => by
    unfold seen at h
    split at h
    · exact (seenL_some h).2
    · cases h
  generalize seen ms key q = o at hseen
  cases o with
  | none => exact evNeg Bool.false_ne_true t5
  | some x =>
    obtain ⟨k1, k2⟩ := hseen x rfl
    refine evPos rfl (evPos k1 ?_)
    rw [show decide ((toldE (some x)).2.2.1 > q) = false from decide_eq_false (by simp only [toldE]; omega)]
    exact t5
end Go.Proofs.Ytaiggfjkikfcbaa.Pure

/- Proves the plain law behind this statement of the seat (what its functions come to, over numbers and lists): that it answers true. No condition beyond the statement's own. -/
import Derived.Test.YtajidjlbgpaaoaaPFnSeensx
import Derived.Test.YtajidjlbgpaaoaaLib
import Derived.Test.YtajidjlbgpaaoaaLibHit
import Derived.Test.YtajidjlbgpaaoaaLibRow
import Derived.Test.YtajidjlbgpaaoaaLibStr
namespace Go.Proofs.Ytajidjlbgpaaoaa.Pure
open Go Go.RowKit Go.Proofs.Ytajidjlbgpaaoaa.PFnSeens Go.Proofs.YtajidjlbgpaaoaaW.PrintWords Go.Proofs.YtajidjlbgpaaoaaW.PrintLast Go.Proofs.YtajidjlbgpaaoaaW.PrintMore Go.Proofs.Ytajidjlbgpaaoaa.Lib
set_option linter.unusedVariables false
set_option linter.unusedSimpArgs false
theorem and255 (y : Int) : 0 ≤ Go.bits .and .i64 y 255 ∧ Go.bits .and .i64 y 255 ≤ 255 := by
 have e : ((BitVec.ofInt IntKind.i64.bits y) &&& (BitVec.ofInt IntKind.i64.bits 255)).toNat ≤ 255 := by
  rw [BitVec.toNat_and]
  exact Nat.le_trans Nat.and_le_right (by decide)
 have e2 : Go.bits .and .i64 y 255 = (((BitVec.ofInt IntKind.i64.bits y) &&& (BitVec.ofInt IntKind.i64.bits 255)).toNat : Int) := by
  simp only [Go.bits]
  rw [IntKind.wrap_i64]
  generalize ((BitVec.ofInt IntKind.i64.bits y) &&& (BitVec.ofInt IntKind.i64.bits 255)).toNat = n at e ⊢
  omega
 rw [e2]
 generalize ((BitVec.ofInt IntKind.i64.bits y) &&& (BitVec.ofInt IntKind.i64.bits 255)).toNat = n at e ⊢
 omega
theorem spec_l1New_l0_ev (b : List Int) (hl : b.length ≤ 1000000000000000000) : ∀ (bs : List Int) (i : Nat) (h : Int), b.drop i = bs → ∃ h', Ev (fun k => spec_l1New.l0 k b h i) (b, 0, h')
 | [], i, h, hd => by
  have := drop_nil hd
  refine ⟨h, Ev.step (f := fun _ => some _) (fun k => ?_) (Ev.now _)⟩
  simp only [spec_l1New.l0]
  rw [if_neg (by omega)]
 | x :: bs, i, h, hd => by
  obtain ⟨h2, h3, h4⟩ := drop_cons hd
  obtain ⟨h', hh⟩ := spec_l1New_l0_ev b hl bs (i + 1) (Go.bits .and .i64 (wrap64 ((wrap64 ((wrap64 (h * 137)) + (wrap64 (rd b i)))) + 11)) 1073741823) h3
  refine ⟨h', Ev.step (fun k => ?_) hh⟩
  simp only [spec_l1New.l0]
  rw [if_pos (by omega), if_pos (by omega), w64s (by omega)]
theorem spec_l1New_ev (b : List Int) (hl : b.length ≤ 1000000000000000000) : ∃ h, Ev (fun k => spec_l1New.f k b) (b, 0, h) := spec_l1New_l0_ev b hl b 0 _ rfl
theorem spec_l1Byte_eq (b : List Int) (hl : b.length ≤ 1000000000000000000) (i h : Int) (hi : 0 ≤ i) : ∃ x i' h', spec_l1Byte.f b i h = some (x, i', h') ∧ 0 ≤ x ∧ x ≤ 255 ∧ 0 ≤ i' := by
 unfold spec_l1Byte.f
 by_cases hx : i < (b.length : Int)
 ·rw [if_pos hx, if_pos hi]
  refine ⟨_, _, _, rfl, (and255 _).1, (and255 _).2, ?_⟩
  rw [w64 (by omega) (by omega)]
  omega
 ·rw [if_neg hx]
  exact ⟨_, _, _, rfl, (and255 _).1, (and255 _).2, hi⟩
theorem spec_l1Below_eq (b : List Int) (hl : b.length ≤ 1000000000000000000) (i h : Int) (hi : 0 ≤ i) (n : Int) : ∃ x i' h', spec_l1Below.f b i h n = some (x, i', h') ∧ 0 ≤ x ∧ (0 < n → x < n) ∧ 0 ≤ i' := by
 unfold spec_l1Below.f
 by_cases h0 : n ≤ 0
 ·rw [if_pos h0]
  exact ⟨_, _, _, rfl, Int.le_refl _, fun h => absurd h (by omega), hi⟩
 rw [if_neg h0]
 obtain ⟨x, i1, h1, e1, x0, x1, hi1⟩ := spec_l1Byte_eq b hl i h hi
 rw [e1]
 simp only [Option.bind_some]
 have fin : ∀ y : Int, 0 ≤ y → 0 ≤ Int.tmod y n ∧ (0 < n → Int.tmod y n < n) := fun y hy => ⟨Int.tmod_nonneg _ hy, fun hn => Int.tmod_lt_of_pos _ hn⟩
 by_cases h2 : n ≤ 256
 ·rw [if_pos h2, if_neg (by omega)]
  exact ⟨_, _, _, rfl, (fin x x0).1, (fin x x0).2, hi1⟩
 rw [if_neg h2]
 obtain ⟨y, i2, g2, e2, y0, y1, hi2⟩ := spec_l1Byte_eq b hl i1 h1 hi1
 rw [e2]
 simp only [Option.bind_some]
 obtain ⟨z, i3, g3, e3, z0, z1, hi3⟩ := spec_l1Byte_eq b hl i2 g2 hi2
 rw [e3]
 simp only [Option.bind_some]
 obtain ⟨w, i4, g4, e4, w0, w1, hi4⟩ := spec_l1Byte_eq b hl i3 g3 hi3
 rw [e4]
 simp only [Option.bind_some]
 rw [if_neg (by omega)]
 have ee : (wrap64 ((wrap64 ((wrap64 ((wrap64 (x * 16777216)) + (wrap64 (y * 65536)))) + (wrap64 (z * 256)))) + w)) = x * 16777216 + y * 65536 + z * 256 + w := by
  rw [w64 (x := x * 16777216) (by omega) (by omega), w64 (x := y * 65536) (by omega) (by omega), w64 (x := z * 256) (by omega) (by omega), w64 (x := x * 16777216 + y * 65536) (by omega) (by omega), w64 (x := x * 16777216 + y * 65536 + z * 256) (by omega) (by omega), w64 (by omega) (by omega)]
 rw [ee]
 exact ⟨_, _, _, rfl, (fin _ (by omega)).1, (fin _ (by omega)).2, hi4⟩
theorem spec_l1Once_eq (b : List Int) (hl : b.length ≤ 1000000000000000000) (i h : Int) (hi : 0 ≤ i) (n : Int) : ∃ x i' h', spec_l1Once.f b i h n = some (x, i', h') ∧ 0 ≤ i' := by
 obtain ⟨x, i1, h1, e1, _, _, hi1⟩ := spec_l1Below_eq b hl i h hi n
 unfold spec_l1Once.f
 rw [e1]
 exact ⟨_, _, _, rfl, hi1⟩
theorem strOfNums_le (xs : List Int) : (strOfNums xs).size = xs.length := by rw [strOfNums_size]

theorem spec_l1DrawText_l0_ev (b : List Int) (hl : b.length ≤ 1000000000000000000) : ∀ (n : Nat) (acc : List Int) (i h : Int), 0 ≤ i → acc.length + n ≤ 1000 →
  ∃ s i' h', Ev (fun k => spec_l1DrawText.l0 k acc (n : Int) b i h) (s, i', h') ∧ s.size ≤ acc.length + n + 1 ∧ 0 ≤ i'
 | 0, acc, i, h, hi, ha => by
  obtain ⟨x, i1, h1, e1, hi1⟩ := spec_l1Once_eq b hl i h hi 6
  obtain ⟨y, i2, h2, e2, _, _, hi2⟩ := spec_l1Byte_eq b hl i1 h1 hi1
  cases x with
  | true =>
   refine ⟨_, _, _, Ev.step (f := fun _ => some (strOfNums (acc ++ [y % 256]), i2, h2)) (fun k => ?_) (Ev.now _), ?_, hi2⟩
   ·simp only [spec_l1DrawText.l0]
    rw [if_neg (by omega), e1]
    simp only [Option.bind_some]
    rw [if_pos trivial, e2]
    simp only [Option.bind_some]
    rw [if_pos (by omega)]
   ·rw [strOfNums_le, List.length_append, List.length_singleton]; omega
  | false =>
   refine ⟨_, _, _, Ev.step (f := fun _ => some (strOfNums acc, i1, h1)) (fun k => ?_) (Ev.now _), ?_, hi1⟩
   ·simp only [spec_l1DrawText.l0]
    rw [if_neg (by omega), e1]
    simp only [Option.bind_some]
    rw [if_neg (by decide)]
   ·rw [strOfNums_le]; omega
 | n + 1, acc, i, h, hi, ha => by
  obtain ⟨x, i1, h1, e1, x0, x1, hi1⟩ := spec_l1Below_eq b hl i h hi 4
  obtain ⟨s, i2, h2, hs, hz, hi2⟩ := spec_l1DrawText_l0_ev b hl n (acc ++ [(wrap64 (97 + x)) % 256]) i1 h1 hi1 (by rw [List.length_append, List.length_singleton]; omega)
  rw [List.length_append, List.length_singleton] at hz
  refine ⟨s, i2, h2, Ev.step (fun k => ?_) hs, by omega, hi2⟩
  simp only [spec_l1DrawText.l0]
  rw [if_pos (by omega), e1]
  simp only [Option.bind_some]
  rw [if_pos (by omega), w64 (x := ((n + 1 : Nat) : Int) - 1) (by omega) (by omega), show ((n + 1 : Nat) : Int) - 1 = (n : Int) by omega]
theorem spec_l1DrawText_ev (b : List Int) (hl : b.length ≤ 1000000000000000000) (i h : Int) (hi : 0 ≤ i) :
  ∃ s i' h', Ev (fun k => spec_l1DrawText.f k b i h) (s, i', h') ∧ s.size ≤ 8 ∧ 0 ≤ i' := by
 obtain ⟨x, i1, h1, e1, x0, x1, hi1⟩ := spec_l1Below_eq b hl i h hi 8
 obtain ⟨n, rfl⟩ := Int.eq_ofNat_of_zero_le x0
 have hn := x1 (by decide)
 obtain ⟨s, i2, h2, hs, hz, hi2⟩ := spec_l1DrawText_l0_ev b hl n [] i1 h1 hi1 (by simp; omega)
 simp only [List.length_nil] at hz
 refine ⟨s, i2, h2, ?_, by omega, hi2⟩
 simp only [spec_l1DrawText.f]
 exact Ev.bind (evId (fun _ => e1)) hs

/-- Is an entry right? -/
def entOk (e : S88) : Bool := within e.f0.size 1 40 && (decide ((e.f1.size : Int) ≤ 200) && ((!e.f3 || decide (e.f1.toList = ([] : List UInt8))) && within e.f2 1 1000000))
/-- Is the one ahead of the other? -/
def ahead (a b : S88) : Bool := Op.bytesLess a.f0.toList b.f0.toList || (decide (a.f0.toList = b.f0.toList) && decide (a.f2 > b.f2))
def okL : Option S88 → List S88 → Bool
 | _, [] => true
 | p, e :: es => entOk e && ((match p with | none => true | some q => ahead q e) && okL (some e) es)
def entriesOk (xs : List S88) : Bool := decide (xs.length ≤ 300) && okL none xs
theorem entOk_iff {e : S88} : entOk e = true ↔ (1 ≤ e.f0.size ∧ e.f0.size ≤ 40) ∧ e.f1.size ≤ 200 ∧ (e.f3 = true → e.f1.toList = []) ∧ 1 ≤ e.f2 ∧ e.f2 ≤ 1000000 := by
 unfold entOk within
 simp only [Bool.and_eq_true, Bool.or_eq_true, decide_eq_true_eq, Bool.not_eq_true']
 constructor
 ·rintro ⟨⟨h1, h2⟩, h3, h4, h5, h6⟩
  refine ⟨⟨by omega, by omega⟩, by omega, fun hg => ?_, h5, h6⟩
  rcases h4 with h4 | h4
  ·rw [hg] at h4; cases h4
  ·exact h4
 ·rintro ⟨⟨h1, h2⟩, h3, h4, h5, h6⟩
  refine ⟨⟨by omega, by omega⟩, by omega, ?_, h5, h6⟩
  cases h : e.f3 with
  | false => exact Or.inl rfl
  | true => exact Or.inr (h4 h)
/-- The entry ahead of place i. -/
def prev (xs : List S88) (i : Nat) : Option S88 := if i = 0 then none else xs[i - 1]?
theorem prev_succ {xs : List S88} {i : Nat} {e : S88} (h : xs[i]? = some e) : prev xs (i + 1) = some e := by
 unfold prev
 rw [if_neg (by omega), show i + 1 - 1 = i by omega, h]

theorem spec_l1In_ev (a b c : Int) : Ev (fun _ => spec_l1In.f a b c) (within a b c) := by
 refine evId (fun _ => ?_)
 unfold spec_l1In.f within
 by_cases h : a ≥ b
 ·rw [if_pos h, decide_eq_true (show b ≤ a from h), Bool.true_and]
 ·rw [if_neg h, decide_eq_false (show ¬ b ≤ a from h), Bool.false_and]

theorem spec_l3Entry_ev (e : S88) : Ev (fun _ => spec_l3Entry.f e.f0 e.f1 e.f2 e.f3) (entOk e) := by
 obtain ⟨a, b, c, g⟩ := e
 refine evId (fun _ => ?_)
 have hin : spec_l1In.f c 1 1000000 = some (within c 1 1000000) := by
  obtain ⟨k, h⟩ := (spec_l1In_ev c 1 1000000).rounds
  exact h
 unfold spec_l3Entry.f entOk
 simp only [hin, Option.bind_some]
 by_cases h1 : (a.size : Int) ≥ 1
 ·by_cases h2 : (a.size : Int) ≤ 40
  ·by_cases h3 : (b.size : Int) ≤ 200
   ·rw [if_pos h1, if_pos h2, if_pos h3]
    have : within (a.size : Int) 1 40 = true := by simp [within]; omega
    rw [this, decide_eq_true h3]
    cases g with
    | false => simp
    | true =>
     rw [if_pos rfl]
     by_cases h4 : b.toList = ([] : List UInt8)
     ·rw [if_pos h4]; simp [h4]
     ·rw [if_neg h4]; simp [h4]
   ·rw [if_pos h1, if_pos h2, if_neg h3, decide_eq_false h3]; simp
  ·rw [if_pos h1, if_neg h2]
   have : within (a.size : Int) 1 40 = false := by simp [within]; omega
   rw [this]; simp
 ·rw [if_neg h1]
  have : within (a.size : Int) 1 40 = false := by simp [within]; omega
  rw [this]; simp
theorem spec_l3Ahead_ev (a b : S88) : Ev (fun _ => spec_l3Ahead.f a.f0 a.f1 a.f2 a.f3 b.f0 b.f1 b.f2 b.f3) (ahead a b) := by
 refine evId (fun _ => ?_)
 unfold spec_l3Ahead.f ahead
 cases h : Op.bytesLess a.f0.toList b.f0.toList with
 | true => simp
 | false =>
  rw [if_neg (by simp)]
  by_cases h2 : a.f0.toList = b.f0.toList
  ·rw [if_pos h2]; simp [h2]
  ·rw [if_neg h2]; simp [h2]
theorem spec_EntriesOk_l0_ev (xs : List S88) (hl : xs.length ≤ 1000000000000000000) : ∀ (bs : List S88) (i : Nat), xs.drop i = bs → Ev (fun k => spec_EntriesOk.l0 k xs i) (okL (prev xs i) bs)
 | [], i, hd => by
  have := drop_nil hd
  refine Ev.step (f := fun _ => some true) (fun k => ?_) (Ev.now _)
  simp only [spec_EntriesOk.l0]
  rw [if_neg (by omega)]
 | e :: bs, i, hd => by
  obtain ⟨h2, h3, h4⟩ := drop_cons hd
  have e1 : rd_T88 xs (i : Int) = e := getD_at h4
  have ih := spec_EntriesOk_l0_ev xs hl bs (i + 1) h3
  rw [prev_succ h4] at ih
  refine Ev.step (f := fun k => (spec_l3Entry.f e.f0 e.f1 e.f2 e.f3).bind fun t127 => (if t127 = true then (if (i : Int) > 0 then ((spec_l3Ahead.f (rd_T88 xs (wrap64 ((i : Int) - 1))).f0 (rd_T88 xs (wrap64 ((i : Int) - 1))).f1 (rd_T88 xs (wrap64 ((i : Int) - 1))).f2 (rd_T88 xs (wrap64 ((i : Int) - 1))).f3 e.f0 e.f1 e.f2 e.f3).bind fun t130 => (if t130 = true then (spec_EntriesOk.l0 k xs ((i + 1 : Nat) : Int)) else (some false))) else (spec_EntriesOk.l0 k xs ((i + 1 : Nat) : Int))) else (some false))) (fun k => ?_) (Ev.bind (spec_l3Entry_ev e) ?_)
  ·simp only [spec_EntriesOk.l0]
   rw [if_pos (by omega), if_pos (by omega), e1, w64s (by omega)]
   by_cases hi : (i : Int) > 0
   ·simp only [if_pos hi, if_pos (show (0 : Int) ≤ wrap64 ((i : Int) - 1) by rw [w64 (by omega) (by omega)]; omega), if_pos (show wrap64 ((i : Int) - 1) < (xs.length : Int) by rw [w64 (by omega) (by omega)]; omega)]
   ·simp only [if_neg hi]
  ·unfold okL
   cases he : entOk e with
   | false => exact evNeg (by simp) (Ev.now _)
   | true =>
    refine evPos rfl ?_
    rw [Bool.true_and]
    by_cases hi : i = 0
    ·subst hi
     refine evNeg (by omega) (evEq ih ?_)
     simp [prev]
    ·obtain ⟨q, hq⟩ : ∃ q, xs[i - 1]? = some q := ⟨_, List.getElem?_eq_getElem (by omega)⟩
     have e2 : rd_T88 xs (wrap64 ((i : Int) - 1)) = q := by
      rw [w64 (by omega) (by omega), show (i : Int) - 1 = ((i - 1 : Nat) : Int) by omega]
      exact getD_at hq
     refine evPos (by omega) ?_
     rw [e2]
     refine Ev.bind (spec_l3Ahead_ev q e) ?_
     simp only [prev, if_neg hi, hq]
     cases ahead q e with
     | false => exact evNeg (by simp) (Ev.now _)
     | true => exact evPos rfl (evEq ih (by rw [Bool.true_and]))
theorem spec_EntriesOk_ev (xs : List S88) : Ev (fun k => spec_EntriesOk.f k xs) (entriesOk xs) := by
 simp only [spec_EntriesOk.f]
 unfold entriesOk
 by_cases h : (xs.length : Int) > 300
 ·rw [decide_eq_false (by omega)]; exact evPos h (Ev.now _)
 ·rw [decide_eq_true (by omega), Bool.true_and]
  exact evNeg h (spec_EntriesOk_l0_ev xs (by omega) xs 0 rfl)

theorem spec_l3DrawKey_eq (b : List Int) (hl : b.length ≤ 1000000000000000000) (i h : Int) (hi : 0 ≤ i) : ∃ s i' h', spec_l3DrawKey.f b i h = some (s, i', h') ∧ 0 ≤ i' := by
 obtain ⟨x, i1, h1, e1, x0, x1, hi1⟩ := spec_l1Below_eq b hl i h hi 6
 have hx := x1 (by decide)
 unfold spec_l3DrawKey.f
 simp only [Option.bind_some]
 rw [e1]
 simp only [Option.bind_some]
 rw [if_pos x0, if_pos (by simpa using hx)]
 exact ⟨_, _, _, rfl, hi1⟩
theorem spec_l3DrawEntry_ev (b : List Int) (hl : b.length ≤ 1000000000000000000) (i h : Int) (hi : 0 ≤ i) (q : Int) : ∃ (e : S88) (i' h' : Int), Ev (fun k => spec_l3DrawEntry.f k b i h q) (e.f0, e.f1, e.f2, e.f3, i', h') ∧ 0 ≤ i' := by
 obtain ⟨s, i1, h1, e1, hi1⟩ := spec_l3DrawKey_eq b hl i h hi
 obtain ⟨t, i2, h2, ht, _, hi2⟩ := spec_l1DrawText_ev b hl i1 h1 hi1
 obtain ⟨g, i3, h3, e3, hi3⟩ := spec_l1Once_eq b hl i2 h2 hi2 4
 simp only [spec_l3DrawEntry.f]
 cases g with
 | true => exact ⟨⟨s, (⟨#[]⟩ : ByteArray), q, true⟩, i3, h3, Ev.bind (evId (fun _ => e1)) (Ev.bind ht (Ev.bind (evId (fun _ => e3)) (evPos rfl (Ev.now _)))), hi3⟩
 | false => exact ⟨⟨s, t, q, false⟩, i3, h3, Ev.bind (evId (fun _ => e1)) (Ev.bind ht (Ev.bind (evId (fun _ => e3)) (evNeg Bool.false_ne_true (Ev.now _)))), hi3⟩
theorem spec_l3Put_l0_ev (xs : List S88) (hl : xs.length ≤ 1000000) (e : S88) : ∀ (bs : List S88) (i : Nat), xs.drop i = bs → i ≤ xs.length → ∃ ys : List S88, Ev (fun k => spec_l3Put.l0 k xs i e.f0 e.f1 e.f2 e.f3) ys ∧ ys.length = xs.length + 1
 | [], i, hd, hi => by
  have := drop_nil hd
  refine ⟨[] ++ xs.take i ++ [e] ++ xs.drop i, Ev.step (f := fun _ => some _) (fun k => ?_) (Ev.now _), by simp; omega⟩
  simp only [spec_l3Put.l0]
  rw [if_neg (by omega)]
  simp only [Option.bind_some, Int.toNat_natCast]
  rw [if_pos (by omega), if_pos (by omega), if_pos (by simp; omega), if_pos (by simp; omega), if_pos (by simp; omega)]
 | x :: bs, i, hd, hi => by
  obtain ⟨h2, h3, h4⟩ := drop_cons hd
  have e1 : rd_T88 xs (i : Int) = x := getD_at h4
  have ha := spec_l3Ahead_ev x e
  cases hx : ahead x e with
  | true =>
   rw [hx] at ha
   obtain ⟨ys, hy, hz⟩ := spec_l3Put_l0_ev xs hl e bs (i + 1) h3 (by omega)
   refine ⟨ys, Ev.step (fun k => by simp only [spec_l3Put.l0]; rw [if_pos (by omega), if_pos (by omega), e1, w64s (by omega)]) (Ev.bind ha (evPos rfl hy)), hz⟩
  | false =>
   rw [hx] at ha
   refine ⟨[] ++ xs.take i ++ [e] ++ xs.drop i, Ev.step (fun k => by simp only [spec_l3Put.l0]; rw [if_pos (by omega), if_pos (by omega), e1]) (Ev.bind ha (evNeg Bool.false_ne_true (evId (fun k => ?_)))), by simp; omega⟩
   simp only [Option.bind_some, Int.toNat_natCast]
   rw [if_pos (by omega), if_pos (by simp; omega), if_pos (by simp; omega), if_pos (by simp; omega)]
theorem spec_l3Put_ev (xs : List S88) (hl : xs.length ≤ 1000000) (e : S88) : ∃ ys : List S88, Ev (fun k => spec_l3Put.f k xs e.f0 e.f1 e.f2 e.f3) ys ∧ ys.length = xs.length + 1 := spec_l3Put_l0_ev xs hl e xs 0 rfl (Nat.zero_le _)
theorem spec_l3DrawFrom_l0_ev (b : List Int) (hl : b.length ≤ 1000000000000000000) : ∀ (n : Nat) (q : Int) (acc : List S88) (i h : Int), 0 ≤ i → acc.length + n ≤ 1000000 →
  ∃ (ys : List S88) (i' h' : Int), Ev (fun k => spec_l3DrawFrom.l0 k q acc (n : Int) b i h) (ys, i', h') ∧ ys.length = acc.length + n ∧ 0 ≤ i'
 | 0, q, acc, i, h, hi, ha => by
  refine ⟨acc, i, h, Ev.step (f := fun _ => some _) (fun k => ?_) (Ev.now _), rfl, hi⟩
  simp only [spec_l3DrawFrom.l0]
  rw [if_neg (by omega)]
 | n + 1, q, acc, i, h, hi, ha => by
  obtain ⟨e, i1, h1, he, hi1⟩ := spec_l3DrawEntry_ev b hl i h hi q
  obtain ⟨ys, hy, hz⟩ := spec_l3Put_ev acc (by omega) e
  obtain ⟨x, i2, h2, e2, x0, x1, hi2⟩ := spec_l1Below_eq b hl i1 h1 hi1 2
  obtain ⟨zs, i3, h3, hzs, hlz, hi3⟩ := spec_l3DrawFrom_l0_ev b hl n (wrap64 ((wrap64 (q + 1)) + x)) ys i2 h2 hi2 (by omega)
  refine ⟨zs, i3, h3, Ev.step (fun k => by simp only [spec_l3DrawFrom.l0]; rw [if_pos (by omega), w64 (x := ((n + 1 : Nat) : Int) - 1) (by omega) (by omega), show ((n + 1 : Nat) : Int) - 1 = (n : Int) by omega]) (Ev.bind he (Ev.bind hy (Ev.bind (evId (fun _ => e2)) hzs))), by omega, hi3⟩
theorem spec_l3DrawFrom_ev (b : List Int) (hl : b.length ≤ 1000000000000000000) (i h : Int) (hi : 0 ≤ i) (q m : Int) (h0 : 0 ≤ m) (h1 : m ≤ 1000) : ∃ (ys : List S88) (i' h' : Int), Ev (fun k => spec_l3DrawFrom.f k b i h q m) (ys, i', h') ∧ (ys.length : Int) ≤ m ∧ 0 ≤ i' := by
 obtain ⟨x, i1, g1, e1, x0, x1, hi1⟩ := spec_l1Below_eq b hl i h hi (m + 1)
 obtain ⟨n, rfl⟩ := Int.eq_ofNat_of_zero_le x0
 have hn := x1 (by omega)
 obtain ⟨ys, i2, h2, hy, hz, hi2⟩ := spec_l3DrawFrom_l0_ev b hl n q [] i1 g1 hi1 (by simp; omega)
 simp only [List.length_nil] at hz
 refine ⟨ys, i2, h2, ?_, by omega, hi2⟩
 simp only [spec_l3DrawFrom.f, w64 (x := m + 1) (by omega) (by omega)]
 exact Ev.bind (evId (fun _ => e1)) hy
theorem spec_l3DrawAny_l0_ev (b : List Int) (hl : b.length ≤ 1000000000000000000) : ∀ (d j : Nat) (acc : List S88) (i h : Int), j + d = 301 → 0 ≤ i → acc.length ≤ j →
  ∃ (ys : List S88) (i' h' : Int), Ev (fun k => spec_l3DrawAny.l0 k acc (j : Int) b i h) (ys, i', h') ∧ ys.length ≤ 301 ∧ 0 ≤ i' := by
 intro d
 induction d with
 | zero =>
  intro j acc i h hd hi ha
  obtain ⟨x, i1, h1, e1, x0, x1, hi1⟩ := spec_l1Below_eq b hl i h hi 2
  have hx := x1 (by decide)
  refine ⟨acc, i1, h1, Ev.step (fun k => by simp only [spec_l3DrawAny.l0]; exact rfl) (Ev.bind (evId (fun _ => e1)) (evNeg ?_ (Ev.now _))), by omega, hi1⟩
  rw [w64 (by simp only; omega) (by simp only; omega)]
  simp only
  omega
 | succ d ih =>
  intro j acc i h hd hi ha
  obtain ⟨x, i1, h1, e1, x0, x1, hi1⟩ := spec_l1Below_eq b hl i h hi 2
  have hx := x1 (by decide)
  by_cases hj : (j : Int) < 300 + x
  ·obtain ⟨ys, i2, h2, hy, hz, hi2⟩ := ih (j + 1) (acc ++ [⟨(⟨#[107]⟩ : ByteArray), (⟨#[]⟩ : ByteArray), wrap64 (1000 - (j : Int)), false⟩]) i1 h1 (by omega) hi1 (by rw [List.length_append, List.length_singleton]; omega)
   refine ⟨ys, i2, h2, Ev.step (fun k => by simp only [spec_l3DrawAny.l0]; rw [w64s (i := j) (by omega)]) (Ev.bind (evId (fun _ => e1)) (evPos ?_ (evPos (show acc.length < 2932031007402 by omega) hy))), hz, hi2⟩
   rw [w64 (by simp only; omega) (by simp only; omega)]
   exact hj
  ·refine ⟨acc, i1, h1, Ev.step (fun k => by simp only [spec_l3DrawAny.l0]; exact rfl) (Ev.bind (evId (fun _ => e1)) (evNeg ?_ (Ev.now _))), by omega, hi1⟩
   rw [w64 (by simp only; omega) (by simp only; omega)]
   exact hj
theorem spec_l3DrawAny_ev (b : List Int) (hl : b.length ≤ 1000000000000000000) (i h : Int) (hi : 0 ≤ i) : ∃ (ys : List S88) (i' h' : Int), Ev (fun k => spec_l3DrawAny.f k b i h) (ys, i', h') ∧ ys.length ≤ 1000 ∧ 0 ≤ i' := by
 obtain ⟨xs, i1, h1, hxs, hlx, hi1⟩ := spec_l3DrawFrom_ev b hl i h hi 1 10 (by decide) (by decide)
 obtain ⟨g, i2, h2, e2, hi2⟩ := spec_l1Once_eq b hl i1 h1 hi1 12
 simp only [spec_l3DrawAny.f]
 cases g with
 | false => exact ⟨xs, i2, h2, Ev.bind hxs (Ev.bind (evId (fun _ => e2)) (evNeg Bool.false_ne_true (Ev.now _))), by omega, hi2⟩
 | true =>
  obtain ⟨v, i3, h3, e3, v0, v1, hi3⟩ := spec_l1Below_eq b hl i2 h2 hi2 4
  have hv := v1 (by decide)
  obtain ⟨n, rfl⟩ := Int.eq_ofNat_of_zero_le v0
  match n, hv, e3 with
  | 0, _, e3 =>
   obtain ⟨e, i4, h4, he, hi4⟩ := spec_l3DrawEntry_ev b hl i3 h3 hi3 3
   exact ⟨xs ++ [e], i4, h4, Ev.bind hxs (Ev.bind (evId (fun _ => e2)) (evPos rfl (Ev.bind (evId (fun _ => e3)) (evPos rfl (Ev.bind he (evPos (by simp only; omega) (Ev.now _))))))), by rw [List.length_append, List.length_singleton]; omega, hi4⟩
  | 1, _, e3 =>
   obtain ⟨x, i4, h4, e4, x0, x1, hi4⟩ := spec_l1Below_eq b hl i3 h3 hi3 3
   obtain ⟨y, i5, h5, e5, y0, y1, hi5⟩ := spec_l1Below_eq b hl i4 h4 hi4 4
   have hx := x1 (by decide)
   have hy := y1 (by decide)
   exact ⟨xs ++ [_], i5, h5, Ev.bind hxs (Ev.bind (evId (fun _ => e2)) (evPos rfl (Ev.bind (evId (fun _ => e3)) (evNeg (show ¬ ((1 : Nat) : Int) = 0 by decide) (evPos rfl (evPos (by decide) (Ev.bind (evId (fun _ => rfl)) (Ev.bind (evId (fun _ => e4)) (evPos x0 (evPos (by simpa using hx) (Ev.bind (evId (fun _ => rfl)) (Ev.bind (evId (fun _ => e5)) (evPos y0 (evPos (by simpa using hy) (evPos (by simp only; omega) (Ev.now _)))))))))))))))), by rw [List.length_append, List.length_singleton]; omega, hi5⟩
  | 2, _, e3 =>
   obtain ⟨x, i4, h4, e4, x0, x1, hi4⟩ := spec_l1Below_eq b hl i3 h3 hi3 2
   obtain ⟨y, i5, h5, e5, hi5⟩ := spec_l1Once_eq b hl i4 h4 hi4 2
   have hx := x1 (by decide)
   have hw : wrap64 (200 + x) = 200 + x := w64 (by omega) (by omega)
   exact ⟨xs ++ [_], i5, h5, Ev.bind hxs (Ev.bind (evId (fun _ => e2)) (evPos rfl (Ev.bind (evId (fun _ => e3)) (evNeg (show ¬ ((2 : Nat) : Int) = 0 by decide) (evNeg (show ¬ ((2 : Nat) : Int) = 1 by decide) (evPos rfl (Ev.bind (evId (fun _ => e4)) (evPos (by simp only [hw]; omega) (evPos (by simp only [hw]; omega) (Ev.bind (evId (fun _ => e5)) (evPos (by simp only; omega) (Ev.now _)))))))))))), by rw [List.length_append, List.length_singleton]; omega, hi5⟩
  | 3, _, e3 =>
   obtain ⟨ys, i4, h4, hy, hz, hi4⟩ := spec_l3DrawAny_l0_ev b hl 301 0 [] i3 h3 rfl hi3 (Nat.le_refl _)
   exact ⟨ys, i4, h4, Ev.bind hxs (Ev.bind (evId (fun _ => e2)) (evPos rfl (Ev.bind (evId (fun _ => e3)) (evNeg (show ¬ ((3 : Nat) : Int) = 0 by decide) (evNeg (show ¬ ((3 : Nat) : Int) = 1 by decide) (evNeg (show ¬ ((3 : Nat) : Int) = 2 by decide) (evPos rfl hy))))))), by omega, hi4⟩
  | n + 4, hv, _ => omega

theorem impl_within_ev (a b c : Int) : Ev (fun _ => impl_within.f a b c) (within a b c) := by
 refine evId (fun _ => ?_)
 unfold impl_within.f within
 by_cases h : a ≥ b
 ·rw [if_pos h, decide_eq_true (show b ≤ a from h), Bool.true_and]
 ·rw [if_neg h, decide_eq_false (show ¬ b ≤ a from h), Bool.false_and]

def ordI (x y : Int) : Int := if x < y then -1 else if x > y then 1 else 0
def ordS (x y : ByteArray) : Int := if Op.bytesLess x.toList y.toList = true then -1 else if Op.bytesLess y.toList x.toList = true then 1 else 0
def byOrder (a b : S88) : Int := if ordS a.f0 b.f0 = 0 then ordI b.f2 a.f2 else ordS a.f0 b.f0
theorem cmp_Compare_string_ev (x y : ByteArray) : Ev (fun _ => cmp_Compare_string.f x y) (ordS x y) := by
 refine evId (fun _ => ?_)
 unfold cmp_Compare_string.f cmp_isNaN_string.f ordS
 simp only [bne_self_eq_false, Option.bind_some, Bool.false_eq_true, if_false]
 split
 ·rfl
 ·split <;> rfl
theorem cmp_Compare_int64_ev (x y : Int) : Ev (fun _ => cmp_Compare_int64.f x y) (ordI x y) := by
 refine evId (fun _ => ?_)
 unfold cmp_Compare_int64.f cmp_isNaN_int64.f ordI
 simp only [bne_self_eq_false, Option.bind_some, Bool.false_eq_true, if_false]
 split
 ·rfl
 ·split <;> rfl
theorem cmp_Or_two (x y : Int) : Ev (fun k => cmp_Or_int.f k [x, y]) (if x = 0 then y else x) := by
 simp only [cmp_Or_int.f]
 refine ⟨3, fun k hk => ?_⟩
 obtain ⟨m, rfl⟩ : ∃ m, k = m + 3 := ⟨k - 3, by omega⟩
 have w1 : wrap64 (0 + 1) = 1 := w64 (x := 0 + 1) (by decide) (by decide)
 have w2 : wrap64 (1 + 1) = 2 := w64 (x := 1 + 1) (by decide) (by decide)
 have e0 : rd [x, y] 0 = x := rfl
 have e1 : rd [x, y] 1 = y := rfl
 simp only [cmp_Or_int.l0, w1, w2, e0, e1]
 by_cases hx : x = 0
 ·by_cases hy : y = 0
  ·simp [hx, hy]
  ·simp [hx, hy]
 ·simp [hx]
theorem impl_byOrder_ev (a b : S88) : Ev (fun k => impl_byOrder.f k a.f0 a.f1 a.f2 a.f3 b.f0 b.f1 b.f2 b.f3) (byOrder a b) := by
 simp only [impl_byOrder.f]
 exact Ev.bind (cmp_Compare_string_ev a.f0 b.f0) (Ev.bind (cmp_Compare_int64_ev b.f2 a.f2) (Ev.bind (cmp_Or_two _ _) (Ev.now _)))
theorem byOrder_ahead (a b : S88) : decide (byOrder a b ≥ 0) = !ahead a b := by
 unfold byOrder ahead ordS ordI
 cases h1 : Op.bytesLess a.f0.toList b.f0.toList with
 | true => simp
 | false =>
  cases h2 : Op.bytesLess b.f0.toList a.f0.toList with
  | true =>
   have : a.f0.toList ≠ b.f0.toList := by
    intro h
    rw [h, less_irrefl] at h2
    cases h2
   simp [this]
  | false =>
   have := less_tri _ _ h1 h2
   simp only [Bool.false_eq_true, if_false, if_true, this, decide_true, Bool.true_and, Bool.false_or]
   by_cases h3 : b.f2 < a.f2
   ·rw [if_pos h3, decide_eq_true (show a.f2 > b.f2 from h3)]; decide
   ·rw [if_neg h3, decide_eq_false (show ¬ a.f2 > b.f2 from h3)]
    split <;> decide

theorem impl_within_eq (a b c : Int) : impl_within.f a b c = some (within a b c) := by
 obtain ⟨k, h⟩ := (impl_within_ev a b c).rounds
 exact h
theorem impl_entryOk_ev (e : S88) : Ev (fun _ => impl_entryOk.f e.f0 e.f1 e.f2 e.f3) (entOk e) := by
 obtain ⟨a, b, c, g⟩ := e
 refine evId (fun _ => ?_)
 unfold impl_entryOk.f entOk
 simp only [impl_within_eq, Option.bind_some]
 cases h1 : within (a.size : Int) 1 40 with
 | false => simp
 | true =>
  rw [if_pos rfl]
  by_cases h3 : (b.size : Int) ≤ 200
  ·rw [if_pos h3, decide_eq_true h3]
   cases g with
   | false => simp
   | true =>
    rw [if_pos rfl]
    by_cases h4 : b.toList = ([] : List UInt8)
    ·rw [if_pos h4]; simp [h4]
    ·rw [if_neg h4]; simp [h4]
  ·rw [if_neg h3, decide_eq_false h3]; simp
theorem impl_EntriesOk_l0_ev (xs : List S88) (hl : xs.length ≤ 1000000000000000000) : ∀ (bs : List S88) (i : Nat), xs.drop i = bs → Ev (fun k => impl_EntriesOk.l0 k xs xs (xs.length : Int) i) (okL (prev xs i) bs)
 | [], i, hd => by
  have := drop_nil hd
  refine Ev.step (f := fun _ => some true) (fun k => ?_) (Ev.now _)
  simp only [impl_EntriesOk.l0]
  rw [if_neg (by omega)]
 | e :: bs, i, hd => by
  obtain ⟨h2, h3, h4⟩ := drop_cons hd
  have e1 : rd_T88 xs (i : Int) = e := getD_at h4
  have ih := impl_EntriesOk_l0_ev xs hl bs (i + 1) h3
  rw [prev_succ h4] at ih
  refine Ev.step (f := fun k => (impl_entryOk.f e.f0 e.f1 e.f2 e.f3).bind fun t127 => (if t127 = true then (if (i : Int) > 0 then ((impl_byOrder.f k (rd_T88 xs (wrap64 ((i : Int) - 1))).f0 (rd_T88 xs (wrap64 ((i : Int) - 1))).f1 (rd_T88 xs (wrap64 ((i : Int) - 1))).f2 (rd_T88 xs (wrap64 ((i : Int) - 1))).f3 e.f0 e.f1 e.f2 e.f3).bind fun t130 => (if t130 ≥ 0 then (some false) else (impl_EntriesOk.l0 k xs xs (xs.length : Int) ((i + 1 : Nat) : Int)))) else (impl_EntriesOk.l0 k xs xs (xs.length : Int) ((i + 1 : Nat) : Int))) else (some false))) (fun k => ?_) (Ev.bind (impl_entryOk_ev e) ?_)
  ·simp only [impl_EntriesOk.l0]
   rw [if_pos (by omega), if_pos (by omega), if_pos (by omega), e1, w64s (by omega)]
   by_cases hi : (i : Int) > 0
   ·simp only [if_pos hi, if_pos (show (0 : Int) ≤ wrap64 ((i : Int) - 1) by rw [w64 (by omega) (by omega)]; omega), if_pos (show wrap64 ((i : Int) - 1) < (xs.length : Int) by rw [w64 (by omega) (by omega)]; omega)]
   ·simp only [if_neg hi]
  ·unfold okL
   cases he : entOk e with
   | false => exact evNeg (by simp) (Ev.now _)
   | true =>
    refine evPos rfl ?_
    rw [Bool.true_and]
    by_cases hi : i = 0
    ·subst hi
     refine evNeg (by omega) (evEq ih ?_)
     simp [prev]
    ·obtain ⟨q, hq⟩ : ∃ q, xs[i - 1]? = some q := ⟨_, List.getElem?_eq_getElem (by omega)⟩
     have e2 : rd_T88 xs (wrap64 ((i : Int) - 1)) = q := by
      rw [w64 (by omega) (by omega), show (i : Int) - 1 = ((i - 1 : Nat) : Int) by omega]
      exact getD_at hq
     refine evPos (by omega) ?_
     rw [e2]
     refine Ev.bind (impl_byOrder_ev q e) ?_
     simp only [prev, if_neg hi, hq]
     have hb := byOrder_ahead q e
     cases ha : ahead q e with
     | false =>
      rw [ha] at hb
      exact evPos (of_decide_eq_true hb) (Ev.now _)
     | true =>
      rw [ha] at hb
      exact evNeg (of_decide_eq_false hb) (evEq ih (by rw [Bool.true_and]))
theorem impl_EntriesOk_ev (xs : List S88) : Ev (fun k => impl_EntriesOk.f k xs) (entriesOk xs) := by
 simp only [impl_EntriesOk.f]
 unfold entriesOk
 by_cases h : (xs.length : Int) > 300
 ·rw [decide_eq_false (by omega)]; exact evPos h (Ev.now _)
 ·rw [decide_eq_true (by omega), Bool.true_and]
  exact evNeg h (impl_EntriesOk_l0_ev xs (by omega) xs 0 rfl)

def seenL (key : ByteArray) (q : Int) : List S88 → Option S88
 | [] => none
 | e :: es => if e.f0.toList = key.toList ∧ e.f2 ≤ q then some e else seenL key q es
/-- What is told of an entry that is there or not: its parts, and whether. -/
def toldE : Option S88 → ByteArray × ByteArray × Int × Bool × Bool
 | none => ((⟨#[]⟩ : ByteArray), (⟨#[]⟩ : ByteArray), 0, false, false)
 | some e => (e.f0, e.f1, e.f2, e.f3, true)
theorem spec_l3Seen_l0_ev (xs : List S88) (hl : xs.length ≤ 1000000000000000000) (key : ByteArray) (q : Int) : ∀ (bs : List S88) (i : Nat), xs.drop i = bs → Ev (fun k => spec_l3Seen.l0 k xs key q i) (toldE (seenL key q bs))
 | [], i, hd => by
  have := drop_nil hd
  refine Ev.step (f := fun _ => some _) (fun k => ?_) (Ev.now _)
  simp only [spec_l3Seen.l0]
  rw [if_neg (by omega)]
  rfl
 | e :: bs, i, hd => by
  obtain ⟨h2, h3, h4⟩ := drop_cons hd
  have e1 : rd_T88 xs (i : Int) = e := getD_at h4
  unfold seenL
  by_cases h : e.f0.toList = key.toList ∧ e.f2 ≤ q
  ·rw [if_pos h]
   refine Ev.step (f := fun _ => some _) (fun k => ?_) (Ev.now _)
   simp only [spec_l3Seen.l0]
   rw [if_pos (by omega), if_pos (by omega), e1, if_pos h.1, if_pos h.2]
   rfl
  ·rw [if_neg h]
   refine Ev.step (f := fun k => spec_l3Seen.l0 k xs key q ((i + 1 : Nat) : Int)) (fun k => ?_) (spec_l3Seen_l0_ev xs hl key q bs (i + 1) h3)
   simp only [spec_l3Seen.l0]
   rw [if_pos (by omega), if_pos (by omega), e1, w64s (by omega)]
   by_cases h5 : e.f0.toList = key.toList
   ·rw [if_pos h5, if_neg (fun h6 => h ⟨h5, h6⟩)]
   ·rw [if_neg h5]
theorem spec_l3Seen_ev (xs : List S88) (hl : xs.length ≤ 1000000000000000000) (key : ByteArray) (q : Int) : Ev (fun k => spec_l3Seen.f k xs key q) (toldE (seenL key q xs)) :=
 spec_l3Seen_l0_ev xs hl key q xs 0 rfl
theorem seenL_some {key : ByteArray} {q : Int} : ∀ {xs : List S88} {e : S88}, seenL key q xs = some e → e ∈ xs ∧ e.f0.toList = key.toList ∧ e.f2 ≤ q
 | x :: xs, e, h => by
  unfold seenL at h
  by_cases hx : x.f0.toList = key.toList ∧ x.f2 ≤ q
  ·rw [if_pos hx] at h
   obtain rfl := Option.some.inj h
   exact ⟨List.mem_cons_self, hx⟩
  ·rw [if_neg hx] at h
   obtain ⟨h1, h2⟩ := seenL_some h
   exact ⟨List.mem_cons_of_mem _ h1, h2⟩
theorem seenL_none {key : ByteArray} {q : Int} : ∀ {xs : List S88}, (∀ e ∈ xs, e.f0.toList = key.toList → q < e.f2) → seenL key q xs = none
 | [], _ => rfl
 | x :: xs, h => by
  unfold seenL
  rw [if_neg (fun hx => by have := h x List.mem_cons_self hx.1; omega)]
  exact seenL_none (fun e he => h e (List.mem_cons_of_mem _ he))
theorem seenL_append {key : ByteArray} {q : Int} : ∀ (xs ys : List S88), seenL key q (xs ++ ys) = match seenL key q xs with | some e => some e | none => seenL key q ys
 | [], ys => rfl
 | x :: xs, ys => by
  rw [List.cons_append, seenL, seenL]
  by_cases hx : x.f0.toList = key.toList ∧ x.f2 ≤ q
  ·rw [if_pos hx, if_pos hx]
  ·rw [if_neg hx, if_neg hx, seenL_append xs ys]

theorem ahead_iff {a b : S88} : ahead a b = true ↔ Op.bytesLess a.f0.toList b.f0.toList = true ∨ (a.f0.toList = b.f0.toList ∧ b.f2 < a.f2) := by
 unfold ahead
 simp only [Bool.or_eq_true, Bool.and_eq_true, decide_eq_true_eq]
theorem ahead_trans {a b c : S88} (h : ahead a b = true) (k : ahead b c = true) : ahead a c = true := by
 rw [ahead_iff] at h k ⊢
 rcases h with h | ⟨h1, h2⟩
 ·rcases k with k | ⟨k1, k2⟩
  ·exact Or.inl (less_trans _ _ _ h k)
  ·exact Or.inl (k1 ▸ h)
 ·rcases k with k | ⟨k1, k2⟩
  ·exact Or.inl (h1.symm ▸ k)
  ·exact Or.inr ⟨h1.trans k1, by omega⟩
theorem ahead_same {a b : S88} (h : ahead a b = true) (hk : a.f0.toList = b.f0.toList) : b.f2 < a.f2 := by
 rw [ahead_iff] at h
 rcases h with h | ⟨_, h⟩
 ·rw [hk, less_irrefl] at h; cases h
 ·exact h
theorem ahead_mid {a b c : S88} (h : ahead a b = true) (k : ahead b c = true) (hk : a.f0.toList = c.f0.toList) : b.f0.toList = a.f0.toList := by
 rw [ahead_iff] at h k
 rcases h with h | ⟨h, _⟩
 ·rcases k with k | ⟨k, _⟩
  ·have := less_trans _ _ _ h k
   rw [hk, less_irrefl] at this; cases this
  ·rw [hk, k, less_irrefl] at h; cases h
 ·exact h.symm
theorem okL_pair : ∀ (xs : List S88) (p : Option S88), okL p xs = true → (∀ e ∈ xs, entOk e = true) ∧ (∀ q, p = some q → ∀ e ∈ xs, ahead q e = true) ∧ xs.Pairwise (fun a b => ahead a b = true)
 | [], p, _ => ⟨by simp, by simp, List.Pairwise.nil⟩
 | x :: xs, p, h => by
  unfold okL at h
  simp only [Bool.and_eq_true] at h
  obtain ⟨h1, h2, h3⟩ := h
  obtain ⟨k1, k2, k3⟩ := okL_pair xs (some x) h3
  refine ⟨?_, ?_, List.Pairwise.cons (k2 x rfl) k3⟩
  ·intro e he
   rcases List.mem_cons.1 he with rfl | he
   ·exact h1
   ·exact k1 e he
  ·rintro q rfl e he
   have hq : ahead q x = true := h2
   rcases List.mem_cons.1 he with rfl | he
   ·exact hq
   ·exact ahead_trans hq (k2 x rfl e he)
theorem entriesOk_pair {xs : List S88} (h : entriesOk xs = true) : xs.length ≤ 300 ∧ (∀ e ∈ xs, entOk e = true) ∧ xs.Pairwise (fun a b => ahead a b = true) := by
 unfold entriesOk at h
 simp only [Bool.and_eq_true, decide_eq_true_eq] at h
 obtain ⟨k1, _, k3⟩ := okL_pair xs none h.2
 exact ⟨h.1, k1, k3⟩
theorem entriesOk_len {xs : List S88} (h : entriesOk xs = true) : xs.length ≤ 300 := by
 unfold entriesOk at h
 simp only [Bool.and_eq_true, decide_eq_true_eq] at h
 exact h.1

/-- Is the entry the newest of its key up to a number, as a look tells it. -/
def seesI (xs : List S88) (e : S88) (n : Int) : Bool := match seenL e.f0 n xs with | some x => x.f2 == e.f2 | none => false
theorem seesI_eq {pre rest : List S88} {p e : S88} (h : (pre ++ p :: e :: rest).Pairwise (fun a b => ahead a b = true)) (hk : p.f0.toList = e.f0.toList) (n : Int) :
  seesI (pre ++ p :: e :: rest) e n = (decide (e.f2 ≤ n) && decide (n < p.f2)) := by
 obtain ⟨_, h2, h3⟩ := List.pairwise_append.1 h
 have hp : ∀ x ∈ pre, x.f0.toList = e.f0.toList → p.f2 < x.f2 := fun x hx hkx => ahead_same (h3 x hx p List.mem_cons_self) (hkx.trans hk.symm)
 obtain ⟨h4, h5⟩ := List.pairwise_cons.1 h2
 obtain ⟨h6, _⟩ := List.pairwise_cons.1 h5
 have hpe : e.f2 < p.f2 := ahead_same (h4 e List.mem_cons_self) hk
 have hr : ∀ x ∈ rest, x.f0.toList = e.f0.toList → x.f2 < e.f2 := fun x hx hkx => ahead_same (h6 x hx) hkx.symm
 unfold seesI
 rw [seenL_append]
 by_cases hn : n < p.f2
 ·rw [seenL_none (fun x hx hkx => by have := hp x hx hkx; omega)]
  simp only
  rw [seenL, if_neg (fun hh => by omega), seenL, decide_eq_true hn, Bool.and_true]
  by_cases he : e.f2 ≤ n
  ·rw [if_pos ⟨rfl, he⟩, decide_eq_true he]
   simp
  ·rw [if_neg (fun hh => he hh.2), decide_eq_false he]
   cases hs : seenL e.f0 n rest with
   | none => rfl
   | some x =>
    obtain ⟨x1, x2, x3⟩ := seenL_some hs
    simp only [beq_eq_false_iff_ne]
    omega
 ·rw [decide_eq_false hn, Bool.and_false]
  cases hs : seenL e.f0 n pre with
  | some x =>
   obtain ⟨x1, x2, x3⟩ := seenL_some hs
   have := hp x x1 x2
   simp only [beq_eq_false_iff_ne]
   omega
  | none =>
   simp only
   rw [seenL, if_pos ⟨hk, by omega⟩]
   simp only [beq_eq_false_iff_ne]
   omega
theorem split_at {α : Type} (xs : List α) (d : α) (i : Nat) (h : i + 1 < xs.length) : xs = xs.take i ++ xs.getD i d :: xs.getD (i + 1) d :: xs.drop (i + 2) := by
 have e1 : xs.drop i = xs.getD i d :: xs.drop (i + 1) := by
  rw [List.drop_eq_getElem_cons (by omega)]
  simp [List.getD_eq_getElem?_getD, List.getElem?_eq_getElem (show i < xs.length by omega)]
 have e2 : xs.drop (i + 1) = xs.getD (i + 1) d :: xs.drop (i + 2) := by
  rw [List.drop_eq_getElem_cons h]
  simp [List.getD_eq_getElem?_getD, List.getElem?_eq_getElem h]
 rw [← e2, ← e1, List.take_append_drop]
/-- Is the entry at place i kept, as the looks tell it. -/
def keepS (xs : List S88) (snaps : List Int) (i : Nat) : Bool :=
 (i == 0 || !((rd_T88 xs ((i : Int) - 1)).f0.toList == (rd_T88 xs i).f0.toList)) || snaps.any (seesI xs (rd_T88 xs i))
theorem keepS_eq (xs : List S88) (snaps : List Int) (h : xs.Pairwise (fun a b => ahead a b = true)) (i : Nat) (hi : i < xs.length) : keepS xs snaps i = keepE xs snaps i := by
 unfold keepS keepE
 cases i with
 | zero => rfl
 | succ i =>
  have ei : (((i + 1 : Nat) : Int) - 1) = (i : Int) := by omega
  rw [ei]
  have e1 : rd_T88 xs ((i : Nat) : Int) = xs.getD i z88 := by unfold rd_T88; rw [Int.toNat_natCast]
  have e2 : rd_T88 xs ((i + 1 : Nat) : Int) = xs.getD (i + 1) z88 := by unfold rd_T88; rw [Int.toNat_natCast]
  rw [e1, e2]
  have hs := split_at xs z88 i hi
  generalize xs.getD i z88 = p at hs ⊢
  generalize xs.getD (i + 1) z88 = e at hs ⊢
  by_cases hk : p.f0.toList = e.f0.toList
  ·rw [show (p.f0.toList == e.f0.toList) = true from beq_iff_eq.mpr hk]
   have : seesI xs e = fun n => decide (e.f2 ≤ n) && decide (n < p.f2) := by
    funext n
    rw [hs] at h ⊢
    exact seesI_eq h hk n
   rw [this]
   simp
  ·rw [show (p.f0.toList == e.f0.toList) = false from beq_eq_false_iff_ne.mpr hk]
   simp
def seens (xs : List S88) (snaps : List Int) : List S88 := if entriesOk xs = true ∧ (snaps.length : Int) ≤ 20 then seensF xs snaps xs.length 0 else []
theorem seens_le (xs : List S88) (snaps : List Int) : (seens xs snaps).length ≤ xs.length := by
 unfold seens
 split
 ·exact seensF_length xs snaps _ _
 ·simp
theorem spec_l6Seens_l1_ev (xs : List S88) (snaps : List Int) (acc : List S88) (i : Nat) (hi : i < xs.length) (hl : xs.length ≤ 1000000) (hs : snaps.length ≤ 1000000) (r : List S88) : ∀ (bs : List Int) (j : Nat) (k0 : Bool), snaps.drop j = bs →
  Ev (fun k => if (k0 || bs.any (seesI xs (rd_T88 xs i))) = true then (if 0 ≤ (i : Int) then (if (i : Int) < (xs.length : Int) then (if acc.length < 2932031007402 then (spec_l6Seens.l0 k xs snaps (acc ++ [rd_T88 xs i]) (wrap64 ((i : Int) + 1))) else none) else none) else none) else spec_l6Seens.l0 k xs snaps acc (wrap64 ((i : Int) + 1))) r →
  Ev (fun k => spec_l6Seens.l1 k xs snaps acc (i : Int) k0 (j : Int)) r
 | [], j, k0, hd, hc => by
  have := drop_nil hd
  rw [List.any_nil, Bool.or_false] at hc
  refine Ev.step (fun k => ?_) hc
  simp only [spec_l6Seens.l1]
  rw [if_neg (by omega)]
 | b :: bs, j, k0, hd, hc => by
  obtain ⟨h2, h3, h4⟩ := drop_cons hd
  have e1 : rd snaps (j : Int) = b := rd_at h4
  have ih := spec_l6Seens_l1_ev xs snaps acc i hi hl hs r bs (j + 1) (k0 || seesI xs (rd_T88 xs i) b) h3 (by rw [List.any_cons, ← Bool.or_assoc] at hc; exact hc)
  have hseen := spec_l3Seen_ev xs (by omega) (rd_T88 xs i).f0 b
  refine Ev.step (f := fun k => (spec_l3Seen.f k xs (rd_T88 xs i).f0 b).bind fun bt => (if k0 = true then (spec_l6Seens.l1 k xs snaps acc (i : Int) true ((j + 1 : Nat) : Int)) else (if bt.2.2.2.2 = true then (spec_l6Seens.l1 k xs snaps acc (i : Int) (bt.2.2.1 == (rd_T88 xs i).f2) ((j + 1 : Nat) : Int)) else (spec_l6Seens.l1 k xs snaps acc (i : Int) false ((j + 1 : Nat) : Int))))) (fun k => ?_) (Ev.bind hseen ?_)
  ·simp only [spec_l6Seens.l1]
   rw [if_pos (by omega), if_pos (by omega), if_pos (by omega), if_pos (by omega), e1, w64s (by omega)]
  ·cases k0 with
   | true => exact evPos rfl ih
   | false =>
    refine evNeg (by decide) ?_
    rw [Bool.false_or] at ih
    unfold seesI at ih
    cases hs2 : seenL (rd_T88 xs i).f0 b xs with
    | none => rw [hs2] at ih; exact evNeg (by simp [toldE]) ih
    | some x => rw [hs2] at ih; exact evPos rfl ih
theorem spec_l6Seens_l0_ev (xs : List S88) (snaps : List Int) (h : xs.Pairwise (fun a b => ahead a b = true)) (hl : xs.length ≤ 1000000) (hs : snaps.length ≤ 1000000) : ∀ (d i : Nat) (acc : List S88), i + d = xs.length → acc.length ≤ i →
  Ev (fun k => spec_l6Seens.l0 k xs snaps acc (i : Int)) (acc ++ seensF xs snaps d i)
 | 0, i, acc, hd, ha => by
  rw [seensF, List.append_nil]
  refine Ev.step (f := fun _ => some acc) (fun k => ?_) (Ev.now _)
  simp only [spec_l6Seens.l0]
  rw [if_neg (by omega)]
 | d + 1, i, acc, hd, ha => by
  have hi : i < xs.length := by omega
  have hK := keepS_eq xs snaps h i hi
  have ih1 := spec_l6Seens_l0_ev xs snaps h hl hs d (i + 1) (acc ++ [rd_T88 xs i]) (by omega) (by rw [List.length_append, List.length_singleton]; omega)
  have ih2 := spec_l6Seens_l0_ev xs snaps h hl hs d (i + 1) acc (by omega) (by omega)
  rw [List.append_assoc] at ih1
  have fin : ∀ k0 : Bool, (k0 || snaps.any (seesI xs (rd_T88 xs i))) = keepE xs snaps i → Ev (fun k => spec_l6Seens.j1 k xs snaps acc (i : Int) k0) (acc ++ seensF xs snaps (d + 1) i) := by
   intro k0 hk0
   refine Ev.step (f := fun k => spec_l6Seens.l1 k xs snaps acc (i : Int) k0 ((0 : Nat) : Int)) (fun k => by simp only [spec_l6Seens.j1]; rfl) (spec_l6Seens_l1_ev xs snaps acc i hi hl hs _ snaps 0 k0 rfl ?_)
   rw [hk0, seensF, w64s (by omega)]
   by_cases hh : keepE xs snaps i = true
   ·rw [if_pos hh]
    exact evPos hh (evPos (by omega) (evPos (by omega) (evPos (by omega) ih1)))
   ·rw [if_neg hh]
    exact evNeg hh ih2
  unfold keepS at hK
  cases i with
  | zero =>
   refine Ev.step (f := fun k => spec_l6Seens.j1 k xs snaps acc ((0 : Nat) : Int) true) (fun k => ?_) (fin true hK)
   simp only [spec_l6Seens.l0]
   rw [if_pos (by omega), if_pos (by omega)]
  | succ i =>
   have ei : (((i + 1 : Nat) : Int) - 1) = (i : Int) := by omega
   have e2 : wrap64 (((i + 1 : Nat) : Int) - 1) = (i : Int) := by rw [w64 (by omega) (by omega)]; omega
   rw [ei] at hK
   refine Ev.step (f := fun k => spec_l6Seens.j1 k xs snaps acc ((i + 1 : Nat) : Int) ((rd_T88 xs (i : Int)).f0.toList != (rd_T88 xs ((i + 1 : Nat) : Int)).f0.toList)) (fun k => ?_) (fin _ (by rw [← hK]; rfl))
   simp only [spec_l6Seens.l0]
   rw [if_pos (by omega), if_neg (by omega), e2, if_pos (by omega), if_pos (by omega), if_pos (by omega)]

theorem impl_Seens_ev (xs : List S88) (snaps : List Int) : Ev (fun k => impl_Seens.f k xs snaps) (seens xs snaps) := by
 simp only [impl_Seens.f, impl_seens.f]
 refine Ev.bind (impl_EntriesOk_ev xs) ?_
 by_cases h : entriesOk xs = true
 ·have hl := (entriesOk_pair h).1
  by_cases hs : (snaps.length : Int) > 20
  ·rw [show seens xs snaps = [] from if_neg (fun hh => by omega)]
   exact evPos h (evPos hs (Ev.now _))
  ·rw [show seens xs snaps = seensF xs snaps xs.length 0 from if_pos ⟨h, by omega⟩]
   exact evPos h (evNeg hs (Ev.bind (evPos (by omega) (Ev.now _)) (Ev.now _)))
 ·rw [show seens xs snaps = [] from if_neg (fun hh => h hh.1)]
  exact evNeg h (Ev.now _)
theorem spec_Seens_ev (xs : List S88) (snaps : List Int) : Ev (fun k => spec_Seens.f k xs snaps) (seens xs snaps) := by
 simp only [spec_Seens.f, spec_l6Told.f, spec_l6Seens.f]
 by_cases h : entriesOk xs = true
 ·obtain ⟨hl, hok, hp⟩ := entriesOk_pair h
  by_cases hs : (snaps.length : Int) ≤ 20
  ·rw [show seens xs snaps = seensF xs snaps xs.length 0 from if_pos ⟨h, hs⟩]
   refine Ev.bind (Ev.bind (spec_EntriesOk_ev xs) (evPos h (Ev.now _))) (evPos (by rw [decide_eq_true hs]) (Ev.bind (a := seensF xs snaps xs.length 0) ?_ (Ev.now _)))
   simpa using spec_l6Seens_l0_ev xs snaps hp (by omega) (by omega) xs.length 0 [] (by omega) (Nat.le_refl _)
  ·rw [show seens xs snaps = [] from if_neg (fun hh => hs hh.2)]
   exact Ev.bind (Ev.bind (spec_EntriesOk_ev xs) (evPos h (Ev.now _))) (evNeg (by rw [decide_eq_false hs]; decide) (Ev.now _))
 ·rw [show seens xs snaps = [] from if_neg (fun hh => h hh.1)]
  exact Ev.bind (Ev.bind (spec_EntriesOk_ev xs) (evNeg h (Ev.now _))) (evNeg (by decide) (Ev.now _))

theorem reverse_l0_ev : ∀ (m : Nat) (A M B : List S88), M.length = m → A.length + M.length + B.length ≤ 1000000000000000000 →
  Ev (fun k => slices_Reverse_Entry.l0 k (A ++ M ++ B) (A.length : Int) ((A.length : Int) + (M.length : Int) - 1)) (A ++ M.reverse ++ B) := by
 intro m
 induction m using Nat.strongRecOn with
 | ind m ih =>
  intro A M B hm hl
  match M, hm, hl with
  | [], hm, hl =>
   refine Ev.step (f := fun _ => some (A ++ [] ++ B)) (fun k => ?_) (Ev.now _)
   simp only [slices_Reverse_Entry.l0]
   rw [if_neg (by simp; omega)]
  | [a], hm, hl =>
   refine Ev.step (f := fun _ => some (A ++ [a] ++ B)) (fun k => ?_) (Ev.now _)
   simp only [slices_Reverse_Entry.l0]
   rw [if_neg (by simp)]
  | a :: c :: t, hm, hl =>
   obtain ⟨M', b, hM⟩ : ∃ M' b, c :: t = M' ++ [b] := ⟨(c :: t).dropLast, (c :: t).getLast (by simp), (List.dropLast_concat_getLast (by simp)).symm⟩
   rw [hM] at hm hl ⊢
   have hlen : (A ++ a :: (M' ++ [b]) ++ B).length = A.length + M'.length + 2 + B.length := by simp; omega
   have hlm : (a :: (M' ++ [b])).length = M'.length + 2 := by simp
   rw [hlm] at hl hm
   have e1 : rd_T88 (A ++ a :: (M' ++ [b]) ++ B) (A.length : Int) = a := getD_at (by simp)
   have ej : (A.length : Int) + ((a :: (M' ++ [b])).length : Int) - 1 = ((A ++ a :: M').length : Int) := by rw [hlm]; simp; omega
   have ex : A ++ a :: (M' ++ [b]) ++ B = (A ++ a :: M') ++ b :: B := by simp
   have e2 : rd_T88 (A ++ a :: (M' ++ [b]) ++ B) ((A ++ a :: M').length : Int) = b := getD_at (by rw [ex, List.getElem?_append_right (Nat.le_refl _), Nat.sub_self]; rfl)
   have hj : ((A ++ a :: M').length : Int) = (A.length : Int) + M'.length + 1 := by simp; omega
   have es : ((A ++ a :: (M' ++ [b]) ++ B).set A.length b).set (A ++ a :: M').length a = (A ++ [b]) ++ M' ++ (a :: B) := by
    have h1 : (A ++ a :: (M' ++ [b]) ++ B).set A.length b = (A ++ b :: M') ++ b :: B := by
     rw [List.append_assoc, List.set_append_right _ _ (Nat.le_refl _), Nat.sub_self]
     simp
    rw [h1, show (A ++ a :: M').length = (A ++ b :: M').length by simp, List.set_append_right _ _ (Nat.le_refl _), Nat.sub_self]
    simp
   have ih' := ih M'.length (by omega) (A ++ [b]) M' (a :: B) rfl (by simp; omega)
   have er : A ++ (a :: (M' ++ [b])).reverse ++ B = (A ++ [b]) ++ M'.reverse ++ (a :: B) := by simp
   rw [er]
   refine Ev.step (f := fun k => slices_Reverse_Entry.l0 k ((A ++ [b]) ++ M' ++ (a :: B)) ((A ++ [b]).length : Int) (((A ++ [b]).length : Int) + (M'.length : Int) - 1)) (fun k => ?_) ih'
   rw [ej]
   simp only [slices_Reverse_Entry.l0]
   rw [if_pos (by rw [hj]; omega), if_pos (by omega), if_pos (by rw [hlen, hj]; omega), if_pos (by omega), if_pos (by rw [hlen]; omega), e1, e2, Int.toNat_natCast, Int.toNat_natCast]
   rw [show (⟨b.f0, b.f1, b.f2, b.f3⟩ : S88) = b from rfl, show (⟨a.f0, a.f1, a.f2, a.f3⟩ : S88) = a from rfl, es]
   rw [w64 (x := (A.length : Int) + 1) (by omega) (by omega), w64 (x := ((A ++ a :: M').length : Int) - 1) (by rw [hj]; omega) (by rw [hj]; omega), hj]
   congr 1
   ·simp
   ·simp; omega
theorem reverse_ev (xs : List S88) (hl : xs.length ≤ 1000000000000000000) : Ev (fun k => slices_Reverse_Entry.f k xs) xs.reverse := by
 have := reverse_l0_ev xs.length [] xs [] rfl (by simpa using hl)
 simp only [slices_Reverse_Entry.f]
 rw [w64 (by omega) (by omega)]
 simpa using this
def bottom (xs : List S88) (snaps : List Int) : List S88 := (botF (seens xs snaps).reverse).reverse
theorem bottom_le (xs : List S88) (snaps : List Int) : (bottom xs snaps).length ≤ xs.length := by
 unfold bottom
 rw [List.length_reverse]
 exact Nat.le_trans (botF_length _) (seens_le xs snaps)
theorem impl_Bottom_ev (xs : List S88) (snaps : List Int) : Ev (fun k => impl_Bottom.f k xs snaps) (bottom xs snaps) := by
 simp only [impl_Bottom.f, impl_bottom.f, impl_seens.f]
 refine Ev.bind (impl_EntriesOk_ev xs) ?_
 by_cases h : entriesOk xs = true
 ·have hl := (entriesOk_pair h).1
  by_cases hs : (snaps.length : Int) > 20
  ·rw [show bottom xs snaps = [] by unfold bottom; rw [show seens xs snaps = [] from if_neg (fun hh => by omega)]; rfl]
   exact evPos h (evPos hs (Ev.now _))
  ·have e : seens xs snaps = seensF xs snaps xs.length 0 := if_pos ⟨h, by omega⟩
   have hb := botF_length (seensF xs snaps xs.length 0)
   have hsl := seensF_length xs snaps xs.length 0
   unfold bottom
   rw [e]
   exact evPos h (evNeg hs (Ev.bind (Ev.bind (evPos (by omega) (Ev.now _)) (reverse_ev _ (by omega))) (Ev.now _)))
 ·rw [show bottom xs snaps = [] by unfold bottom; rw [show seens xs snaps = [] from if_neg (fun hh => h hh.1)]; rfl]
  exact evNeg h (Ev.now _)
theorem spec_l6Bottom_l0_ev (zs : List S88) (hl : zs.length ≤ 1000000) : ∀ (i : Nat) (acc : List S88), i ≤ zs.length → acc.length + i ≤ 1000000 →
  Ev (fun k => spec_l6Bottom.l0 k zs acc.reverse ((i : Int) - 1)) ((zs.take i).reverse.foldl botStep acc).reverse
 | 0, acc, hi, ha => by
  refine Ev.step (f := fun _ => some acc.reverse) (fun k => ?_) (Ev.now _)
  simp only [spec_l6Bottom.l0]
  rw [if_neg (by omega)]
 | i + 1, acc, hi, ha => by
  obtain ⟨e, he⟩ : ∃ e, zs[i]? = some e := ⟨zs[i]'(by omega), List.getElem?_eq_getElem (by omega)⟩
  have e1 : rd_T88 zs (i : Int) = e := getD_at he
  have et : (zs.take (i + 1)).reverse = e :: (zs.take i).reverse := by
   rw [List.take_add_one, he]
   simp
  have hb := botStep_length acc e
  have ih := spec_l6Bottom_l0_ev zs hl i (botStep acc e) (by omega) (by omega)
  rw [et, List.foldl_cons]
  have ei : (((i + 1 : Nat) : Int) - 1) = (i : Int) := by omega
  have ew : wrap64 ((i : Int) - 1) = (i : Int) - 1 := w64 (by omega) (by omega)
  have hrl : (acc.reverse.length : Int) = acc.length := by rw [List.length_reverse]
  have hcons : [(⟨e.f0, e.f1, e.f2, e.f3⟩ : S88)] ++ acc.reverse = (acc ++ [e]).reverse := by simp
  refine Ev.step (f := fun k => spec_l6Bottom.l0 k zs (botStep acc e).reverse ((i : Int) - 1)) (fun k => ?_) ih
  rw [ei]
  simp only [spec_l6Bottom.l0]
  rw [if_pos (by omega), e1, ew, hrl]
  by_cases hz : acc = []
  ·subst hz
   rw [if_pos (by simp), if_pos (by omega), if_pos (by omega)]
   by_cases hg : e.f3 = true
   ·rw [if_pos hg, show botStep [] e = [] from if_pos ⟨hg, Or.inl rfl⟩]
   ·rw [if_neg hg, show botStep [] e = [e] from if_neg (fun hh => hg hh.1)]
    simp only [Option.bind_some]
    rw [if_pos (by simp)]
    rfl
  ·have hp := List.length_pos_iff.2 hz
   have e0 : rd_T88 acc.reverse 0 = rd_T88 acc ((acc.length : Int) - 1) := by
    unfold rd_T88
    rw [show ((acc.length : Int) - 1).toNat = acc.length - 1 by omega]
    simp only [List.getD_eq_getElem?_getD]
    congr 1
    rw [show (0 : Int).toNat = 0 from rfl, List.getElem?_reverse hp]
    congr 1
   rw [if_neg (by omega), if_pos (by omega), if_pos (by omega), if_pos (by omega), e0]
   have hsz : [(⟨e.f0, e.f1, e.f2, e.f3⟩ : S88)].length + acc.reverse.length < 2932031007402 := by rw [List.length_reverse, List.length_singleton]; omega
   by_cases hk : (rd_T88 acc ((acc.length : Int) - 1)).f0.toList = e.f0.toList
   ·rw [if_neg (fun hh => hh hk)]
    simp only [Option.bind_some]
    rw [if_pos hsz, hcons, show botStep acc e = acc ++ [e] from if_neg (fun hh => hh.2.elim hz (fun h3 => h3 hk))]
   ·rw [if_pos hk]
    by_cases hg : e.f3 = true
    ·rw [if_pos hg, show botStep acc e = acc from if_pos ⟨hg, Or.inr hk⟩]
    ·rw [if_neg hg]
     simp only [Option.bind_some]
     rw [if_pos hsz, hcons, show botStep acc e = acc ++ [e] from if_neg (fun hh => hg hh.1)]
theorem spec_Bottom_ev (xs : List S88) (snaps : List Int) : Ev (fun k => spec_Bottom.f k xs snaps) (bottom xs snaps) := by
 simp only [spec_Bottom.f, spec_l6Told.f, spec_l6Bottom.f, spec_l6Seens.f]
 by_cases h : entriesOk xs = true
 ·obtain ⟨hl, hok, hp⟩ := entriesOk_pair h
  by_cases hs : (snaps.length : Int) ≤ 20
  ·have e : seens xs snaps = seensF xs snaps xs.length 0 := if_pos ⟨h, hs⟩
   have hsl := seensF_length xs snaps xs.length 0
   unfold bottom
   rw [e]
   refine Ev.bind (Ev.bind (spec_EntriesOk_ev xs) (evPos h (Ev.now _))) (evPos (by rw [decide_eq_true hs]) (Ev.bind (Ev.bind (a := seensF xs snaps xs.length 0) ?_ ?_) (Ev.now _)))
   ·simpa using spec_l6Seens_l0_ev xs snaps hp (by omega) (by omega) xs.length 0 [] (by omega) (Nat.le_refl _)
   ·have := spec_l6Bottom_l0_ev (seensF xs snaps xs.length 0) (by omega) (seensF xs snaps xs.length 0).length [] (Nat.le_refl _) (by simp; omega)
    rw [List.take_length] at this
    rw [w64 (by omega) (by omega)]
    exact this
  ·rw [show bottom xs snaps = [] by unfold bottom; rw [show seens xs snaps = [] from if_neg (fun hh => hs hh.2)]; rfl]
   exact Ev.bind (Ev.bind (spec_EntriesOk_ev xs) (evPos h (Ev.now _))) (evNeg (by rw [decide_eq_false hs]; decide) (Ev.now _))
 ·rw [show bottom xs snaps = [] by unfold bottom; rw [show seens xs snaps = [] from if_neg (fun hh => h hh.1)]; rfl]
  exact Ev.bind (Ev.bind (spec_EntriesOk_ev xs) (evNeg h (Ev.now _))) (evNeg (by decide) (Ev.now _))

def shownL (q : Int) (last : ByteArray) (acc : List S88) : List S88 → List S88
 | [] => acc
 | e :: es => if e.f2 > q ∨ e.f0.toList = last.toList then shownL q last acc es else shownL q e.f0 (if e.f3 = true then acc else acc ++ [e]) es
def shown (xs : List S88) (q : Int) : List S88 := if entriesOk xs = true then shownL q (⟨#[]⟩ : ByteArray) [] xs else []
theorem shownL_le (q : Int) : ∀ (xs : List S88) (last : ByteArray) (acc : List S88), (shownL q last acc xs).length ≤ acc.length + xs.length
 | [], _, acc => by simp [shownL]
 | e :: es, last, acc => by
  unfold shownL
  split
  ·have := shownL_le q es last acc; rw [List.length_cons]; omega
  ·have := shownL_le q es e.f0 (if e.f3 = true then acc else acc ++ [e])
   have h2 : (if e.f3 = true then acc else acc ++ [e]).length ≤ acc.length + 1 := by split <;> simp
   rw [List.length_cons]
   omega
theorem spec_l3Shown_l0_ev (xs : List S88) (hl : xs.length ≤ 1000000000) (q : Int) : ∀ (bs : List S88) (i : Nat) (acc : List S88) (last : ByteArray), xs.drop i = bs → acc.length + bs.length ≤ 1000000000 → Ev (fun k => spec_l3Shown.l0 k xs q acc last i) (shownL q last acc bs)
 | [], i, acc, last, hd, ha => by
  have := drop_nil hd
  refine Ev.step (f := fun _ => some acc) (fun k => ?_) (Ev.now _)
  simp only [spec_l3Shown.l0]
  rw [if_neg (by omega)]
 | e :: bs, i, acc, last, hd, ha => by
  obtain ⟨h2, h3, h4⟩ := drop_cons hd
  have e1 : rd_T88 xs (i : Int) = e := getD_at h4
  rw [List.length_cons] at ha
  refine Ev.step (f := fun k => spec_l3Shown.j1 k xs q acc last i (decide (e.f2 > q ∨ e.f0.toList = last.toList))) (fun k => ?_) ?_
  ·simp only [spec_l3Shown.l0]
   rw [if_pos (by omega), if_pos (by omega), e1]
   by_cases h5 : e.f2 > q
   ·rw [if_pos h5, decide_eq_true (Or.inl h5)]
   ·rw [if_neg h5]
    congr 1
    rw [Bool.eq_iff_iff]
    simp [h5]
  ·unfold shownL
   by_cases h : e.f2 > q ∨ e.f0.toList = last.toList
   ·rw [if_pos h, decide_eq_true h]
    refine Ev.step (f := fun k => spec_l3Shown.l0 k xs q acc last ((i + 1 : Nat) : Int)) (fun k => ?_) (spec_l3Shown_l0_ev xs hl q bs (i + 1) acc last h3 (by omega))
    simp only [spec_l3Shown.j1]
    rw [if_pos trivial, w64s (by omega)]
   ·rw [if_neg h, decide_eq_false h]
    cases hg : e.f3 with
    | true =>
     rw [if_pos rfl]
     refine Ev.step (f := fun k => spec_l3Shown.l0 k xs q acc e.f0 ((i + 1 : Nat) : Int)) (fun k => ?_) (spec_l3Shown_l0_ev xs hl q bs (i + 1) acc e.f0 h3 (by omega))
     simp only [spec_l3Shown.j1]
     rw [if_neg (by decide), if_pos (by omega), if_pos (by omega), e1, if_pos hg, w64s (by omega)]
    | false =>
     rw [if_neg (by decide)]
     refine Ev.step (f := fun k => spec_l3Shown.l0 k xs q (acc ++ [e]) e.f0 ((i + 1 : Nat) : Int)) (fun k => ?_) (spec_l3Shown_l0_ev xs hl q bs (i + 1) (acc ++ [e]) e.f0 h3 (by rw [List.length_append, List.length_singleton]; omega))
     simp only [spec_l3Shown.j1]
     rw [if_neg (by decide), if_pos (by omega), if_pos (by omega), e1, if_neg (by rw [hg]; decide), if_pos (by omega), w64s (by omega)]
theorem spec_l3Shown_ev (xs : List S88) (hl : xs.length ≤ 1000000) (q : Int) : Ev (fun k => spec_l3Shown.f k xs q) (shownL q (⟨#[]⟩ : ByteArray) [] xs) :=
 spec_l3Shown_l0_ev xs (by omega) q xs 0 [] _ rfl (by simp; omega)
theorem spec_Shown_ev (xs : List S88) (q : Int) : Ev (fun k => spec_Shown.f k xs q) (shown xs q) := by
 simp only [spec_Shown.f]
 refine Ev.bind (spec_EntriesOk_ev xs) ?_
 unfold shown
 by_cases h : entriesOk xs = true
 ·rw [if_pos h]
  have hl : xs.length ≤ 300 := by
   unfold entriesOk at h
   simp only [Bool.and_eq_true, decide_eq_true_eq] at h
   exact h.1
  exact evPos h (Ev.bind (spec_l3Shown_ev xs (by omega) q) (Ev.now _))
 ·rw [if_neg h]
  exact evNeg h (Ev.now _)
theorem impl_shown_l0_ev (xs : List S88) (hl : xs.length ≤ 1000000000) (q : Int) : ∀ (bs : List S88) (i : Nat) (acc : List S88) (last : ByteArray), xs.drop i = bs → acc.length + bs.length ≤ 1000000000 → Ev (fun k => impl_shown.l0 k q acc last xs (xs.length : Int) i) (shownL q last acc bs)
 | [], i, acc, last, hd, ha => by
  have := drop_nil hd
  refine Ev.step (f := fun _ => some acc) (fun k => ?_) (Ev.now _)
  simp only [impl_shown.l0]
  rw [if_neg (by omega)]
 | e :: bs, i, acc, last, hd, ha => by
  obtain ⟨h2, h3, h4⟩ := drop_cons hd
  have e1 : rd_T88 xs (i : Int) = e := getD_at h4
  rw [List.length_cons] at ha
  refine Ev.step (f := fun k => impl_shown.j1 k q acc last xs (xs.length : Int) i (decide (e.f2 > q ∨ e.f0.toList = last.toList)) e.f0 e.f1 e.f2 e.f3) (fun k => ?_) ?_
  ·simp only [impl_shown.l0]
   rw [if_pos (by omega), if_pos (by omega), if_pos (by omega), e1]
   by_cases h5 : e.f0.toList = last.toList
   ·rw [if_pos h5, decide_eq_true (Or.inr h5)]
   ·rw [if_neg h5]
    congr 1
    rw [Bool.eq_iff_iff]
    simp [h5]
  ·unfold shownL
   by_cases h : e.f2 > q ∨ e.f0.toList = last.toList
   ·rw [if_pos h, decide_eq_true h]
    refine Ev.step (f := fun k => impl_shown.l0 k q acc last xs (xs.length : Int) ((i + 1 : Nat) : Int)) (fun k => ?_) (impl_shown_l0_ev xs hl q bs (i + 1) acc last h3 (by omega))
    simp only [impl_shown.j1]
    rw [if_pos trivial, w64s (by omega)]
   ·rw [if_neg h, decide_eq_false h]
    cases hg : e.f3 with
    | true =>
     rw [if_pos rfl]
     refine Ev.step (f := fun k => impl_shown.l0 k q acc e.f0 xs (xs.length : Int) ((i + 1 : Nat) : Int)) (fun k => ?_) (impl_shown_l0_ev xs hl q bs (i + 1) acc e.f0 h3 (by omega))
     simp only [impl_shown.j1]
     rw [if_neg (by decide), if_pos trivial, w64s (by omega)]
    | false =>
     rw [if_neg (by decide)]
     refine Ev.step (f := fun k => impl_shown.l0 k q (acc ++ [e]) e.f0 xs (xs.length : Int) ((i + 1 : Nat) : Int)) (fun k => ?_) (impl_shown_l0_ev xs hl q bs (i + 1) (acc ++ [e]) e.f0 h3 (by rw [List.length_append, List.length_singleton]; omega))
     simp only [impl_shown.j1]
     rw [if_neg (by decide), if_neg (by decide), if_pos (by omega), w64s (by omega)]
     rw [← hg]
theorem impl_shown_ev (xs : List S88) (hl : xs.length ≤ 1000000) (q : Int) : Ev (fun k => impl_shown.f k xs q) (shownL q (⟨#[]⟩ : ByteArray) [] xs) :=
 impl_shown_l0_ev xs (by omega) q xs 0 [] _ rfl (by simp; omega)
theorem impl_Shown_ev (xs : List S88) (q : Int) : Ev (fun k => impl_Shown.f k xs q) (shown xs q) := by
 simp only [impl_Shown.f]
 refine Ev.bind (impl_EntriesOk_ev xs) ?_
 unfold shown
 by_cases h : entriesOk xs = true
 ·rw [if_pos h]
  have hl : xs.length ≤ 300 := by
   unfold entriesOk at h
   simp only [Bool.and_eq_true, decide_eq_true_eq] at h
   exact h.1
  exact evPos h (Ev.bind (impl_shown_ev xs (by omega) q) (Ev.now _))
 ·rw [if_neg h]
  exact evNeg h (Ev.now _)
theorem shown_le (xs : List S88) (q : Int) : (shown xs q).length ≤ xs.length := by
 unfold shown
 split
 ·have := shownL_le q xs (⟨#[]⟩ : ByteArray) []; simpa using this
 ·simp

theorem shownL_acc (q : Int) : ∀ (xs : List S88) (last : ByteArray) (acc : List S88), shownL q last acc xs = acc ++ shownL q last [] xs
 | [], _, acc => by simp [shownL]
 | e :: es, last, acc => by
  unfold shownL
  split
  ·exact shownL_acc q es last acc
  ·split
   ·exact shownL_acc q es e.f0 acc
   ·rw [shownL_acc q es e.f0 (acc ++ [e]), shownL_acc q es e.f0 ([] ++ [e])]
    simp
theorem shownL_sub (q : Int) : ∀ (xs : List S88) (last : ByteArray), (shownL q last [] xs).Sublist xs
 | [], _ => by simp [shownL]
 | e :: es, last => by
  unfold shownL
  split
  ·exact (shownL_sub q es last).cons e
  ·split
   ·exact (shownL_sub q es e.f0).cons e
   ·rw [shownL_acc]
    exact (shownL_sub q es e.f0).cons_cons e
theorem okL_of_pair : ∀ (xs : List S88) (p : Option S88), (∀ e ∈ xs, entOk e = true) → (∀ q, p = some q → ∀ e ∈ xs, ahead q e = true) → xs.Pairwise (fun a b => ahead a b = true) → okL p xs = true
 | [], _, _, _, _ => by unfold okL; rfl
 | x :: xs, p, h1, h2, h3 => by
  unfold okL
  obtain ⟨h4, h5⟩ := List.pairwise_cons.1 h3
  rw [h1 x List.mem_cons_self, okL_of_pair xs (some x) (fun e he => h1 e (List.mem_cons_of_mem _ he)) (fun q hq e he => by cases hq; exact h4 e he) h5]
  cases p with
  | none => rfl
  | some q => simp only [h2 q rfl x List.mem_cons_self]; rfl
theorem entriesOk_sub {xs ys : List S88} (h : entriesOk xs = true) (hs : ys.Sublist xs) : entriesOk ys = true := by
 obtain ⟨h1, h2, h3⟩ := entriesOk_pair h
 have hl := hs.length_le
 unfold entriesOk
 rw [decide_eq_true (by omega), okL_of_pair ys none (fun e he => h2 e (hs.subset he)) (fun _ h => by cases h) (h3.sublist hs)]
 rfl

theorem seenL_none_iff {key : ByteArray} {q : Int} : ∀ {xs : List S88}, seenL key q xs = none → ∀ e ∈ xs, e.f0.toList = key.toList → q < e.f2
 | [], _, e, he, _ => by cases he
 | x :: xs, h, e, he, hk => by
  unfold seenL at h
  by_cases hx : x.f0.toList = key.toList ∧ x.f2 ≤ q
  ·rw [if_pos hx] at h; cases h
  ·rw [if_neg hx] at h
   rcases List.mem_cons.1 he with rfl | he
   ·have : ¬ e.f2 ≤ q := fun h2 => hx ⟨hk, h2⟩
    omega
   ·exact seenL_none_iff h e he hk
theorem seenL_max {key : ByteArray} {q : Int} : ∀ {xs : List S88} {v : S88}, xs.Pairwise (fun a b => ahead a b = true) → seenL key q xs = some v → ∀ p ∈ xs, p.f0.toList = key.toList → p.f2 ≤ q → p.f2 ≤ v.f2
 | x :: xs, v, hp, h, p, hpm, hk, hq => by
  obtain ⟨h1, h2⟩ := List.pairwise_cons.1 hp
  unfold seenL at h
  by_cases hx : x.f0.toList = key.toList ∧ x.f2 ≤ q
  ·rw [if_pos hx] at h
   obtain rfl := Option.some.inj h
   rcases List.mem_cons.1 hpm with rfl | hpm
   ·exact Int.le_refl _
   ·have := ahead_same (h1 p hpm) (hx.1.trans hk.symm)
    omega
  ·rw [if_neg hx] at h
   rcases List.mem_cons.1 hpm with rfl | hpm
   ·exact absurd ⟨hk, hq⟩ hx
   ·exact seenL_max h2 h p hpm hk hq
theorem pair_uniq : ∀ {xs : List S88}, xs.Pairwise (fun a b => ahead a b = true) → ∀ {u v : S88}, u ∈ xs → v ∈ xs → u.f0.toList = v.f0.toList → u.f2 = v.f2 → u = v
 | x :: xs, hp, u, v, hu, hv, hk, hq => by
  obtain ⟨h1, h2⟩ := List.pairwise_cons.1 hp
  rcases List.mem_cons.1 hu with rfl | hu2
  ·rcases List.mem_cons.1 hv with rfl | hv2
   ·rfl
   ·have := ahead_same (h1 v hv2) hk
    omega
  ·rcases List.mem_cons.1 hv with rfl | hv2
   ·have := ahead_same (h1 u hu2) hk.symm
    omega
   ·exact pair_uniq h2 hu2 hv2 hk hq
theorem seenL_iff {key : ByteArray} {q : Int} {xs : List S88} (hp : xs.Pairwise (fun a b => ahead a b = true)) {v : S88} :
  seenL key q xs = some v ↔ v ∈ xs ∧ v.f0.toList = key.toList ∧ v.f2 ≤ q ∧ ∀ p ∈ xs, p.f0.toList = key.toList → p.f2 ≤ q → p.f2 ≤ v.f2 := by
 constructor
 ·intro h
  obtain ⟨h1, h2, h3⟩ := seenL_some h
  exact ⟨h1, h2, h3, seenL_max hp h⟩
 ·rintro ⟨h1, h2, h3, h4⟩
  cases h : seenL key q xs with
  | none => exact absurd (seenL_none_iff h v h1 h2) (by omega)
  | some u =>
   obtain ⟨u1, u2, u3⟩ := seenL_some h
   have := seenL_max hp h v h1 h2 h3
   have := h4 u u1 u2 u3
   rw [pair_uniq hp u1 h1 (u2.trans h2.symm) (by omega)]
theorem eq_of_mem : ∀ {A B : List S88}, A.Pairwise (fun a b => ahead a b = true) → B.Pairwise (fun a b => ahead a b = true) → (∀ e, e ∈ A ↔ e ∈ B) → A = B
 | [], [], _, _, _ => rfl
 | [], b :: B, _, _, h => by have := (h b).2 List.mem_cons_self; cases this
 | a :: A, [], _, _, h => by have := (h a).1 List.mem_cons_self; cases this
 | a :: A, b :: B, hA, hB, h => by
  obtain ⟨a1, a2⟩ := List.pairwise_cons.1 hA
  obtain ⟨b1, b2⟩ := List.pairwise_cons.1 hB
  have irr : ∀ x : S88, ahead x x = true → False := fun x hx => by have := ahead_same hx rfl; omega
  have hab : a = b := by
   rcases List.mem_cons.1 ((h a).1 List.mem_cons_self) with h1 | h1
   ·exact h1
   ·rcases List.mem_cons.1 ((h b).2 List.mem_cons_self) with h2 | h2
    ·exact h2.symm
    ·exact absurd (ahead_trans (b1 a h1) (a1 b h2)) (fun hx => irr b hx)
  subst hab
  have ht : ∀ e, e ∈ A ↔ e ∈ B := by
   intro e
   constructor
   ·intro he
    rcases List.mem_cons.1 ((h e).1 (List.mem_cons_of_mem _ he)) with h1 | h1
    ·subst h1; exact (irr e (a1 e he)).elim
    ·exact h1
   ·intro he
    rcases List.mem_cons.1 ((h e).2 (List.mem_cons_of_mem _ he)) with h1 | h1
    ·subst h1; exact (irr e (b1 e he)).elim
    ·exact h1
  rw [eq_of_mem a2 b2 ht]
theorem nonempty_key {xs : List S88} (h : ∀ e ∈ xs, entOk e = true) {e : S88} (he : e ∈ xs) : e.f0.toList ≠ [] := by
 have := (entOk_iff.1 (h e he)).1.1
 intro h0
 rw [ByteArray.toList_eq] at h0
 have h1 := congrArg List.length h0
 rw [Array.length_toList, List.length_nil] at h1
 have h2 : e.f0.size = e.f0.data.size := rfl
 omega
/-- What is shown: of each key the newest by then, if it is not gone. -/
theorem mem_shownL (q : Int) : ∀ (bs pre : List S88) (last : ByteArray), (pre ++ bs).Pairwise (fun a b => ahead a b = true) → (∀ e ∈ pre ++ bs, e.f0.toList ≠ []) →
  (∀ p ∈ pre, p.f2 ≤ q → ∀ e ∈ bs, e.f0.toList = p.f0.toList → last.toList = e.f0.toList) → (last.toList ≠ [] → ∃ p ∈ pre, p.f2 ≤ q ∧ p.f0.toList = last.toList) →
  ∀ e, e ∈ shownL q last [] bs ↔ e ∈ bs ∧ seenL e.f0 q (pre ++ bs) = some e ∧ e.f3 = false
 | [], pre, last, hp, hne, h1, h2, e => by simp [shownL]
 | x :: bs, pre, last, hp, hne, h1, h2, e => by
  have hx2 : pre ++ x :: bs = (pre ++ [x]) ++ bs := by simp
  obtain ⟨hp1, hp2, hp3⟩ := List.pairwise_append.1 hp
  obtain ⟨hp4, hp5⟩ := List.pairwise_cons.1 hp2
  have hxm : x ∈ pre ++ x :: bs := by simp
  have irr : ∀ y : S88, ahead y y = true → False := fun y hy => by have := ahead_same hy rfl; omega
  have hxn : x ∉ bs := fun h => irr x (hp4 x h)
  by_cases hs : x.f2 > q ∨ x.f0.toList = last.toList
  ·have ih := mem_shownL q bs (pre ++ [x]) last (by rw [← hx2]; exact hp) (by rw [← hx2]; exact hne)
    (fun p hpm hpq e' he' hk => by
     rcases List.mem_append.1 hpm with hpm | hpm
     ·exact h1 p hpm hpq e' (List.mem_cons_of_mem _ he') hk
     ·rw [List.mem_singleton.1 hpm] at hpq hk
      rcases hs with hs | hs
      ·omega
      ·exact hs.symm.trans hk.symm)
    (fun h => by obtain ⟨p, hpm, hh⟩ := h2 h; exact ⟨p, List.mem_append_left _ hpm, hh⟩) e
   rw [shownL, if_pos hs, ih, ← hx2]
   constructor
   ·rintro ⟨a, b⟩; exact ⟨List.mem_cons_of_mem _ a, b⟩
   ·rintro ⟨a, b, c⟩
    rcases List.mem_cons.1 a with rfl | a
    ·exfalso
     obtain ⟨b1, b2, b3, b4⟩ := (seenL_iff hp).1 b
     rcases hs with hs | hs
     ·omega
     ·obtain ⟨p, q1, q2, q3⟩ := h2 (by rw [← hs]; exact hne e hxm)
      have := b4 p (List.mem_append_left _ q1) (q3.trans hs.symm) q2
      have := ahead_same (hp3 p q1 e List.mem_cons_self) (q3.trans hs.symm)
      omega
    ·exact ⟨a, b, c⟩
  ·have hxq : x.f2 ≤ q := by have : ¬ x.f2 > q := fun h => hs (Or.inl h); omega
   have hxl : ¬ x.f0.toList = last.toList := fun h => hs (Or.inr h)
   have hsee : seenL x.f0 q (pre ++ x :: bs) = some x := (seenL_iff hp).2 ⟨hxm, rfl, hxq, fun p hpm hk hpq => by
    rcases List.mem_append.1 hpm with hpm | hpm
    ·exact absurd (h1 p hpm hpq x List.mem_cons_self hk.symm) (fun h => hxl h.symm)
    ·rcases List.mem_cons.1 hpm with rfl | hpm
     ·exact Int.le_refl _
     ·have := ahead_same (hp4 p hpm) hk.symm; omega⟩
   have ih := mem_shownL q bs (pre ++ [x]) x.f0 (by rw [← hx2]; exact hp) (by rw [← hx2]; exact hne)
    (fun p hpm hpq e' he' hk => by
     rcases List.mem_append.1 hpm with hpm | hpm
     ·exact (ahead_mid (hp3 p hpm x List.mem_cons_self) (hp4 e' he') hk.symm).trans hk.symm
     ·rw [List.mem_singleton.1 hpm] at hk; exact hk.symm)
    (fun _ => ⟨x, by simp, hxq, rfl⟩) e
   rw [← hx2] at ih
   rw [shownL, if_neg hs]
   cases hg : x.f3 with
   | true =>
    rw [if_pos rfl, ih]
    constructor
    ·rintro ⟨a, b⟩; exact ⟨List.mem_cons_of_mem _ a, b⟩
    ·rintro ⟨a, b, c⟩
     rcases List.mem_cons.1 a with rfl | a
     ·rw [hg] at c; cases c
     ·exact ⟨a, b, c⟩
   | false =>
    rw [if_neg Bool.false_ne_true, shownL_acc, List.nil_append, List.mem_append, List.mem_singleton, ih]
    constructor
    ·rintro (rfl | ⟨a, b⟩)
     ·exact ⟨List.mem_cons_self, hsee, hg⟩
     ·exact ⟨List.mem_cons_of_mem _ a, b⟩
    ·rintro ⟨a, b, c⟩
     rcases List.mem_cons.1 a with rfl | a
     ·exact Or.inl rfl
     ·exact Or.inr ⟨a, b, c⟩
theorem mem_shown {xs : List S88} (h : entriesOk xs = true) (q : Int) (e : S88) : e ∈ shown xs q ↔ seenL e.f0 q xs = some e ∧ e.f3 = false := by
 obtain ⟨_, h2, h3⟩ := entriesOk_pair h
 unfold shown
 rw [if_pos h, mem_shownL q xs [] (⟨#[]⟩ : ByteArray) h3 (fun e he => nonempty_key h2 he) (fun p hp => by simp at hp) (fun hh => absurd (by rw [ByteArray.toList_eq]) hh) e]
 constructor
 ·rintro ⟨_, b⟩; exact b
 ·rintro ⟨a, b⟩; exact ⟨(seenL_some a).1, a, b⟩
theorem shown_pair {xs : List S88} (h : entriesOk xs = true) (q : Int) : (shown xs q).Pairwise (fun a b => ahead a b = true) := by
 unfold shown
 rw [if_pos h]
 exact (entriesOk_pair h).2.2.sublist (shownL_sub q xs _)
theorem seensF_sub (l : List S88) (snaps : List Int) : ∀ (d i : Nat), i + d = l.length → (seensF l snaps d i).Sublist (l.drop i)
 | 0, i, h => by rw [seensF]; exact List.nil_sublist _
 | d + 1, i, h => by
  have e : l.drop i = rd_T88 l (i : Int) :: l.drop (i + 1) := by
   rw [List.drop_eq_getElem_cons (by omega)]
   unfold rd_T88
   simp [List.getD_eq_getElem?_getD, List.getElem?_eq_getElem (show i < l.length by omega)]
  have ih := seensF_sub l snaps d (i + 1) (by omega)
  rw [e, seensF]
  split
  ·exact ih.cons_cons _
  ·exact ih.cons _
theorem mem_seensF (l : List S88) (snaps : List Int) (e : S88) : ∀ (d i : Nat), i + d = l.length → (e ∈ seensF l snaps d i ↔ ∃ j, i ≤ j ∧ j < l.length ∧ keepE l snaps j = true ∧ rd_T88 l (j : Int) = e)
 | 0, i, h => by
  rw [seensF]
  constructor
  ·intro h; cases h
  ·rintro ⟨j, a, b, _⟩; omega
 | d + 1, i, h => by
  have ih := mem_seensF l snaps e d (i + 1) (by omega)
  rw [seensF]
  by_cases hk : keepE l snaps i = true
  ·rw [if_pos hk, List.mem_cons, ih]
   constructor
   ·rintro (h1 | ⟨j, a, b, c, f⟩)
    ·exact ⟨i, Nat.le_refl _, by omega, hk, h1.symm⟩
    ·exact ⟨j, by omega, b, c, f⟩
   ·rintro ⟨j, a, b, c, f⟩
    by_cases hj : j = i
    ·subst hj; exact Or.inl f.symm
    ·exact Or.inr ⟨j, by omega, b, c, f⟩
  ·rw [if_neg hk, ih]
   constructor
   ·rintro ⟨j, a, b, c, f⟩; exact ⟨j, by omega, b, c, f⟩
   ·rintro ⟨j, a, b, c, f⟩
    by_cases hj : j = i
    ·subst hj; exact absurd c hk
    ·exact ⟨j, by omega, b, c, f⟩
theorem rd_get (l : List S88) (j : Nat) (h : j < l.length) : rd_T88 l (j : Int) = l[j] := by
 unfold rd_T88
 simp [List.getD_eq_getElem?_getD, List.getElem?_eq_getElem h]
theorem mem_seens {l : List S88} (hp : l.Pairwise (fun a b => ahead a b = true)) (snaps : List Int) (e : S88) :
  e ∈ seensF l snaps l.length 0 ↔ e ∈ l ∧ ((∀ p ∈ l, p.f0.toList = e.f0.toList → p.f2 ≤ e.f2) ∨ ∃ n ∈ snaps, seenL e.f0 n l = some e) := by
 have hpi := List.pairwise_iff_getElem.1 hp
 rw [mem_seensF l snaps e l.length 0 (by omega)]
 constructor
 ·rintro ⟨j, _, hj, hk, he⟩
  rw [← keepS_eq l snaps hp j hj] at hk
  have hge := rd_get l j hj
  have hel : l[j] = e := hge.symm.trans he
  have hem : e ∈ l := hel ▸ List.getElem_mem hj
  refine ⟨hem, ?_⟩
  unfold keepS at hk
  rw [he] at hk
  simp only [Bool.or_eq_true] at hk
  rcases hk with (hk | hk) | hk
  ·left
   have hj0 : j = 0 := by simpa using hk
   subst hj0
   intro p hpm hkey
   obtain ⟨m, hm, rfl⟩ := List.getElem_of_mem hpm
   by_cases h0 : m = 0
   ·subst h0; rw [hel]; exact Int.le_refl _
   ·have := ahead_same (hel ▸ hpi 0 m hj hm (by omega)) hkey.symm
    omega
  ·left
   by_cases h0 : j = 0
   ·subst h0
    intro p hpm hkey
    obtain ⟨m, hm, rfl⟩ := List.getElem_of_mem hpm
    by_cases h0 : m = 0
    ·subst h0; rw [hel]; exact Int.le_refl _
    ·have := ahead_same (hel ▸ hpi 0 m hj hm (by omega)) hkey.symm
     omega
   ·have ej : (j : Int) - 1 = ((j - 1 : Nat) : Int) := by omega
    rw [ej, rd_get l (j - 1) (by omega)] at hk
    have hne : ¬ (l[j - 1]'(by omega)).f0.toList = e.f0.toList := by simpa using hk
    intro p hpm hkey
    obtain ⟨m, hm, rfl⟩ := List.getElem_of_mem hpm
    rcases Nat.lt_trichotomy m j with h1 | h1 | h1
    ·exfalso
     by_cases h2 : m = j - 1
     ·subst h2; exact hne hkey
     ·have h3 := ahead_mid (hpi m (j - 1) hm (by omega) (by omega)) (hel ▸ hpi (j - 1) j (by omega) hj (by omega)) hkey
      exact hne (h3.trans hkey)
    ·subst h1; rw [hel]; exact Int.le_refl _
    ·have := ahead_same (hel ▸ hpi j m hj hm h1) hkey.symm
     omega
  ·right
   obtain ⟨n, hn, hs⟩ := List.any_eq_true.1 hk
   refine ⟨n, hn, ?_⟩
   unfold seesI at hs
   cases hx : seenL e.f0 n l with
   | none => rw [hx] at hs; cases hs
   | some x =>
    rw [hx] at hs
    obtain ⟨x1, x2, x3⟩ := seenL_some hx
    rw [pair_uniq hp x1 hem x2 (by simpa using hs)]
 ·rintro ⟨hem, hh⟩
  obtain ⟨j, hj, hel⟩ := List.getElem_of_mem hem
  refine ⟨j, Nat.zero_le _, hj, ?_, (rd_get l j hj).trans hel⟩
  rw [← keepS_eq l snaps hp j hj]
  unfold keepS
  rw [rd_get l j hj, hel]
  rcases hh with hh | ⟨n, hn, hs⟩
  ·by_cases h0 : j = 0
   ·subst h0; rfl
   ·have ej : (j : Int) - 1 = ((j - 1 : Nat) : Int) := by omega
    rw [ej, rd_get l (j - 1) (by omega)]
    have hne : ((l[j - 1]'(by omega)).f0.toList == e.f0.toList) = false := by
     rw [beq_eq_false_iff_ne]
     intro hk
     have h1 := ahead_same (hel ▸ hpi (j - 1) j (by omega) hj (by omega)) hk
     have h2 := hh _ (List.getElem_mem (show j - 1 < l.length by omega)) hk
     omega
    rw [hne]
    simp
  ·have : snaps.any (seesI l e) = true := List.any_eq_true.2 ⟨n, hn, by unfold seesI; rw [hs]; simp⟩
   rw [this]
   simp
theorem botF_sub : ∀ S : List S88, (botF S.reverse).reverse.Sublist S
 | [] => List.Sublist.refl _
 | e :: S => by
  have ih := botF_sub S
  rw [List.reverse_cons, botF_snoc]
  unfold botStep
  split
  ·exact ih.cons e
  ·rw [List.reverse_append]
   exact ih.cons_cons e
theorem botF_mem {S : List S88} {e : S88} (h : e ∈ botF S.reverse) : e ∈ S := (botF_sub S).subset (List.mem_reverse.2 h)
theorem botF_stays : ∀ (S : List S88) (e : S88), e ∈ S → e.f3 = false → e ∈ botF S.reverse
 | x :: S, e, he, hg => by
  rw [List.reverse_cons, botF_snoc]
  unfold botStep
  rcases List.mem_cons.1 he with rfl | he
  ·rw [if_neg (fun hh => by rw [hg] at hh; cases hh.1)]
   simp
  ·have ih := botF_stays S e he hg
   split
   ·exact ih
   ·exact List.mem_append_left _ ih
theorem botF_lost : ∀ (S : List S88), S.Pairwise (fun a b => ahead a b = true) → ∀ e ∈ S, e ∉ botF S.reverse → ∀ p ∈ botF S.reverse, p.f0.toList = e.f0.toList → ¬ p.f2 < e.f2
 | x :: S, hp, e, he, hn, p, hpm, hk => by
  obtain ⟨h1, h2⟩ := List.pairwise_cons.1 hp
  rw [List.reverse_cons, botF_snoc] at hn hpm
  have hsub := botF_sub S
  have hmem : ∀ y ∈ botF S.reverse, y ∈ S := fun y hy => botF_mem hy
  have ih := botF_lost S h2
  generalize botF S.reverse = acc at hn hpm hsub hmem ih
  unfold botStep at hn hpm
  by_cases hc : x.f3 = true ∧ (acc = [] ∨ ¬ (rd_T88 acc ((acc.length : Int) - 1)).f0.toList = x.f0.toList)
  ·rw [if_pos hc] at hn hpm
   rcases List.mem_cons.1 he with rfl | he
   ·exfalso
    rcases hc.2 with h3 | h3
    ·rw [h3] at hpm; cases hpm
    ·cases hr : acc.reverse with
     | nil => rw [List.reverse_eq_nil_iff.1 hr] at hpm; cases hpm
     | cons z r =>
      have hz : rd_T88 acc ((acc.length : Int) - 1) = z := by
       have hacc : acc = r.reverse ++ [z] := by rw [← List.reverse_reverse acc, hr, List.reverse_cons]
       have hl : ((acc.length : Int) - 1) = ((r.reverse.length : Nat) : Int) := by rw [hacc]; simp
       rw [hl]
       exact getD_at (by rw [hacc]; simp)
      rw [hz] at h3
      have hzr := hr ▸ (h2.sublist hsub)
      obtain ⟨h4, _⟩ := List.pairwise_cons.1 hzr
      have hpr : p ∈ z :: r := hr ▸ List.mem_reverse.2 hpm
      rcases List.mem_cons.1 hpr with rfl | hpr
      ·exact h3 hk
      ·have hzm : z ∈ S := hmem z (List.mem_reverse.1 (hr ▸ List.mem_cons_self))
       exact h3 (ahead_mid (h1 z hzm) (h4 p hpr) hk.symm)
   ·exact ih e he hn p hpm hk
  ·rw [if_neg hc] at hn hpm
   rcases List.mem_cons.1 he with rfl | he
   ·exact absurd (List.mem_append_right _ (List.mem_singleton.2 rfl)) hn
   ·have hn2 : e ∉ acc := fun h => hn (List.mem_append_left _ h)
    rcases List.mem_append.1 hpm with hpm | hpm
    ·exact ih e he hn2 p hpm hk
    ·rw [List.mem_singleton.1 hpm] at hk ⊢
     have := ahead_same (h1 e he) hk
     omega
theorem botF_idem : ∀ S : List S88, botF (botF S.reverse) = botF S.reverse
 | [] => rfl
 | e :: S => by
  have ih := botF_idem S
  rw [List.reverse_cons, botF_snoc]
  generalize botF S.reverse = acc at ih
  by_cases hc : e.f3 = true ∧ (acc = [] ∨ ¬ (rd_T88 acc ((acc.length : Int) - 1)).f0.toList = e.f0.toList)
  ·rw [show botStep acc e = acc from if_pos hc, ih]
  ·have h1 : botStep acc e = acc ++ [e] := if_neg hc
   rw [h1, botF_snoc, ih, h1]
/-- Of the entries xs, e is what is seen of its key at t. -/
def Vis (xs : List S88) (t : Int) (e : S88) : Prop := e ∈ xs ∧ e.f2 ≤ t ∧ ∀ p ∈ xs, p.f0.toList = e.f0.toList → p.f2 ≤ t → p.f2 ≤ e.f2
theorem vis_iff {xs : List S88} (hp : xs.Pairwise (fun a b => ahead a b = true)) {t : Int} {e : S88} : seenL e.f0 t xs = some e ↔ Vis xs t e := by
 rw [seenL_iff hp]
 constructor
 ·rintro ⟨a, _, b, c⟩; exact ⟨a, b, c⟩
 ·rintro ⟨a, b, c⟩; exact ⟨a, rfl, b, c⟩
theorem shown_eq {xs ys : List S88} (hx : entriesOk xs = true) (hy : entriesOk ys = true) (t : Int) (h : ∀ e, e.f3 = false → (Vis xs t e ↔ Vis ys t e)) : shown xs t = shown ys t := by
 refine eq_of_mem (shown_pair hx t) (shown_pair hy t) (fun e => ?_)
 rw [mem_shown hx, mem_shown hy, vis_iff (entriesOk_pair hx).2.2, vis_iff (entriesOk_pair hy).2.2]
 constructor
 ·rintro ⟨a, b⟩; exact ⟨(h e b).1 a, b⟩
 ·rintro ⟨a, b⟩; exact ⟨(h e b).2 a, b⟩
theorem seens_sub {l : List S88} (snaps : List Int) : (seensF l snaps l.length 0).Sublist l := by
 have := seensF_sub l snaps l.length 0 (by omega)
 rwa [List.drop_zero] at this
theorem shown_seens {l : List S88} (h : entriesOk l = true) (snaps : List Int) (t : Int) (ht : t ∈ snaps ∨ t = 1000000) : shown (seensF l snaps l.length 0) t = shown l t := by
 obtain ⟨_, hent, hp⟩ := entriesOk_pair h
 have hsub := seens_sub (l := l) snaps
 have key : ∀ v, Vis l t v → v ∈ seensF l snaps l.length 0 := by
  intro v hv
  rw [mem_seens hp]
  refine ⟨hv.1, ?_⟩
  rcases ht with ht | ht
  ·exact Or.inr ⟨t, ht, (vis_iff hp).2 hv⟩
  ·left
   intro p hpm hk
   have := (entOk_iff.1 (hent p hpm)).2.2.2.2
   exact hv.2.2 p hpm hk (by omega)
 refine shown_eq (entriesOk_sub h hsub) h t (fun e _ => ?_)
 constructor
 ·intro hv
  have hel := hsub.subset hv.1
  refine ⟨hel, hv.2.1, fun p hpm hk hpt => ?_⟩
  cases hs : seenL e.f0 t l with
  | none => exact absurd (seenL_none_iff hs e hel rfl) (by have := hv.2.1; omega)
  | some u =>
   obtain ⟨u1, u2, u3⟩ := seenL_some hs
   have hm := seenL_max hp hs
   have hu : Vis l t u := ⟨u1, u3, fun p' hp' hk' hq' => hm p' hp' (hk'.trans u2) hq'⟩
   have h1 := hv.2.2 u (key u hu) u2 u3
   have h2 := hm p hpm hk hpt
   omega
 ·intro hv
  exact ⟨key e hv, hv.2.1, fun p hpm => hv.2.2 p (hsub.subset hpm)⟩
theorem shown_bot {S : List S88} (h : entriesOk S = true) (t : Int) : shown (botF S.reverse).reverse t = shown S t := by
 have hp := (entriesOk_pair h).2.2
 have hsub := botF_sub S
 refine shown_eq (entriesOk_sub h hsub) h t (fun e hg => ?_)
 constructor
 ·intro hv
  refine ⟨hsub.subset hv.1, hv.2.1, fun p hpm hk hpt => ?_⟩
  by_cases hb : p ∈ botF S.reverse
  ·exact hv.2.2 p (List.mem_reverse.2 hb) hk hpt
  ·have := botF_lost S hp p hpm hb e (List.mem_reverse.1 hv.1) hk.symm
   omega
 ·intro hv
  exact ⟨List.mem_reverse.2 (botF_stays S e hv.1 hg), hv.2.1, fun p hpm => hv.2.2 p (hsub.subset hpm)⟩
theorem bottom_idem {l : List S88} (h : entriesOk l = true) (snaps : List Int) (hs : (snaps.length : Int) ≤ 20) : bottom (bottom l snaps) snaps = bottom l snaps := by
 have hp := (entriesOk_pair h).2.2
 have e1 : seens l snaps = seensF l snaps l.length 0 := if_pos ⟨h, hs⟩
 have hsub := (botF_sub (seensF l snaps l.length 0)).trans (seens_sub (l := l) snaps)
 have hb : bottom l snaps = (botF (seensF l snaps l.length 0).reverse).reverse := by unfold bottom; rw [e1]
 have hok : entriesOk (bottom l snaps) = true := entriesOk_sub h (hb ▸ hsub)
 have hpb := (entriesOk_pair hok).2.2
 have e2 : seens (bottom l snaps) snaps = bottom l snaps := by
  rw [show seens (bottom l snaps) snaps = seensF (bottom l snaps) snaps (bottom l snaps).length 0 from if_pos ⟨hok, hs⟩]
  refine eq_of_mem (hpb.sublist (seens_sub _)) hpb (fun e => ?_)
  rw [mem_seens hpb]
  constructor
  ·rintro ⟨a, _⟩; exact a
  ·intro he
   have heb : e ∈ botF (seensF l snaps l.length 0).reverse := by rw [hb] at he; exact List.mem_reverse.1 he
   obtain ⟨_, h2⟩ := (mem_seens hp snaps e).1 (botF_mem heb)
   have hbl : ∀ p ∈ bottom l snaps, p ∈ l := fun p hpm => hsub.subset (hb ▸ hpm)
   refine ⟨he, ?_⟩
   rcases h2 with h2 | ⟨n, hn, h2⟩
   ·exact Or.inl (fun p hpm hk => h2 p (hbl p hpm) hk)
   ·right
    have hv := (vis_iff hp).1 h2
    exact ⟨n, hn, (vis_iff hpb).2 ⟨he, hv.2.1, fun p hpm => hv.2.2 p (hbl p hpm)⟩⟩
 show (botF (seens (bottom l snaps) snaps).reverse).reverse = _
 rw [e2, hb, List.reverse_reverse, botF_idem]

theorem laws_likeEntries_self (xs : List S88) (hl : xs.length ≤ 1000000000000000000) : Ev (fun k => laws_likeEntries.f k xs xs) true := by
 simp only [laws_likeEntries.f]
 refine evPos trivial (self_loop laws_likeEntries.l0 (fun k xs i h => by simp only [laws_likeEntries.l0]; rw [if_neg (by omega)]) (fun k xs i a hi ha h1 => ?_) xs hl)
 simp only [laws_likeEntries.l0]
 rw [if_pos (by omega), if_pos (by omega), if_pos (by omega), if_neg (by simp), w64s (by omega)]

theorem spec_l6DrawSnaps_l0_ev (b : List Int) (hl : b.length ≤ 1000000000000000000) : ∀ (n : Nat) (acc : List Int) (i h : Int), 0 ≤ i → acc.length + n ≤ 100 →
  ∃ (ys : List Int) (i' h' : Int), Ev (fun k => spec_l6DrawSnaps.l0 k acc (n : Int) b i h) (ys, i', h') ∧ ys.length ≤ 100
 | 0, acc, i, h, hi, ha => by
  obtain ⟨x, i1, h1, e1, hi1⟩ := spec_l1Once_eq b hl i h hi 30
  cases x with
  | false =>
   refine ⟨acc, i1, h1, Ev.step (fun k => by simp only [spec_l6DrawSnaps.l0]; exact rfl) (evNeg (by omega) (Ev.bind (evId (fun _ => e1)) (evNeg Bool.false_ne_true (Ev.now _)))), by omega⟩
  | true =>
   obtain ⟨y, i2, h2, e2, y0, y1, hi2⟩ := spec_l1Below_eq b hl i1 h1 hi1 2
   have hy := y1 (by decide)
   have hw : wrap64 (20 + y) = 20 + y := w64 (by omega) (by omega)
   refine ⟨List.replicate (20 + y).toNat 0, i2, h2, Ev.step (fun k => by simp only [spec_l6DrawSnaps.l0]; exact rfl) (evNeg (by omega) (Ev.bind (evId (fun _ => e1)) (evPos rfl (Ev.bind (evId (fun _ => e2)) (evPos (show 0 ≤ wrap64 (20 + y) by rw [hw]; omega) (evPos (show (wrap64 (20 + y)).toNat ≤ 35184372088832 by rw [hw]; omega) (evEq (Ev.now _) (show ((List.replicate (wrap64 (20 + y)).toNat 0, i2, h2) : List Int × Int × Int) = (List.replicate (20 + y).toNat 0, i2, h2) by rw [hw])))))))), by rw [List.length_replicate]; omega⟩
 | n + 1, acc, i, h, hi, ha => by
  obtain ⟨x, i1, h1, e1, x0, x1, hi1⟩ := spec_l1Below_eq b hl i h hi (wrap64 ((wrap64 (14 - 0)) + 1))
  obtain ⟨ys, i2, h2, hy, hz⟩ := spec_l6DrawSnaps_l0_ev b hl n (acc ++ [wrap64 (0 + x)]) i1 h1 hi1 (by rw [List.length_append, List.length_singleton]; omega)
  have hf : Ev (fun _ => spec_l1From.f b i h 0 14) (wrap64 (0 + x), i1, h1) := by
   simp only [spec_l1From.f]
   exact Ev.bind (evId (fun _ => e1)) (Ev.now _)
  refine ⟨ys, i2, h2, Ev.step (fun k => by simp only [spec_l6DrawSnaps.l0]; rw [w64 (x := ((n + 1 : Nat) : Int) - 1) (by omega) (by omega), show ((n + 1 : Nat) : Int) - 1 = (n : Int) by omega]) (evPos (by omega) (Ev.bind hf (evPos (show acc.length < 17592186044416 by omega) hy))), hz⟩
theorem spec_l6DrawSnaps_ev (b : List Int) (hl : b.length ≤ 1000000000000000000) (i h : Int) (hi : 0 ≤ i) : ∃ (ys : List Int) (i' h' : Int), Ev (fun k => spec_l6DrawSnaps.f k b i h) (ys, i', h') ∧ ys.length ≤ 100 := by
 obtain ⟨x, i1, h1, e1, x0, x1, hi1⟩ := spec_l1Below_eq b hl i h hi 4
 obtain ⟨n, rfl⟩ := Int.eq_ofNat_of_zero_le x0
 have hn := x1 (by decide)
 obtain ⟨ys, i2, h2, hy, hz⟩ := spec_l6DrawSnaps_l0_ev b hl n [] i1 h1 hi1 (by simp; omega)
 refine ⟨ys, i2, h2, ?_, hz⟩
 simp only [spec_l6DrawSnaps.f]
 exact Ev.bind (evId (fun _ => e1)) hy
theorem FnSeens (l : List Int) (hl : l.length ≤ maxLen) (hw : ∀ e ∈ l, (Lit.int .u8 e).wf = true) : ∃ k, laws_FnSeens.f k l = some true := by
 refine Ev.rounds (g := fun k => laws_FnSeens.f k l) ?_
 simp only [laws_FnSeens.f]
 refine Ev.bind (evId (fun _ => rfl)) ?_
 by_cases hb : (l.length : Int) > 4096
 ·exact evPos (decide_eq_true hb) (Ev.now _)
 refine evNeg (by simpa using hb) ?_
 have hl2 : l.length ≤ 1000000000000000000 := by omega
 obtain ⟨h, hn⟩ := spec_l1New_ev l hl2
 obtain ⟨xs, i1, h1, hxs, hxl, hi1⟩ := spec_l3DrawAny_ev l hl2 0 h (Int.le_refl _)
 obtain ⟨ns, i2, h2, hns, hnl⟩ := spec_l6DrawSnaps_ev l hl2 i1 h1 hi1
 have hd : Ev (fun k => spec_DrawSeens.f k l) (xs, ns) := by
  simp only [spec_DrawSeens.f]
  exact Ev.bind hn (Ev.bind hxs (Ev.bind hns (Ev.now _)))
 have hsl := seens_le xs ns
 have hbl := bottom_le xs ns
 have imS := impl_Seens_ev xs ns
 have imB := impl_Bottom_ev xs ns
 have spS := spec_Seens_ev xs ns
 have spB := spec_Bottom_ev xs ns
 have lkS := laws_likeEntries_self (seens xs ns) (by omega)
 have lkB := laws_likeEntries_self (bottom xs ns) (by omega)
 have hbs : (bottom xs ns).length ≤ (seens xs ns).length := by
  unfold bottom
  rw [List.length_reverse]
  exact botF_length _
 refine Ev.bind hd (Ev.bind imS (Ev.bind imB (Ev.bind spS (Ev.bind lkS (evPos rfl (Ev.bind spB (Ev.bind lkB ?_)))))))
 refine Ev.step (fun k => by simp only [laws_FnSeens.j0]; exact rfl) (evNeg Bool.false_ne_true (Ev.bind (spec_EntriesOk_ev xs) ?_))
 have none1 : seens xs ns = [] → Ev (fun k => laws_FnSeens.j1 k xs ns (seens xs ns) (bottom xs ns) true) true := by
  intro e
  have e2 : bottom xs ns = [] := by unfold bottom; rw [e]; rfl
  rw [e2, e]
  refine Ev.step (fun k => by simp only [laws_FnSeens.j1]; exact rfl) (evPos trivial (evEq (Ev.now _) ?_))
  rw [w64 (by simp) (by simp)]
  rfl
 by_cases hok : entriesOk xs = true
 ·refine evPos hok ?_
  by_cases hs : (ns.length : Int) > 20
  ·rw [decide_eq_true hs]
   exact none1 (if_neg (fun hh => by omega))
  ·rw [decide_eq_false hs]
   refine Ev.step (fun k => by simp only [laws_FnSeens.j1]; exact rfl) (evNeg Bool.false_ne_true ?_)
   refine Ev.bind (evId (fun _ => rfl)) (evPos (show ([] : List Int).length + ns.length < 17592186044416 by simp; omega) (Ev.bind (evId (fun _ => rfl)) (evPos (show ([] ++ ns : List Int).length < 17592186044416 by simp; omega) ?_)))
   rw [List.nil_append]
   have e1 : seens xs ns = seensF xs ns xs.length 0 := if_pos ⟨hok, by omega⟩
   have eb : bottom xs ns = (botF (seens xs ns).reverse).reverse := rfl
   have hsok : entriesOk (seens xs ns) = true := entriesOk_sub hok (by rw [e1]; exact seens_sub ns)
   have hbok : entriesOk (bottom xs ns) = true := entriesOk_sub hsok (botF_sub _)
   have hidem := bottom_idem hok ns (by omega)
   have sh1 : ∀ t ∈ ns ++ [1000000], shown (seens xs ns) t = shown xs t := fun t ht => by
    rw [e1]
    exact shown_seens hok ns t ((List.mem_append.1 ht).imp id List.mem_singleton.1)
   have sh2 : ∀ t ∈ ns ++ [1000000], shown (bottom xs ns) t = shown xs t := fun t ht => by
    rw [eb, shown_bot hsok]
    exact sh1 t ht
   have htl : (ns ++ [1000000]).length ≤ 1000 := by simp; omega
   generalize ns ++ [1000000] = ts at sh1 sh2 htl
   have imB2 := impl_Bottom_ev (bottom xs ns) ns
   rw [hidem] at imB2
   generalize seens xs ns = S at *
   generalize bottom xs ns = B at *
   have loop : ∀ (bs : List Int) (i : Nat), ts.drop i = bs → Ev (fun k => laws_FnSeens.l0 k xs ns S B ts (i : Int)) true := by
    intro bs
    induction bs with
    | nil =>
     intro i hd
     have := drop_nil hd
     refine Ev.step (fun k => by simp only [laws_FnSeens.l0]; exact rfl) (evNeg (by omega) ?_)
     refine Ev.bind (impl_EntriesOk_ev S) (evPos hsok (Ev.bind (impl_EntriesOk_ev B) (evPos hbok (evPos (by omega) (evPos (by omega) (Ev.bind imB2 (Ev.bind lkB (Ev.now _))))))))
    | cons t bs ih =>
     intro i hd
     obtain ⟨h2, h3, h4⟩ := drop_cons hd
     have e1 : rd ts (i : Int) = t := rd_at h4
     have htm : t ∈ ts := List.mem_of_getElem? h4
     have hlk := laws_likeEntries_self (shown xs t) (by have := shown_le xs t; omega)
     have m1 := impl_Shown_ev S t
     have m2 := impl_Shown_ev B t
     rw [sh1 t htm] at m1
     rw [sh2 t htm] at m2
     refine Ev.step (fun k => by simp only [laws_FnSeens.l0]; rw [e1, w64s (i := i) (by omega)]) (evPos (by omega) (evPos (by omega) ?_))
     exact Ev.bind (spec_Shown_ev xs t) (Ev.bind m1 (Ev.bind hlk (evPos rfl (Ev.bind m2 (Ev.bind hlk (evPos rfl (ih (i + 1) h3)))))))
   exact loop ts 0 rfl
 ·exact evNeg hok (none1 (if_neg (fun hh => hok hh.1)))
end Go.Proofs.Ytajidjlbgpaaoaa.Pure

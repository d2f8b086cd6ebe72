/- Proves the plain law behind this statement of the seat (what its functions come to, over numbers and lists): that it answers true. No condition beyond the statement's own. -/
import Derived.Test.YtepcmdmclmfgkaaDoorPFnDigestsx
import Derived.Test.YtepcmdmclmfgkaaDoorLib
import Derived.Test.YtepcmdmclmfgkaaDoorLibHit
import Derived.Test.YtepcmdmclmfgkaaDoorLibRow
import Derived.Test.YtepcmdmclmfgkaaDoorLibStr
namespace Go.Proofs.YtepcmdmclmfgkaaDoor.Pure
open Go Go.RowKit Go.Proofs.YtepcmdmclmfgkaaDoor.PFnDigests Go.Proofs.YtepcmdmclmfgkaaDoorW.PrintWords Go.Proofs.YtepcmdmclmfgkaaDoorW.PrintLast Go.Proofs.YtepcmdmclmfgkaaDoorW.PrintMore Go.Proofs.YtepcmdmclmfgkaaDoor.Lib
set_option linter.unusedVariables false
set_option linter.unusedSimpArgs false
theorem spec_Digest_l0_ev (s : ByteArray) (hs : s.size ≤ 140737488351232) : ∀ (bs : List Int) (i : Nat) (h : Int), (bytesOf s).drop i = bs → 0 ≤ h → h < 2147483647 → Ev (fun k => spec_Digest.l0 k s h i) (dig h bs)
  | [], i, h, hd, h0, h1 => by
    have := bdrop_nil hd
    refine Ev.step (f := fun _ => some h) (fun k => ?_) (Ev.now _)
    simp only [spec_Digest.l0]
    rw [if_neg (by omega)]
  | b :: bs, i, h, hd, h0, h1 => by
    obtain ⟨h2, h3, h4, h5, h6⟩ := bdrop_cons hd
    refine Ev.step (f := fun k => spec_Digest.l0 k s (dstep h b) ((i + 1 : Nat) : Int)) (fun k => ?_) (spec_Digest_l0_ev s hs bs (i + 1) _ h3 (dstep_bd h b).1 (dstep_bd h b).2)
    simp only [spec_Digest.l0]
    rw [if_pos (by omega), if_pos (by omega), h4, dstep_eq h0 h1 h5 h6, w64s (by omega)]
theorem spec_Digest_ev (s : ByteArray) (hs : s.size ≤ 140737488351232) : Ev (fun k => spec_Digest.f k s) (digest s) :=
  spec_Digest_l0_ev s hs (bytesOf s) 0 1 rfl (by decide) (by decide)
theorem impl_Digest_l0_ev (s : ByteArray) (hs : s.size ≤ 140737488351232) : ∀ (bs : List Int) (i : Nat) (h : Int), (bytesOf s).drop i = bs → 0 ≤ h → h < 2147483647 → Ev (fun k => impl_Digest.l0 k s h (s.size : Int) i) (dig h bs)
  | [], i, h, hd, h0, h1 => by
    have := bdrop_nil hd
    refine Ev.step (f := fun _ => some h) (fun k => ?_) (Ev.now _)
    simp only [impl_Digest.l0]
    rw [if_neg (by omega)]
  | b :: bs, i, h, hd, h0, h1 => by
    obtain ⟨h2, h3, h4, h5, h6⟩ := bdrop_cons hd
    refine Ev.step (f := fun k => impl_Digest.l0 k s (dstep h b) (s.size : Int) ((i + 1 : Nat) : Int)) (fun k => ?_) (impl_Digest_l0_ev s hs bs (i + 1) _ h3 (dstep_bd h b).1 (dstep_bd h b).2)
    simp only [impl_Digest.l0]
    rw [if_pos (by omega), if_pos (by omega), if_pos (by omega), h4, dstep_eq h0 h1 h5 h6, w64s (by omega)]
theorem impl_Digest_ev (s : ByteArray) (hs : s.size ≤ 140737488351232) : Ev (fun k => impl_Digest.f k s) (digest s) :=
  impl_Digest_l0_ev s hs (bytesOf s) 0 1 rfl (by decide) (by decide)

def clash (s t : ByteArray) : Bool := if s.toList = t.toList then false else digest s == digest t
theorem spec_Clash_ev (s t : ByteArray) (hs : s.size ≤ 140737488351232) (ht : t.size ≤ 140737488351232) : Ev (fun k => spec_Clash.f k s t) (clash s t) := by
  simp only [spec_Clash.f, clash]
  exact evIte (fun _ => Ev.now _) (fun _ => Ev.bind (spec_Digest_ev s hs) (Ev.bind (spec_Digest_ev t ht) (Ev.now _)))
theorem impl_Clash_ev (s t : ByteArray) (hs : s.size ≤ 140737488351232) (ht : t.size ≤ 140737488351232) : Ev (fun k => impl_Clash.f k s t) (clash s t) := by
  simp only [impl_Clash.f, clash]
  exact evIte (fun _ => Ev.now _) (fun _ => Ev.bind (impl_Digest_ev s hs) (Ev.bind (impl_Digest_ev t ht) (Ev.now _)))

theorem mk_append (a b : List UInt8) : (⟨(a ++ b).toArray⟩ : ByteArray) = (⟨a.toArray⟩ : ByteArray) ++ (⟨b.toArray⟩ : ByteArray) := by
  apply Go.WideShapes.bytes_inj
  simp
theorem str_one (x : Int) : strOfNums [x] = (⟨[UInt8.ofNat x.toNat].toArray⟩ : ByteArray) := by
  apply Go.WideShapes.bytes_inj
  rw [strOfNums_data]
  rfl
theorem app_assoc (a b c : ByteArray) : (a ++ b) ++ c = a ++ (b ++ c) := by
  apply Go.WideShapes.bytes_inj
  simp
/-- The decimal digits of a number. -/
def decD (u : Nat) : ByteArray := ⟨(Go.Lib.decDigits u).toArray⟩
theorem decD_small {u : Nat} (h : u < 10) : decD u = (⟨[UInt8.ofNat (48 + u)].toArray⟩ : ByteArray) := by
  unfold decD
  rw [Go.Lib.decDigits, dif_pos h]
theorem decD_big {u : Nat} (h : ¬ u < 10) : decD u = decD (u / 10) ++ (⟨[UInt8.ofNat (48 + u % 10)].toArray⟩ : ByteArray) := by
  unfold decD
  rw [Go.Lib.decDigits, dif_neg h, mk_append]
theorem decD_le : ∀ (i u : Nat), u < 10 ^ (i + 1) → (decD u).size ≤ i + 1
  | 0, u, h => by
    rw [decD_small (by simpa using h)]
    simp [ByteArray.size]
  | i + 1, u, h => by
    by_cases hu : u < 10
    · rw [decD_small hu]
      simp [ByteArray.size]
    · rw [decD_big hu, ByteArray.size_append]
      have := decD_le i (u / 10) (by rw [Nat.pow_succ] at h; omega)
      have e : (⟨[UInt8.ofNat (48 + u % 10)].toArray⟩ : ByteArray).size = 1 := rfl
      omega
/-- The decimal numeral. -/
def dec (n : Int) : ByteArray := ⟨(Go.Lib.itoa n).toArray⟩
def minus (b : Bool) : ByteArray := if b = true then (⟨#[45]⟩ : ByteArray) else (⟨#[]⟩ : ByteArray)
theorem empty_app (s : ByteArray) : (⟨#[]⟩ : ByteArray) ++ s = s := by
  apply Go.WideShapes.bytes_inj
  simp
theorem toList_empty : (⟨#[]⟩ : ByteArray).toList = ([] : List UInt8) := by rw [ByteArray.toList_eq]
theorem app_empty (s : ByteArray) : s ++ (⟨#[]⟩ : ByteArray) = s := by
  apply Go.WideShapes.bytes_inj
  simp
theorem dec_eq (n : Int) : dec n = minus (decide (n < 0)) ++ decD n.natAbs := by
  unfold dec minus decD Go.Lib.itoa
  by_cases h : n < 0
  · rw [if_pos h, decide_eq_true h, if_pos rfl]
    exact mk_append [45] (Go.Lib.decDigits n.natAbs)
  · rw [if_neg h, decide_eq_false h, if_neg (by decide), empty_app, show n.toNat = n.natAbs by omega]
theorem dec_le (n : Int) (h0 : -9223372036854775808 ≤ n) (h1 : n ≤ 9223372036854775807) : (dec n).size ≤ 21 := by
  rw [dec_eq, ByteArray.size_append]
  have := decD_le 19 n.natAbs (by omega)
  have : (minus (decide (n < 0))).size ≤ 1 := by
    unfold minus
    split <;> decide
  omega
theorem l2_digit (n : Int) (h0 : -9223372036854775808 ≤ n) (h1 : n ≤ 9223372036854775807) :
    (Int.tmod n 10 < 0 → (wrap64 (48 + (wrap64 (-(Int.tmod n 10))))) % 256 = ((48 + n.natAbs % 10 : Nat) : Int)) ∧ (¬ Int.tmod n 10 < 0 → (wrap64 (48 + (Int.tmod n 10))) % 256 = ((48 + n.natAbs % 10 : Nat) : Int)) ∧ wrap64 (Int.tdiv n 10) = Int.tdiv n 10 ∧ (Int.tdiv n 10).natAbs = n.natAbs / 10 := by
  have hd : (Int.tdiv n 10).natAbs = n.natAbs / 10 := by rw [Int.natAbs_tdiv]; rfl
  have hm := Int.mul_tdiv_add_tmod n 10
  have hn : 0 ≤ n → 0 ≤ Int.tdiv n 10 := fun h => Int.tdiv_nonneg h (by decide)
  have hp : n ≤ 0 → Int.tdiv n 10 ≤ 0 := fun h => by
    have : Int.tdiv n 10 = -(Int.tdiv (-n) 10) := by rw [Int.neg_tdiv]; omega
    have := Int.tdiv_nonneg (a := -n) (b := 10) (by omega) (by decide)
    omega
  generalize Int.tdiv n 10 = q at hd hm hn hp ⊢
  generalize Int.tmod n 10 = r at hm ⊢
  refine ⟨fun h => ?_, fun h => ?_, w64 (by omega) (by omega), hd⟩
  · have e : wrap64 (-r) = -r := w64 (by omega) (by omega)
    rw [e, w64 (by omega) (by omega)]
    omega
  · rw [w64 (by omega) (by omega)]
    omega
theorem spec_l2Int_l0_ev (neg : Bool) : ∀ (m : Nat) (n : Int) (s : ByteArray), n.natAbs = m → -9223372036854775808 ≤ n → n ≤ 9223372036854775807 → (s.toList = ([] : List UInt8) ∨ n ≠ 0) → (s.size = 0 ∨ s.size + m ≤ 9223372036854775000) →
    Ev (fun k => spec_l2Int.l0 k n s neg) (minus neg ++ (decD m ++ s)) := by
  intro m
  induction m using Nat.strongRecOn with
  | ind m ih =>
    intro n s hnm h0 h1 hs hsz
    obtain ⟨d1, d2, d3, d4⟩ := l2_digit n h0 h1
    rw [hnm] at d1 d2 d4
    have step : ∀ r, Ev (fun k => spec_l2Int.l0 k (Int.tdiv n 10) ((⟨[UInt8.ofNat (48 + m % 10)].toArray⟩ : ByteArray) ++ s) neg) r → Ev (fun k => spec_l2Int.l0 k n s neg) r := by
      intro r hr
      have e1 : strOfNums [((48 + m % 10 : Nat) : Int)] = (⟨[UInt8.ofNat (48 + m % 10)].toArray⟩ : ByteArray) := by rw [str_one, Int.toNat_natCast]
      have e2 : (⟨[UInt8.ofNat (48 + m % 10)].toArray⟩ : ByteArray).size = 1 := rfl
      have j1 : Ev (fun k => spec_l2Int.j1 k n s neg true) r := by
        refine Ev.step (fun k => by simp only [spec_l2Int.j1]; exact rfl) ?_
        refine evPos trivial ?_
        simp only [Option.bind_some]
        by_cases hd : Int.tmod n 10 < 0
        · refine evPos hd ?_
          simp only [d1 hd, d3, e1]
          exact evPos (by omega) hr
        · refine evNeg hd ?_
          simp only [d2 hd, d3, e1]
          exact evPos (by omega) hr
      refine Ev.step (fun k => ?_) j1
      simp only [spec_l2Int.l0]
      by_cases he : s.toList = ([] : List UInt8)
      · rw [if_pos he]
      · rw [if_neg he, show (n != 0) = true from bne_iff_ne.2 (hs.resolve_left he)]
    have hq0 : -9223372036854775808 ≤ Int.tdiv n 10 := by omega
    have hq1 : Int.tdiv n 10 ≤ 9223372036854775807 := by omega
    by_cases hm : m < 10
    · rw [decD_small hm]
      have hz : Int.tdiv n 10 = 0 := by omega
      refine step _ ?_
      rw [hz, show m % 10 = m by omega]
      have hne : ¬ ((⟨[UInt8.ofNat (48 + m)].toArray⟩ : ByteArray) ++ s).toList = ([] : List UInt8) := by
        intro e
        have : ((⟨[UInt8.ofNat (48 + m)].toArray⟩ : ByteArray) ++ s) = (⟨#[]⟩ : ByteArray) := str_eq.1 (e.trans toList_empty.symm)
        have := congrArg ByteArray.size this
        rw [ByteArray.size_append] at this
        have e2 : (⟨[UInt8.ofNat (48 + m)].toArray⟩ : ByteArray).size = 1 := rfl
        have e3 : (⟨#[]⟩ : ByteArray).size = 0 := rfl
        omega
      have hsz2 : 1 + ((⟨[UInt8.ofNat (48 + m)].toArray⟩ : ByteArray) ++ s).size ≤ 9223372036854775807 := by
        rw [ByteArray.size_append]
        have e2 : (⟨[UInt8.ofNat (48 + m)].toArray⟩ : ByteArray).size = 1 := rfl
        omega
      generalize (⟨[UInt8.ofNat (48 + m)].toArray⟩ : ByteArray) ++ s = t at hne hsz2 ⊢
      refine Ev.step (f := fun k => spec_l2Int.j1 k 0 t neg false) (fun k => ?_) ?_
      · simp only [spec_l2Int.l0]
        rw [if_neg hne]
        rfl
      · refine Ev.step (fun k => by simp only [spec_l2Int.j1]; exact rfl) ?_
        refine evNeg (by decide) ?_
        unfold minus
        cases neg with
        | true => exact evPos rfl (evPos hsz2 (evEq (Ev.now _) (by rw [if_pos rfl])))
        | false => exact evNeg (by decide) (evEq (Ev.now _) (by rw [if_neg (by decide), empty_app]))
    · rw [decD_big hm, app_assoc]
      refine step _ (ih (m / 10) (by omega) _ _ d4 hq0 hq1 (Or.inr (by omega)) ?_)
      right
      rw [ByteArray.size_append]
      have e2 : (⟨[UInt8.ofNat (48 + m % 10)].toArray⟩ : ByteArray).size = 1 := rfl
      omega
theorem spec_l2Int_ev (n : Int) (h0 : -9223372036854775808 ≤ n) (h1 : n ≤ 9223372036854775807) : Ev (fun k => spec_l2Int.f k n) (dec n) := by
  have := spec_l2Int_l0_ev (decide (n < 0)) n.natAbs n (⟨#[]⟩ : ByteArray) rfl h0 h1 (Or.inl toList_empty) (Or.inl rfl)
  rw [app_empty, ← dec_eq] at this
  exact this
theorem impl_decimal_ev (n : Int) (h0 : -9223372036854775808 ≤ n) (h1 : n ≤ 9223372036854775807) : Ev (fun _ => impl_decimal.f n) (dec n) := by
  refine evId (fun _ => ?_)
  unfold impl_decimal.f
  exact if_pos ⟨h0, h1⟩

theorem spec_l1In_ev (a b c : Int) : Ev (fun _ => spec_l1In.f a b c) (within a b c) := by
  refine evId (fun _ => ?_)
  unfold spec_l1In.f within
  by_cases h : a ≥ b
  · rw [if_pos h, decide_eq_true (show b ≤ a from h), Bool.true_and]
  · rw [if_neg h, decide_eq_false (show ¬ b ≤ a from h), Bool.false_and]

theorem impl_within_ev (a b c : Int) : Ev (fun _ => impl_within.f a b c) (within a b c) := by
  refine evId (fun _ => ?_)
  unfold impl_within.f within
  by_cases h : a ≥ b
  · rw [if_pos h, decide_eq_true (show b ≤ a from h), Bool.true_and]
  · rw [if_neg h, decide_eq_false (show ¬ b ≤ a from h), Bool.false_and]

theorem within_iff {a b c : Int} : within a b c = true ↔ b ≤ a ∧ a ≤ c := by
  unfold within
  simp only [Bool.and_eq_true, decide_eq_true_eq]
def tagText (a : Int) (s : ByteArray) : ByteArray := (((⟨#[115, 101, 99, 114, 101, 116]⟩ : ByteArray) ++ dec a) ++ (⟨#[47]⟩ : ByteArray)) ++ s
def tagOf (a : Int) (s : ByteArray) : Int := digest (tagText a s)
theorem tagOf_bd (a : Int) (s : ByteArray) : 0 ≤ tagOf a s ∧ tagOf a s < 2147483647 := digest_bd _
def tag (a : Int) (s : ByteArray) : Int := if within a 0 6 = true then tagOf a s else -1
theorem tag_sizes (a : Int) (s : ByteArray) (h0 : -9223372036854775808 ≤ a) (h1 : a ≤ 9223372036854775807) :
    (dec a).size ≤ 21 ∧ ((⟨#[115, 101, 99, 114, 101, 116]⟩ : ByteArray) ++ dec a).size ≤ 27 ∧ (((⟨#[115, 101, 99, 114, 101, 116]⟩ : ByteArray) ++ dec a) ++ (⟨#[47]⟩ : ByteArray)).size ≤ 28 ∧ (tagText a s).size ≤ 28 + s.size := by
  have h := dec_le a h0 h1
  have e1 : (⟨#[115, 101, 99, 114, 101, 116]⟩ : ByteArray).size = 6 := rfl
  have e2 : (⟨#[47]⟩ : ByteArray).size = 1 := rfl
  unfold tagText
  simp only [ByteArray.size_append]
  omega
theorem spec_l2Tag_ev (a : Int) (s : ByteArray) (h0 : -9223372036854775808 ≤ a) (h1 : a ≤ 9223372036854775807) (hs : s.size ≤ 1048576) : Ev (fun k => spec_l2Tag.f k a s) (tagOf a s) := by
  obtain ⟨z1, z2, z3, z4⟩ := tag_sizes a s h0 h1
  simp only [spec_l2Tag.f]
  exact Ev.bind (spec_l2Int_ev a h0 h1) (evPos (by omega) (evPos (by omega) (evPos (by omega) (Ev.bind (spec_Digest_ev (tagText a s) (by omega)) (Ev.now _)))))
theorem impl_isServer_ev (a : Int) : Ev (fun _ => impl_isServer.f a) (within a 0 6) := by
  simp only [impl_isServer.f]
  exact Ev.bind (impl_within_ev a 0 6) (Ev.now _)
theorem impl_Tag_ev (a : Int) (s : ByteArray) (hs : s.size ≤ 1048576) : Ev (fun k => impl_Tag.f k a s) (tag a s) := by
  simp only [impl_Tag.f]
  refine Ev.bind (impl_isServer_ev a) ?_
  unfold tag
  by_cases h : within a 0 6 = true
  · rw [if_pos h]
    obtain ⟨a0, a1⟩ := within_iff.1 h
    obtain ⟨z1, z2, z3, z4⟩ := tag_sizes a s (by omega) (by omega)
    exact evPos h (Ev.bind (impl_decimal_ev a (by omega) (by omega)) (evPos (by omega) (evPos (by omega) (evPos (by omega) (Ev.bind (impl_Digest_ev (tagText a s) (by omega)) (Ev.now _))))))
  · rw [if_neg h]
    exact evNeg h (Ev.now _)

theorem spec_Tag_ev (a : Int) (s : ByteArray) (hs : s.size ≤ 1048576) : Ev (fun k => spec_Tag.f k a s) (tag a s) := by
  simp only [spec_Tag.f]
  refine Ev.bind (spec_l1In_ev a 0 6) ?_
  unfold tag
  by_cases h : within a 0 6 = true
  · rw [if_pos h]
    obtain ⟨a0, a1⟩ := within_iff.1 h
    exact evPos h (Ev.bind (spec_l2Tag_ev a s (by omega) (by omega) (by omega)) (Ev.now _))
  · rw [if_neg h]
    exact evNeg h (Ev.now _)
theorem spec_Signed_ev (a : Int) (s : ByteArray) (g : Int) (hs : s.size ≤ 1048576) : Ev (fun k => spec_Signed.f k a s g) (within a 0 6 && tagOf a s == g) := by
  simp only [spec_Signed.f]
  refine Ev.bind (spec_l1In_ev a 0 6) ?_
  by_cases h : within a 0 6 = true
  · rw [h]
    obtain ⟨a0, a1⟩ := within_iff.1 h
    exact evPos rfl (Ev.bind (spec_l2Tag_ev a s (by omega) (by omega) (by omega)) (evEq (Ev.now _) (by simp)))
  · rw [Bool.eq_false_iff.2 h]
    exact evNeg (by decide) (evEq (Ev.now _) (by simp))
theorem impl_Signed_ev (a : Int) (s : ByteArray) (g : Int) (hs : s.size ≤ 1048576) : Ev (fun k => impl_Signed.f k a s g) (within a 0 6 && tagOf a s == g) := by
  have hd := tagOf_bd a s
  simp only [impl_Signed.f]
  by_cases h : g = -1
  · refine evPos h (evEq (Ev.now _) ?_)
    have : (tagOf a s == g) = false := by rw [beq_eq_false_iff_ne]; omega
    rw [this, Bool.and_false]
  · refine evNeg h (Ev.bind (impl_Tag_ev a s (by omega)) (evEq (Ev.now _) ?_))
    unfold tag
    by_cases h2 : within a 0 6 = true
    · rw [if_pos h2, h2, Bool.true_and, Bool.eq_iff_iff, beq_iff_eq, beq_iff_eq]
      exact ⟨fun e => e.symm, fun e => e.symm⟩
    · rw [if_neg h2, Bool.eq_false_iff.2 h2, Bool.false_and, beq_eq_false_iff_ne]
      exact h

def pairOf (a b : Int) : Int := digest (dec a ++ (⟨#[44]⟩ : ByteArray) ++ dec b)
theorem pair_sz (a b : Int) (a0 : -9223372036854775808 ≤ a) (a1 : a ≤ 9223372036854775807) (b0 : -9223372036854775808 ≤ b) (b1 : b ≤ 9223372036854775807) :
    (dec a).size ≤ 21 ∧ (dec b).size ≤ 21 ∧ (dec a ++ (⟨#[44]⟩ : ByteArray)).size ≤ 22 ∧ (dec a ++ (⟨#[44]⟩ : ByteArray) ++ dec b).size ≤ 140737488351232 := by
  have la := dec_le a a0 a1
  have lb := dec_le b b0 b1
  have e1 : (⟨#[44]⟩ : ByteArray).size = 1 := rfl
  have sz : (dec a ++ (⟨#[44]⟩ : ByteArray)).size ≤ 22 := by rw [ByteArray.size_append]; omega
  refine ⟨la, lb, sz, ?_⟩
  rw [ByteArray.size_append]; omega
theorem spec_Pair_ev (a b : Int) (a0 : -9223372036854775808 ≤ a) (a1 : a ≤ 9223372036854775807) (b0 : -9223372036854775808 ≤ b) (b1 : b ≤ 9223372036854775807) : Ev (fun k => spec_Pair.f k a b) (pairOf a b) := by
  obtain ⟨z1, z2, z3, z4⟩ := pair_sz a b a0 a1 b0 b1
  simp only [spec_Pair.f]
  exact Ev.bind (spec_l2Int_ev a a0 a1) (evPos (by omega) (Ev.bind (spec_l2Int_ev b b0 b1) (evPos (by omega) (Ev.bind (spec_Digest_ev _ z4) (Ev.now _)))))
theorem impl_Pair_ev (a b : Int) (a0 : -9223372036854775808 ≤ a) (a1 : a ≤ 9223372036854775807) (b0 : -9223372036854775808 ≤ b) (b1 : b ≤ 9223372036854775807) : Ev (fun k => impl_Pair.f k a b) (pairOf a b) := by
  obtain ⟨z1, z2, z3, z4⟩ := pair_sz a b a0 a1 b0 b1
  simp only [impl_Pair.f]
  exact Ev.bind (impl_decimal_ev a a0 a1) (evPos (by omega) (Ev.bind (impl_decimal_ev b b0 b1) (evPos (by omega) (Ev.bind (impl_Digest_ev _ z4) (Ev.now _)))))

theorem and255 (y : Int) : 0 ≤ Go.bits .and .i64 y 255 ∧ Go.bits .and .i64 y 255 ≤ 255 := by
  have e : ((BitVec.ofInt IntKind.i64.bits y) &&& (BitVec.ofInt IntKind.i64.bits 255)).toNat ≤ 255 := by
    rw [BitVec.toNat_and]
    exact Nat.le_trans Nat.and_le_right (by decide)
  have e2 : Go.bits .and .i64 y 255 = (((BitVec.ofInt IntKind.i64.bits y) &&& (BitVec.ofInt IntKind.i64.bits 255)).toNat : Int) := by
    simp only [Go.bits]
    rw [IntKind.wrap_i64]
    generalize ((BitVec.ofInt IntKind.i64.bits y) &&& (BitVec.ofInt IntKind.i64.bits 255)).toNat = n at e ⊢
    omega
  rw [e2]
  generalize ((BitVec.ofInt IntKind.i64.bits y) &&& (BitVec.ofInt IntKind.i64.bits 255)).toNat = n at e ⊢
  omega
theorem spec_l1New_l0_ev (b : List Int) (hl : b.length ≤ 1000000000000000000) : ∀ (bs : List Int) (i : Nat) (h : Int), b.drop i = bs → ∃ h', Ev (fun k => spec_l1New.l0 k b h i) (b, 0, h')
  | [], i, h, hd => by
    have := drop_nil hd
    refine ⟨h, Ev.step (f := fun _ => some _) (fun k => ?_) (Ev.now _)⟩
    simp only [spec_l1New.l0]
    rw [if_neg (by omega)]
  | x :: bs, i, h, hd => by
    obtain ⟨h2, h3, h4⟩ := drop_cons hd
    obtain ⟨h', hh⟩ := spec_l1New_l0_ev b hl bs (i + 1) (Go.bits .and .i64 (wrap64 ((wrap64 ((wrap64 (h * 137)) + (wrap64 (rd b i)))) + 11)) 1073741823) h3
    refine ⟨h', Ev.step (fun k => ?_) hh⟩
    simp only [spec_l1New.l0]
    rw [if_pos (by omega), if_pos (by omega), w64s (by omega)]
theorem spec_l1New_ev (b : List Int) (hl : b.length ≤ 1000000000000000000) : ∃ h, Ev (fun k => spec_l1New.f k b) (b, 0, h) := spec_l1New_l0_ev b hl b 0 _ rfl
theorem spec_l1Byte_eq (b : List Int) (hl : b.length ≤ 1000000000000000000) (i h : Int) (hi : 0 ≤ i) : ∃ x i' h', spec_l1Byte.f b i h = some (x, i', h') ∧ 0 ≤ x ∧ x ≤ 255 ∧ 0 ≤ i' := by
  unfold spec_l1Byte.f
  by_cases hx : i < (b.length : Int)
  · rw [if_pos hx, if_pos hi]
    refine ⟨_, _, _, rfl, (and255 _).1, (and255 _).2, ?_⟩
    rw [w64 (by omega) (by omega)]
    omega
  · rw [if_neg hx]
    exact ⟨_, _, _, rfl, (and255 _).1, (and255 _).2, hi⟩
theorem spec_l1Below_eq (b : List Int) (hl : b.length ≤ 1000000000000000000) (i h : Int) (hi : 0 ≤ i) (n : Int) : ∃ x i' h', spec_l1Below.f b i h n = some (x, i', h') ∧ 0 ≤ x ∧ (0 < n → x < n) ∧ 0 ≤ i' := by
  unfold spec_l1Below.f
  by_cases h0 : n ≤ 0
  · rw [if_pos h0]
    exact ⟨_, _, _, rfl, Int.le_refl _, fun h => absurd h (by omega), hi⟩
  rw [if_neg h0]
  obtain ⟨x, i1, h1, e1, x0, x1, hi1⟩ := spec_l1Byte_eq b hl i h hi
  rw [e1]
  simp only [Option.bind_some]
  have fin : ∀ y : Int, 0 ≤ y → 0 ≤ Int.tmod y n ∧ (0 < n → Int.tmod y n < n) := fun y hy => ⟨Int.tmod_nonneg _ hy, fun hn => Int.tmod_lt_of_pos _ hn⟩
  by_cases h2 : n ≤ 256
  · rw [if_pos h2, if_neg (by omega)]
    exact ⟨_, _, _, rfl, (fin x x0).1, (fin x x0).2, hi1⟩
  rw [if_neg h2]
  obtain ⟨y, i2, g2, e2, y0, y1, hi2⟩ := spec_l1Byte_eq b hl i1 h1 hi1
  rw [e2]
  simp only [Option.bind_some]
  obtain ⟨z, i3, g3, e3, z0, z1, hi3⟩ := spec_l1Byte_eq b hl i2 g2 hi2
  rw [e3]
  simp only [Option.bind_some]
  obtain ⟨w, i4, g4, e4, w0, w1, hi4⟩ := spec_l1Byte_eq b hl i3 g3 hi3
  rw [e4]
  simp only [Option.bind_some]
  rw [if_neg (by omega)]
  have ee : (wrap64 ((wrap64 ((wrap64 ((wrap64 (x * 16777216)) + (wrap64 (y * 65536)))) + (wrap64 (z * 256)))) + w)) = x * 16777216 + y * 65536 + z * 256 + w := by
    rw [w64 (x := x * 16777216) (by omega) (by omega), w64 (x := y * 65536) (by omega) (by omega), w64 (x := z * 256) (by omega) (by omega), w64 (x := x * 16777216 + y * 65536) (by omega) (by omega), w64 (x := x * 16777216 + y * 65536 + z * 256) (by omega) (by omega), w64 (by omega) (by omega)]
  rw [ee]
  exact ⟨_, _, _, rfl, (fin _ (by omega)).1, (fin _ (by omega)).2, hi4⟩
theorem spec_l1Once_eq (b : List Int) (hl : b.length ≤ 1000000000000000000) (i h : Int) (hi : 0 ≤ i) (n : Int) : ∃ x i' h', spec_l1Once.f b i h n = some (x, i', h') ∧ 0 ≤ i' := by
  obtain ⟨x, i1, h1, e1, _, _, hi1⟩ := spec_l1Below_eq b hl i h hi n
  unfold spec_l1Once.f
  rw [e1]
  exact ⟨_, _, _, rfl, hi1⟩
theorem strOfNums_le (xs : List Int) : (strOfNums xs).size = xs.length := by rw [strOfNums_size]

theorem spec_l1DrawText_l0_ev (b : List Int) (hl : b.length ≤ 1000000000000000000) : ∀ (n : Nat) (acc : List Int) (i h : Int), 0 ≤ i → acc.length + n ≤ 1000 →
    ∃ s i' h', Ev (fun k => spec_l1DrawText.l0 k acc (n : Int) b i h) (s, i', h') ∧ s.size ≤ acc.length + n + 1 ∧ 0 ≤ i'
  | 0, acc, i, h, hi, ha => by
    obtain ⟨x, i1, h1, e1, hi1⟩ := spec_l1Once_eq b hl i h hi 6
    obtain ⟨y, i2, h2, e2, _, _, hi2⟩ := spec_l1Byte_eq b hl i1 h1 hi1
    cases x with
    | true =>
      refine ⟨_, _, _, Ev.step (f := fun _ => some (strOfNums (acc ++ [y % 256]), i2, h2)) (fun k => ?_) (Ev.now _), ?_, hi2⟩
      · simp only [spec_l1DrawText.l0]
        rw [if_neg (by omega), e1]
        simp only [Option.bind_some]
        rw [if_pos trivial, e2]
        simp only [Option.bind_some]
        rw [if_pos (by omega)]
      · rw [strOfNums_le, List.length_append, List.length_singleton]; omega
    | false =>
      refine ⟨_, _, _, Ev.step (f := fun _ => some (strOfNums acc, i1, h1)) (fun k => ?_) (Ev.now _), ?_, hi1⟩
      · simp only [spec_l1DrawText.l0]
        rw [if_neg (by omega), e1]
        simp only [Option.bind_some]
        rw [if_neg (by decide)]
      · rw [strOfNums_le]; omega
  | n + 1, acc, i, h, hi, ha => by
    obtain ⟨x, i1, h1, e1, x0, x1, hi1⟩ := spec_l1Below_eq b hl i h hi 4
    obtain ⟨s, i2, h2, hs, hz, hi2⟩ := spec_l1DrawText_l0_ev b hl n (acc ++ [(wrap64 (97 + x)) % 256]) i1 h1 hi1 (by rw [List.length_append, List.length_singleton]; omega)
    rw [List.length_append, List.length_singleton] at hz
    refine ⟨s, i2, h2, Ev.step (fun k => ?_) hs, by omega, hi2⟩
    simp only [spec_l1DrawText.l0]
    rw [if_pos (by omega), e1]
    simp only [Option.bind_some]
    rw [if_pos (by omega), w64 (x := ((n + 1 : Nat) : Int) - 1) (by omega) (by omega), show ((n + 1 : Nat) : Int) - 1 = (n : Int) by omega]
theorem spec_l1DrawText_ev (b : List Int) (hl : b.length ≤ 1000000000000000000) (i h : Int) (hi : 0 ≤ i) :
    ∃ s i' h', Ev (fun k => spec_l1DrawText.f k b i h) (s, i', h') ∧ s.size ≤ 8 ∧ 0 ≤ i' := by
  obtain ⟨x, i1, h1, e1, x0, x1, hi1⟩ := spec_l1Below_eq b hl i h hi 8
  obtain ⟨n, rfl⟩ := Int.eq_ofNat_of_zero_le x0
  have hn := x1 (by decide)
  obtain ⟨s, i2, h2, hs, hz, hi2⟩ := spec_l1DrawText_l0_ev b hl n [] i1 h1 hi1 (by simp; omega)
  simp only [List.length_nil] at hz
  refine ⟨s, i2, h2, ?_, by omega, hi2⟩
  simp only [spec_l1DrawText.f]
  exact Ev.bind (evId (fun _ => e1)) hs

theorem spec_DrawClash_ev (l : List Int) (hl : l.length ≤ 1000000000000000000) : ∃ a b, Ev (fun k => spec_DrawClash.f k l) (a, b) ∧ a.size ≤ 9 ∧ b.size ≤ 9 := by
  obtain ⟨h, hn⟩ := spec_l1New_ev l hl
  obtain ⟨x, i1, h1, e1, hi1⟩ := spec_l1Once_eq l hl 0 h (Int.le_refl _) 3
  obtain ⟨s, i2, h2, hs, hz, hi2⟩ := spec_l1DrawText_ev l hl i1 h1 hi1
  obtain ⟨y, i3, h3, e3, hi3⟩ := spec_l1Once_eq l hl i2 h2 hi2 3
  obtain ⟨t, i4, h4, ht, hz2, hi4⟩ := spec_l1DrawText_ev l hl i3 h3 hi3
  simp only [spec_DrawClash.f]
  cases x with
  | true => exact ⟨_, _, Ev.bind hn (Ev.bind (evId (fun _ => e1)) (evPos rfl (Ev.now _))), Nat.le_refl 9, Nat.le_refl 9⟩
  | false =>
    cases y with
    | true => exact ⟨s, s, Ev.bind hn (Ev.bind (evId (fun _ => e1)) (evNeg Bool.false_ne_true (Ev.bind hs (Ev.bind (evId (fun _ => e3)) (evPos rfl (Ev.now _)))))), by omega, by omega⟩
    | false => exact ⟨s, t, Ev.bind hn (Ev.bind (evId (fun _ => e1)) (evNeg Bool.false_ne_true (Ev.bind hs (Ev.bind (evId (fun _ => e3)) (evNeg Bool.false_ne_true (Ev.bind ht (Ev.now _))))))), by omega, by omega⟩
theorem spec_l2DrawServer_eq (l : List Int) (hl : l.length ≤ 1000000000000000000) (i h : Int) (hi : 0 ≤ i) : ∃ x i' h', spec_l2DrawServer.f l i h = some (x, i', h') ∧ 0 ≤ i' := by
  obtain ⟨x, i1, h1, e1, hi1⟩ := spec_l1Once_eq l hl i h hi 8
  unfold spec_l2DrawServer.f
  rw [e1]
  simp only [Option.bind_some]
  cases x with
  | true =>
    obtain ⟨y, i2, h2, e2, y0, y1, hi2⟩ := spec_l1Below_eq l hl i1 h1 hi1 5
    rw [if_pos (rfl : true = true), e2]
    simp only [Option.bind_some]
    have := y1 (by decide)
    rw [if_pos y0, if_pos (by simpa using this)]
    exact ⟨_, _, _, rfl, hi2⟩
  | false =>
    obtain ⟨y, i2, h2, e2, y0, y1, hi2⟩ := spec_l1Below_eq l hl i1 h1 hi1 4
    rw [if_neg (by decide), e2]
    exact ⟨_, _, _, rfl, hi2⟩
theorem spec_DrawTag_ev (l : List Int) (hl : l.length ≤ 1000000000000000000) : ∃ a s, Ev (fun k => spec_DrawTag.f k l) (a, s) ∧ s.size ≤ 8 := by
  obtain ⟨h, hn⟩ := spec_l1New_ev l hl
  obtain ⟨x, i1, h1, e1, hi1⟩ := spec_l2DrawServer_eq l hl 0 h (Int.le_refl _)
  obtain ⟨s, i2, h2, hs, hz, hi2⟩ := spec_l1DrawText_ev l hl i1 h1 hi1
  simp only [spec_DrawTag.f]
  exact ⟨_, _, Ev.bind hn (Ev.bind (evId (fun _ => e1)) (Ev.bind hs (Ev.now _))), hz⟩
theorem spec_DrawSigned_ev (l : List Int) (hl : l.length ≤ 1000000000000000000) : ∃ a s g, Ev (fun k => spec_DrawSigned.f k l) (a, s, g) ∧ s.size ≤ 8 := by
  obtain ⟨h, hn⟩ := spec_l1New_ev l hl
  obtain ⟨a, i1, h1, e1, hi1⟩ := spec_l2DrawServer_eq l hl 0 h (Int.le_refl _)
  obtain ⟨s, i2, h2, hs, hz, hi2⟩ := spec_l1DrawText_ev l hl i1 h1 hi1
  obtain ⟨y, i3, h3, e3, hi3⟩ := spec_l1Once_eq l hl i2 h2 hi2 3
  have ht := spec_Tag_ev a s (by omega)
  simp only [spec_DrawSigned.f]
  cases y with
  | false => exact ⟨_, _, _, Ev.bind hn (Ev.bind (evId (fun _ => e1)) (Ev.bind hs (Ev.bind ht (Ev.bind (evId (fun _ => e3)) (evNeg Bool.false_ne_true (Ev.now _)))))), hz⟩
  | true =>
    obtain ⟨y, i4, h4, e4, y0, y1, hi4⟩ := spec_l1Below_eq l hl i3 h3 hi3 100000
    obtain ⟨z, i5, h5, e5, z0, z1, hi5⟩ := spec_l1Below_eq l hl i4 h4 hi4 4
    have := z1 (by decide)
    exact ⟨_, _, _, Ev.bind hn (Ev.bind (evId (fun _ => e1)) (Ev.bind hs (Ev.bind ht (Ev.bind (evId (fun _ => e3)) (evPos rfl (Ev.bind (evId (fun _ => e4)) (Ev.bind (evId (fun _ => rfl)) (Ev.bind (evId (fun _ => e5)) (evPos z0 (evPos (by simpa using this) (Ev.now _))))))))))), hz⟩
theorem spec_DrawPair_ev (l : List Int) (hl : l.length ≤ 1000000000000000000) : ∃ a b, Ev (fun k => spec_DrawPair.f k l) (a, b) ∧ (-9223372036854775808 ≤ a ∧ a ≤ 9223372036854775807) ∧ -9223372036854775808 ≤ b ∧ b ≤ 9223372036854775807 := by
  obtain ⟨h, hn⟩ := spec_l1New_ev l hl
  obtain ⟨x, i1, h1, e1, x0, x1, hi1⟩ := spec_l1Below_eq l hl 0 h (Int.le_refl _) (wrap64 ((wrap64 (2000 - (-5))) + 1))
  obtain ⟨y, i2, h2, e2, y0, y1, hi2⟩ := spec_l1Below_eq l hl i1 h1 hi1 5000
  obtain ⟨z, i3, h3, e3, z0, z1, hi3⟩ := spec_l1Below_eq l hl i2 h2 hi2 6
  have hy := y1 (by decide)
  have hz := z1 (by decide)
  have hw : ∀ v : Int, -9223372036854775808 ≤ wrap64 v ∧ wrap64 v ≤ 9223372036854775807 := fun v => by unfold wrap64; omega
  simp only [spec_DrawPair.f, spec_l1From.f]
  refine ⟨_, _, Ev.bind hn (Ev.bind (Ev.bind (evId (fun _ => e1)) (Ev.now _)) (Ev.bind (evId (fun _ => e2)) (Ev.bind (evId (fun _ => rfl)) (Ev.bind (evId (fun _ => e3)) (evPos z0 (evPos (by simpa using hz) (Ev.now _))))))), hw _, ?_⟩
  simp only
  obtain ⟨m, rfl⟩ := Int.eq_ofNat_of_zero_le z0
  match m, hz with
  | 0, _ => exact ⟨show (-9223372036854775808 : Int) ≤ -1 by decide, show (-1 : Int) ≤ 9223372036854775807 by decide⟩
  | 1, _ => exact ⟨show (-9223372036854775808 : Int) ≤ 0 by decide, show (0 : Int) ≤ 9223372036854775807 by decide⟩
  | 2, _ => exact ⟨show (-9223372036854775808 : Int) ≤ 7 by decide, show (7 : Int) ≤ 9223372036854775807 by decide⟩
  | 3, _ => exact ⟨show (-9223372036854775808 : Int) ≤ 4611686018427387904 by decide, show (4611686018427387904 : Int) ≤ 9223372036854775807 by decide⟩
  | 4, _ => exact ⟨show (-9223372036854775808 : Int) ≤ -9223372036854775808 by decide, show (-9223372036854775808 : Int) ≤ 9223372036854775807 by decide⟩
  | 5, _ => exact ⟨show (-9223372036854775808 : Int) ≤ y by omega, show y ≤ (9223372036854775807 : Int) by omega⟩
  | m + 6, h => omega
theorem FnDigests (l : List Int) (hl : l.length ≤ maxLen) (hw : ∀ e ∈ l, (Lit.int .u8 e).wf = true) : ∃ k, laws_FnDigests.f k l = some true := by
  refine Ev.rounds (g := fun k => laws_FnDigests.f k l) ?_
  simp only [laws_FnDigests.f]
  refine Ev.bind (evId (fun _ => rfl)) ?_
  by_cases hb : (l.length : Int) > 4096
  · exact evPos (decide_eq_true hb) (Ev.now _)
  refine evNeg (by simpa using hb) ?_
  have hl2 : l.length ≤ 1000000000000000000 := by omega
  obtain ⟨a, b, hab, ha, hb⟩ := spec_DrawClash_ev l hl2
  obtain ⟨s, t, hst, ht⟩ := spec_DrawTag_ev l hl2
  obtain ⟨x, y, z, hxyz, hy⟩ := spec_DrawSigned_ev l hl2
  obtain ⟨p, q, hpq, ⟨p0, p1⟩, q0, q1⟩ := spec_DrawPair_ev l hl2
  have c1 := impl_Clash_ev a b (by omega) (by omega)
  have c2 := spec_Clash_ev a b (by omega) (by omega)
  have c3 := impl_Clash_ev b a (by omega) (by omega)
  have hcc : clash b a = clash a b := by
    unfold clash
    by_cases h : a.toList = b.toList
    · rw [if_pos h, if_pos h.symm]
    · rw [if_neg h, if_neg (fun e => h e.symm), Bool.eq_iff_iff, beq_iff_eq, beq_iff_eq]
      exact ⟨fun e => e.symm, fun e => e.symm⟩
  have t1 := impl_Tag_ev s t (by omega)
  have t2 := spec_Tag_ev s t (by omega)
  have t3 := impl_Tag_ev x y (by omega)
  have s1 := impl_Signed_ev x y z (by omega)
  have s2 := spec_Signed_ev x y z (by omega)
  have s3 := impl_Signed_ev s t (tag s t) (by omega)
  have d1 := impl_Digest_ev a (by omega)
  have d2 := spec_Digest_ev a (by omega)
  have d3 := impl_Digest_ev b (by omega)
  have P1 := impl_Pair_ev p q p0 p1 q0 q1
  have P2 := spec_Pair_ev p q p0 p1 q0 q1
  have fin : Ev (fun k => (impl_Clash.f k b a).bind fun t => (some (t == clash a b))) true := Ev.bind c3 (evEq (Ev.now _) (by rw [hcc]; simp))
  have sgn : ∀ v : Bool, (within x 0 6 && tagOf x y == z) = v → Ev (fun k => if v = true then ((impl_Tag.f k x y).bind fun t => (if t = z then ((impl_Clash.f k b a).bind fun t => (some (t == clash a b))) else (some false))) else ((impl_Clash.f k b a).bind fun t => (some (t == clash a b)))) true := by
    intro v hv
    cases v with
    | false => exact evNeg (by decide) fin
    | true =>
      simp only [Bool.and_eq_true, beq_iff_eq] at hv
      refine evPos rfl (Ev.bind t3 (evPos ?_ fin))
      unfold tag
      rw [if_pos hv.1]
      exact hv.2
  have low : Ev (fun k => if tag s t < 0 then ((impl_Signed.f k x y z).bind fun v => if v = true then ((impl_Tag.f k x y).bind fun t => (if t = z then ((impl_Clash.f k b a).bind fun t => (some (t == clash a b))) else (some false))) else ((impl_Clash.f k b a).bind fun t => (some (t == clash a b)))) else ((impl_Signed.f k s t (tag s t)).bind fun u => if u = true then ((impl_Signed.f k x y z).bind fun v => if v = true then ((impl_Tag.f k x y).bind fun t => (if t = z then ((impl_Clash.f k b a).bind fun t => (some (t == clash a b))) else (some false))) else ((impl_Clash.f k b a).bind fun t => (some (t == clash a b)))) else some false)) true := by
    by_cases hn : tag s t < 0
    · exact evPos hn (Ev.bind s1 (sgn _ rfl))
    · refine evNeg hn (Ev.bind s3 (evPos ?_ (Ev.bind s1 (sgn _ rfl))))
      unfold tag at hn ⊢
      by_cases hh : within s 0 6 = true
      · rw [if_pos hh, hh]
        simp
      · rw [if_neg hh] at hn
        omega
  have tail : Ev (fun k => laws_FnDigests.j0 k a b (clash a b) s t (tag s t) x y z false) true := by
    refine Ev.step (fun k => by simp only [laws_FnDigests.j0]; exact rfl) ?_
    refine evNeg Bool.false_ne_true (Ev.bind d1 (Ev.bind d3 ?_))
    by_cases he : a.toList = b.toList
    · refine evPos he (evPos ?_ low)
      rw [str_eq.1 he]
      simp
    · refine evNeg he (evPos ?_ low)
      unfold clash
      rw [if_neg he]
      simp
  refine Ev.bind hab (Ev.bind c1 (Ev.bind hst (Ev.bind t1 (Ev.bind hxyz (Ev.bind hpq (Ev.bind c2 (evNeg (by simp) (Ev.bind t2 (evPos rfl (Ev.bind s1 (Ev.bind s2 (evNeg (by simp) (Ev.bind P1 (Ev.bind P2 (evPos rfl (Ev.bind d1 (Ev.bind d2 ?_)))))))))))))))))
  rw [show (digest a != digest a) = false by simp]
  exact tail
end Go.Proofs.YtepcmdmclmfgkaaDoor.Pure

/- Proves the plain law behind this statement of the seat (what its functions come to, over numbers and lists): that it answers true. No condition beyond the statement's own. -/
import Derived.Test.YtepcmdmclmfgkaaDoorPFnExactSignedx
import Derived.Test.YtepcmdmclmfgkaaDoorLib
import Derived.Test.YtepcmdmclmfgkaaDoorLibRow
import Derived.Test.YtepcmdmclmfgkaaDoorLibStr
namespace Go.Proofs.YtepcmdmclmfgkaaDoor.Pure
open Go Go.RowKit Go.Proofs.YtepcmdmclmfgkaaDoor.PFnExactSigned Go.Proofs.YtepcmdmclmfgkaaDoorW.PrintWords Go.Proofs.YtepcmdmclmfgkaaDoorW.PrintLast Go.Proofs.YtepcmdmclmfgkaaDoorW.PrintMore Go.Proofs.YtepcmdmclmfgkaaDoor.Lib
set_option linter.unusedVariables false
set_option linter.unusedSimpArgs false
theorem mk_append (a b : List UInt8) : (⟨(a ++ b).toArray⟩ : ByteArray) = (⟨a.toArray⟩ : ByteArray) ++ (⟨b.toArray⟩ : ByteArray) := by
  apply Go.WideShapes.bytes_inj
  simp
theorem str_one (x : Int) : strOfNums [x] = (⟨[UInt8.ofNat x.toNat].toArray⟩ : ByteArray) := by
  apply Go.WideShapes.bytes_inj
  rw [strOfNums_data]
  rfl
theorem app_assoc (a b c : ByteArray) : (a ++ b) ++ c = a ++ (b ++ c) := by
  apply Go.WideShapes.bytes_inj
  simp
/-- The decimal digits of a number. -/
def decD (u : Nat) : ByteArray := ⟨(Go.Lib.decDigits u).toArray⟩
theorem decD_small {u : Nat} (h : u < 10) : decD u = (⟨[UInt8.ofNat (48 + u)].toArray⟩ : ByteArray) := by
  unfold decD
  rw [Go.Lib.decDigits, dif_pos h]
theorem decD_big {u : Nat} (h : ¬ u < 10) : decD u = decD (u / 10) ++ (⟨[UInt8.ofNat (48 + u % 10)].toArray⟩ : ByteArray) := by
  unfold decD
  rw [Go.Lib.decDigits, dif_neg h, mk_append]
theorem decD_le : ∀ (i u : Nat), u < 10 ^ (i + 1) → (decD u).size ≤ i + 1
  | 0, u, h => by
    rw [decD_small (by simpa using h)]
    simp [ByteArray.size]
  | i + 1, u, h => by
    by_cases hu : u < 10
    · rw [decD_small hu]
      simp [ByteArray.size]
    · rw [decD_big hu, ByteArray.size_append]
      have := decD_le i (u / 10) (by rw [Nat.pow_succ] at h; omega)
      have e : (⟨[UInt8.ofNat (48 + u % 10)].toArray⟩ : ByteArray).size = 1 := rfl
      omega
/-- The decimal numeral. -/
def dec (n : Int) : ByteArray := ⟨(Go.Lib.itoa n).toArray⟩
def minus (b : Bool) : ByteArray := if b = true then (⟨#[45]⟩ : ByteArray) else (⟨#[]⟩ : ByteArray)
theorem empty_app (s : ByteArray) : (⟨#[]⟩ : ByteArray) ++ s = s := by
  apply Go.WideShapes.bytes_inj
  simp
theorem toList_empty : (⟨#[]⟩ : ByteArray).toList = ([] : List UInt8) := by rw [ByteArray.toList_eq]
theorem app_empty (s : ByteArray) : s ++ (⟨#[]⟩ : ByteArray) = s := by
  apply Go.WideShapes.bytes_inj
  simp
theorem dec_eq (n : Int) : dec n = minus (decide (n < 0)) ++ decD n.natAbs := by
  unfold dec minus decD Go.Lib.itoa
  by_cases h : n < 0
  · rw [if_pos h, decide_eq_true h, if_pos rfl]
    exact mk_append [45] (Go.Lib.decDigits n.natAbs)
  · rw [if_neg h, decide_eq_false h, if_neg (by decide), empty_app, show n.toNat = n.natAbs by omega]
theorem dec_le (n : Int) (h0 : -9223372036854775808 ≤ n) (h1 : n ≤ 9223372036854775807) : (dec n).size ≤ 21 := by
  rw [dec_eq, ByteArray.size_append]
  have := decD_le 19 n.natAbs (by omega)
  have : (minus (decide (n < 0))).size ≤ 1 := by
    unfold minus
    split <;> decide
  omega
theorem l2_digit (n : Int) (h0 : -9223372036854775808 ≤ n) (h1 : n ≤ 9223372036854775807) :
    (Int.tmod n 10 < 0 → (wrap64 (48 + (wrap64 (-(Int.tmod n 10))))) % 256 = ((48 + n.natAbs % 10 : Nat) : Int)) ∧ (¬ Int.tmod n 10 < 0 → (wrap64 (48 + (Int.tmod n 10))) % 256 = ((48 + n.natAbs % 10 : Nat) : Int)) ∧ wrap64 (Int.tdiv n 10) = Int.tdiv n 10 ∧ (Int.tdiv n 10).natAbs = n.natAbs / 10 := by
  have hd : (Int.tdiv n 10).natAbs = n.natAbs / 10 := by rw [Int.natAbs_tdiv]; rfl
  have hm := Int.mul_tdiv_add_tmod n 10
  have hn : 0 ≤ n → 0 ≤ Int.tdiv n 10 := fun h => Int.tdiv_nonneg h (by decide)
  have hp : n ≤ 0 → Int.tdiv n 10 ≤ 0 := fun h => by
    have : Int.tdiv n 10 = -(Int.tdiv (-n) 10) := by rw [Int.neg_tdiv]; omega
    have := Int.tdiv_nonneg (a := -n) (b := 10) (by omega) (by decide)
    omega
  generalize Int.tdiv n 10 = q at hd hm hn hp ⊢
  generalize Int.tmod n 10 = r at hm ⊢
  refine ⟨fun h => ?_, fun h => ?_, w64 (by omega) (by omega), hd⟩
  · have e : wrap64 (-r) = -r := w64 (by omega) (by omega)
    rw [e, w64 (by omega) (by omega)]
    omega
  · rw [w64 (by omega) (by omega)]
    omega
theorem spec_l2Int_l0_ev (neg : Bool) : ∀ (m : Nat) (n : Int) (s : ByteArray), n.natAbs = m → -9223372036854775808 ≤ n → n ≤ 9223372036854775807 → (s.toList = ([] : List UInt8) ∨ n ≠ 0) → (s.size = 0 ∨ s.size + m ≤ 9223372036854775000) →
    Ev (fun k => spec_l2Int.l0 k n s neg) (minus neg ++ (decD m ++ s)) := by
  intro m
  induction m using Nat.strongRecOn with
  | ind m ih =>
    intro n s hnm h0 h1 hs hsz
    obtain ⟨d1, d2, d3, d4⟩ := l2_digit n h0 h1
    rw [hnm] at d1 d2 d4
    have step : ∀ r, Ev (fun k => spec_l2Int.l0 k (Int.tdiv n 10) ((⟨[UInt8.ofNat (48 + m % 10)].toArray⟩ : ByteArray) ++ s) neg) r → Ev (fun k => spec_l2Int.l0 k n s neg) r := by
      intro r hr
      have e1 : strOfNums [((48 + m % 10 : Nat) : Int)] = (⟨[UInt8.ofNat (48 + m % 10)].toArray⟩ : ByteArray) := by rw [str_one, Int.toNat_natCast]
      have e2 : (⟨[UInt8.ofNat (48 + m % 10)].toArray⟩ : ByteArray).size = 1 := rfl
      have j1 : Ev (fun k => spec_l2Int.j1 k n s neg true) r := by
        refine Ev.step (fun k => by simp only [spec_l2Int.j1]; exact rfl) ?_
        refine evPos trivial ?_
        simp only [Option.bind_some]
        by_cases hd : Int.tmod n 10 < 0
        · refine evPos hd ?_
          simp only [d1 hd, d3, e1]
          exact evPos (by omega) hr
        · refine evNeg hd ?_
          simp only [d2 hd, d3, e1]
          exact evPos (by omega) hr
      refine Ev.step (fun k => ?_) j1
      simp only [spec_l2Int.l0]
      by_cases he : s.toList = ([] : List UInt8)
      · rw [if_pos he]
      · rw [if_neg he, show (n != 0) = true from bne_iff_ne.2 (hs.resolve_left he)]
    have hq0 : -9223372036854775808 ≤ Int.tdiv n 10 := by omega
    have hq1 : Int.tdiv n 10 ≤ 9223372036854775807 := by omega
    by_cases hm : m < 10
    · rw [decD_small hm]
      have hz : Int.tdiv n 10 = 0 := by omega
      refine step _ ?_
      rw [hz, show m % 10 = m by omega]
      have hne : ¬ ((⟨[UInt8.ofNat (48 + m)].toArray⟩ : ByteArray) ++ s).toList = ([] : List UInt8) := by
        intro e
        have : ((⟨[UInt8.ofNat (48 + m)].toArray⟩ : ByteArray) ++ s) = (⟨#[]⟩ : ByteArray) := str_eq.1 (e.trans toList_empty.symm)
        have := congrArg ByteArray.size this
        rw [ByteArray.size_append] at this
        have e2 : (⟨[UInt8.ofNat (48 + m)].toArray⟩ : ByteArray).size = 1 := rfl
        have e3 : (⟨#[]⟩ : ByteArray).size = 0 := rfl
        omega
      have hsz2 : 1 + ((⟨[UInt8.ofNat (48 + m)].toArray⟩ : ByteArray) ++ s).size ≤ 9223372036854775807 := by
        rw [ByteArray.size_append]
        have e2 : (⟨[UInt8.ofNat (48 + m)].toArray⟩ : ByteArray).size = 1 := rfl
        omega
      generalize (⟨[UInt8.ofNat (48 + m)].toArray⟩ : ByteArray) ++ s = t at hne hsz2 ⊢
      refine Ev.step (f := fun k => spec_l2Int.j1 k 0 t neg false) (fun k => ?_) ?_
      · simp only [spec_l2Int.l0]
        rw [if_neg hne]
        rfl
      · refine Ev.step (fun k => by simp only [spec_l2Int.j1]; exact rfl) ?_
        refine evNeg (by decide) ?_
        unfold minus
        cases neg with
        | true => exact evPos rfl (evPos hsz2 (evEq (Ev.now _) (by rw [if_pos rfl])))
        | false => exact evNeg (by decide) (evEq (Ev.now _) (by rw [if_neg (by decide), empty_app]))
    · rw [decD_big hm, app_assoc]
      refine step _ (ih (m / 10) (by omega) _ _ d4 hq0 hq1 (Or.inr (by omega)) ?_)
      right
      rw [ByteArray.size_append]
      have e2 : (⟨[UInt8.ofNat (48 + m % 10)].toArray⟩ : ByteArray).size = 1 := rfl
      omega
theorem spec_l2Int_ev (n : Int) (h0 : -9223372036854775808 ≤ n) (h1 : n ≤ 9223372036854775807) : Ev (fun k => spec_l2Int.f k n) (dec n) := by
  have := spec_l2Int_l0_ev (decide (n < 0)) n.natAbs n (⟨#[]⟩ : ByteArray) rfl h0 h1 (Or.inl toList_empty) (Or.inl rfl)
  rw [app_empty, ← dec_eq] at this
  exact this
theorem impl_decimal_ev (n : Int) (h0 : -9223372036854775808 ≤ n) (h1 : n ≤ 9223372036854775807) : Ev (fun _ => impl_decimal.f n) (dec n) := by
  refine evId (fun _ => ?_)
  unfold impl_decimal.f
  exact if_pos ⟨h0, h1⟩

theorem spec_Digest_l0_ev (s : ByteArray) (hs : s.size ≤ 140737488351232) : ∀ (bs : List Int) (i : Nat) (h : Int), (bytesOf s).drop i = bs → 0 ≤ h → h < 2147483647 → Ev (fun k => spec_Digest.l0 k s h i) (dig h bs)
  | [], i, h, hd, h0, h1 => by
    have := bdrop_nil hd
    refine Ev.step (f := fun _ => some h) (fun k => ?_) (Ev.now _)
    simp only [spec_Digest.l0]
    rw [if_neg (by omega)]
  | b :: bs, i, h, hd, h0, h1 => by
    obtain ⟨h2, h3, h4, h5, h6⟩ := bdrop_cons hd
    refine Ev.step (f := fun k => spec_Digest.l0 k s (dstep h b) ((i + 1 : Nat) : Int)) (fun k => ?_) (spec_Digest_l0_ev s hs bs (i + 1) _ h3 (dstep_bd h b).1 (dstep_bd h b).2)
    simp only [spec_Digest.l0]
    rw [if_pos (by omega), if_pos (by omega), h4, dstep_eq h0 h1 h5 h6, w64s (by omega)]
theorem spec_Digest_ev (s : ByteArray) (hs : s.size ≤ 140737488351232) : Ev (fun k => spec_Digest.f k s) (digest s) :=
  spec_Digest_l0_ev s hs (bytesOf s) 0 1 rfl (by decide) (by decide)
theorem impl_Digest_l0_ev (s : ByteArray) (hs : s.size ≤ 140737488351232) : ∀ (bs : List Int) (i : Nat) (h : Int), (bytesOf s).drop i = bs → 0 ≤ h → h < 2147483647 → Ev (fun k => impl_Digest.l0 k s h (s.size : Int) i) (dig h bs)
  | [], i, h, hd, h0, h1 => by
    have := bdrop_nil hd
    refine Ev.step (f := fun _ => some h) (fun k => ?_) (Ev.now _)
    simp only [impl_Digest.l0]
    rw [if_neg (by omega)]
  | b :: bs, i, h, hd, h0, h1 => by
    obtain ⟨h2, h3, h4, h5, h6⟩ := bdrop_cons hd
    refine Ev.step (f := fun k => impl_Digest.l0 k s (dstep h b) (s.size : Int) ((i + 1 : Nat) : Int)) (fun k => ?_) (impl_Digest_l0_ev s hs bs (i + 1) _ h3 (dstep_bd h b).1 (dstep_bd h b).2)
    simp only [impl_Digest.l0]
    rw [if_pos (by omega), if_pos (by omega), if_pos (by omega), h4, dstep_eq h0 h1 h5 h6, w64s (by omega)]
theorem impl_Digest_ev (s : ByteArray) (hs : s.size ≤ 140737488351232) : Ev (fun k => impl_Digest.f k s) (digest s) :=
  impl_Digest_l0_ev s hs (bytesOf s) 0 1 rfl (by decide) (by decide)

theorem spec_l1In_ev (a b c : Int) : Ev (fun _ => spec_l1In.f a b c) (within a b c) := by
  refine evId (fun _ => ?_)
  unfold spec_l1In.f within
  by_cases h : a ≥ b
  · rw [if_pos h, decide_eq_true (show b ≤ a from h), Bool.true_and]
  · rw [if_neg h, decide_eq_false (show ¬ b ≤ a from h), Bool.false_and]

theorem impl_within_ev (a b c : Int) : Ev (fun _ => impl_within.f a b c) (within a b c) := by
  refine evId (fun _ => ?_)
  unfold impl_within.f within
  by_cases h : a ≥ b
  · rw [if_pos h, decide_eq_true (show b ≤ a from h), Bool.true_and]
  · rw [if_neg h, decide_eq_false (show ¬ b ≤ a from h), Bool.false_and]

theorem within_iff {a b c : Int} : within a b c = true ↔ b ≤ a ∧ a ≤ c := by
  unfold within
  simp only [Bool.and_eq_true, decide_eq_true_eq]
def tagText (a : Int) (s : ByteArray) : ByteArray := (((⟨#[115, 101, 99, 114, 101, 116]⟩ : ByteArray) ++ dec a) ++ (⟨#[47]⟩ : ByteArray)) ++ s
def tagOf (a : Int) (s : ByteArray) : Int := digest (tagText a s)
theorem tagOf_bd (a : Int) (s : ByteArray) : 0 ≤ tagOf a s ∧ tagOf a s < 2147483647 := digest_bd _
def tag (a : Int) (s : ByteArray) : Int := if within a 0 6 = true then tagOf a s else -1
theorem tag_sizes (a : Int) (s : ByteArray) (h0 : -9223372036854775808 ≤ a) (h1 : a ≤ 9223372036854775807) :
    (dec a).size ≤ 21 ∧ ((⟨#[115, 101, 99, 114, 101, 116]⟩ : ByteArray) ++ dec a).size ≤ 27 ∧ (((⟨#[115, 101, 99, 114, 101, 116]⟩ : ByteArray) ++ dec a) ++ (⟨#[47]⟩ : ByteArray)).size ≤ 28 ∧ (tagText a s).size ≤ 28 + s.size := by
  have h := dec_le a h0 h1
  have e1 : (⟨#[115, 101, 99, 114, 101, 116]⟩ : ByteArray).size = 6 := rfl
  have e2 : (⟨#[47]⟩ : ByteArray).size = 1 := rfl
  unfold tagText
  simp only [ByteArray.size_append]
  omega
theorem spec_l2Tag_ev (a : Int) (s : ByteArray) (h0 : -9223372036854775808 ≤ a) (h1 : a ≤ 9223372036854775807) (hs : s.size ≤ 1048576) : Ev (fun k => spec_l2Tag.f k a s) (tagOf a s) := by
  obtain ⟨z1, z2, z3, z4⟩ := tag_sizes a s h0 h1
  simp only [spec_l2Tag.f]
  exact Ev.bind (spec_l2Int_ev a h0 h1) (evPos (by omega) (evPos (by omega) (evPos (by omega) (Ev.bind (spec_Digest_ev (tagText a s) (by omega)) (Ev.now _)))))
theorem impl_isServer_ev (a : Int) : Ev (fun _ => impl_isServer.f a) (within a 0 6) := by
  simp only [impl_isServer.f]
  exact Ev.bind (impl_within_ev a 0 6) (Ev.now _)
theorem impl_Tag_ev (a : Int) (s : ByteArray) (hs : s.size ≤ 1048576) : Ev (fun k => impl_Tag.f k a s) (tag a s) := by
  simp only [impl_Tag.f]
  refine Ev.bind (impl_isServer_ev a) ?_
  unfold tag
  by_cases h : within a 0 6 = true
  · rw [if_pos h]
    obtain ⟨a0, a1⟩ := within_iff.1 h
    obtain ⟨z1, z2, z3, z4⟩ := tag_sizes a s (by omega) (by omega)
    exact evPos h (Ev.bind (impl_decimal_ev a (by omega) (by omega)) (evPos (by omega) (evPos (by omega) (evPos (by omega) (Ev.bind (impl_Digest_ev (tagText a s) (by omega)) (Ev.now _))))))
  · rw [if_neg h]
    exact evNeg h (Ev.now _)

theorem FnExactSigned (a : Int) (s : ByteArray) (g : Int) (ha : (Lit.int .i64 a).wf = true) (hs : s.size ≤ 140737488351232) (hg : (Lit.int .i64 g).wf = true) : ∃ k, laws_FnExactSigned.f k a s g = some true := by
  refine Ev.rounds (g := fun k => laws_FnExactSigned.f k a s g) ?_
  simp only [laws_FnExactSigned.f, spec_Signed.f, impl_Signed.f]
  by_cases h1 : (s.size : Int) > 1048576
  · exact evPos h1 (Ev.now _)
  refine evNeg h1 ?_
  have hd := tagOf_bd a s
  have sp : Ev (fun k => (spec_l1In.f a 0 6).bind fun t => (if t = true then ((spec_l2Tag.f k a s).bind fun t110 => (some (t110 == g))) else (some false))) (within a 0 6 && tagOf a s == g) := by
    refine Ev.bind (spec_l1In_ev a 0 6) ?_
    by_cases h : within a 0 6 = true
    · rw [h]
      obtain ⟨a0, a1⟩ := within_iff.1 h
      exact evPos rfl (Ev.bind (spec_l2Tag_ev a s (by omega) (by omega) (by omega)) (evEq (Ev.now _) (by simp)))
    · rw [Bool.eq_false_iff.2 h]
      exact evNeg (by decide) (evEq (Ev.now _) (by simp))
  have im : Ev (fun k => if g = (-1) then (some false) else ((impl_Tag.f k a s).bind fun t => (some (g == t)))) (within a 0 6 && tagOf a s == g) := by
    by_cases h : g = -1
    · refine evPos h (evEq (Ev.now _) ?_)
      have : (tagOf a s == g) = false := by rw [beq_eq_false_iff_ne]; omega
      rw [this, Bool.and_false]
    · refine evNeg h (Ev.bind (impl_Tag_ev a s (by omega)) (evEq (Ev.now _) ?_))
      unfold tag
      by_cases h2 : within a 0 6 = true
      · rw [if_pos h2, h2, Bool.true_and, Bool.eq_iff_iff, beq_iff_eq, beq_iff_eq]
        exact ⟨fun e => e.symm, fun e => e.symm⟩
      · rw [if_neg h2, Bool.eq_false_iff.2 h2, Bool.false_and, beq_eq_false_iff_ne]
        exact h
  exact Ev.bind sp (Ev.bind im (evNeg (by simp) (Ev.now _)))
end Go.Proofs.YtepcmdmclmfgkaaDoor.Pure

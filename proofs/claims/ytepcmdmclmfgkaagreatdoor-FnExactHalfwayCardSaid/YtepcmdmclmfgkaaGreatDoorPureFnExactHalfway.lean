/- Proves the plain law behind this statement of the seat (what its functions come to, over numbers and lists): that it answers true. No condition beyond the statement's own. -/
import Derived.Test.YtepcmdmclmfgkaaGreatDoorPFnExactHalfwayx
import Derived.Test.YtepcmdmclmfgkaaGreatDoorLib
import Derived.Test.YtepcmdmclmfgkaaGreatDoorLibHit
import Derived.Test.YtepcmdmclmfgkaaGreatDoorLibPu
import Derived.Test.YtepcmdmclmfgkaaGreatDoorLibRow
import Derived.Test.YtepcmdmclmfgkaaGreatDoorLibStr
namespace Go.Proofs.YtepcmdmclmfgkaaGreatDoor.Pure
open Go Go.RowKit Go.Proofs.YtepcmdmclmfgkaaGreatDoor.PFnExactHalfway Go.Proofs.YtepcmdmclmfgkaaGreatDoorW.PrintWords Go.Proofs.YtepcmdmclmfgkaaGreatDoorW.PrintLast Go.Proofs.YtepcmdmclmfgkaaGreatDoorW.PrintMore Go.Proofs.YtepcmdmclmfgkaaGreatDoor.Lib
set_option linter.unusedVariables false
set_option linter.unusedSimpArgs false
def szS (left : Int) : List ByteArray → Int
 | [] => left
 | s :: xs => if left - s.size < 0 then -1 else szS (left - s.size) xs
theorem szS_bd : ∀ (xs : List ByteArray) (left : Int), 0 ≤ szS left xs → 0 ≤ left → ∀ s ∈ xs, (s.size : Int) ≤ left
 | [], _, _, _, s, hs => by simp at hs
 | x :: xs, left, h, h0, s, hs => by
  unfold szS at h
  by_cases hx : left - x.size < 0
  ·rw [if_pos hx] at h; omega
  ·rw [if_neg hx] at h
   rcases List.mem_cons.1 hs with rfl | hs
   ·omega
   ·have := szS_bd xs _ h (by omega) s hs
    omega
theorem szS_range : ∀ (xs : List ByteArray) (left : Int), 0 ≤ left → -1 ≤ szS left xs ∧ szS left xs ≤ left
 | [], left, h => by unfold szS; omega
 | x :: xs, left, h => by
  unfold szS
  by_cases hx : left - x.size < 0
  ·rw [if_pos hx]; omega
  ·rw [if_neg hx]
   have := szS_range xs (left - x.size) (by omega)
   omega
theorem laws_szStringS_l0_ev (xs : List ByteArray) (hl : xs.length ≤ 1000000000000000000) (hs : ∀ s ∈ xs, s.size ≤ maxLen) : ∀ (bs : List ByteArray) (i : Nat) (left : Int), xs.drop i = bs → 0 ≤ left → left ≤ 1048576 → Ev (fun k => laws_szStringS.l0 k xs left i) (szS left bs)
 | [], i, left, hd, h0, h1 => by
  have := drop_nil hd
  refine Ev.step (f := fun _ => some left) (fun k => ?_) (Ev.now _)
  simp only [laws_szStringS.l0]
  rw [if_neg (by omega)]
 | b :: bs, i, left, hd, h0, h1 => by
  obtain ⟨h2, h3, h4⟩ := drop_cons hd
  have hb : b.size ≤ 9223372036854775807 := hs b (List.mem_of_getElem? h4)
  have e1 : rdOf ByteArray.empty xs (i : Int) = b := getD_at h4
  have e2 : wrap64 (left - (b.size : Int)) = left - b.size := w64 (by omega) (by omega)
  unfold szS
  by_cases hx : left - b.size < 0
  ·rw [if_pos hx]
   refine Ev.step (f := fun _ => some (-1)) (fun k => ?_) (Ev.now _)
   simp only [laws_szStringS.l0]
   rw [if_pos (by omega), if_pos (by omega), e1, e2, if_pos hx]
  ·rw [if_neg hx]
   refine Ev.step (f := fun k => laws_szStringS.l0 k xs (left - b.size) ((i + 1 : Nat) : Int)) (fun k => ?_) (laws_szStringS_l0_ev xs hl hs bs (i + 1) _ h3 (by omega) (by omega))
   simp only [laws_szStringS.l0]
   rw [if_pos (by omega), if_pos (by omega), e1, e2, if_neg hx, w64s (by omega)]
/-- The law's guard: its answer, and what is known where it lets in. -/
theorem laws_szStringS_ev (xs : List ByteArray) (hl : xs.length ≤ maxLen) (hs : ∀ s ∈ xs, s.size ≤ maxLen) (left : Int) (h0 : 0 ≤ left) (h1 : left ≤ 1048576) :
  ∃ r, Ev (fun k => laws_szStringS.f k xs left) r ∧ -1 ≤ r ∧ r ≤ left ∧ (0 ≤ r → (xs.length : Int) ≤ left ∧ ∀ s ∈ xs, (s.size : Int) ≤ left) := by
 have hm : maxLen = 9223372036854775807 := rfl
 have e : wrap64 (left - (xs.length : Int)) = left - xs.length := w64 (by omega) (by omega)
 by_cases h : left - (xs.length : Int) < 0
 ·refine ⟨-1, ?_, by omega, by omega, fun h => by omega⟩
  simp only [laws_szStringS.f]
  exact evPos (by rw [e]; exact h) (Ev.now _)
 ·refine ⟨szS (left - xs.length) xs, ?_, ?_, ?_, fun hr => ⟨by omega, fun s h' => ?_⟩⟩
  ·simp only [laws_szStringS.f]
   refine evNeg (by rw [e]; exact h) ?_
   rw [e]
   exact laws_szStringS_l0_ev xs (by omega) hs xs 0 _ rfl (by omega) (by omega)
  ·exact (szS_range xs _ (by omega)).1
  ·have := (szS_range xs (left - xs.length) (by omega)).2; omega
  ·have := szS_bd xs _ hr (by omega) s h'; omega

def szP (left : Int) : List S52 → Int
 | [] => left
 | e :: xs => if left - e.f1.size < 0 then -1 else szP (left - e.f1.size) xs
theorem szP_bd : ∀ (xs : List S52) (left : Int), 0 ≤ szP left xs → 0 ≤ left → ∀ e ∈ xs, (e.f1.size : Int) ≤ left
 | [], _, _, _, s, hs => by simp at hs
 | x :: xs, left, h, h0, s, hs => by
  unfold szP at h
  by_cases hx : left - x.f1.size < 0
  ·rw [if_pos hx] at h; omega
  ·rw [if_neg hx] at h
   rcases List.mem_cons.1 hs with rfl | hs
   ·omega
   ·have := szP_bd xs _ h (by omega) s hs
    omega
theorem szP_range : ∀ (xs : List S52) (left : Int), 0 ≤ left → -1 ≤ szP left xs ∧ szP left xs ≤ left
 | [], left, h => by unfold szP; omega
 | x :: xs, left, h => by
  unfold szP
  by_cases hx : left - x.f1.size < 0
  ·rw [if_pos hx]; omega
  ·rw [if_neg hx]
   have := szP_range xs (left - x.f1.size) (by omega)
   omega
theorem laws_szPatch_eq (e : S52) (left : Int) (h0 : 0 ≤ left) (h1 : left ≤ 1048576) (hb : e.f1.size ≤ maxLen) :
  laws_szPatch.f e.f0 e.f1 left = some (if left - e.f1.size < 0 then -1 else left - e.f1.size) := by
 have hm : maxLen = 9223372036854775807 := rfl
 have e1 : wrap64 (left - (e.f1.size : Int)) = left - e.f1.size := w64 (by omega) (by omega)
 simp only [laws_szPatch.f, e1]
 by_cases hx : left - (e.f1.size : Int) < 0
 ·rw [if_pos hx, if_pos hx]
 ·rw [if_neg hx, if_neg hx]
theorem laws_szPatchS_l0_ev (xs : List S52) (hl : xs.length ≤ 1000000000000000000) (hs : ∀ e ∈ xs, e.f1.size ≤ maxLen) : ∀ (bs : List S52) (i : Nat) (left : Int), xs.drop i = bs → 0 ≤ left → left ≤ 1048576 → Ev (fun k => laws_szPatchS.l0 k xs left i) (szP left bs)
 | [], i, left, hd, h0, h1 => by
  have := drop_nil hd
  refine Ev.step (f := fun _ => some left) (fun k => ?_) (Ev.now _)
  simp only [laws_szPatchS.l0]
  rw [if_neg (by omega)]
 | b :: bs, i, left, hd, h0, h1 => by
  obtain ⟨h2, h3, h4⟩ := drop_cons hd
  have e1 : rd_T52 xs (i : Int) = b := getD_at h4
  have e2 := laws_szPatch_eq b left h0 h1 (hs b (List.mem_of_getElem? h4))
  unfold szP
  by_cases hx : left - b.f1.size < 0
  ·rw [if_pos hx] at e2 ⊢
   refine Ev.step (f := fun _ => some (-1)) (fun k => ?_) (Ev.now _)
   simp only [laws_szPatchS.l0]
   rw [if_pos (by omega), if_pos (by omega), e1, e2]
   rfl
  ·rw [if_neg hx] at e2 ⊢
   refine Ev.step (f := fun k => laws_szPatchS.l0 k xs (left - b.f1.size) ((i + 1 : Nat) : Int)) (fun k => ?_) (laws_szPatchS_l0_ev xs hl hs bs (i + 1) _ h3 (by omega) (by omega))
   simp only [laws_szPatchS.l0]
   rw [if_pos (by omega), if_pos (by omega), e1, e2]
   simp only [Option.bind_some]
   rw [if_neg (by omega), w64s (by omega)]
theorem laws_szPatchS_ev (xs : List S52) (hl : xs.length ≤ maxLen) (hs : ∀ e ∈ xs, e.f1.size ≤ maxLen) (left : Int) (h0 : 0 ≤ left) (h1 : left ≤ 1048576) :
  ∃ r, Ev (fun k => laws_szPatchS.f k xs left) r ∧ -1 ≤ r ∧ r ≤ left ∧ (0 ≤ r → (xs.length : Int) ≤ left ∧ ∀ e ∈ xs, (e.f1.size : Int) ≤ left) := by
 have hm : maxLen = 9223372036854775807 := rfl
 have e : wrap64 (left - (xs.length : Int)) = left - xs.length := w64 (by omega) (by omega)
 by_cases h : left - (xs.length : Int) < 0
 ·refine ⟨-1, ?_, by omega, by omega, fun h => by omega⟩
  simp only [laws_szPatchS.f]
  exact evPos (by rw [e]; exact h) (Ev.now _)
 ·refine ⟨szP (left - xs.length) xs, ?_, ?_, ?_, fun hr => ⟨by omega, fun s h' => ?_⟩⟩
  ·simp only [laws_szPatchS.f]
   refine evNeg (by rw [e]; exact h) ?_
   rw [e]
   exact laws_szPatchS_l0_ev xs (by omega) hs xs 0 _ rfl (by omega) (by omega)
  ·exact (szP_range xs _ (by omega)).1
  ·have := (szP_range xs (left - xs.length) (by omega)).2; omega
  ·have := szP_bd xs _ hr (by omega) s h'; omega
theorem laws_szDevice_ev (ss : List ByteArray) (ps : List S52) (h1 : ss.length ≤ maxLen) (h2 : ∀ s ∈ ss, s.size ≤ maxLen) (h3 : ps.length ≤ maxLen) (h4 : ∀ e ∈ ps, e.f1.size ≤ maxLen) :
  ∃ r, Ev (fun k => laws_szDevice.f k ss ps 1048576) r ∧ (0 ≤ r → ss.length ≤ 1048576 ∧ (∀ s ∈ ss, s.size ≤ 1048576) ∧ ps.length ≤ 1048576 ∧ ∀ e ∈ ps, e.f1.size ≤ 1048576) := by
 simp only [laws_szDevice.f]
 obtain ⟨r, hr, a0, a1, a2⟩ := laws_szStringS_ev ss h1 h2 1048576 (by decide) (by decide)
 by_cases hr0 : r < 0
 ·exact ⟨-1, Ev.bind hr (evPos hr0 (Ev.now _)), fun h => absurd h (by decide)⟩
 obtain ⟨a3, a4⟩ := a2 (by omega)
 obtain ⟨q, hq, b0, b1, b2⟩ := laws_szPatchS_ev ps h3 h4 r (by omega) (by omega)
 by_cases hq0 : q < 0
 ·exact ⟨-1, Ev.bind hr (evNeg hr0 (Ev.bind hq (evPos hq0 (Ev.now _)))), fun h => absurd h (by decide)⟩
 obtain ⟨b3, b4⟩ := b2 (by omega)
 exact ⟨q, Ev.bind hr (evNeg hr0 (Ev.bind hq (evNeg hq0 (Ev.now _)))), fun _ => ⟨by omega, fun s hs => by have := a4 s hs; omega, by omega, fun e he => by have := b4 e he; omega⟩⟩

theorem laws_toStringS_ev (xs : List ByteArray) (hl : xs.length ≤ 17592186044416) : Ev (fun k => laws_toStringS.f k xs) xs := by
 simp only [laws_toStringS.f]
 refine evPos (by omega) (evPos (by omega) ?_)
 have := copy_loop laws_toStringS.l0 (fun x => x) (⟨#[]⟩ : ByteArray) (fun k xs ys i h => by simp only [laws_toStringS.l0]; rw [if_neg (by omega)])
  (fun k xs ys i a hi ha h1 h2 => by
   simp only [laws_toStringS.l0]
   rw [if_pos (by omega), if_pos (by omega), if_pos (by omega), w64s (by omega), show rdOf ByteArray.empty xs (i : Int) = a from getD_at ha, Int.toNat_natCast]) xs (by omega)
 simpa using this

/-- The law's record as the program's. -/
def toP (x : S52) : S58 := ⟨x.f0, x.f1⟩
theorem laws_toPatchS_ev (xs : List S52) (hl : xs.length ≤ 5864062014805) : Ev (fun k => laws_toPatchS.f k xs) (xs.map toP) := by
 simp only [laws_toPatchS.f]
 refine evPos (by omega) (evPos (by omega) ?_)
 have := copy_loop laws_toPatchS.l0 toP z58 (fun k xs ys i h => by simp only [laws_toPatchS.l0]; rw [if_neg (by omega)])
  (fun k xs ys i a hi ha h1 h2 => by
   simp only [laws_toPatchS.l0, laws_toPatch.f, Option.bind_some]
   rw [if_pos (by omega), if_pos (by omega), if_pos (by omega), w64s (by omega), show rd_T52 xs (i : Int) = a from getD_at ha, Int.toNat_natCast]
   rfl) xs (by omega)
 simpa using this
theorem laws_toDevice_ev (ss : List ByteArray) (ps : List S52) (h1 : ss.length ≤ 1048576) (h2 : ps.length ≤ 1048576) : Ev (fun k => laws_toDevice.f k ss ps) (ss, ps.map toP) := by
 simp only [laws_toDevice.f]
 exact Ev.bind (laws_toStringS_ev ss (by omega)) (Ev.bind (laws_toPatchS_ev ps (by omega)) (Ev.now _))

theorem mk_append (a b : List UInt8) : (⟨(a ++ b).toArray⟩ : ByteArray) = (⟨a.toArray⟩ : ByteArray) ++ (⟨b.toArray⟩ : ByteArray) := by
 apply Go.WideShapes.bytes_inj
 simp
theorem str_one (x : Int) : strOfNums [x] = (⟨[UInt8.ofNat x.toNat].toArray⟩ : ByteArray) := by
 apply Go.WideShapes.bytes_inj
 rw [strOfNums_data]
 rfl
theorem app_assoc (a b c : ByteArray) : (a ++ b) ++ c = a ++ (b ++ c) := by
 apply Go.WideShapes.bytes_inj
 simp
/-- The decimal digits of a number. -/
def decD (u : Nat) : ByteArray := ⟨(Go.Lib.decDigits u).toArray⟩
theorem decD_small {u : Nat} (h : u < 10) : decD u = (⟨[UInt8.ofNat (48 + u)].toArray⟩ : ByteArray) := by
 unfold decD
 rw [Go.Lib.decDigits, dif_pos h]
theorem decD_big {u : Nat} (h : ¬ u < 10) : decD u = decD (u / 10) ++ (⟨[UInt8.ofNat (48 + u % 10)].toArray⟩ : ByteArray) := by
 unfold decD
 rw [Go.Lib.decDigits, dif_neg h, mk_append]
theorem decD_le : ∀ (i u : Nat), u < 10 ^ (i + 1) → (decD u).size ≤ i + 1
 | 0, u, h => by
  rw [decD_small (by simpa using h)]
  simp [ByteArray.size]
 | i + 1, u, h => by
  by_cases hu : u < 10
  ·rw [decD_small hu]
   simp [ByteArray.size]
  ·rw [decD_big hu, ByteArray.size_append]
   have := decD_le i (u / 10) (by rw [Nat.pow_succ] at h; omega)
   have e : (⟨[UInt8.ofNat (48 + u % 10)].toArray⟩ : ByteArray).size = 1 := rfl
   omega
/-- The decimal numeral. -/
def dec (n : Int) : ByteArray := ⟨(Go.Lib.itoa n).toArray⟩
def minus (b : Bool) : ByteArray := if b = true then (⟨#[45]⟩ : ByteArray) else (⟨#[]⟩ : ByteArray)
theorem empty_app (s : ByteArray) : (⟨#[]⟩ : ByteArray) ++ s = s := by
 apply Go.WideShapes.bytes_inj
 simp
theorem toList_empty : (⟨#[]⟩ : ByteArray).toList = ([] : List UInt8) := by rw [ByteArray.toList_eq]
theorem app_empty (s : ByteArray) : s ++ (⟨#[]⟩ : ByteArray) = s := by
 apply Go.WideShapes.bytes_inj
 simp
theorem dec_eq (n : Int) : dec n = minus (decide (n < 0)) ++ decD n.natAbs := by
 unfold dec minus decD Go.Lib.itoa
 by_cases h : n < 0
 ·rw [if_pos h, decide_eq_true h, if_pos rfl]
  exact mk_append [45] (Go.Lib.decDigits n.natAbs)
 ·rw [if_neg h, decide_eq_false h, if_neg (by decide), empty_app, show n.toNat = n.natAbs by omega]
theorem dec_le (n : Int) (h0 : -9223372036854775808 ≤ n) (h1 : n ≤ 9223372036854775807) : (dec n).size ≤ 21 := by
 rw [dec_eq, ByteArray.size_append]
 have := decD_le 19 n.natAbs (by omega)
 have : (minus (decide (n < 0))).size ≤ 1 := by
  unfold minus
  split <;> decide
 omega
theorem l2_digit (n : Int) (h0 : -9223372036854775808 ≤ n) (h1 : n ≤ 9223372036854775807) :
  (Int.tmod n 10 < 0 → (wrap64 (48 + (wrap64 (-(Int.tmod n 10))))) % 256 = ((48 + n.natAbs % 10 : Nat) : Int)) ∧ (¬ Int.tmod n 10 < 0 → (wrap64 (48 + (Int.tmod n 10))) % 256 = ((48 + n.natAbs % 10 : Nat) : Int)) ∧ wrap64 (Int.tdiv n 10) = Int.tdiv n 10 ∧ (Int.tdiv n 10).natAbs = n.natAbs / 10 := by
 have hd : (Int.tdiv n 10).natAbs = n.natAbs / 10 := by rw [Int.natAbs_tdiv]; rfl
 have hm := Int.mul_tdiv_add_tmod n 10
 have hn : 0 ≤ n → 0 ≤ Int.tdiv n 10 := fun h => Int.tdiv_nonneg h (by decide)
 have hp : n ≤ 0 → Int.tdiv n 10 ≤ 0 := fun h => by
  have : Int.tdiv n 10 = -(Int.tdiv (-n) 10) := by rw [Int.neg_tdiv]; omega
  have := Int.tdiv_nonneg (a := -n) (b := 10) (by omega) (by decide)
  omega
 generalize Int.tdiv n 10 = q at hd hm hn hp ⊢
 generalize Int.tmod n 10 = r at hm ⊢
 refine ⟨fun h => ?_, fun h => ?_, w64 (by omega) (by omega), hd⟩
 ·have e : wrap64 (-r) = -r := w64 (by omega) (by omega)
  rw [e, w64 (by omega) (by omega)]
  omega
 ·rw [w64 (by omega) (by omega)]
  omega
theorem spec_l2Int_l0_ev (neg : Bool) : ∀ (m : Nat) (n : Int) (s : ByteArray), n.natAbs = m → -9223372036854775808 ≤ n → n ≤ 9223372036854775807 → (s.toList = ([] : List UInt8) ∨ n ≠ 0) → (s.size = 0 ∨ s.size + m ≤ 9223372036854775000) →
  Ev (fun k => spec_l2Int.l0 k n s neg) (minus neg ++ (decD m ++ s)) := by
 intro m
 induction m using Nat.strongRecOn with
 | ind m ih =>
  intro n s hnm h0 h1 hs hsz
  obtain ⟨d1, d2, d3, d4⟩ := l2_digit n h0 h1
  rw [hnm] at d1 d2 d4
  have step : ∀ r, Ev (fun k => spec_l2Int.l0 k (Int.tdiv n 10) ((⟨[UInt8.ofNat (48 + m % 10)].toArray⟩ : ByteArray) ++ s) neg) r → Ev (fun k => spec_l2Int.l0 k n s neg) r := by
   intro r hr
   have e1 : strOfNums [((48 + m % 10 : Nat) : Int)] = (⟨[UInt8.ofNat (48 + m % 10)].toArray⟩ : ByteArray) := by rw [str_one, Int.toNat_natCast]
   have e2 : (⟨[UInt8.ofNat (48 + m % 10)].toArray⟩ : ByteArray).size = 1 := rfl
   have j1 : Ev (fun k => spec_l2Int.j1 k n s neg true) r := by
    refine Ev.step (fun k => by simp only [spec_l2Int.j1]; exact rfl) ?_
    refine evPos trivial ?_
    simp only [Option.bind_some]
    by_cases hd : Int.tmod n 10 < 0
    ·refine evPos hd ?_
     simp only [d1 hd, d3, e1]
     exact evPos (by omega) hr
    ·refine evNeg hd ?_
     simp only [d2 hd, d3, e1]
     exact evPos (by omega) hr
   refine Ev.step (fun k => ?_) j1
   simp only [spec_l2Int.l0]
   by_cases he : s.toList = ([] : List UInt8)
   ·rw [if_pos he]
   ·rw [if_neg he, show (n != 0) = true from bne_iff_ne.2 (hs.resolve_left he)]
  have hq0 : -9223372036854775808 ≤ Int.tdiv n 10 := by omega
  have hq1 : Int.tdiv n 10 ≤ 9223372036854775807 := by omega
  by_cases hm : m < 10
  ·rw [decD_small hm]
   have hz : Int.tdiv n 10 = 0 := by omega
   refine step _ ?_
   rw [hz, show m % 10 = m by omega]
   have hne : ¬ ((⟨[UInt8.ofNat (48 + m)].toArray⟩ : ByteArray) ++ s).toList = ([] : List UInt8) := by
    intro e
    have : ((⟨[UInt8.ofNat (48 + m)].toArray⟩ : ByteArray) ++ s) = (⟨#[]⟩ : ByteArray) := str_eq.1 (e.trans toList_empty.symm)
    have := congrArg ByteArray.size this
    rw [ByteArray.size_append] at this
    have e2 : (⟨[UInt8.ofNat (48 + m)].toArray⟩ : ByteArray).size = 1 := rfl
    have e3 : (⟨#[]⟩ : ByteArray).size = 0 := rfl
    omega
   have hsz2 : 1 + ((⟨[UInt8.ofNat (48 + m)].toArray⟩ : ByteArray) ++ s).size ≤ 9223372036854775807 := by
    rw [ByteArray.size_append]
    have e2 : (⟨[UInt8.ofNat (48 + m)].toArray⟩ : ByteArray).size = 1 := rfl
    omega
   generalize (⟨[UInt8.ofNat (48 + m)].toArray⟩ : ByteArray) ++ s = t at hne hsz2 ⊢
   refine Ev.step (f := fun k => spec_l2Int.j1 k 0 t neg false) (fun k => ?_) ?_
   ·simp only [spec_l2Int.l0]
    rw [if_neg hne]
    rfl
   ·refine Ev.step (fun k => by simp only [spec_l2Int.j1]; exact rfl) ?_
    refine evNeg (by decide) ?_
    unfold minus
    cases neg with
    | true => exact evPos rfl (evPos hsz2 (evEq (Ev.now _) (by rw [if_pos rfl])))
    | false => exact evNeg (by decide) (evEq (Ev.now _) (by rw [if_neg (by decide), empty_app]))
  ·rw [decD_big hm, app_assoc]
   refine step _ (ih (m / 10) (by omega) _ _ d4 hq0 hq1 (Or.inr (by omega)) ?_)
   right
   rw [ByteArray.size_append]
   have e2 : (⟨[UInt8.ofNat (48 + m % 10)].toArray⟩ : ByteArray).size = 1 := rfl
   omega
theorem spec_l2Int_ev (n : Int) (h0 : -9223372036854775808 ≤ n) (h1 : n ≤ 9223372036854775807) : Ev (fun k => spec_l2Int.f k n) (dec n) := by
 have := spec_l2Int_l0_ev (decide (n < 0)) n.natAbs n (⟨#[]⟩ : ByteArray) rfl h0 h1 (Or.inl toList_empty) (Or.inl rfl)
 rw [app_empty, ← dec_eq] at this
 exact this
theorem impl_decimal_ev (n : Int) (h0 : -9223372036854775808 ≤ n) (h1 : n ≤ 9223372036854775807) : Ev (fun _ => impl_decimal.f n) (dec n) := by
 refine evId (fun _ => ?_)
 unfold impl_decimal.f
 exact if_pos ⟨h0, h1⟩

theorem spec_Digest_l0_ev (s : ByteArray) (hs : s.size ≤ 140737488351232) : ∀ (bs : List Int) (i : Nat) (h : Int), (bytesOf s).drop i = bs → 0 ≤ h → h < 2147483647 → Ev (fun k => spec_Digest.l0 k s h i) (dig h bs)
 | [], i, h, hd, h0, h1 => by
  have := bdrop_nil hd
  refine Ev.step (f := fun _ => some h) (fun k => ?_) (Ev.now _)
  simp only [spec_Digest.l0]
  rw [if_neg (by omega)]
 | b :: bs, i, h, hd, h0, h1 => by
  obtain ⟨h2, h3, h4, h5, h6⟩ := bdrop_cons hd
  refine Ev.step (f := fun k => spec_Digest.l0 k s (dstep h b) ((i + 1 : Nat) : Int)) (fun k => ?_) (spec_Digest_l0_ev s hs bs (i + 1) _ h3 (dstep_bd h b).1 (dstep_bd h b).2)
  simp only [spec_Digest.l0]
  rw [if_pos (by omega), if_pos (by omega), h4, dstep_eq h0 h1 h5 h6, w64s (by omega)]
theorem spec_Digest_ev (s : ByteArray) (hs : s.size ≤ 140737488351232) : Ev (fun k => spec_Digest.f k s) (digest s) :=
 spec_Digest_l0_ev s hs (bytesOf s) 0 1 rfl (by decide) (by decide)
theorem impl_Digest_l0_ev (s : ByteArray) (hs : s.size ≤ 140737488351232) : ∀ (bs : List Int) (i : Nat) (h : Int), (bytesOf s).drop i = bs → 0 ≤ h → h < 2147483647 → Ev (fun k => impl_Digest.l0 k s h (s.size : Int) i) (dig h bs)
 | [], i, h, hd, h0, h1 => by
  have := bdrop_nil hd
  refine Ev.step (f := fun _ => some h) (fun k => ?_) (Ev.now _)
  simp only [impl_Digest.l0]
  rw [if_neg (by omega)]
 | b :: bs, i, h, hd, h0, h1 => by
  obtain ⟨h2, h3, h4, h5, h6⟩ := bdrop_cons hd
  refine Ev.step (f := fun k => impl_Digest.l0 k s (dstep h b) (s.size : Int) ((i + 1 : Nat) : Int)) (fun k => ?_) (impl_Digest_l0_ev s hs bs (i + 1) _ h3 (dstep_bd h b).1 (dstep_bd h b).2)
  simp only [impl_Digest.l0]
  rw [if_pos (by omega), if_pos (by omega), if_pos (by omega), h4, dstep_eq h0 h1 h5 h6, w64s (by omega)]
theorem impl_Digest_ev (s : ByteArray) (hs : s.size ≤ 140737488351232) : Ev (fun k => impl_Digest.f k s) (digest s) :=
 impl_Digest_l0_ev s hs (bytesOf s) 0 1 rfl (by decide) (by decide)

theorem spec_l1In_ev (a b c : Int) : Ev (fun _ => spec_l1In.f a b c) (within a b c) := by
 refine evId (fun _ => ?_)
 unfold spec_l1In.f within
 by_cases h : a ≥ b
 ·rw [if_pos h, decide_eq_true (show b ≤ a from h), Bool.true_and]
 ·rw [if_neg h, decide_eq_false (show ¬ b ≤ a from h), Bool.false_and]

theorem impl_within_ev (a b c : Int) : Ev (fun _ => impl_within.f a b c) (within a b c) := by
 refine evId (fun _ => ?_)
 unfold impl_within.f within
 by_cases h : a ≥ b
 ·rw [if_pos h, decide_eq_true (show b ≤ a from h), Bool.true_and]
 ·rw [if_neg h, decide_eq_false (show ¬ b ≤ a from h), Bool.false_and]

theorem within_both {a b c : Int} : within a b c = true ↔ b ≤ a ∧ a ≤ c := by
 unfold within
 simp only [Bool.and_eq_true, decide_eq_true_eq]
def slotText (a : Int) (s : ByteArray) : ByteArray := (((dec a ++ (⟨#[32]⟩ : ByteArray)) ++ dec (digest s)) ++ (⟨#[32]⟩ : ByteArray)) ++ s
def slot (a : Int) (s : ByteArray) : ByteArray := if within a 1 1000000 = true ∧ s.size ≤ 300 then slotText a s else (⟨#[]⟩ : ByteArray)
theorem slot_sizes (a : Int) (s : ByteArray) (h0 : -9223372036854775808 ≤ a) (h1 : a ≤ 9223372036854775807) :
  (dec a).size ≤ 21 ∧ (dec a ++ (⟨#[32]⟩ : ByteArray)).size ≤ 22 ∧ (dec (digest s)).size ≤ 21 ∧ ((dec a ++ (⟨#[32]⟩ : ByteArray)) ++ dec (digest s)).size ≤ 43 ∧ (((dec a ++ (⟨#[32]⟩ : ByteArray)) ++ dec (digest s)) ++ (⟨#[32]⟩ : ByteArray)).size ≤ 44 := by
 have h := dec_le a h0 h1
 have hb := digest_bd s
 have h' := dec_le (digest s) (by omega) (by omega)
 have e2 : (⟨#[32]⟩ : ByteArray).size = 1 := rfl
 simp only [ByteArray.size_append]
 omega
theorem spec_Slot_ev (a : Int) (s : ByteArray) : Ev (fun k => spec_Slot.f k a s) (slot a s) := by
 have hb := digest_bd s
 simp only [spec_Slot.f]
 refine Ev.bind (spec_l1In_ev a 1 1000000) ?_
 unfold slot
 have bad : Ev (fun k => spec_Slot.j0 k a s true) (⟨#[]⟩ : ByteArray) := by
  refine Ev.step (f := fun _ => some (⟨#[]⟩ : ByteArray)) (fun k => ?_) (Ev.now _)
  simp only [spec_Slot.j0]
  rw [if_pos trivial]
 by_cases h : within a 1 1000000 = true
 ·refine evPos h ?_
  by_cases h2 : s.size ≤ 300
  ·rw [if_pos ⟨h, h2⟩, decide_eq_false (by omega : ¬ (s.size : Int) > 300)]
   obtain ⟨a0, a1⟩ := within_both.1 h
   obtain ⟨z1, z2, z3, z4, z5⟩ := slot_sizes a s (by omega) (by omega)
   refine Ev.step (fun k => by simp only [spec_Slot.j0]; exact rfl) ?_
   exact evNeg (by decide) (Ev.bind (spec_l2Int_ev a (by omega) (by omega)) (evPos (by omega) (Ev.bind (spec_Digest_ev s (by omega)) (Ev.bind (spec_l2Int_ev (digest s) (by omega) (by omega)) (evPos (by omega) (evPos (by omega) (evPos (by omega) (Ev.now _))))))))
  ·rw [if_neg (fun x => h2 x.2), decide_eq_true (by omega : (s.size : Int) > 300)]
   exact bad
 ·rw [if_neg (fun x => h x.1)]
  exact evNeg h bad
theorem impl_Slot_ev (a : Int) (s : ByteArray) : Ev (fun k => impl_Slot.f k a s) (slot a s) := by
 have hb := digest_bd s
 simp only [impl_Slot.f]
 refine Ev.bind (impl_within_ev a 1 1000000) ?_
 unfold slot
 have bad : Ev (fun k => impl_Slot.j0 k a s true) (⟨#[]⟩ : ByteArray) := by
  refine Ev.step (f := fun _ => some (⟨#[]⟩ : ByteArray)) (fun k => ?_) (Ev.now _)
  simp only [impl_Slot.j0]
  rw [if_pos trivial]
 by_cases h : within a 1 1000000 = true
 ·refine evPos h ?_
  by_cases h2 : s.size ≤ 300
  ·rw [if_pos ⟨h, h2⟩, decide_eq_false (by omega : ¬ (s.size : Int) > 300)]
   obtain ⟨a0, a1⟩ := within_both.1 h
   obtain ⟨z1, z2, z3, z4, z5⟩ := slot_sizes a s (by omega) (by omega)
   refine Ev.step (fun k => by simp only [impl_Slot.j0]; exact rfl) ?_
   exact evNeg (by decide) (Ev.bind (impl_decimal_ev a (by omega) (by omega)) (evPos (by omega) (Ev.bind (impl_Digest_ev s (by omega)) (Ev.bind (impl_decimal_ev (digest s) (by omega) (by omega)) (evPos (by omega) (evPos (by omega) (evPos (by omega) (Ev.now _))))))))
  ·rw [if_neg (fun x => h2 x.2), decide_eq_true (by omega : (s.size : Int) > 300)]
   exact bad
 ·rw [if_neg (fun x => h x.1)]
  exact evNeg h bad

theorem data_len (s : ByteArray) : s.data.toList.length = s.size := by rw [Array.length_toList]; rfl
theorem mk_len (l : List UInt8) : (⟨l.toArray⟩ : ByteArray).size = l.length := by show l.toArray.size = _; simp
theorem bytesOf_app (s t : ByteArray) : bytesOf (s ++ t) = bytesOf s ++ bytesOf t := by
 unfold bytesOf
 simp
theorem bytesOf_ext (s : ByteArray) (a b : Nat) : bytesOf (s.extract a b) = ((bytesOf s).take b).drop a := by
 unfold bytesOf
 simp [List.map_take, List.map_drop, List.drop_take]
def SpAt (s : ByteArray) (p i : Nat) : Prop := p ≤ i ∧ i < s.size ∧ bt s i = 32 ∧ ∀ k : Nat, p ≤ k → k < i → bt s k ≠ 32
def NoSp (s : ByteArray) (p : Nat) : Prop := ∀ k : Nat, p ≤ k → k < s.size → bt s k ≠ 32
def wordsF (s : ByteArray) : Nat → Nat → Nat → List ByteArray
 | 0, _, _ => []
 | d + 1, f, p => if p = s.size ∨ bt s p = 32 then s.extract f p :: wordsF s d (p + 1) (p + 1) else wordsF s d f (p + 1)
theorem spec_l2Words_l0_ev (s : ByteArray) (hs : s.size ≤ 1048576) : ∀ (d f p : Nat) (acc : List ByteArray), p + d = s.size + 1 → f ≤ p → acc.length + d ≤ 1048577 → Ev (fun k => spec_l2Words.l0 k s acc (f : Int) (p : Int)) (acc ++ wordsF s d f p)
 | 0, f, p, acc, hp, hf, ha => by
  refine Ev.step (f := fun _ => some acc) (fun k => ?_) (evEq (Ev.now _) (by simp [wordsF]))
  simp only [spec_l2Words.l0]
  rw [if_neg (by omega)]
 | d + 1, f, p, acc, hp, hf, ha => by
  have w1 : wrap64 ((p : Int) + 1) = ((p + 1 : Nat) : Int) := w64s (by omega)
  have ih1 := spec_l2Words_l0_ev s hs d (p + 1) (p + 1) (acc ++ [s.extract f p]) (by omega) (by omega) (by rw [List.length_append, List.length_singleton]; omega)
  have ih2 := spec_l2Words_l0_ev s hs d f (p + 1) acc (by omega) (by omega) (by omega)
  unfold wordsF
  by_cases h : p = s.size ∨ bt s p = 32
  ·rw [if_pos h]
   rw [List.append_assoc, List.singleton_append] at ih1
   refine Ev.step (fun k => ?_) ih1
   simp only [spec_l2Words.l0, w1]
   rw [if_pos (by omega)]
   by_cases h1 : p = s.size
   ·rw [if_pos (by omega), if_pos (by omega), if_pos (by omega), if_pos (by omega)]
    rfl
   ·rw [if_neg (by omega), if_pos (by omega), if_pos (by omega), if_pos (h.resolve_left h1), if_pos (by omega), if_pos (by omega), if_pos (by omega)]
    rfl
  ·rw [if_neg h]
   have h1 : ¬ p = s.size := fun e => h (Or.inl e)
   refine Ev.step (fun k => ?_) ih2
   simp only [spec_l2Words.l0, w1]
   rw [if_pos (by omega), if_neg (by omega), if_pos (by omega), if_pos (by omega), if_neg (fun e => h (Or.inr e))]
theorem spec_l2Words_ev (s : ByteArray) (hs : s.size ≤ 1048576) : Ev (fun k => spec_l2Words.f k s) (wordsF s (s.size + 1) 0 0) := by
 have := spec_l2Words_l0_ev s hs (s.size + 1) 0 0 [] (by omega) (by omega) (by simp; omega)
 simp only [spec_l2Words.f]
 simpa using this
theorem words_hit (s : ByteArray) (f i : Nat) : ∀ (n p d : Nat), p + n = i → p + d = s.size + 1 → SpAt s p i → wordsF s d f p = s.extract f i :: wordsF s (s.size - i) (i + 1) (i + 1)
 | 0, p, d, hn, hd, h => by
  obtain ⟨h1, h2, h3, h4⟩ := h
  obtain rfl : p = i := by omega
  obtain ⟨d', rfl⟩ : ∃ d', d = d' + 1 := ⟨d - 1, by omega⟩
  unfold wordsF
  rw [if_pos (Or.inr h3), show s.size - p = d' by omega]
  cases d' with
  | zero => rfl
  | succ d' => rw [wordsF]
 | n + 1, p, d, hn, hd, h => by
  obtain ⟨h1, h2, h3, h4⟩ := h
  obtain ⟨d', rfl⟩ : ∃ d', d = d' + 1 := ⟨d - 1, by omega⟩
  rw [wordsF, if_neg (fun e => e.elim (fun e => by omega) (fun e => h4 p (Nat.le_refl _) (by omega) e))]
  exact words_hit s f i n (p + 1) d' (by omega) (by omega) ⟨by omega, h2, h3, fun k a b => h4 k (by omega) b⟩
theorem words_miss (s : ByteArray) (f : Nat) : ∀ (n p d : Nat), p + n = s.size → p + d = s.size + 1 → NoSp s p → wordsF s d f p = [s.extract f s.size]
 | 0, p, d, hn, hd, h => by
  obtain rfl : d = 1 := by omega
  rw [wordsF, if_pos (Or.inl (by omega)), wordsF, show p = s.size by omega]
 | n + 1, p, d, hn, hd, h => by
  obtain ⟨d', rfl⟩ : ∃ d', d = d' + 1 := ⟨d - 1, by omega⟩
  rw [wordsF, if_neg (fun e => e.elim (fun e => by omega) (fun e => h p (Nat.le_refl _) (by omega) e))]
  exact words_miss s f n (p + 1) d' (by omega) (by omega) (fun k a b => h k (by omega) b)
theorem words_some (s : ByteArray) (f : Nat) : ∀ (n p d : Nat), p + n = s.size → p + d = s.size + 1 → 1 ≤ (wordsF s d f p).length
 | 0, p, d, hn, hd => by
  obtain rfl : d = 1 := by omega
  rw [wordsF, if_pos (Or.inl (by omega))]
  simp
 | n + 1, p, d, hn, hd => by
  obtain ⟨d', rfl⟩ : ∃ d', d = d' + 1 := ⟨d - 1, by omega⟩
  rw [wordsF]
  split
  ·simp
  ·exact words_some s f n (p + 1) d' (by omega) (by omega)
theorem occ32 (s : ByteArray) (j : Nat) (h : j < s.size) : Go.Lib.occAt s.data.toList [32] j = true ↔ bt s j = 32 := by
 have hl : j < s.data.toList.length := by rw [data_len]; exact h
 unfold Go.Lib.occAt bt
 rw [List.drop_eq_getElem_cons hl, dif_pos (by simpa using h)]
 simp only [List.isPrefixOf, Bool.and_true, beq_iff_eq, Int.toNat_natCast]
 constructor
 ·intro e
  have : s[j]'h = 32 := by rw [e]; rfl
  rw [this]; rfl
 ·intro e
  have e2 : (s[j]'h).toNat = 32 := by omega
  have e3 : s[j]'h = 32 := UInt8.toNat_inj.1 (by rw [e2]; rfl)
  have e4 : s.data.toList[j]'hl = s[j]'h := rfl
  rw [e4, e3]
theorem cut_cases (s : ByteArray) : (NoSp s 0 ∧ (Go.Lib.cut s.data.toList (⟨#[32]⟩ : ByteArray).data.toList).2.2 = false) ∨
  (∃ i, SpAt s 0 i ∧ (⟨(Go.Lib.cut s.data.toList (⟨#[32]⟩ : ByteArray).data.toList).1.toArray⟩ : ByteArray) = s.extract 0 i ∧ (⟨(Go.Lib.cut s.data.toList (⟨#[32]⟩ : ByteArray).data.toList).2.1.toArray⟩ : ByteArray) = s.extract (i + 1) s.size ∧ (Go.Lib.cut s.data.toList (⟨#[32]⟩ : ByteArray).data.toList).2.2 = true) := by
 have hlen := data_len s
 rcases Go.Lib.index_spec s.data.toList [32] with ⟨h1, h2⟩ | ⟨i, h1, h2, h3, h4⟩
 ·refine Or.inl ⟨fun k _ hk e => ?_, (Go.Lib.cutB_miss s (⟨#[32]⟩ : ByteArray) h1).2.2⟩
  have := h2 k (by omega)
  rw [(occ32 s k hk).2 e] at this
  cases this
 ·have hi : i < s.size := by
   have := Go.Lib.index_room s.data.toList [32] (by rw [h1]; omega)
   rw [h1, hlen] at this
   simp at this
   omega
  refine Or.inr ⟨i, ⟨Nat.zero_le _, hi, (occ32 s i hi).1 h3, fun k _ hk e => ?_⟩, Go.Lib.cutB_hit s (⟨#[32]⟩ : ByteArray) i h1⟩
  have := h4 k hk
  rw [(occ32 s k (by omega)).2 e] at this
  cases this
theorem bytesOf_digit (d : Nat) (h : d < 10) : bytesOf (⟨[UInt8.ofNat (48 + d)].toArray⟩ : ByteArray) = [((48 + d : Nat) : Int)] := by
 unfold bytesOf
 have : (UInt8.ofNat (48 + d)).toNat = 48 + d := by rw [UInt8.toNat_ofNat']; omega
 simp only [List.map_cons, List.map_nil, this]
theorem decD_digits (u : Nat) : ∀ x ∈ bytesOf (decD u), 48 ≤ x ∧ x ≤ 57 := by
 induction u using Nat.strongRecOn with
 | ind u ih =>
  by_cases h : u < 10
  ·rw [decD_small h, bytesOf_digit u h]
   intro x hx
   simp only [List.mem_singleton] at hx
   omega
  ·rw [decD_big h, bytesOf_app, bytesOf_digit _ (by omega)]
   intro x hx
   rcases List.mem_append.1 hx with hx | hx
   ·exact ih (u / 10) (by omega) x hx
   ·simp only [List.mem_singleton] at hx
    omega
theorem decD_ne (u : Nat) : 0 < (decD u).size := by
 by_cases h : u < 10
 ·rw [decD_small h, mk_len]; exact Nat.one_pos
 ·rw [decD_big h, ByteArray.size_append]
  have e : (⟨[UInt8.ofNat (48 + u % 10)].toArray⟩ : ByteArray).size = 1 := rfl
  omega
theorem decD_head (u : Nat) (h1 : 1 ≤ u) : ∃ x xs, bytesOf (decD u) = x :: xs ∧ 49 ≤ x := by
 induction u using Nat.strongRecOn with
 | ind u ih =>
  by_cases h : u < 10
  ·exact ⟨_, _, by rw [decD_small h, bytesOf_digit u h], by omega⟩
  ·obtain ⟨x, xs, e, hx⟩ := ih (u / 10) (by omega) (by omega)
   exact ⟨x, xs ++ _, by rw [decD_big h, bytesOf_app, e]; rfl, hx⟩
def numL : Int → List Int → Option Int
 | n, [] => some n
 | n, c :: cs => if c < 48 then none else if c > 57 then none else numL (n * 10 + (c - 48)) cs
theorem numL_app : ∀ (xs ys : List Int) (n : Int), numL n (xs ++ ys) = (numL n xs).bind fun m => numL m ys
 | [], ys, n => rfl
 | x :: xs, ys, n => by
  rw [List.cons_append, numL, numL]
  by_cases h1 : x < 48
  ·rw [if_pos h1, if_pos h1]; rfl
  ·rw [if_neg h1, if_neg h1]
   by_cases h2 : x > 57
   ·rw [if_pos h2, if_pos h2]; rfl
   ·rw [if_neg h2, if_neg h2, numL_app xs ys]
theorem numL_decD (u : Nat) : numL 0 (bytesOf (decD u)) = some (u : Int) := by
 induction u using Nat.strongRecOn with
 | ind u ih =>
  by_cases h : u < 10
  ·rw [decD_small h, bytesOf_digit u h, numL, if_neg (by omega), if_neg (by omega), numL]
   congr 1; omega
  ·rw [decD_big h, bytesOf_app, bytesOf_digit _ (by omega), numL_app, ih (u / 10) (by omega)]
   simp only [Option.bind_some]
   rw [numL, if_neg (by omega), if_neg (by omega), numL]
   congr 1; omega
def l2fin (s : ByteArray) (i : Nat) (neg : Bool) (r : Option Int) : Int × Bool :=
 match r with
 | none => (0, false)
 | some m => if bt s i = 48 ∧ (neg = true ∨ (s.size : Int) > 1) then (0, false) else if neg = true then (wrap64 (-m), true) else (m, true)
theorem spec_l2Number_l0_ev (s : ByteArray) (hs : s.size ≤ 1048576) (i : Nat) (hi : i < s.size) (neg : Bool) : ∀ (cs : List Int) (p : Nat) (n : Int), (bytesOf s).drop p = cs → 0 ≤ n → (n + 1) * 10 ^ cs.length ≤ 10 ^ 11 → Ev (fun k => spec_l2Number.l0 k s (i : Int) neg n (p : Int)) (l2fin s i neg (numL n cs))
 | [], p, n, hd, hn, hb => by
  have hp := bdrop_nil hd
  have fin : ∀ b : Bool, Ev (fun k => spec_l2Number.j4 k neg n b) (if b = true then (0, false) else if neg = true then (wrap64 (-n), true) else (n, true)) := by
   intro b
   refine Ev.step (fun k => by simp only [spec_l2Number.j4]; exact rfl) ?_
   cases b with
   | true => exact evPos rfl (Ev.now _)
   | false =>
    refine evNeg Bool.false_ne_true ?_
    cases neg with
    | true => exact evPos rfl (Ev.now _)
    | false => exact evNeg Bool.false_ne_true (Ev.now _)
  unfold numL l2fin
  refine Ev.step (fun k => by simp only [spec_l2Number.l0]; exact rfl) (evNeg (by omega) (evPos (by omega) (evPos (by omega) ?_)))
  by_cases h0 : bt s i = 48
  ·refine evPos h0 ?_
   cases neg with
   | true => exact evPos rfl (evEq (fin true) (by simp [h0]))
   | false =>
    refine evNeg Bool.false_ne_true (evEq (fin _) ?_)
    simp [h0]
  ·refine evNeg h0 (evEq (fin false) ?_)
   simp [h0]
 | c :: cs, p, n, hd, hn, hb => by
  obtain ⟨h1, h2, h3, h4, h5⟩ := bdrop_cons hd
  have hb1 : (n + 1) * 10 * 10 ^ cs.length ≤ 10 ^ 11 := by
   rw [List.length_cons, Int.pow_succ, ← Int.mul_assoc] at hb
   have : (n + 1) * 10 * 10 ^ cs.length = (n + 1) * 10 ^ cs.length * 10 := by rw [Int.mul_assoc, Int.mul_comm 10, ← Int.mul_assoc]
   omega
  have hone : (1 : Int) ≤ 10 ^ cs.length := by
   have := Int.pow_pos (n := (10 : Int)) (m := cs.length) (by decide)
   omega
  have hle : (n + 1) * 10 ≤ (n + 1) * 10 * 10 ^ cs.length := by
   have := Int.mul_le_mul_of_nonneg_left hone (show 0 ≤ (n + 1) * 10 by omega)
   omega
  rw [numL]
  by_cases c1 : c < 48
  ·rw [if_pos c1]
   refine Ev.step (fun k => by simp only [spec_l2Number.l0, h3]; exact rfl) (evPos (by omega) (evPos (by omega) (evPos c1 (evEq (Ev.now _) rfl))))
  ·rw [if_neg c1]
   by_cases c2 : c > 57
   ·rw [if_pos c2]
    refine Ev.step (fun k => by simp only [spec_l2Number.l0, h3]; exact rfl) (evPos (by omega) (evPos (by omega) (evNeg c1 (evPos c2 (evEq (Ev.now _) rfl)))))
   ·rw [if_neg c2]
    have hm : (n * 10 + (c - 48) + 1) * 10 ^ cs.length ≤ 10 ^ 11 := by
     have := Int.mul_le_mul_of_nonneg_right (show n * 10 + (c - 48) + 1 ≤ (n + 1) * 10 by omega) (show (0 : Int) ≤ 10 ^ cs.length by omega)
     omega
    have ih := spec_l2Number_l0_ev s hs i hi neg cs (p + 1) (n * 10 + (c - 48)) h2 (by omega) hm
    have w1 : wrap64 ((wrap64 (n * 10)) + ((c - 48) % 256)) = n * 10 + (c - 48) := by
     rw [w64 (x := n * 10) (by omega) (by omega), show (c - 48) % 256 = c - 48 by omega, w64 (by omega) (by omega)]
    refine Ev.step (fun k => ?_) ih
    simp only [spec_l2Number.l0, h3, w1]
    rw [if_pos (by omega), if_pos (by omega), if_neg c1, if_neg c2, w64s (by omega)]
theorem spec_l2Number_ev (s : ByteArray) (hs : s.size ≤ 1048576) : ∃ v : Int × Bool, Ev (fun k => spec_l2Number.f k s) v ∧ (∀ m : Nat, 1 ≤ m → m ≤ 1000000 → s = decD m → v.1 = m) := by
 have fall : ∀ (i : Int) (neg : Bool), Ev (fun k => spec_l2Number.j2 k s i neg 0 true) (0, false) := by
  intro i neg
  refine Ev.step (f := fun _ => some (0, false)) (fun k => ?_) (Ev.now _)
  simp only [spec_l2Number.j2]
  rw [if_pos trivial]
 have main : ∀ (i : Nat) (neg : Bool), i ≤ 1 → ∃ v : Int × Bool, Ev (fun k => spec_l2Number.j1 k s (i : Int) neg) v ∧ (i = 0 → neg = false → ∀ m : Nat, 1 ≤ m → m ≤ 1000000 → s = decD m → v.1 = m) := by
  intro i neg hi
  have w1 : wrap64 ((s.size : Int) - (i : Int)) = (s.size : Int) - i := w64 (by omega) (by omega)
  by_cases a1 : (s.size : Int) - i < 1
  ·refine ⟨_, Ev.step (fun k => by simp only [spec_l2Number.j1, w1]; exact rfl) (evPos a1 (fall _ _)), fun _ _ m m1 m2 e => ?_⟩
   have := decD_ne m
   rw [← e] at this
   omega
  ·by_cases a2 : (s.size : Int) - i > 10
   ·refine ⟨_, Ev.step (fun k => by simp only [spec_l2Number.j1, w1]; exact rfl) (evNeg a1 (by rw [decide_eq_true a2]; exact fall _ _)), fun _ _ m m1 m2 e => ?_⟩
    have := decD_le 6 m (by omega)
    rw [← e] at this
    omega
   ·have hlen : ((bytesOf s).drop i).length ≤ 10 := by rw [List.length_drop, bytesOf_length]; omega
    have hpow : (0 + 1) * (10 : Int) ^ ((bytesOf s).drop i).length ≤ 10 ^ 11 := by
     rw [Int.zero_add, Int.one_mul]
     generalize ((bytesOf s).drop i).length = n at hlen
     match n, hlen with
     | 0, _ => decide
     | 1, _ => decide
     | 2, _ => decide
     | 3, _ => decide
     | 4, _ => decide
     | 5, _ => decide
     | 6, _ => decide
     | 7, _ => decide
     | 8, _ => decide
     | 9, _ => decide
     | 10, _ => decide
     | n + 11, h => omega
    have hl0 := spec_l2Number_l0_ev s hs i (by omega) neg _ i 0 rfl (by decide) hpow
    refine ⟨_, Ev.step (fun k => by simp only [spec_l2Number.j1, w1]; exact rfl) (evNeg a1 (by rw [decide_eq_false a2]; exact Ev.step (fun k => by simp only [spec_l2Number.j2]; exact rfl) (evNeg Bool.false_ne_true hl0))), fun i0 n0 m m1 m2 e => ?_⟩
    subst i0; subst n0
    rw [List.drop_zero, e, numL_decD]
    obtain ⟨x, xs, e2, hx⟩ := decD_head m m1
    have h0 : bt (decD m) (0 : Nat) = x := bt_at (by rw [e2]; rfl)
    unfold l2fin
    simp only
    rw [if_neg (fun h => by have := h.1; omega), if_neg Bool.false_ne_true]
 obtain ⟨v1, e1, _⟩ := main 1 true (Nat.le_refl _)
 obtain ⟨v0, e0, f0⟩ := main 0 false (by omega)
 simp only [spec_l2Number.f]
 by_cases hE : s.toList = ([] : List UInt8)
 ·refine ⟨v0, evPos hE (Ev.step (fun k => by simp only [spec_l2Number.j0]; exact rfl) (evNeg Bool.false_ne_true e0)), f0 rfl rfl⟩
 ·have hpos : 0 < s.size := by
   rcases Nat.eq_zero_or_pos s.size with h | h
   ·exact absurd (by rw [ByteArray.toList_eq]; exact List.eq_nil_of_length_eq_zero (by rw [data_len]; exact h)) hE
   ·exact h
  by_cases h45 : bt s 0 = 45
  ·refine ⟨v1, evNeg hE (evPos (by omega) (by rw [h45]; exact Ev.step (f := fun k => spec_l2Number.j1 k s 1 true) (fun k => by simp only [spec_l2Number.j0]; rw [if_pos (show ((45 : Int) == 45) = true from by decide)]) e1)), fun m m1 m2 e => ?_⟩
   obtain ⟨x, xs, e2, hx⟩ := decD_head m m1
   have h0 : bt (decD m) (0 : Nat) = x := bt_at (by rw [e2]; rfl)
   rw [← e] at h0
   have : bt s ((0 : Nat) : Int) = bt s 0 := rfl
   omega
  ·refine ⟨v0, evNeg hE (evPos (by omega) (by rw [beq_eq_false_iff_ne.2 h45]; exact Ev.step (fun k => by simp only [spec_l2Number.j0]; exact rfl) (evNeg Bool.false_ne_true e0))), f0 rfl rfl⟩
theorem parseM_decD (M : Nat) (hM : 10 ^ 18 ≤ M) : ∀ (xs : List UInt8) (acc : Nat) (m : Int), numL acc (xs.map fun b => (b.toNat : Int)) = some m → (acc + 1) * 10 ^ xs.length ≤ 10 ^ 17 → Go.Lib.parseUintM M acc xs = .ok m.toNat
 | [], acc, m, h, hb => by
  rw [List.map_nil, numL] at h
  cases h
  rfl
 | c :: xs, acc, m, h, hb => by
  rw [List.map_cons, numL] at h
  by_cases c1 : (c.toNat : Int) < 48
  ·rw [if_pos c1] at h; cases h
  rw [if_neg c1] at h
  by_cases c2 : (c.toNat : Int) > 57
  ·rw [if_pos c2] at h; cases h
  rw [if_neg c2] at h
  have hone : 1 ≤ 10 ^ xs.length := Nat.one_le_pow _ _ (by decide)
  have hb1 : (acc + 1) * 10 * 10 ^ xs.length ≤ 10 ^ 17 := by
   rw [List.length_cons, Nat.pow_succ] at hb
   have : (acc + 1) * 10 * 10 ^ xs.length = (acc + 1) * (10 ^ xs.length * 10) := by rw [Nat.mul_assoc, Nat.mul_comm 10]
   omega
  have hle : (acc + 1) * 10 ≤ (acc + 1) * 10 * 10 ^ xs.length := Nat.le_mul_of_pos_right _ (by omega)
  have e : (acc : Int) * 10 + ((c.toNat : Int) - 48) = ((acc * 10 + (c.toNat - 48) : Nat) : Int) := by omega
  rw [e] at h
  have hm : (acc * 10 + (c.toNat - 48) + 1) * 10 ^ xs.length ≤ 10 ^ 17 := Nat.le_trans (Nat.mul_le_mul_right _ (by omega)) hb1
  rw [Go.Lib.parseUintM, if_pos (by omega), if_neg (by omega), if_neg (by omega)]
  exact parseM_decD M hM xs _ m h hm
theorem bytesOf_data (s : ByteArray) : bytesOf s = s.data.toList.map fun b => (b.toNat : Int) := by
 unfold bytesOf
 rfl
theorem dec_nat (m : Nat) : dec (m : Int) = decD m := by
 unfold dec decD
 rw [Go.Lib.itoa_nonneg]
theorem number_dec (m : Nat) (m1 : 1 ≤ m) (m2 : m ≤ 1000000) : impl_number.f (decD m) = some ((m : Int), true) := by
 have hsz := decD_le 6 m (by omega)
 obtain ⟨x, xs, e2, hx⟩ := decD_head m m1
 have hd := decD_digits m
 rw [bytesOf_data] at e2 hd
 have hn := numL_decD m
 rw [bytesOf_data] at hn
 have hlen := data_len (decD m)
 cases e : (decD m).data.toList with
 | nil => rw [e] at e2; cases e2
 | cons c r =>
  rw [e, List.map_cons] at e2
  simp only [List.cons.injEq] at e2
  have hc := hd (c.toNat : Int) (by rw [e, List.map_cons]; exact List.mem_cons_self)
  have hp : Go.Lib.parseIntB 64 (decD m).data.toList = .ok (m : Int) := by
   rw [e, Go.Lib.parseIntB_plain 64 c r (by omega) (by omega), Go.Lib.parseUintB, if_neg (by simp)]
   have hpow : (0 + 1) * 10 ^ (c :: r).length ≤ 10 ^ 17 := by
    rw [← e, hlen, Nat.zero_add, Nat.one_mul]
    exact Nat.pow_le_pow_right (by decide) (by omega)
   rw [parseM_decD _ (by decide) (c :: r) 0 (m : Int) (by rw [← e]; exact hn) hpow]
   rw [Int.toNat_natCast]
   unfold Go.Lib.signlessC
   simp only
   rw [if_neg (by omega)]
  have ht : Go.Lib.trimPrefix (decD m).data.toList [45] = (decD m).data.toList := by
   unfold Go.Lib.trimPrefix Go.Lib.hasPrefix
   rw [e]
   have : ((45 : UInt8) == c) = false := by
    rw [beq_eq_false_iff_ne]
    intro h
    rw [← h] at hc
    exact absurd hc.1 (by decide)
   simp [List.isPrefixOf, this]
  have hpd : Fmt.parsed (decD m) = m := by unfold Fmt.parsed; rw [hp]
  have hok : Fmt.isOk (decD m) = true := by unfold Fmt.isOk; rw [hp]
  unfold impl_number.f
  rw [if_pos (by omega), ht, if_neg (by omega), hpd, hok]
  have : (⟨(Go.Lib.itoa (m : Int)).toArray⟩ : ByteArray) = decD m := by
   unfold decD
   rw [Go.Lib.itoa_nonneg]
  rw [this]
  simp
theorem number_some (s : ByteArray) (hs : s.size ≤ 1048576) : ∃ v : Int × Bool, impl_number.f s = some v := by
 unfold impl_number.f
 exact ⟨_, if_pos (by omega)⟩
theorem bt_left (a b : ByteArray) (k : Nat) (h : k < a.size) : bt (a ++ b) k = bt a k := by
 refine bt_at ?_
 rw [bytesOf_app, List.getElem?_append_left (by rw [bytesOf_length]; exact h), List.getElem?_eq_getElem (by rw [bytesOf_length]; exact h), bytesOf_get a k h]
theorem slot_head (a : Int) (t s : ByteArray) (hne : 0 < s.size) (h : slot a t = s) (i : Nat) (hi : SpAt s 0 i) : ∃ m : Nat, 1 ≤ m ∧ m ≤ 1000000 ∧ a = m ∧ s.extract 0 i = decD m := by
 unfold slot at h
 by_cases hw : within a 1 1000000 = true ∧ t.size ≤ 300
 ·rw [if_pos hw] at h
  obtain ⟨a0, a1⟩ := within_both.1 hw.1
  obtain ⟨m, rfl⟩ := Int.eq_ofNat_of_zero_le (show 0 ≤ a by omega)
  refine ⟨m, by omega, by omega, rfl, ?_⟩
  have h2 : s = decD m ++ ((⟨#[32]⟩ : ByteArray) ++ (dec (digest t) ++ ((⟨#[32]⟩ : ByteArray) ++ t))) := by
   rw [← h]
   unfold slotText
   rw [show dec ((m : Nat) : Int) = decD m from dec_nat m]
   simp only [app_assoc]
  generalize (dec (digest t) ++ ((⟨#[32]⟩ : ByteArray) ++ t)) = rest at h2
  have hsp : bt s ((decD m).size : Nat) = 32 := by
   refine bt_at ?_
   rw [h2, bytesOf_app, bytesOf_app, List.getElem?_append_right (by rw [bytesOf_length]; omega), bytesOf_length, Nat.sub_self]
   rfl
  have hno : ∀ k : Nat, k < (decD m).size → bt s k ≠ 32 := by
   intro k hk e
   rw [h2, bt_left _ _ k hk] at e
   have := decD_digits m (bt (decD m) k) (by rw [← bytesOf_get (decD m) k hk]; exact List.getElem_mem _)
   omega
  obtain ⟨_, i1, i2, i3⟩ := hi
  have : i = (decD m).size := by
   rcases Nat.lt_trichotomy i (decD m).size with hc | hc | hc
   ·exact absurd i2 (hno i hc)
   ·exact hc
   ·exact absurd hsp (i3 _ (Nat.zero_le _) hc)
  subst this
  apply bytesOf_inj
  rw [bytesOf_ext, List.drop_zero, h2, bytesOf_app, List.take_left' (bytesOf_length _)]
 ·rw [if_neg hw] at h
  rw [← h] at hne
  exact absurd hne (by decide)
theorem spec_ReadSlot_short (s : ByteArray) (W : List ByteArray) (hw : Ev (fun k => spec_l2Words.f k s) W) (hl : W.length < 3) : Ev (fun k => spec_ReadSlot.f k s) (0, (⟨#[]⟩ : ByteArray), false) := by
 simp only [spec_ReadSlot.f]
 exact Ev.bind hw (evPos (by omega) (Ev.now _))
theorem spec_ReadSlot_long (s a b : ByteArray) (ws : List ByteArray) (hw : Ev (fun k => spec_l2Words.f k s) (a :: b :: ws)) (hl : 1 ≤ ws.length) (v : Int × Bool) (hv : Ev (fun k => spec_l2Number.f k a) v) (n : Nat) (hn : n ≤ s.size) (hs : s.size ≤ 1048576) (hab : a.size + b.size + 2 = n) :
  Ev (fun k => spec_ReadSlot.f k s) (if (slot v.1 (s.extract n s.size)).toList = s.toList then (v.1, s.extract n s.size, true) else (0, (⟨#[]⟩ : ByteArray), false)) := by
 have hat : wrap64 ((wrap64 (((rdOf ByteArray.empty (a :: b :: ws) 0).size : Int) + ((rdOf ByteArray.empty (a :: b :: ws) 1).size : Int))) + 2) = (n : Int) := by
  show wrap64 ((wrap64 ((a.size : Int) + (b.size : Int))) + 2) = _
  rw [w64 (x := (a.size : Int) + b.size) (by omega) (by omega), w64 (by omega) (by omega)]
  omega
 have r0 : rdOf ByteArray.empty (a :: b :: ws) 0 = a := rfl
 have l3 : ((a :: b :: ws).length : Int) ≥ 3 := by rw [List.length_cons, List.length_cons]; omega
 simp only [spec_ReadSlot.f]
 refine Ev.bind hw ?_
 generalize a :: b :: ws = W at hat r0 l3
 simp only [hat]
 simp only [r0]
 refine evNeg (by omega) (evPos (by omega) (Ev.bind hv (evPos (by omega) (evPos (by omega) (evPos (by omega) ?_)))))
 rw [Int.toNat_natCast]
 refine Ev.bind (spec_Slot_ev v.1 _) ?_
 by_cases hq : (slot v.1 (s.extract n s.size)).toList = s.toList
 ·exact evPos hq (evEq (Ev.now _) (if_pos hq).symm)
 ·exact evNeg hq (evEq (Ev.now _) (if_neg hq).symm)
theorem impl_ReadSlot_one (s a r : ByteArray) (h1 : strings_Cut.f s (⟨#[32]⟩ : ByteArray) = some (a, r, false)) (x : ByteArray × ByteArray × Bool) (h2 : strings_Cut.f r (⟨#[32]⟩ : ByteArray) = some x) (n : Int × Bool) (h3 : impl_number.f a = some n) : Ev (fun k => impl_ReadSlot.f k s) (0, (⟨#[]⟩ : ByteArray), false) := by
 simp only [impl_ReadSlot.f, h1, h2, h3, Option.bind_some]
 exact evNeg Bool.false_ne_true (Ev.now _)
theorem impl_ReadSlot_two (s a r b t : ByteArray) (h1 : strings_Cut.f s (⟨#[32]⟩ : ByteArray) = some (a, r, true)) (h2 : strings_Cut.f r (⟨#[32]⟩ : ByteArray) = some (b, t, false)) (n : Int × Bool) (h3 : impl_number.f a = some n) : Ev (fun k => impl_ReadSlot.f k s) (0, (⟨#[]⟩ : ByteArray), false) := by
 simp only [impl_ReadSlot.f, h1, h2, h3, Option.bind_some]
 exact evPos trivial (evNeg Bool.false_ne_true (Ev.now _))
theorem impl_ReadSlot_all (s a r b t : ByteArray) (h1 : strings_Cut.f s (⟨#[32]⟩ : ByteArray) = some (a, r, true)) (h2 : strings_Cut.f r (⟨#[32]⟩ : ByteArray) = some (b, t, true)) (n : Int × Bool) (h3 : impl_number.f a = some n) :
  Ev (fun k => impl_ReadSlot.f k s) (if n.2 = true ∧ (slot n.1 t).toList = s.toList then (n.1, t, true) else (0, (⟨#[]⟩ : ByteArray), false)) := by
 simp only [impl_ReadSlot.f, h1, h2, h3, Option.bind_some]
 refine evPos trivial (evPos trivial ?_)
 by_cases hn : n.2 = true
 ·refine evPos hn (Ev.bind (impl_Slot_ev _ _) ?_)
  by_cases hq : (slot n.1 t).toList = s.toList
  ·exact evPos hq (evEq (Ev.now _) (if_pos (⟨hn, hq⟩ : _ ∧ _)).symm)
  ·exact evNeg hq (evEq (Ev.now _) (if_neg (fun h : _ ∧ _ => hq h.2)).symm)
 ·exact evNeg hn (evEq (Ev.now _) (if_neg (fun h : _ ∧ _ => hn h.1)).symm)
theorem readSlot_ev (s : ByteArray) (hs : s.size ≤ 1048576) : ∃ v : Int × ByteArray × Bool, Ev (fun k => spec_ReadSlot.f k s) v ∧ Ev (fun k => impl_ReadSlot.f k s) v ∧ (v.2.2 = true → 1 ≤ v.1) := by
 have hw := spec_l2Words_ev s hs
 have cutf : ∀ t : ByteArray, t.size ≤ 1048576 → strings_Cut.f t (⟨#[32]⟩ : ByteArray) = some (⟨(Go.Lib.cut t.data.toList (⟨#[32]⟩ : ByteArray).data.toList).1.toArray⟩, ⟨(Go.Lib.cut t.data.toList (⟨#[32]⟩ : ByteArray).data.toList).2.1.toArray⟩, (Go.Lib.cut t.data.toList (⟨#[32]⟩ : ByteArray).data.toList).2.2) := fun t ht => by
  unfold strings_Cut.f
  rw [if_pos (by omega)]
 have esz : ∀ a b : Nat, (s.extract a b).size ≤ s.size := fun a b => by rw [ByteArray.size_extract]; omega
 have csz : ∀ t : ByteArray, t.size ≤ 1048576 → (⟨(Go.Lib.cut t.data.toList (⟨#[32]⟩ : ByteArray).data.toList).1.toArray⟩ : ByteArray).size ≤ 1048576 ∧ (⟨(Go.Lib.cut t.data.toList (⟨#[32]⟩ : ByteArray).data.toList).2.1.toArray⟩ : ByteArray).size ≤ 1048576 := fun t ht => by
  have hl := data_len t
  rw [mk_len, mk_len]
  unfold Go.Lib.cut
  split
  ·simp only [List.length_take, List.length_drop]; omega
  ·simp only [List.length_nil]; omega
 have e1 := cutf s hs
 rcases cut_cases s with ⟨hno, hc⟩ | ⟨i, hi, c1, c2, c3⟩
 ·rw [words_miss s 0 s.size 0 (s.size + 1) (by omega) (by omega) hno] at hw
  obtain ⟨z1, z2⟩ := csz s hs
  obtain ⟨n, en⟩ := number_some _ z1
  rw [hc] at e1
  exact ⟨_, spec_ReadSlot_short s _ hw (by simp), impl_ReadSlot_one s _ _ e1 _ (cutf _ z2) n en, fun h => by cases h⟩
 ·rw [words_hit s 0 i i 0 (s.size + 1) (by omega) (by omega) hi] at hw
  have hsp := hi
  obtain ⟨_, i1, i2, i3⟩ := hi
  rw [c1, c2, c3] at e1
  have z1 := esz 0 i
  have z2 := esz (i + 1) s.size
  have e2 := cutf (s.extract (i + 1) s.size) (by omega)
  obtain ⟨n, en⟩ := number_some (s.extract 0 i) (by omega)
  have btx : ∀ k : Nat, k < s.size - (i + 1) → bt (s.extract (i + 1) s.size) k = bt s (i + 1 + k : Nat) := by
   intro k hk
   refine bt_at ?_
   rw [bytesOf_ext, List.take_of_length_le (by rw [bytesOf_length]; omega), List.getElem?_drop, List.getElem?_eq_getElem (by rw [bytesOf_length]; omega), bytesOf_get s _ (by omega)]
  have exz : (s.extract (i + 1) s.size).size = s.size - (i + 1) := by rw [ByteArray.size_extract]; omega
  rcases cut_cases (s.extract (i + 1) s.size) with ⟨hno, hc⟩ | ⟨j, hj, d1, d2, d3⟩
  ·have hno2 : NoSp s (i + 1) := by
    intro k hk hk2
    have := hno (k - (i + 1)) (Nat.zero_le _) (by omega)
    rw [btx _ (by omega), show i + 1 + (k - (i + 1)) = k by omega] at this
    exact this
   rw [words_miss s (i + 1) (s.size - (i + 1)) (i + 1) (s.size - i) (by omega) (by omega) hno2] at hw
   rw [hc] at e2
   exact ⟨_, spec_ReadSlot_short s _ hw (by simp), impl_ReadSlot_two s _ _ _ _ e1 e2 n en, fun h => by cases h⟩
  ·obtain ⟨_, j1, j2, j3⟩ := hj
   have hsp2 : SpAt s (i + 1) (i + 1 + j) := ⟨by omega, by omega, by rw [← btx j (by omega)]; exact j2, fun k hk hk2 => by
    have := j3 (k - (i + 1)) (Nat.zero_le _) (by omega)
    rw [btx _ (by omega), show i + 1 + (k - (i + 1)) = k by omega] at this
    exact this⟩
   rw [words_hit s (i + 1) (i + 1 + j) j (i + 1) (s.size - i) (by omega) (by omega) hsp2] at hw
   have hws := words_some s (i + 1 + j + 1) (s.size - (i + 1 + j + 1)) (i + 1 + j + 1) (s.size - (i + 1 + j)) (by omega) (by omega)
   generalize wordsF s (s.size - (i + 1 + j)) (i + 1 + j + 1) (i + 1 + j + 1) = ws at hw hws
   have d4 : (s.extract (i + 1) s.size).extract (j + 1) (s.extract (i + 1) s.size).size = s.extract (i + 1 + j + 1) s.size := by
    apply bytesOf_inj
    rw [exz, bytesOf_ext, bytesOf_ext, bytesOf_ext, List.take_of_length_le (l := bytesOf s) (by rw [bytesOf_length]; omega), List.take_of_length_le (by rw [List.length_drop, bytesOf_length]; omega), List.drop_drop]
    congr 1
   rw [d1, d2, d3, d4] at e2
   obtain ⟨v, ev, hv⟩ := spec_l2Number_ev (s.extract 0 i) (by omega)
   have y0 : (s.extract 0 i).size = i := by rw [ByteArray.size_extract]; omega
   have y1 : (s.extract (i + 1) (i + 1 + j)).size = j := by rw [ByteArray.size_extract]; omega
   have S := spec_ReadSlot_long s _ _ ws hw hws v ev (i + 1 + j + 1) (by omega) hs (by omega)
   by_cases hE : ∃ a : Int, slot a (s.extract (i + 1 + j + 1) s.size) = s
   ·obtain ⟨a, ha⟩ := hE
    obtain ⟨m, m1, m2, rfl, hm⟩ := slot_head a _ s (by omega) ha i hsp
    have hv1 := hv m m1 m2 hm
    have en2 := number_dec m m1 m2
    rw [← hm] at en2
    have I := impl_ReadSlot_all s _ _ _ _ e1 e2 _ en2
    rw [hv1, if_pos (str_eq.2 ha)] at S
    rw [if_pos ⟨rfl, str_eq.2 ha⟩] at I
    exact ⟨_, S, I, fun _ => by show (1 : Int) ≤ (m : Int); omega⟩
   ·have I := impl_ReadSlot_all s _ _ _ _ e1 e2 n en
    rw [if_neg (fun e => hE ⟨_, str_eq.1 e⟩)] at S
    rw [if_neg (fun e => hE ⟨_, str_eq.1 e.2⟩)] at I
    exact ⟨_, S, I, fun h => by cases h⟩

def patchOk (n : Nat) (x : S58) : Bool := within x.f0 0 ((n : Int) - 1) && decide ((x.f1.size : Int) ≤ 400)
def deviceOk (ss : List ByteArray) (ps : List S58) : Bool := within ss.length 1 16 && (decide ((ps.length : Int) ≤ 30) && (ss.all (fun s => decide ((s.size : Int) ≤ 400)) && ps.all (patchOk ss.length)))
theorem impl_DeviceOk_ev (ss : List ByteArray) (ps : List S58) : Ev (fun _ => impl_DeviceOk.f ss ps) (deviceOk ss ps) := by
 refine evId fun k => ?_
 have e1 : ss.any (fun s => decide ((s.size : Int) > 400)) = !ss.all (fun s => decide ((s.size : Int) ≤ 400)) := by
  rw [List.not_all_eq_any_not]
  congr 1
  funext s
  rw [Bool.eq_iff_iff]
  simp
 have e2 : (!ps.any (fun x => !okPatch ss.length x)) = ps.all (patchOk ss.length) := by
  rw [List.not_any_eq_all_not]
  congr 1
  funext x
  simp [okPatch, patchOk, within]
 unfold impl_DeviceOk.f deviceOk
 rw [e1, e2]
 by_cases h1 : 1 ≤ (ss.length : Int) ∧ (ss.length : Int) ≤ 16
 ·rw [if_pos h1, show within (ss.length : Int) 1 16 = true by unfold within; simp only [Bool.and_eq_true, decide_eq_true_eq]; exact h1, Bool.true_and]
  by_cases h2 : (ps.length : Int) > 30
  ·rw [if_pos h2, decide_eq_false (by omega), Bool.false_and]
  ·rw [if_neg h2, decide_eq_true (by omega), Bool.true_and]
   by_cases h3 : ss.all (fun s => decide ((s.size : Int) ≤ 400)) = true
   ·rw [h3, Bool.true_and, if_neg (by decide)]
   ·rw [Bool.eq_false_iff.2 h3, Bool.false_and, if_pos (by decide)]
 ·rw [if_neg h1, show within (ss.length : Int) 1 16 = false by rw [Bool.eq_false_iff]; intro h; unfold within at h; simp only [Bool.and_eq_true, decide_eq_true_eq] at h; exact h1 h, Bool.false_and]
theorem spec_DeviceOk_l1_ev (ss : List ByteArray) (ps : List S58) (hs : ss.length ≤ 16) (hp : ps.length ≤ 30) : ∀ (bs : List S58) (i : Nat), ps.drop i = bs → Ev (fun k => spec_DeviceOk.l1 k (ss.length : Int) i ss ps) (bs.all (patchOk ss.length))
 | [], i, hd => by
  have := drop_nil hd
  refine Ev.step (f := fun _ => some true) (fun k => ?_) (Ev.now _)
  simp only [spec_DeviceOk.l1]
  rw [if_neg (by omega)]
 | b :: bs, i, hd => by
  obtain ⟨h2, h3, h4⟩ := drop_cons hd
  have e1 : rd_T58 ps (i : Int) = b := getD_at h4
  have e2 : wrap64 ((ss.length : Int) - 1) = (ss.length : Int) - 1 := w64 (by omega) (by omega)
  refine Ev.step (f := fun k => (spec_l1In.f b.f0 0 ((ss.length : Int) - 1)).bind fun t => if t = true then (if (b.f1.size : Int) > 400 then some false else spec_DeviceOk.l1 k (ss.length : Int) ((i + 1 : Nat) : Int) ss ps) else some false) (fun k => ?_) ?_
  ·simp only [spec_DeviceOk.l1]
   rw [if_pos (by omega), if_pos (by omega), e1, e2, w64s (by omega)]
  ·refine Ev.bind (spec_l1In_ev _ _ _) ?_
   rw [List.all_cons]
   unfold patchOk
   by_cases h5 : within b.f0 0 ((ss.length : Int) - 1) = true
   ·rw [h5, Bool.true_and]
    refine evPos rfl ?_
    by_cases h6 : (b.f1.size : Int) > 400
    ·rw [decide_eq_false (by omega), Bool.false_and]
     exact evPos h6 (Ev.now _)
    ·rw [decide_eq_true (by omega), Bool.true_and]
     exact evNeg h6 (spec_DeviceOk_l1_ev ss ps hs hp bs (i + 1) h3)
   ·rw [Bool.eq_false_iff.2 h5, Bool.false_and, Bool.false_and]
    exact evNeg (by decide) (Ev.now _)
theorem spec_DeviceOk_l0_ev (ss : List ByteArray) (ps : List S58) (hs : ss.length ≤ 16) (hp : ps.length ≤ 30) : ∀ (bs : List ByteArray) (i : Nat), ss.drop i = bs → Ev (fun k => spec_DeviceOk.l0 k (ss.length : Int) i ss ps) (bs.all (fun s => decide ((s.size : Int) ≤ 400)) && ps.all (patchOk ss.length))
 | [], i, hd => by
  have := drop_nil hd
  rw [List.all_nil, Bool.true_and]
  refine Ev.step (f := fun k => spec_DeviceOk.l1 k (ss.length : Int) ((0 : Nat) : Int) ss ps) (fun k => ?_) (spec_DeviceOk_l1_ev ss ps hs hp ps 0 rfl)
  simp only [spec_DeviceOk.l0]
  rw [if_neg (by omega)]
  rfl
 | b :: bs, i, hd => by
  obtain ⟨h2, h3, h4⟩ := drop_cons hd
  have e1 : rdOf ByteArray.empty ss (i : Int) = b := getD_at h4
  refine Ev.step (f := fun k => if (b.size : Int) > 400 then some false else spec_DeviceOk.l0 k (ss.length : Int) ((i + 1 : Nat) : Int) ss ps) (fun k => ?_) ?_
  ·simp only [spec_DeviceOk.l0]
   rw [if_pos (by omega), if_pos (by omega), if_pos (by omega), e1, w64s (by omega)]
  ·rw [List.all_cons]
   by_cases h6 : (b.size : Int) > 400
   ·rw [decide_eq_false (by omega), Bool.false_and, Bool.false_and]
    exact evPos h6 (Ev.now _)
   ·rw [decide_eq_true (by omega), Bool.true_and]
    exact evNeg h6 (spec_DeviceOk_l0_ev ss ps hs hp bs (i + 1) h3)
theorem spec_DeviceOk_ev (ss : List ByteArray) (ps : List S58) : Ev (fun k => spec_DeviceOk.f k ss ps) (deviceOk ss ps) := by
 simp only [spec_DeviceOk.f]
 unfold deviceOk
 by_cases h1 : (ss.length : Int) < 1
 ·refine evPos h1 (Ev.step (f := fun _ => some false) (fun k => by simp only [spec_DeviceOk.j0]; rfl) (evEq (Ev.now _) ?_))
  rw [show within (ss.length : Int) 1 16 = false by unfold within; rw [decide_eq_false (by omega), Bool.false_and], Bool.false_and]
 refine evNeg h1 ?_
 by_cases h2 : (ss.length : Int) > 16
 ·refine evPos h2 (Ev.step (f := fun _ => some false) (fun k => by simp only [spec_DeviceOk.j0]; rfl) (evEq (Ev.now _) ?_))
  rw [show within (ss.length : Int) 1 16 = false by unfold within; rw [decide_eq_false (p := (ss.length : Int) ≤ 16) (by omega), Bool.and_false], Bool.false_and]
 refine evNeg h2 ?_
 rw [show within (ss.length : Int) 1 16 = true by unfold within; rw [decide_eq_true (p := (1 : Int) ≤ (ss.length : Int)) (by omega), decide_eq_true (by omega)]; rfl, Bool.true_and]
 by_cases h3 : (ps.length : Int) > 30
 ·rw [decide_eq_true h3, decide_eq_false (by omega), Bool.false_and]
  exact Ev.step (f := fun _ => some false) (fun k => by simp only [spec_DeviceOk.j0]; rfl) (Ev.now _)
 ·rw [decide_eq_false h3, decide_eq_true (by omega), Bool.true_and]
  refine Ev.step (f := fun k => spec_DeviceOk.l0 k (ss.length : Int) ((0 : Nat) : Int) ss ps) (fun k => by simp only [spec_DeviceOk.j0]; rfl) (spec_DeviceOk_l0_ev ss ps (by omega) (by omega) ss 0 rfl)
theorem deviceOk_bd {ss : List ByteArray} {ps : List S58} (h : deviceOk ss ps = true) : 1 ≤ ss.length ∧ ss.length ≤ 16 ∧ ps.length ≤ 30 ∧ (∀ s ∈ ss, s.size ≤ 400) ∧ ∀ p ∈ ps, 0 ≤ p.f0 ∧ p.f0 < ss.length ∧ p.f1.size ≤ 400 := by
 unfold deviceOk within at h
 simp only [Bool.and_eq_true, decide_eq_true_eq, List.all_eq_true, patchOk, within] at h
 obtain ⟨⟨h1, h2⟩, h3, h4, h5⟩ := h
 exact ⟨by omega, by omega, by omega, fun s hs => by have := h4 s hs; omega, fun p hp => by have := h5 p hp; omega⟩
theorem within_bd {a b c : Int} (h : within a b c = true) : b ≤ a ∧ a ≤ c := by
 unfold within at h
 simpa using h

def lst (a : Int) (s : ByteArray) : List S58 → ByteArray
 | [] => s
 | p :: ps => lst a (if p.f0 = a then p.f1 else s) ps
theorem lst_find (a : Int) : ∀ (ps : List S58) (s : ByteArray), lst a s ps = match ps.reverse.find? (fun p => decide (p.f0 = a)) with | some p => p.f1 | none => s
 | [], s => rfl
 | p :: ps, s => by
  rw [lst, lst_find a ps, List.reverse_cons, List.find?_append]
  cases h : ps.reverse.find? (fun p => decide (p.f0 = a)) with
  | some q => rfl
  | none =>
   by_cases e : p.f0 = a
   ·rw [if_pos e]; simp [e]
   ·rw [if_neg e]; simp [e]
/-- What is read of a sector that is there. -/
def liesOf (ss : List ByteArray) (ps : List S58) (a : Int) : ByteArray := lst a (rdOf ByteArray.empty ss a) ps
def lies (ss : List ByteArray) (ps : List S58) (a : Int) : ByteArray := if deviceOk ss ps = true ∧ within a 0 ((ss.length : Int) - 1) = true then liesOf ss ps a else ⟨#[]⟩
theorem impl_Device_lies_ev (ss : List ByteArray) (ps : List S58) (a : Int) (h0 : 0 ≤ a) (h1 : a < ss.length) : Ev (fun _ => impl_Device_lies.f ss ps a) (liesOf ss ps a) := by
 refine evId fun k => ?_
 unfold impl_Device_lies.f liesOf
 rw [lst_find]
 cases h : ps.reverse.find? (fun p => decide (p.f0 = a)) with
 | some q => rfl
 | none => simp only [if_pos h0, if_pos h1]
theorem spec_Lies_l0_ev (ss : List ByteArray) (ps : List S58) (a : Int) (hp : ps.length ≤ 30) : ∀ (bs : List S58) (i : Nat) (s : ByteArray), ps.drop i = bs → Ev (fun k => spec_Lies.l0 k a s i ss ps) (lst a s bs)
 | [], i, s, hd => by
  have := drop_nil hd
  refine Ev.step (f := fun _ => some s) (fun k => ?_) (Ev.now _)
  simp only [spec_Lies.l0]
  rw [if_neg (by omega)]
 | b :: bs, i, s, hd => by
  obtain ⟨h2, h3, h4⟩ := drop_cons hd
  have e1 : rd_T58 ps (i : Int) = b := getD_at h4
  rw [lst]
  refine Ev.step (f := fun k => spec_Lies.l0 k a (if b.f0 = a then b.f1 else s) ((i + 1 : Nat) : Int) ss ps) (fun k => ?_) (spec_Lies_l0_ev ss ps a hp bs (i + 1) _ h3)
  simp only [spec_Lies.l0]
  rw [if_pos (by omega), if_pos (by omega), e1, w64s (by omega)]
  by_cases e : b.f0 = a
  ·rw [if_pos e, if_pos e]
  ·rw [if_neg e, if_neg e]
theorem spec_Lies_ev (ss : List ByteArray) (ps : List S58) (a : Int) : Ev (fun k => spec_Lies.f k ss ps a) (lies ss ps a) := by
 simp only [spec_Lies.f]
 refine Ev.bind (spec_DeviceOk_ev ss ps) ?_
 unfold lies
 by_cases h : deviceOk ss ps = true
 ·obtain ⟨d1, d2, d3, d4, d5⟩ := deviceOk_bd h
  rw [w64 (x := (ss.length : Int) - 1) (by omega) (by omega)]
  refine evPos h (Ev.bind (spec_l1In_ev _ _ _) ?_)
  by_cases h1 : within a 0 ((ss.length : Int) - 1) = true
  ·rw [if_pos ⟨h, h1⟩, h1]
   have := within_bd h1
   refine Ev.step (f := fun k => spec_Lies.l0 k a (rdOf ByteArray.empty ss a) ((0 : Nat) : Int) ss ps) (fun k => ?_) (spec_Lies_l0_ev ss ps a d3 ps 0 _ rfl)
   simp only [spec_Lies.j0]
   rw [if_neg (by decide), if_pos (by omega), if_pos (by omega)]
   rfl
  ·rw [if_neg (fun e => h1 e.2), Bool.eq_false_iff.2 h1]
   exact Ev.step (f := fun _ => some ⟨#[]⟩) (fun k => by simp only [spec_Lies.j0]; rfl) (Ev.now _)
 ·rw [if_neg (fun e => h e.1)]
  exact evNeg h (Ev.step (f := fun _ => some ⟨#[]⟩) (fun k => by simp only [spec_Lies.j0]; rfl) (Ev.now _))

theorem lst_le (a : Int) : ∀ (ps : List S58) (s : ByteArray), s.size ≤ 400 → (∀ p ∈ ps, p.f1.size ≤ 400) → (lst a s ps).size ≤ 400
 | [], s, hs, _ => hs
 | p :: ps, s, hs, hp => by
  rw [lst]
  refine lst_le a ps _ ?_ (fun x hx => hp x (List.mem_cons_of_mem _ hx))
  by_cases e : p.f0 = a
  ·rw [if_pos e]; exact hp p List.mem_cons_self
  ·rw [if_neg e]; exact hs
theorem liesOf_le {ss : List ByteArray} {ps : List S58} (h : deviceOk ss ps = true) (i : Nat) (hi : i < ss.length) : (liesOf ss ps i).size ≤ 400 := by
 obtain ⟨d1, d2, d3, d4, d5⟩ := deviceOk_bd h
 refine lst_le _ _ _ ?_ (fun p hp => (d5 p hp).2.2)
 have e : rdOf ByteArray.empty ss (i : Int) = ss[i] := getD_at (List.getElem?_eq_getElem hi)
 rw [e]
 exact d4 _ (List.getElem_mem hi)
theorem l9_all (ss : List ByteArray) (ps : List S58) (h : deviceOk ss ps = true) (h2 : ¬ (ss.length : Int) < 2) (u v : Int × ByteArray × Bool) (su : Ev (fun k => spec_ReadSlot.f k (liesOf ss ps 0)) u) (sv : Ev (fun k => spec_ReadSlot.f k (liesOf ss ps 1)) v) :
  Ev (fun k => spec_l9Root.f k ss ps) (if u.2.2 = true ∧ (¬ v.2.2 = true ∨ u.1 ≥ v.1) then (0, u.1, u.2.1) else if v.2.2 = true then (1, v.1, v.2.1) else (-1, 0, (⟨#[]⟩ : ByteArray))) := by
 have l0 := spec_Lies_ev ss ps 0
 have l1 := spec_Lies_ev ss ps 1
 rw [show lies ss ps 0 = liesOf ss ps 0 from if_pos ⟨h, by unfold within; simp only [Bool.and_eq_true, decide_eq_true_eq]; omega⟩] at l0
 rw [show lies ss ps 1 = liesOf ss ps 1 from if_pos ⟨h, by unfold within; simp only [Bool.and_eq_true, decide_eq_true_eq]; omega⟩] at l1
 simp only [spec_l9Root.f]
 refine Ev.bind (spec_DeviceOk_ev ss ps) (evPos h ?_)
 rw [decide_eq_false h2]
 refine Ev.step (fun k => by simp only [spec_l9Root.j0]; exact rfl) (evNeg Bool.false_ne_true (Ev.bind l0 (Ev.bind su (Ev.bind l1 (Ev.bind sv ?_)))))
 have j1 : ∀ g : Bool, Ev (fun k => spec_l9Root.j1 k u.1 u.2.1 v.1 v.2.1 v.2.2 g) (if g = true then (0, u.1, u.2.1) else if v.2.2 = true then (1, v.1, v.2.1) else (-1, 0, (⟨#[]⟩ : ByteArray))) := by
  intro g
  refine Ev.step (fun k => by simp only [spec_l9Root.j1]; exact rfl) ?_
  by_cases hg : g = true
  ·exact evPos hg (evEq (Ev.now _) (if_pos hg).symm)
  ·refine evNeg hg ?_
   rw [if_neg hg]
   by_cases h3 : v.2.2 = true
   ·exact evPos h3 (evEq (Ev.now _) (if_pos h3).symm)
   ·exact evNeg h3 (evEq (Ev.now _) (if_neg h3).symm)
 by_cases c1 : u.2.2 = true
 ·refine evPos c1 ?_
  by_cases c2 : v.2.2 = true
  ·refine evPos c2 (evEq (j1 _) ?_)
   by_cases c3 : u.1 ≥ v.1
   ·rw [if_pos (decide_eq_true c3), if_pos ⟨c1, Or.inr c3⟩]
   ·rw [if_neg (by rw [decide_eq_false c3]; exact Bool.false_ne_true), if_neg (show ¬ (u.2.2 = true ∧ (¬ v.2.2 = true ∨ u.1 ≥ v.1)) from fun e => e.2.elim (fun e => e c2) c3)]
  ·refine evNeg c2 (evEq (j1 _) ?_)
   rw [if_pos rfl, if_pos ⟨c1, Or.inl c2⟩]
 ·refine evNeg c1 (evEq (j1 _) ?_)
  rw [if_neg Bool.false_ne_true, if_neg (show ¬ (u.2.2 = true ∧ (¬ v.2.2 = true ∨ u.1 ≥ v.1)) from fun e => c1 e.1)]

/-- Of the late patches some are kept. -/
def settle : List Bool → List ByteArray → List S58 → List ByteArray
 | k :: ks, ss, p :: ps => settle ks (if k = true then ss.set p.f0.toNat p.f1 else ss) ps
 | _, ss, _ => ss
theorem settle_nil (ss : List ByteArray) (ps : List S58) : settle [] ss ps = ss := by cases ps <;> rfl
theorem settle_nil2 (ks : List Bool) (ss : List ByteArray) : settle ks ss [] = ss := by cases ks <;> rfl
theorem settle_length : ∀ (ps : List S58) (ks : List Bool) (ss : List ByteArray), (settle ks ss ps).length = ss.length
 | [], ks, ss => by rw [settle_nil2]
 | p :: ps, [], ss => by rw [settle_nil]
 | p :: ps, k :: ks, ss => by
  rw [settle, settle_length ps ks]
  split
  ·rw [List.length_set]
  ·rfl
def cutOf (ss : List ByteArray) (ps : List S58) (kept : List Bool) : List ByteArray × List S58 := if deviceOk ss ps = true then (settle kept ss ps, []) else ([], [])
theorem spec_Cut_l0_ev (kept : List Bool) (ss0 : List ByteArray) (ps : List S58) (n : Nat) (hk : kept.length ≤ 1000000000) (hp : ps.length ≤ 30) (hb : ∀ p ∈ ps, 0 ≤ p.f0 ∧ p.f0 < (n : Int)) : ∀ (bs : List S58) (i : Nat) (ss : List ByteArray), ss.length = n → ps.drop i = bs → Ev (fun k => spec_Cut.l0 k kept i ss0 ps ss) (settle (kept.drop i) ss bs, [])
 | [], i, ss, hs, hd => by
  have := drop_nil hd
  rw [settle_nil2]
  refine Ev.step (f := fun k => spec_Cut.j1 k kept i false ss0 ps ss) (fun k => ?_) (Ev.step (f := fun _ => some (ss, [])) (fun k => ?_) (Ev.now _))
  ·simp only [spec_Cut.l0]
   rw [if_neg (by omega)]
  ·simp only [spec_Cut.j1]
   rfl
 | b :: bs, i, ss, hs, hd => by
  obtain ⟨h2, h3, h4⟩ := drop_cons hd
  have e1 : rd_T58 ps (i : Int) = b := getD_at h4
  obtain ⟨b0, b1⟩ := hb b (List.mem_of_getElem? h4)
  refine Ev.step (f := fun k => spec_Cut.j1 k kept i (decide ((i : Int) < (kept.length : Int))) ss0 ps ss) (fun k => ?_) ?_
  ·simp only [spec_Cut.l0]
   rw [if_pos (by omega)]
  ·by_cases hi : i < kept.length
   ·obtain ⟨y, ys, hy⟩ : ∃ y ys, kept.drop i = y :: ys := ⟨_, _, List.drop_eq_getElem_cons hi⟩
    obtain ⟨k2, k3, k4⟩ := drop_cons hy
    have e2 : rdOf false kept (i : Int) = y := getD_at k4
    rw [hy, settle, decide_eq_true (by omega)]
    have ih := spec_Cut_l0_ev kept ss0 ps n hk hp hb bs (i + 1) (if y = true then ss.set b.f0.toNat b.f1 else ss) (by split <;> simp [hs]) h3
    rw [k3] at ih
    refine Ev.step (f := fun k => spec_Cut.l0 k kept ((i + 1 : Nat) : Int) ss0 ps (if y = true then ss.set b.f0.toNat b.f1 else ss)) (fun k => ?_) ih
    simp only [spec_Cut.j1, if_true]
    rw [if_pos (by omega), if_pos (by omega), e2, e1, w64s (by omega)]
    by_cases h5 : y = true
    ·rw [if_pos h5, if_pos h5, if_pos (by omega), if_pos b0, if_pos (by omega)]
    ·rw [if_neg h5, if_neg h5]
   ·rw [show kept.drop i = [] from drop_end _ _ (by omega), settle_nil, decide_eq_false (by omega)]
    exact Ev.step (f := fun _ => some (ss, [])) (fun k => by simp only [spec_Cut.j1]; rfl) (Ev.now _)
theorem spec_Cut_ev (ss : List ByteArray) (ps : List S58) (kept : List Bool) (hk : kept.length ≤ 1000000000) : Ev (fun k => spec_Cut.f k ss ps kept) (cutOf ss ps kept) := by
 simp only [spec_Cut.f]
 refine Ev.bind (spec_DeviceOk_ev ss ps) ?_
 unfold cutOf
 by_cases h : deviceOk ss ps = true
 ·obtain ⟨d1, d2, d3, d4, d5⟩ := deviceOk_bd h
  rw [if_pos h]
  refine evPos h (Ev.bind (Ev.now _) (evPos (by simp only [List.length_nil]; omega) ?_))
  have := spec_Cut_l0_ev kept ss ps ss.length hk d3 (fun p hp => ⟨(d5 p hp).1, (d5 p hp).2.1⟩) ps 0 ss rfl rfl
  exact this
 ·rw [if_neg h]
  exact evNeg h (Ev.now _)

def barrierOf (ss : List ByteArray) (ps : List S58) : List ByteArray × List S58 := cutOf ss ps (List.replicate ps.length true)
theorem spec_Barrier_l0_ev (ss : List ByteArray) (ps : List S58) (hp : ps.length ≤ 1048576) : ∀ (d i : Nat), i + d = ps.length → Ev (fun k => spec_Barrier.l0 k (List.replicate i true) i ss ps) (barrierOf ss ps)
 | 0, i, h => by
  obtain rfl : i = ps.length := by omega
  refine Ev.step (f := fun k => (spec_Cut.f k ss ps (List.replicate ps.length true)).bind fun t => some (t.1, t.2)) (fun k => ?_) (Ev.bind (spec_Cut_ev ss ps _ (by rw [List.length_replicate]; omega)) (Ev.now _))
  simp only [spec_Barrier.l0]
  rw [if_neg (by omega)]
 | d + 1, i, h => by
  refine Ev.step (f := fun k => spec_Barrier.l0 k (List.replicate (i + 1) true) ((i + 1 : Nat) : Int) ss ps) (fun k => ?_) (spec_Barrier_l0_ev ss ps hp d (i + 1) (by omega))
  simp only [spec_Barrier.l0]
  rw [if_pos (by omega), if_pos (by rw [List.length_replicate]; omega), w64s (by omega), List.replicate_succ']
theorem spec_Barrier_ev (ss : List ByteArray) (ps : List S58) (hp : ps.length ≤ 1048576) : Ev (fun k => spec_Barrier.f k ss ps) (barrierOf ss ps) := by
 simp only [spec_Barrier.f]
 exact spec_Barrier_l0_ev ss ps hp ps.length 0 (by omega)
theorem impl_Device_settled_l0_ev (ps : List S58) (n : Nat) (hp : ps.length ≤ 30) (hb : ∀ p ∈ ps, 0 ≤ p.f0 ∧ p.f0 < (n : Int)) : ∀ (bs : List S58) (i : Nat) (ss : List ByteArray), ss.length = n → ps.drop i = bs → Ev (fun k => impl_Device_settled.l0 k ps (ps.length : Int) i ss) (settle (List.replicate bs.length true) ss bs, [])
 | [], i, ss, hs, hd => by
  have := drop_nil hd
  rw [settle_nil2]
  refine Ev.step (f := fun _ => some (ss, [])) (fun k => ?_) (Ev.now _)
  simp only [impl_Device_settled.l0]
  rw [if_neg (by omega)]
 | b :: bs, i, ss, hs, hd => by
  obtain ⟨h2, h3, h4⟩ := drop_cons hd
  have e1 : rd_T58 ps (i : Int) = b := getD_at h4
  obtain ⟨b0, b1⟩ := hb b (List.mem_of_getElem? h4)
  rw [List.length_cons, List.replicate_succ, settle, if_pos rfl]
  refine Ev.step (f := fun k => impl_Device_settled.l0 k ps (ps.length : Int) ((i + 1 : Nat) : Int) (ss.set b.f0.toNat b.f1)) (fun k => ?_) (impl_Device_settled_l0_ev ps n hp hb bs (i + 1) _ (by rw [List.length_set]; exact hs) h3)
  simp only [impl_Device_settled.l0, impl_Device_barrier_1.f, Option.bind_some, if_true]
  rw [if_pos (by omega), if_pos (by omega), if_pos (by omega), e1, if_pos b0, if_pos (by omega), w64s (by omega)]

theorem deviceOk_mk {ss : List ByteArray} {ps : List S58} (h1 : 1 ≤ ss.length) (h2 : ss.length ≤ 16) (h3 : ps.length ≤ 30) (h4 : ∀ s ∈ ss, s.size ≤ 400) (h5 : ∀ p ∈ ps, 0 ≤ p.f0 ∧ p.f0 < (ss.length : Int) ∧ p.f1.size ≤ 400) : deviceOk ss ps = true := by
 unfold deviceOk patchOk within
 simp only [Bool.and_eq_true, decide_eq_true_eq, List.all_eq_true]
 refine ⟨⟨by omega, by omega⟩, by omega, fun s hs => ?_, fun p hp => ?_⟩
 ·have := h4 s hs; omega
 ·have := h5 p hp; omega
theorem settle_le : ∀ (ps : List S58) (ks : List Bool) (ss : List ByteArray), (∀ s ∈ ss, s.size ≤ 400) → (∀ p ∈ ps, p.f1.size ≤ 400) → ∀ s ∈ settle ks ss ps, s.size ≤ 400
 | [], ks, ss, hs, _ => by rw [settle_nil2]; exact hs
 | p :: ps, [], ss, hs, _ => by rw [settle_nil]; exact hs
 | p :: ps, k :: ks, ss, hs, hp => by
  rw [settle]
  refine settle_le ps ks _ ?_ (fun q hq => hp q (List.mem_cons_of_mem _ hq))
  by_cases hk : k = true
  ·rw [if_pos hk]
   intro s h
   rcases List.mem_or_eq_of_mem_set h with h | h
   ·exact hs s h
   ·rw [h]; exact hp p List.mem_cons_self
  ·rw [if_neg hk]; exact hs
/-- A device behind a barrier. -/
def bar (ss : List ByteArray) (ps : List S58) : List ByteArray := settle (List.replicate ps.length true) ss ps
theorem bar_length (ss : List ByteArray) (ps : List S58) : (bar ss ps).length = ss.length := settle_length _ _ _
theorem bar_ok {ss : List ByteArray} {ps qs : List S58} (h : deviceOk ss ps = true) (h3 : qs.length ≤ 30) (h5 : ∀ p ∈ qs, 0 ≤ p.f0 ∧ p.f0 < (ss.length : Int) ∧ p.f1.size ≤ 400) : deviceOk (bar ss ps) qs = true := by
 obtain ⟨d1, d2, d3, d4, d5⟩ := deviceOk_bd h
 refine deviceOk_mk (by rw [bar_length]; omega) (by rw [bar_length]; omega) h3 ?_ (by rw [bar_length]; exact h5)
 exact settle_le ps _ ss (fun s hs => by have := d4 s hs; omega) (fun p hp => by have := (d5 p hp).2.2; omega)
theorem spec_Barrier_ok {ss : List ByteArray} {ps : List S58} (h : deviceOk ss ps = true) : Ev (fun k => spec_Barrier.f k ss ps) (bar ss ps, []) := by
 obtain ⟨d1, d2, d3, d4, d5⟩ := deviceOk_bd h
 have := spec_Barrier_ev ss ps (by omega)
 unfold barrierOf cutOf at this
 rw [if_pos h] at this
 exact this
theorem impl_barrier_ok {ss : List ByteArray} {ps : List S58} (h : deviceOk ss ps = true) : Ev (fun k => impl_Device_barrier.f k ss ps) (bar ss ps, []) := by
 obtain ⟨d1, d2, d3, d4, d5⟩ := deviceOk_bd h
 simp only [impl_Device_barrier.f, impl_Device_settled.f, slices_Clone_string.f]
 exact Ev.bind (Ev.bind (evPos (by omega) (Ev.now _)) (impl_Device_settled_l0_ev ps ss.length d3 (fun p hp => ⟨(d5 p hp).1, (d5 p hp).2.1⟩) ps 0 ss rfl rfl)) (Ev.now _)
theorem slot_le (a : Int) (s : ByteArray) : (slot a s).size ≤ 400 := by
 unfold slot
 by_cases h : within a 1 1000000 = true ∧ s.size ≤ 300
 ·rw [if_pos h]
  obtain ⟨a0, a1⟩ := within_both.1 h.1
  obtain ⟨z1, z2, z3, z4, z5⟩ := slot_sizes a s (by omega) (by omega)
  unfold slotText
  rw [ByteArray.size_append]
  omega
 ·rw [if_neg h]
  decide
theorem spec_l8Copy_ev (ss : List ByteArray) (hs : ss.length ≤ 16) : Ev (fun _ => spec_l8Copy.f ss []) (ss, []) := by
 refine evId (fun _ => ?_)
 simp only [spec_l8Copy.f, Option.bind_some, List.length_nil, List.nil_append]
 rw [if_pos (by omega), if_pos (by omega)]
theorem spec_Lay_ev (bs : List ByteArray) (hok : deviceOk bs [] = true) (to_ : Int) (s : ByteArray) (h0 : 0 ≤ to_) (h1 : to_ < (bs.length : Int)) (h2 : s.size ≤ 400) : Ev (fun k => spec_Lay.f k bs [] to_ s) (bs, [⟨to_, s⟩], true) := by
 obtain ⟨d1, d2, d3, d4, d5⟩ := deviceOk_bd hok
 have e2 : wrap64 ((bs.length : Int) - 1) = (bs.length : Int) - 1 := w64 (by omega) (by omega)
 have i1 := spec_l1In_ev to_ 0 ((bs.length : Int) - 1)
 simp only [spec_Lay.f, e2]
 refine Ev.bind (spec_DeviceOk_ev bs []) (evPos hok (Ev.bind (spec_l8Copy_ev bs d2) (Ev.bind i1 (evPos ?_ (evNeg (by omega) (evNeg (by simp) (evPos (by simp) (Ev.now _))))))))
 unfold within
 simp only [Bool.and_eq_true, decide_eq_true_eq]
 omega
theorem settledG_one (kept : Bool) (bs : List ByteArray) (p : S58) (h0 : 0 ≤ p.f0) (h1 : p.f0 < (bs.length : Int)) (h2 : bs.length ≤ 16) : Ev (fun k => impl_Device_settledG.f (fun _ => kept) k bs [p]) ((if kept = true then bs.set p.f0.toNat p.f1 else bs), []) := by
 simp only [impl_Device_settledG.f, slices_Clone_string.f]
 refine Ev.bind (evPos (by omega) (Ev.now _)) ?_
 have e1 : rd_T58 [p] ((0 : Nat) : Int) = p := rfl
 have last : ∀ xs : List ByteArray, Ev (fun k => impl_Device_settledG.l0 (fun _ => kept) k [p] 1 ((1 : Nat) : Int) xs) (xs, []) := by
  intro xs
  refine Ev.step (f := fun _ => some (xs, [])) (fun k => ?_) (Ev.now _)
  simp only [impl_Device_settledG.l0]
  rw [if_neg (by decide)]
 refine Ev.step (f := fun k => impl_Device_settledG.l0 (fun _ => kept) k [p] 1 ((1 : Nat) : Int) (if kept = true then bs.set p.f0.toNat p.f1 else bs)) (fun k => ?_) (last _)
 show impl_Device_settledG.l0 (fun _ => kept) (k + 1) [p] 1 ((0 : Nat) : Int) bs = _
 simp only [impl_Device_settledG.l0, Option.bind_some]
 rw [if_pos (by decide), if_pos (by decide), if_pos (by simp), e1, show wrap64 (((0 : Nat) : Int) + 1) = ((1 : Nat) : Int) from w64s (i := 0) (by decide)]
 by_cases h5 : kept = true
 ·rw [if_pos h5, if_pos h5, if_pos h0, if_pos h1]
 ·rw [if_neg h5, if_neg h5]
theorem root2_ev (ss : List ByteArray) (ps : List S58) (h : deviceOk ss ps = true) (h2 : ¬ (ss.length : Int) < 2) : ∃ r : Int × Int × ByteArray, Ev (fun k => spec_l9Root.f k ss ps) r ∧ Ev (fun k => impl_Device_root.f k ss ps) r := by
 obtain ⟨u, su, iu, hu⟩ := readSlot_ev (liesOf ss ps 0) (by have := liesOf_le h 0 (by omega); have e : liesOf ss ps ((0 : Nat) : Int) = liesOf ss ps 0 := rfl; rw [e] at this; omega)
 obtain ⟨v, sv, iv, hv⟩ := readSlot_ev (liesOf ss ps 1) (by have := liesOf_le h 1 (by omega); have e : liesOf ss ps ((1 : Nat) : Int) = liesOf ss ps 1 := rfl; rw [e] at this; omega)
 refine ⟨_, l9_all ss ps h h2 u v su sv, ?_⟩
 simp only [impl_Device_root.f]
 have k0 := impl_Device_lies_ev ss ps 0 (by omega) (by omega)
 have k1 := impl_Device_lies_ev ss ps 1 (by omega) (by omega)
 have w1 : wrap64 ((0 : Int) + 1) = 1 := w64s (i := 0) (by decide)
 have w2 : wrap64 ((1 : Int) + 1) = 2 := w64s (i := 1) (by decide)
 have last : ∀ (at_ best : Int) (own : ByteArray), Ev (fun k => impl_Device_root.l0 k at_ best own 2 ss ps) (at_, best, own) := by
  intro at_ best own
  refine Ev.step (f := fun _ => some (at_, best, own)) (fun k => ?_) (Ev.now _)
  simp only [impl_Device_root.l0]
  rw [if_neg (by decide)]
 have second : ∀ (at_ best : Int) (own : ByteArray), Ev (fun k => impl_Device_root.l0 k at_ best own 1 ss ps) (if v.2.2 = true ∧ v.1 > best then (1, v.1, v.2.1) else (at_, best, own)) := by
  intro at_ best own
  refine Ev.step (fun k => by simp only [impl_Device_root.l0, w2]; exact rfl) (evPos (by decide) (Ev.bind k1 (Ev.bind iv ?_)))
  by_cases c1 : v.2.2 = true
  ·refine evPos c1 ?_
   by_cases c2 : v.1 > best
   ·exact evPos c2 (evEq (last _ _ _) (if_pos (⟨c1, c2⟩ : _ ∧ _)).symm)
   ·exact evNeg c2 (evEq (last _ _ _) (if_neg (fun e : _ ∧ _ => c2 e.2)).symm)
  ·exact evNeg c1 (evEq (last _ _ _) (if_neg (fun e : _ ∧ _ => c1 e.1)).symm)
 have first : Ev (fun k => impl_Device_root.l0 k (-1) 0 (⟨#[]⟩ : ByteArray) 0 ss ps) (if u.2.2 = true then (if v.2.2 = true ∧ v.1 > u.1 then (1, v.1, v.2.1) else (0, u.1, u.2.1)) else (if v.2.2 = true ∧ v.1 > 0 then (1, v.1, v.2.1) else (-1, 0, (⟨#[]⟩ : ByteArray)))) := by
  refine Ev.step (fun k => by simp only [impl_Device_root.l0, w1]; exact rfl) (evPos (by decide) (Ev.bind k0 (Ev.bind iu ?_)))
  by_cases c1 : u.2.2 = true
  ·have := hu c1
   exact evPos c1 (evPos (by omega) (evEq (second _ _ _) (if_pos c1).symm))
  ·exact evNeg c1 (evEq (second _ _ _) (if_neg c1).symm)
 refine evEq first ?_
 by_cases c1 : u.2.2 = true
 ·rw [if_pos c1]
  by_cases c2 : v.2.2 = true ∧ v.1 > u.1
  ·rw [if_pos c2, if_neg (fun e => e.2.elim (fun e => e c2.1) (fun e => by have := c2.2; omega)), if_pos c2.1]
  ·rw [if_neg c2, if_pos ⟨c1, by
    by_cases c3 : v.2.2 = true
    ·exact Or.inr (by have : ¬ v.1 > u.1 := fun e => c2 ⟨c3, e⟩; omega)
    ·exact Or.inl c3⟩]
 ·rw [if_neg c1, if_neg (show ¬ (u.2.2 = true ∧ (¬ v.2.2 = true ∨ u.1 ≥ v.1)) from fun e => c1 e.1)]
  by_cases c3 : v.2.2 = true
  ·have := hv c3
   rw [if_pos ⟨c3, by omega⟩, if_pos c3]
  ·rw [if_neg (fun e => c3 e.1), if_neg c3]
theorem halfway_ev (ss : List ByteArray) (ps : List S58) (text : ByteArray) (kept : Bool) : ∃ v : List ByteArray, v.length ≤ 16 ∧ Ev (fun k => spec_Halfway.f k ss ps text kept) (v, []) ∧ Ev (fun k => impl_Halfway.f k ss ps text kept) (v, []) := by
 have no : Ev (fun k => spec_l9Laid.j0 k text true ss ps) ([], [], false) :=
  Ev.step (f := fun _ => some ([], [], false)) (fun k => by simp only [spec_l9Laid.j0]; rw [if_pos trivial]) (Ev.now _)
 simp only [spec_Halfway.f, impl_Halfway.f, spec_l9Laid.f, impl_Device_laid.f]
 by_cases h : deviceOk ss ps = true
 ·obtain ⟨d1, d2, d3, d4, d5⟩ := deviceOk_bd h
  by_cases h2 : (ss.length : Int) < 2
  ·refine ⟨[], by decide, Ev.bind (Ev.bind (spec_DeviceOk_ev ss ps) (evPos h (by rw [decide_eq_true h2]; exact no))) (evNeg Bool.false_ne_true (Ev.now _)), ?_⟩
   exact Ev.bind (impl_DeviceOk_ev ss ps) (evPos h (Ev.bind (evPos h2 (Ev.now _)) (evNeg Bool.false_ne_true (Ev.now _))))
  ·obtain ⟨⟨at_, n, own⟩, sr, ir⟩ := root2_ev ss ps h h2
   have ss1 := spec_Slot_ev (wrap64 (n + 1)) text
   have is1 := impl_Slot_ev (wrap64 (n + 1)) text
   have hsl := slot_le (wrap64 (n + 1)) text
   generalize slot (wrap64 (n + 1)) text = s at ss1 is1 hsl
   by_cases h3 : s.toList = ([] : List UInt8)
   ·refine ⟨[], by decide, Ev.bind (a := (([] : List ByteArray), ([] : List S58), false)) (Ev.bind (spec_DeviceOk_ev ss ps) (evPos h ?_)) (evNeg Bool.false_ne_true (Ev.now _)), ?_⟩
    ·rw [decide_eq_false h2]
     exact Ev.step (fun k => by simp only [spec_l9Laid.j0]; exact rfl) (evNeg Bool.false_ne_true (Ev.bind sr (Ev.bind ss1 (evPos h3 (Ev.now _)))))
    ·exact Ev.bind (impl_DeviceOk_ev ss ps) (evPos h (Ev.bind (evNeg h2 (Ev.bind ir (Ev.bind is1 (evPos h3 (Ev.now _))))) (evNeg Bool.false_ne_true (Ev.now _))))
   ·have sb := spec_Barrier_ok h
    have ib := impl_barrier_ok h
    have goal : ∀ to_ : Int, 0 ≤ to_ → to_ < 2 → (at_ = 0 ∧ to_ = 1 ∨ ¬ at_ = 0 ∧ to_ = 0) → ∃ v : List ByteArray, v.length ≤ 16 ∧ Ev (fun k => ((spec_DeviceOk.f k ss ps).bind fun t => if t = true then spec_l9Laid.j0 k text (decide ((ss.length : Int) < 2)) ss ps else spec_l9Laid.j0 k text true ss ps).bind fun b => if b.2.2 = true then (spec_Cut.f k b.1 b.2.1 [kept]).bind fun c => some (c.1, c.2) else some ([], [])) (v, []) ∧ Ev (fun k => (impl_DeviceOk.f ss ps).bind fun t => if t = true then ((if (ss.length : Int) < 2 then some (ss, ps, false) else (impl_Device_root.f k ss ps).bind fun b => (impl_Slot.f k (wrap64 (b.2.1 + 1)) text).bind fun t => if t.toList = ([] : List UInt8) then some (ss, ps, false) else if b.1 = 0 then (impl_Device_barrier.f k ss ps).bind fun c => some (c.1, [(⟨1, t⟩ : S58)], true) else (impl_Device_barrier.f k ss ps).bind fun c => some (c.1, [(⟨0, t⟩ : S58)], true)).bind fun b => if b.2.2 = true then (impl_Device_settledG.f (fun _ => kept) k b.1 b.2.1).bind fun c => some (c.1, c.2) else some ([], [])) else some ([], [])) (v, []) := by
     intro to_ t0 t1 tw
     have hl : (bar ss ps).length = ss.length := bar_length ss ps
     have hp : ∀ p ∈ [(⟨to_, s⟩ : S58)], 0 ≤ p.f0 ∧ p.f0 < (ss.length : Int) ∧ p.f1.size ≤ 400 := by
      intro p hp
      rw [List.mem_singleton] at hp
      subst hp
      exact ⟨t0, by show to_ < (ss.length : Int); omega, hsl⟩
     have ok0 : deviceOk (bar ss ps) [] = true := bar_ok h (by decide) (fun p hp => by cases hp)
     have ok1 : deviceOk (bar ss ps) [(⟨to_, s⟩ : S58)] = true := bar_ok h (by simp) hp
     have sl := spec_Lay_ev (bar ss ps) ok0 to_ s t0 (by omega) hsl
     have sc := spec_Cut_ev (bar ss ps) [(⟨to_, s⟩ : S58)] [kept] (by simp)
     have ig := settledG_one kept (bar ss ps) ⟨to_, s⟩ t0 (by show to_ < _; omega) (by omega)
     unfold cutOf at sc
     rw [if_pos ok1, settle, settle_nil] at sc
     refine ⟨if kept = true then (bar ss ps).set to_.toNat s else bar ss ps, by split <;> simp [hl] <;> omega, ?_, ?_⟩
     ·refine Ev.bind (a := (bar ss ps, [(⟨to_, s⟩ : S58)], true)) (Ev.bind (spec_DeviceOk_ev ss ps) (evPos h ?_)) (evPos rfl (Ev.bind sc (Ev.now _)))
      rw [decide_eq_false h2]
      refine Ev.step (fun k => by simp only [spec_l9Laid.j0]; exact rfl) (evNeg Bool.false_ne_true (Ev.bind sr (Ev.bind ss1 (evNeg h3 ?_))))
      rcases tw with ⟨a, b⟩ | ⟨a, b⟩
      ·subst b; exact evPos a (Ev.bind sb (Ev.bind sl (Ev.now _)))
      ·subst b; exact evNeg a (Ev.bind sb (Ev.bind sl (Ev.now _)))
     ·refine Ev.bind (impl_DeviceOk_ev ss ps) (evPos h (Ev.bind (a := (bar ss ps, [(⟨to_, s⟩ : S58)], true)) (evNeg h2 (Ev.bind ir (Ev.bind is1 (evNeg h3 ?_)))) (evPos rfl (Ev.bind ig (Ev.now _)))))
      rcases tw with ⟨a, b⟩ | ⟨a, b⟩
      ·subst b; exact evPos a (Ev.bind ib (Ev.now _))
      ·subst b; exact evNeg a (Ev.bind ib (Ev.now _))
    by_cases h4 : at_ = 0
    ·exact goal 1 (by decide) (by decide) (Or.inl ⟨h4, rfl⟩)
    ·exact goal 0 (by decide) (by decide) (Or.inr ⟨h4, rfl⟩)
 ·refine ⟨[], by decide, Ev.bind (Ev.bind (spec_DeviceOk_ev ss ps) (evNeg h no)) (evNeg Bool.false_ne_true (Ev.now _)), ?_⟩
  exact Ev.bind (impl_DeviceOk_ev ss ps) (evNeg h (Ev.now _))

theorem laws_eqStringS_self (xs : List ByteArray) (hl : xs.length ≤ 1000000000000000000) : Ev (fun k => laws_eqStringS.f k xs xs) true := by
 simp only [laws_eqStringS.f]
 refine evPos trivial (self_loop laws_eqStringS.l0 (fun k xs i h => by simp only [laws_eqStringS.l0]; rw [if_neg (by omega)]) (fun k xs i a hi ha h1 => ?_) xs hl)
 simp only [laws_eqStringS.l0]
 rw [if_pos (by omega), if_pos (by omega), if_pos (by omega), w64s (by omega), if_pos trivial]

theorem laws_eqPatch_self (e : S58) : laws_eqPatch.f e.f0 e.f1 e.f0 e.f1 = some true := by
 simp [laws_eqPatch.f]
theorem laws_eqPatchS_self (xs : List S58) (hl : xs.length ≤ 1000000000000000000) : Ev (fun k => laws_eqPatchS.f k xs xs) true := by
 simp only [laws_eqPatchS.f]
 refine evPos trivial (self_loop laws_eqPatchS.l0 (fun k xs i h => by simp only [laws_eqPatchS.l0]; rw [if_neg (by omega)]) (fun k xs i a hi ha h1 => ?_) xs hl)
 simp only [laws_eqPatchS.l0]
 rw [if_pos (by omega), if_pos (by omega), if_pos (by omega), laws_eqPatch_self, w64s (by omega)]
 rfl
theorem laws_eqDevice_self (ss : List ByteArray) (ps : List S58) (h1 : ss.length ≤ 1000000000000000000) (h2 : ps.length ≤ 1000000000000000000) : Ev (fun k => laws_eqDevice.f k ss ps ss ps) true := by
 simp only [laws_eqDevice.f]
 exact Ev.bind (laws_eqStringS_self ss h1) (evPos rfl (Ev.bind (laws_eqPatchS_self ps h2) (evPos rfl (Ev.now _))))

theorem laws_markText_l0_ev (n : Nat) : ∀ (s : ByteArray), s.size + n ≤ 2000000000000000000 → ∃ t, Ev (fun k => laws_markText.l0 k (n : Int) s) t := by
 induction n using Nat.strongRecOn with
 | ind n ih =>
  intro s hs
  by_cases h : n = 0
  ·subst h
   refine ⟨_, Ev.step (f := fun _ => some ((⟨#[109]⟩ : ByteArray) ++ s)) (fun k => ?_) (Ev.now _)⟩
   simp only [laws_markText.l0]
   rw [if_neg (by simp), if_pos (by omega)]
  ·have hsz : (strOfNums [wrap64 (48 + Int.tmod (n : Int) 10) % 256]).size = 1 := by rw [strOfNums_size]; rfl
   obtain ⟨t, ht⟩ := ih (n / 10) (by omega) (strOfNums [wrap64 (48 + Int.tmod (n : Int) 10) % 256] ++ s) (by rw [ByteArray.size_append, hsz]; omega)
   refine ⟨t, Ev.step (f := fun k => laws_markText.l0 k ((n / 10 : Nat) : Int) (strOfNums [wrap64 (48 + Int.tmod (n : Int) 10) % 256] ++ s)) (fun k => ?_) ht⟩
   simp only [laws_markText.l0]
   rw [if_pos (by omega)]
   simp only [Option.bind_some]
   rw [if_pos (by rw [hsz]; omega), Int.tdiv_eq_ediv_of_nonneg (by omega), w64 (x := (n : Int) / 10) (by omega) (by omega)]
   rfl
theorem laws_markText_ex (a : Int) (h : a ≤ 1500000000000000000) : ∃ t, Ev (fun k => laws_markText.f k a) t := by
 simp only [laws_markText.f]
 by_cases h0 : a ≤ 0
 ·exact ⟨_, evPos h0 (Ev.now _)⟩
 ·obtain ⟨t, ht⟩ := laws_markText_l0_ev a.toNat (⟨#[]⟩ : ByteArray) (by show 0 + _ ≤ _; omega)
  rw [show ((a.toNat : Nat) : Int) = a by omega] at ht
  exact ⟨t, evNeg h0 ht⟩
/-- The text by which a place is marked. -/
noncomputable def mtx (a : Int) : ByteArray := by
 classical
 exact if h : ∃ t, Ev (fun k => laws_markText.f k a) t then Classical.choose h else ByteArray.empty
theorem mtx_ev (a : Int) (h : a ≤ 1500000000000000000) : Ev (fun k => laws_markText.f k a) (mtx a) := by
 unfold mtx
 rw [dif_pos (laws_markText_ex a h)]
 exact Classical.choose_spec (laws_markText_ex a h)

theorem laws_markStringS_ev (xs : List ByteArray) (hl : xs.length ≤ 1000000000000000) (a : Int) (h1 : 1 ≤ a) (h2 : a ≤ 10000000000000000) : Ev (fun k => laws_markStringS.f k xs a) (a + 1 * xs.length, marksOf mtx 1 xs.length a) := by
 refine mark_loop laws_markStringS.l0 mtx 1 (by decide) (fun k xs a i h => ?_) (fun xs a i r h hi h1 h2 hr => ?_) xs hl a h1 h2
 ·simp only [laws_markStringS.l0]
  rw [if_neg (by omega)]
 ·refine Ev.step (f := fun k => (laws_markText.f k a).bind fun t => laws_markStringS.l0 k (xs.set i t) (a + 1) ((i + 1 : Nat) : Int)) (fun k => ?_) (Ev.bind (mtx_ev a (by omega)) hr)
  simp only [laws_markStringS.l0]
  rw [if_pos (by omega)]
  simp only [if_pos (show (0 : Int) ≤ i by omega), w64s (show i ≤ 1000000000000000000 by omega), w64 (x := a + 1) (by omega) (by omega), Int.toNat_natCast]

theorem laws_heldStringS_ev (n : Nat) (hl : n ≤ 1000000000000000) (a : Int) (h1 : 1 ≤ a) (h2 : a ≤ 10000000000000000) : Ev (fun k => laws_heldStringS.f k (marksOf mtx 1 n a) a) (a + 1 * n) := by
 refine held_loop laws_heldStringS.l0 mtx 1 (by decide) (fun k xs a i h => ?_) (fun xs a i r h hi hi2 h1 h2 hr => ?_) n hl a h1 h2
 ·simp only [laws_heldStringS.l0]
  rw [if_neg (by omega)]
 ·refine Ev.step (f := fun k => (laws_markText.f k a).bind fun t => if (rdOf ByteArray.empty xs (i : Int)).toList = t.toList then laws_heldStringS.l0 k xs (a + 1) ((i + 1 : Nat) : Int) else some (-1)) (fun k => ?_) (Ev.bind (mtx_ev a (by omega)) (evPos (by rw [show rdOf ByteArray.empty xs (i : Int) = mtx a from getD_at h]) hr))
  simp only [laws_heldStringS.l0]
  rw [if_pos (by omega), if_pos (by omega), w64s (by omega), w64 (x := a + 1) (by omega) (by omega)]

noncomputable def mtp (a : Int) : S58 := ⟨a, mtx (a + 1)⟩
theorem laws_markPatchS_ev (xs : List S58) (hl : xs.length ≤ 1000000000000000) (a : Int) (h1 : 1 ≤ a) (h2 : a ≤ 10000000000000000) : Ev (fun k => laws_markPatchS.f k xs a) (a + 2 * xs.length, marksOf mtp 2 xs.length a) := by
 refine mark_loop laws_markPatchS.l0 mtp 2 (by decide) (fun k xs a i h => ?_) (fun xs a i r h hi h1 h2 hr => ?_) xs hl a h1 h2
 ·simp only [laws_markPatchS.l0]
  rw [if_neg (by omega)]
 ·have e1 : wrap64 (a + 1) = a + 1 := w64 (by omega) (by omega)
  have e2 : wrap64 (a + 1 + 1) = a + 2 := w64 (x := a + 1 + 1) (by omega) (by omega) |>.trans (by omega)
  refine Ev.step (f := fun k => (laws_markText.f k (a + 1)).bind fun u => laws_markPatchS.l0 k (xs.set i ⟨a, u⟩) (a + 2) ((i + 1 : Nat) : Int)) (fun k => ?_) (Ev.bind (mtx_ev (a + 1) (by omega)) hr)
  simp only [laws_markPatchS.l0]
  rw [if_pos (by omega), if_pos (by omega)]
  have g1 : ∀ (ys : List S58) (v d : S58), i < ys.length → (ys.set i v).getD i d = v := fun ys v d hh => by simp [List.getD_eq_getElem?_getD, List.getElem?_set, hh]
  simp only [Option.bind_some, e1, e2, w64s (show i ≤ 1000000000000000000 by omega), rd_T58, Int.toNat_natCast, List.set_set, g1 _ _ _ h]
theorem laws_heldPatchS_ev (n : Nat) (hl : n ≤ 1000000000000000) (a : Int) (h1 : 1 ≤ a) (h2 : a ≤ 10000000000000000) : Ev (fun k => laws_heldPatchS.f k (marksOf mtp 2 n a) a) (a + 2 * n) := by
 refine held_loop laws_heldPatchS.l0 mtp 2 (by decide) (fun k xs a i h => ?_) (fun xs a i r h hi hi2 h1 h2 hr => ?_) n hl a h1 h2
 ·simp only [laws_heldPatchS.l0]
  rw [if_neg (by omega)]
 ·have e1 : wrap64 (a + 1) = a + 1 := w64 (by omega) (by omega)
  have e2 : wrap64 (a + 1 + 1) = a + 2 := w64 (x := a + 1 + 1) (by omega) (by omega) |>.trans (by omega)
  have e5 : rd_T58 xs (i : Int) = mtp a := getD_at h
  refine Ev.step (fun k => by simp only [laws_heldPatchS.l0]; rw [if_pos (by omega), if_pos (by omega), e5, e1, e2, w64s (by omega)]) ?_
  exact evPos rfl (Ev.bind (mtx_ev (a + 1) (by omega)) (evPos rfl hr))
/-- A device that is marked, and its marks. -/
noncomputable def mds (n : Nat) : List ByteArray := marksOf mtx 1 n 1
noncomputable def mdl (n m : Nat) : List S58 := marksOf mtp 2 m (1 + n)
theorem laws_markDevice_ev (ss : List ByteArray) (ps : List S58) (h1 : ss.length ≤ 1000000000000) (h2 : ps.length ≤ 1000000000000) : Ev (fun k => laws_markDevice.f k ss ps 1) (1 + ss.length + 2 * ps.length, mds ss.length, mdl ss.length ps.length) := by
 simp only [laws_markDevice.f]
 have e : (1 : Int) + 1 * (ss.length : Int) = 1 + ss.length := by omega
 have a := laws_markStringS_ev ss (by omega) 1 (by decide) (by decide)
 rw [e] at a
 exact Ev.bind a (Ev.bind (laws_markPatchS_ev ps (by omega) (1 + ss.length) (by omega) (by omega)) (Ev.now _))
theorem laws_heldDevice_ev (n m : Nat) (h1 : n ≤ 1000000000000) (h2 : m ≤ 1000000000000) : Ev (fun k => laws_heldDevice.f k (mds n) (mdl n m) 1) (1 + n + 2 * m) := by
 simp only [laws_heldDevice.f]
 have e : (1 : Int) + 1 * (n : Int) = 1 + n := by omega
 have a := laws_heldStringS_ev n (by omega) 1 (by decide) (by decide)
 rw [e] at a
 exact Ev.bind a (evNeg (by omega) (Ev.bind (laws_heldPatchS_ev m (by omega) (1 + n) (by omega) (by omega)) (evNeg (by omega) (Ev.now _))))

theorem FnExactHalfway (ss : List ByteArray) (ps : List S52) (a : ByteArray) (g : Bool) (h1 : ss.length ≤ maxLen) (h2 : ∀ s ∈ ss, s.size ≤ maxLen) (h3 : ps.length ≤ maxLen) (h4 : ∀ e ∈ ps, (Lit.int .i64 e.f0).wf = true ∧ e.f1.size ≤ maxLen) (ha : a.size ≤ 140737488351232) : ∃ k, laws_FnExactHalfway.f k ss ps a g = some true := by
 refine Ev.rounds (g := fun k => laws_FnExactHalfway.f k ss ps a g) ?_
 simp only [laws_FnExactHalfway.f]
 by_cases hks : (a.size : Int) > 1048576
 ·exact evPos hks (Ev.now _)
 refine evNeg hks ?_
 obtain ⟨r, hr, hk⟩ := laws_szDevice_ev ss ps h1 h2 h3 (fun e he => (h4 e he).2)
 refine Ev.bind hr ?_
 by_cases h0 : r < 0
 ·exact evPos h0 (Ev.now _)
 obtain ⟨a1, a2, a3, a4⟩ := hk (by omega)
 have toD := laws_toDevice_ev ss ps a1 a3
 obtain ⟨gs, hb1, sp, im⟩ := halfway_ev ss (ps.map toP) a g
 have hself0 := laws_eqDevice_self ss (ps.map toP) (by omega) (by rw [List.length_map]; omega)
 have hmark0 := laws_markDevice_ev ss (ps.map toP) (by omega) (by rw [List.length_map]; omega)
 have hself := laws_eqDevice_self gs [] (by omega) (by simp)
 have hmark := laws_markDevice_ev gs [] (by omega) (by simp)
 have hheld := laws_heldDevice_ev gs.length 0 (by omega) (by omega)
 simp only [List.length_nil] at hmark
 have t0 : Ev (fun k => laws_FnExactHalfway.j0 k a g (!true) ss ps gs [] gs []) true := by
  refine Ev.step (fun k => by simp only [laws_FnExactHalfway.j0]; exact rfl) ?_
  exact evNeg (by decide) (Ev.bind hmark (Ev.bind hheld (evNeg (by omega) (evPos rfl (Ev.bind toD (Ev.bind im (Ev.bind hself (evPos rfl (Ev.bind hheld (evNeg (by omega) (evPos rfl (Ev.now _))))))))))))
 refine evNeg h0 (Ev.bind toD (Ev.bind sp (Ev.bind toD (Ev.bind im (Ev.bind hself (evPos rfl (Ev.bind toD (Ev.bind hself0 (evPos rfl (Ev.bind hmark0 ?_))))))))))
 exact evNeg (by omega) (Ev.bind hself t0)
end Go.Proofs.YtepcmdmclmfgkaaGreatDoor.Pure

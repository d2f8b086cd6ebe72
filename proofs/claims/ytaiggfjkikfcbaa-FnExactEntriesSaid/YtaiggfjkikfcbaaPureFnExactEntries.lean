/- Proves the plain law behind this statement of the seat (what its functions come to, over numbers and lists): that it answers true. No condition beyond the statement's own. -/
import Derived.Test.YtaiggfjkikfcbaaPFnExactEntriesx
import Derived.Test.YtaiggfjkikfcbaaLib
import Derived.Test.YtaiggfjkikfcbaaLibHit
import Derived.Test.YtaiggfjkikfcbaaLibPu
import Derived.Test.YtaiggfjkikfcbaaLibRow
import Derived.Test.YtaiggfjkikfcbaaLibStr
namespace Go.Proofs.Ytaiggfjkikfcbaa.Pure
open Go Go.RowKit Go.Proofs.Ytaiggfjkikfcbaa.PFnExactEntries Go.Proofs.YtaiggfjkikfcbaaW.PrintWords Go.Proofs.YtaiggfjkikfcbaaW.PrintLast Go.Proofs.YtaiggfjkikfcbaaW.PrintMore Go.Proofs.Ytaiggfjkikfcbaa.Lib
set_option linter.unusedVariables false
set_option linter.unusedSimpArgs false
def szS (left : Int) : List ByteArray → Int
 | [] => left
 | s :: xs => if left - s.size < 0 then -1 else szS (left - s.size) xs
theorem szS_bd : ∀ (xs : List ByteArray) (left : Int), 0 ≤ szS left xs → 0 ≤ left → ∀ s ∈ xs, (s.size : Int) ≤ left
 | [], _, _, _, s, hs => by simp at hs
 | x :: xs, left, h, h0, s, hs => by
  unfold szS at h
  by_cases hx : left - x.size < 0
  ·rw [if_pos hx] at h; omega
  ·rw [if_neg hx] at h
   rcases List.mem_cons.1 hs with rfl | hs
   ·omega
   ·have := szS_bd xs _ h (by omega) s hs
    omega
theorem szS_range : ∀ (xs : List ByteArray) (left : Int), 0 ≤ left → -1 ≤ szS left xs ∧ szS left xs ≤ left
 | [], left, h => by unfold szS; omega
 | x :: xs, left, h => by
  unfold szS
  by_cases hx : left - x.size < 0
  ·rw [if_pos hx]; omega
  ·rw [if_neg hx]
   have := szS_range xs (left - x.size) (by omega)
   omega
theorem laws_szStringS_l0_ev (xs : List ByteArray) (hl : xs.length ≤ 1000000000000000000) (hs : ∀ s ∈ xs, s.size ≤ maxLen) : ∀ (bs : List ByteArray) (i : Nat) (left : Int), xs.drop i = bs → 0 ≤ left → left ≤ 1048576 → Ev (fun k => laws_szStringS.l0 k xs left i) (szS left bs)
 | [], i, left, hd, h0, h1 => by
  have := drop_nil hd
  refine Ev.step (f := fun _ => some left) (fun k => ?_) (Ev.now _)
  simp only [laws_szStringS.l0]
  rw [if_neg (by omega)]
 | b :: bs, i, left, hd, h0, h1 => by
  obtain ⟨h2, h3, h4⟩ := drop_cons hd
  have hb : b.size ≤ 9223372036854775807 := hs b (List.mem_of_getElem? h4)
  have e1 : rdOf ByteArray.empty xs (i : Int) = b := getD_at h4
  have e2 : wrap64 (left - (b.size : Int)) = left - b.size := w64 (by omega) (by omega)
  unfold szS
  by_cases hx : left - b.size < 0
  ·rw [if_pos hx]
   refine Ev.step (f := fun _ => some (-1)) (fun k => ?_) (Ev.now _)
   simp only [laws_szStringS.l0]
   rw [if_pos (by omega), if_pos (by omega), e1, e2, if_pos hx]
  ·rw [if_neg hx]
   refine Ev.step (f := fun k => laws_szStringS.l0 k xs (left - b.size) ((i + 1 : Nat) : Int)) (fun k => ?_) (laws_szStringS_l0_ev xs hl hs bs (i + 1) _ h3 (by omega) (by omega))
   simp only [laws_szStringS.l0]
   rw [if_pos (by omega), if_pos (by omega), e1, e2, if_neg hx, w64s (by omega)]
/-- The law's guard: its answer, and what is known where it lets in. -/
theorem laws_szStringS_ev (xs : List ByteArray) (hl : xs.length ≤ maxLen) (hs : ∀ s ∈ xs, s.size ≤ maxLen) (left : Int) (h0 : 0 ≤ left) (h1 : left ≤ 1048576) :
  ∃ r, Ev (fun k => laws_szStringS.f k xs left) r ∧ -1 ≤ r ∧ r ≤ left ∧ (0 ≤ r → (xs.length : Int) ≤ left ∧ ∀ s ∈ xs, (s.size : Int) ≤ left) := by
 have hm : maxLen = 9223372036854775807 := rfl
 have e : wrap64 (left - (xs.length : Int)) = left - xs.length := w64 (by omega) (by omega)
 by_cases h : left - (xs.length : Int) < 0
 ·refine ⟨-1, ?_, by omega, by omega, fun h => by omega⟩
  simp only [laws_szStringS.f]
  exact evPos (by rw [e]; exact h) (Ev.now _)
 ·refine ⟨szS (left - xs.length) xs, ?_, ?_, ?_, fun hr => ⟨by omega, fun s h' => ?_⟩⟩
  ·simp only [laws_szStringS.f]
   refine evNeg (by rw [e]; exact h) ?_
   rw [e]
   exact laws_szStringS_l0_ev xs (by omega) hs xs 0 _ rfl (by omega) (by omega)
  ·exact (szS_range xs _ (by omega)).1
  ·have := (szS_range xs (left - xs.length) (by omega)).2; omega
  ·have := szS_bd xs _ hr (by omega) s h'; omega

theorem laws_toStringS_ev (xs : List ByteArray) (hl : xs.length ≤ 17592186044416) : Ev (fun k => laws_toStringS.f k xs) xs := by
 simp only [laws_toStringS.f]
 refine evPos (by omega) (evPos (by omega) ?_)
 have := copy_loop laws_toStringS.l0 (fun x => x) (⟨#[]⟩ : ByteArray) (fun k xs ys i h => by simp only [laws_toStringS.l0]; rw [if_neg (by omega)])
  (fun k xs ys i a hi ha h1 h2 => by
   simp only [laws_toStringS.l0]
   rw [if_pos (by omega), if_pos (by omega), if_pos (by omega), w64s (by omega), show rdOf ByteArray.empty xs (i : Int) = a from getD_at ha, Int.toNat_natCast]) xs (by omega)
 simpa using this

theorem laws_eqInt64S_self (xs : List Int) (hl : xs.length ≤ 1000000000000000000) : Ev (fun k => laws_eqInt64S.f k xs xs) true := by
 simp only [laws_eqInt64S.f]
 refine evPos trivial (self_loop laws_eqInt64S.l0 (fun k xs i h => by simp only [laws_eqInt64S.l0]; rw [if_neg (by omega)]) (fun k xs i a hi ha h1 => ?_) xs hl)
 simp only [laws_eqInt64S.l0]
 rw [if_pos (by omega), if_pos (by omega), if_pos (by omega), if_pos trivial, w64s (by omega)]

theorem laws_toInt64S_ev (xs : List Int) (hl : xs.length ≤ 35184372088832) : Ev (fun k => laws_toInt64S.f k xs) xs := by
 simp only [laws_toInt64S.f]
 refine evPos (by omega) (evPos (by omega) ?_)
 have := copy_loop laws_toInt64S.l0 (fun x => x) 0 (fun k xs ys i h => by simp only [laws_toInt64S.l0]; rw [if_neg (by omega)])
  (fun k xs ys i a hi ha h1 h2 => by
   simp only [laws_toInt64S.l0]
   rw [if_pos (by omega), if_pos (by omega), if_pos (by omega), w64s (by omega), show rd xs (i : Int) = a from rd_at ha, Int.toNat_natCast]) xs (by omega)
 simpa using this

theorem laws_szTable_ev (a b : ByteArray) (xs : List Int) (ss : List ByteArray) (ha : a.size ≤ maxLen) (hb : b.size ≤ maxLen) (hx : xs.length ≤ maxLen) (h1 : ss.length ≤ maxLen) (h2 : ∀ s ∈ ss, s.size ≤ maxLen) :
  ∃ r, Ev (fun k => laws_szTable.f k a b xs ss 1048576) r ∧ (0 ≤ r → a.size ≤ 1048576 ∧ b.size ≤ 1048576 ∧ xs.length ≤ 1048576 ∧ ss.length ≤ 1048576 ∧ ∀ s ∈ ss, s.size ≤ 1048576) := by
 simp only [laws_szTable.f]
 have hm : maxLen = 9223372036854775807 := rfl
 have w1 : wrap64 ((1048576 : Int) - (a.size : Int)) = 1048576 - a.size := w64 (by omega) (by omega)
 rw [w1]
 by_cases c1 : (1048576 : Int) - a.size < 0
 ·exact ⟨-1, evPos c1 (Ev.now _), fun h => absurd h (by decide)⟩
 have w2 : wrap64 ((1048576 : Int) - a.size - (b.size : Int)) = 1048576 - a.size - b.size := w64 (by omega) (by omega)
 rw [w2]
 by_cases c2 : (1048576 : Int) - a.size - b.size < 0
 ·exact ⟨-1, evNeg c1 (evPos c2 (Ev.now _)), fun h => absurd h (by decide)⟩
 have w3 : wrap64 ((1048576 : Int) - a.size - b.size - (xs.length : Int)) = 1048576 - a.size - b.size - xs.length := w64 (by omega) (by omega)
 by_cases c3 : (1048576 : Int) - a.size - b.size - xs.length < 0
 ·have e : Ev (fun _ : Nat => laws_szInt64S.f xs (1048576 - a.size - b.size)) (-1) := evId (fun _ => by unfold laws_szInt64S.f; rw [w3, if_pos c3])
  exact ⟨-1, evNeg c1 (evNeg c2 (Ev.bind e (evPos (by decide) (Ev.now _)))), fun h => absurd h (by decide)⟩
 have e : Ev (fun _ : Nat => laws_szInt64S.f xs (1048576 - a.size - b.size)) (1048576 - a.size - b.size - xs.length) := evId (fun _ => by unfold laws_szInt64S.f; rw [w3, if_neg c3])
 obtain ⟨r, hr, _, _, hk⟩ := laws_szStringS_ev ss h1 h2 (1048576 - a.size - b.size - xs.length) (by omega) (by omega)
 by_cases c4 : r < 0
 ·exact ⟨-1, evNeg c1 (evNeg c2 (Ev.bind e (evNeg (by omega) (Ev.bind hr (evPos c4 (Ev.now _)))))), fun h => absurd h (by decide)⟩
 ·obtain ⟨k1, k2⟩ := hk (by omega)
  exact ⟨r, evNeg c1 (evNeg c2 (Ev.bind e (evNeg (by omega) (Ev.bind hr (evNeg c4 (Ev.now _)))))), fun _ => ⟨by omega, by omega, by omega, by omega, fun s hs => by have := k2 s hs; omega⟩⟩
theorem laws_toTable_ev (a b : ByteArray) (xs : List Int) (ss : List ByteArray) (hx : xs.length ≤ 1048576) (h1 : ss.length ≤ 1048576) : Ev (fun k => laws_toTable.f k a b xs ss) (a, b, xs, ss) := by
 simp only [laws_toTable.f]
 exact Ev.bind (laws_toInt64S_ev xs (by omega)) (Ev.bind (laws_toStringS_ev ss (by omega)) (Ev.now _))

theorem laws_eqStringS_self (xs : List ByteArray) (hl : xs.length ≤ 1000000000000000000) : Ev (fun k => laws_eqStringS.f k xs xs) true := by
 simp only [laws_eqStringS.f]
 refine evPos trivial (self_loop laws_eqStringS.l0 (fun k xs i h => by simp only [laws_eqStringS.l0]; rw [if_neg (by omega)]) (fun k xs i a hi ha h1 => ?_) xs hl)
 simp only [laws_eqStringS.l0]
 rw [if_pos (by omega), if_pos (by omega), if_pos (by omega), w64s (by omega), if_pos trivial]

theorem spec_Digest_l0_ev (s : ByteArray) (hs : s.size ≤ 140737488351232) : ∀ (bs : List Int) (i : Nat) (h : Int), (bytesOf s).drop i = bs → 0 ≤ h → h < 2147483647 → Ev (fun k => spec_Digest.l0 k s h i) (dig h bs)
 | [], i, h, hd, h0, h1 => by
  have := bdrop_nil hd
  refine Ev.step (f := fun _ => some h) (fun k => ?_) (Ev.now _)
  simp only [spec_Digest.l0]
  rw [if_neg (by omega)]
 | b :: bs, i, h, hd, h0, h1 => by
  obtain ⟨h2, h3, h4, h5, h6⟩ := bdrop_cons hd
  refine Ev.step (f := fun k => spec_Digest.l0 k s (dstep h b) ((i + 1 : Nat) : Int)) (fun k => ?_) (spec_Digest_l0_ev s hs bs (i + 1) _ h3 (dstep_bd h b).1 (dstep_bd h b).2)
  simp only [spec_Digest.l0]
  rw [if_pos (by omega), if_pos (by omega), h4, dstep_eq h0 h1 h5 h6, w64s (by omega)]
theorem spec_Digest_ev (s : ByteArray) (hs : s.size ≤ 140737488351232) : Ev (fun k => spec_Digest.f k s) (digest s) :=
 spec_Digest_l0_ev s hs (bytesOf s) 0 1 rfl (by decide) (by decide)
theorem impl_Digest_l0_ev (s : ByteArray) (hs : s.size ≤ 140737488351232) : ∀ (bs : List Int) (i : Nat) (h : Int), (bytesOf s).drop i = bs → 0 ≤ h → h < 2147483647 → Ev (fun k => impl_Digest.l0 k s h (s.size : Int) i) (dig h bs)
 | [], i, h, hd, h0, h1 => by
  have := bdrop_nil hd
  refine Ev.step (f := fun _ => some h) (fun k => ?_) (Ev.now _)
  simp only [impl_Digest.l0]
  rw [if_neg (by omega)]
 | b :: bs, i, h, hd, h0, h1 => by
  obtain ⟨h2, h3, h4, h5, h6⟩ := bdrop_cons hd
  refine Ev.step (f := fun k => impl_Digest.l0 k s (dstep h b) (s.size : Int) ((i + 1 : Nat) : Int)) (fun k => ?_) (impl_Digest_l0_ev s hs bs (i + 1) _ h3 (dstep_bd h b).1 (dstep_bd h b).2)
  simp only [impl_Digest.l0]
  rw [if_pos (by omega), if_pos (by omega), if_pos (by omega), h4, dstep_eq h0 h1 h5 h6, w64s (by omega)]
theorem impl_Digest_ev (s : ByteArray) (hs : s.size ≤ 140737488351232) : Ev (fun k => impl_Digest.f k s) (digest s) :=
 impl_Digest_l0_ev s hs (bytesOf s) 0 1 rfl (by decide) (by decide)

def Inc (l : List Int) : Prop := l.Pairwise (fun x y => x < y)
theorem inc_uniq : ∀ (a b : List Int), Inc a → Inc b → (∀ x, x ∈ a ↔ x ∈ b) → a = b
 | [], [], _, _, _ => rfl
 | [], y :: b, _, _, h => absurd ((h y).2 List.mem_cons_self) (by simp)
 | x :: a, [], _, _, h => absurd ((h x).1 List.mem_cons_self) (by simp)
 | x :: a, y :: b, ha, hb, h => by
  obtain ⟨a1, a2⟩ := List.pairwise_cons.1 ha
  obtain ⟨b1, b2⟩ := List.pairwise_cons.1 hb
  have hxy : x = y := by
   have h1 := (h x).1 List.mem_cons_self
   have h2 := (h y).2 List.mem_cons_self
   rcases List.mem_cons.1 h1 with h1 | h1
   ·exact h1
   ·rcases List.mem_cons.1 h2 with h2 | h2
    ·exact h2.symm
    ·have := a1 y h2
     have := b1 x h1
     omega
  subst hxy
  congr 1
  refine inc_uniq a b a2 b2 (fun z => ?_)
  constructor
  ·intro hz
   have hz1 := a1 z hz
   rcases List.mem_cons.1 ((h z).1 (List.mem_cons_of_mem _ hz)) with h1 | h1
   ·omega
   ·exact h1
  ·intro hz
   have hz1 := b1 z hz
   rcases List.mem_cons.1 ((h z).2 (List.mem_cons_of_mem _ hz)) with h1 | h1
   ·omega
   ·exact h1
/-- A number into a list that rises. -/
def put5 : List Int → Int → List Int
 | [], n => [n]
 | x :: xs, n => if x < n then x :: put5 xs n else if x = n then x :: xs else n :: x :: xs
theorem put5_mem : ∀ (l : List Int) (n x : Int), x ∈ put5 l n ↔ x = n ∨ x ∈ l
 | [], n, x => by simp [put5]
 | y :: l, n, x => by
  unfold put5
  split
  ·rw [List.mem_cons, put5_mem l n x, List.mem_cons]
   constructor
   ·rintro (h | h | h) <;> simp [h]
   ·rintro (h | h | h) <;> simp [h]
  ·split
   ·rename_i h
    subst h
    simp
   ·simp
theorem put5_inc : ∀ (l : List Int) (n : Int), Inc l → Inc (put5 l n)
 | [], n, _ => List.pairwise_singleton _ _
 | y :: l, n, h => by
  obtain ⟨h1, h2⟩ := List.pairwise_cons.1 h
  unfold put5
  split
  ·rename_i hy
   refine List.Pairwise.cons (fun z hz => ?_) (put5_inc l n h2)
   rcases (put5_mem l n z).1 hz with rfl | hz
   ·exact hy
   ·exact h1 z hz
  ·rename_i hy
   split
   ·exact h
   ·refine List.Pairwise.cons (fun z hz => ?_) h
    rcases List.mem_cons.1 hz with rfl | hz
    ·omega
    ·have := h1 z hz; omega
theorem put5_length : ∀ (l : List Int) (n : Int), (put5 l n).length ≤ l.length + 1
 | [], n => by simp [put5]
 | y :: l, n => by
  have := put5_length l n
  unfold put5
  split
  ·simp only [List.length_cons]; omega
  ·split <;> simp only [List.length_cons] <;> omega
/-- All of a list, each once, in order. -/
def once (l : List Int) : List Int := l.foldl put5 []
theorem foldl_put5 : ∀ (l acc : List Int), Inc acc → Inc (l.foldl put5 acc) ∧ ∀ x, x ∈ l.foldl put5 acc ↔ x ∈ acc ∨ x ∈ l
 | [], acc, h => ⟨h, fun x => by simp⟩
 | n :: l, acc, h => by
  obtain ⟨h1, h2⟩ := foldl_put5 l (put5 acc n) (put5_inc acc n h)
  refine ⟨h1, fun x => ?_⟩
  rw [List.foldl_cons, h2, put5_mem, List.mem_cons]
  constructor
  ·rintro ((h | h) | h) <;> simp [h]
  ·rintro (h | h | h) <;> simp [h]
theorem once_inc (l : List Int) : Inc (once l) := (foldl_put5 l [] List.Pairwise.nil).1
theorem once_mem (l : List Int) (x : Int) : x ∈ once l ↔ x ∈ l := by
 have := (foldl_put5 l [] List.Pairwise.nil).2 x
 unfold once
 rw [this]
 simp
theorem compact_get {l : List Int} {j : Nat} (h : j < l.length) : l.toArray[j]! = l[j] := by simp [h]
theorem compact_mem (l : List Int) (x : Int) : x ∈ Lib.compact l ↔ x ∈ l := by
 unfold Lib.compact Lib.compactUpTo
 constructor
 ·intro h
  obtain ⟨j, hj, rfl⟩ := List.mem_map.1 h
  have h1 := List.mem_range.1 (List.mem_filter.1 hj).1
  rw [compact_get h1]
  exact List.getElem_mem h1
 ·intro h
  obtain ⟨j, hj, rfl⟩ := List.getElem_of_mem h
  have hh : ∀ (j : Nat) (hj : j < l.length), l[j] ∈ ((List.range l.length).filter (Lib.keeps l.toArray)).map (l.toArray[·]!) := by
   intro j
   induction j with
   | zero =>
    intro hj
    refine List.mem_map.2 ⟨0, List.mem_filter.2 ⟨List.mem_range.2 hj, by simp [Lib.keeps]⟩, compact_get hj⟩
   | succ j ih =>
    intro hj
    by_cases hk : Lib.keeps l.toArray (j + 1) = true
    ·exact List.mem_map.2 ⟨j + 1, List.mem_filter.2 ⟨List.mem_range.2 hj, hk⟩, compact_get hj⟩
    ·have e : l[j + 1] = l[j] := by
      unfold Lib.keeps at hk
      rw [decide_eq_true_eq] at hk
      have h2 := Decidable.of_not_not (fun hh => hk (Or.inr hh))
      rw [compact_get hj, Nat.add_sub_cancel, compact_get (by omega)] at h2
      exact h2
     rw [e]
     exact ih (by omega)
  exact hh j hj
theorem compact_inc (l : List Int) (h : l.Pairwise (fun x y => x ≤ y)) : Inc (Lib.compact l) := by
 unfold Lib.compact Lib.compactUpTo Inc
 rw [List.pairwise_map]
 have h1 : ((List.range l.length).filter (Lib.keeps l.toArray)).Pairwise (fun i j => i < j) := List.Pairwise.filter _ List.pairwise_lt_range
 have h2 : ((List.range l.length).filter (Lib.keeps l.toArray)).Pairwise (fun i j => (i < j ∧ i < l.length ∧ j < l.length) ∧ Lib.keeps l.toArray j = true) := by
  refine List.Pairwise.imp_of_mem ?_ h1
  intro a b ha hb hab
  exact ⟨⟨hab, List.mem_range.1 (List.mem_filter.1 ha).1, List.mem_range.1 (List.mem_filter.1 hb).1⟩, (List.mem_filter.1 hb).2⟩
 refine h2.imp ?_
 rintro i j ⟨⟨hij, hi, hj⟩, hk⟩
 rw [compact_get hi, compact_get hj]
 have hs := List.pairwise_iff_getElem.1 h
 unfold Lib.keeps at hk
 rw [decide_eq_true_eq] at hk
 have hne : l[j] ≠ l[j - 1]'(by omega) := by
  rcases hk with hk | hk
  ·omega
  ·rwa [compact_get hj, compact_get (show j - 1 < l.length by omega)] at hk
 have h3 : l[j - 1]'(by omega) ≤ l[j] := hs (j - 1) j (by omega) hj (by omega)
 have h4 : l[i] ≤ l[j - 1]'(by omega) := by
  by_cases e : i = j - 1
  ·subst e; exact Int.le_refl _
  ·exact hs i (j - 1) hi (by omega) (by omega)
 omega
theorem compact_sorted_once (l : List Int) : Lib.compact (l.mergeSort fun x y => decide (x ≤ y)) = once l := by
 refine inc_uniq _ _ (compact_inc _ ?_) (once_inc l) (fun x => ?_)
 ·have := List.pairwise_mergeSort (le := fun (x y : Int) => decide (x ≤ y)) (fun a b c h1 h2 => by simp only [decide_eq_true_eq] at *; omega) (fun a b => by simp only [Bool.or_eq_true, decide_eq_true_eq]; omega) l
  exact this.imp (fun h => by simpa using h)
 ·rw [compact_mem, once_mem]
  exact (List.mergeSort_perm l _).mem_iff

/-- The two marks of a key. -/
def mk5 (s : ByteArray) : List Int := [Int.tmod (digest s) 256, Int.tmod (digest (s ++ (⟨#[42]⟩ : ByteArray))) 256]
def b5 (s : ByteArray) : List Int := put5 [Int.tmod (digest s) 256] (Int.tmod (digest (s ++ (⟨#[42]⟩ : ByteArray))) 256)
theorem star_size (s : ByteArray) : (s ++ (⟨#[42]⟩ : ByteArray)).size = s.size + 1 := by
 rw [ByteArray.size_append]
 rfl
theorem impl_marks_ev (s : ByteArray) (hs : s.size ≤ 2000000) : Ev (fun k => impl_marks.f k s) (mk5 s) := by
 simp only [impl_marks.f]
 exact Ev.bind (impl_Digest_ev s (by omega)) (evPos (by omega) (Ev.bind (impl_Digest_ev _ (by rw [star_size]; omega)) (Ev.now _)))
theorem spec_l5Put_l0_ev (l : List Int) (n : Int) (hl : l.length ≤ 1000000000) : ∀ (bs : List Int) (i : Nat), l.drop i = bs → i ≤ l.length → Ev (fun k => spec_l5Put.l0 k l n (i : Int)) (l.take i ++ put5 bs n)
 | [], i, hd, hi => by
  have := drop_nil hd
  refine Ev.step (fun k => by simp only [spec_l5Put.l0]; exact rfl) ?_
  refine evNeg (by omega) (Ev.bind (Ev.now _) (evPos (by omega) (evPos (by omega) (Ev.bind (Ev.now _) (evPos ?_ (Ev.bind (Ev.now _) (evPos ?_ (Ev.bind (Ev.now _) (Ev.bind (Ev.now _) (evPos ?_ (evEq (Ev.now _) ?_)))))))))))
  ·simp; omega
  ·simp; omega
  ·simp; omega
  ·simp [put5, hd]
 | x :: bs, i, hd, hi => by
  obtain ⟨h2, h3, h4⟩ := drop_cons hd
  have e1 : rd l (i : Int) = x := rd_at h4
  have et : l.take (i + 1) = l.take i ++ [x] := by rw [List.take_add_one, h4]; rfl
  by_cases c : x < n
  ·refine Ev.step (f := fun k => spec_l5Put.l0 k l n ((i + 1 : Nat) : Int)) (fun k => ?_) (evEq (spec_l5Put_l0_ev l n hl bs (i + 1) h3 (by omega)) ?_)
   ·simp only [spec_l5Put.l0]
    rw [if_pos (by omega), if_pos (by omega), e1, if_pos c, w64s (by omega)]
   ·rw [put5, if_pos c, et, List.append_assoc]
    rfl
  ·by_cases c2 : x = n
   ·refine Ev.step (f := fun _ => some l) (fun k => ?_) (evEq (Ev.now _) ?_)
    ·simp only [spec_l5Put.l0]
     rw [if_pos (by omega), if_pos (by omega), e1, if_neg c, if_pos c2]
    ·rw [put5, if_neg c, if_pos c2, ← hd, List.take_append_drop]
   ·refine Ev.step (fun k => by simp only [spec_l5Put.l0]; exact rfl) ?_
    refine evPos (by omega) (evPos (by omega) (evNeg (by rw [e1]; exact c) (evNeg (by rw [e1]; exact c2) (Ev.bind (Ev.now _) (evPos (by omega) (Ev.bind (Ev.now _) (evPos ?_ (Ev.bind (Ev.now _) (evPos ?_ (Ev.bind (Ev.now _) (Ev.bind (Ev.now _) (evPos ?_ (evEq (Ev.now _) ?_)))))))))))))
    ·simp; omega
    ·simp; omega
    ·simp; omega
    ·rw [put5, if_neg c, if_neg c2]
     simp [hd]
theorem spec_l5Put_ev (l : List Int) (n : Int) (hl : l.length ≤ 1000000000) : Ev (fun k => spec_l5Put.f k l n) (put5 l n) := by
 simp only [spec_l5Put.f]
 have := spec_l5Put_l0_ev l n hl l 0 rfl (Nat.zero_le _)
 rwa [List.take_zero, List.nil_append] at this
theorem spec_l5Marks_ev (s : ByteArray) (hs : s.size ≤ 2000000) : Ev (fun k => spec_l5Marks.f k s) (b5 s) := by
 simp only [spec_l5Marks.f]
 exact Ev.bind (spec_Digest_ev s (by omega)) (evPos (by omega) (Ev.bind (spec_Digest_ev _ (by rw [star_size]; omega)) (Ev.bind (spec_l5Put_ev _ _ (by simp)) (Ev.now _))))
theorem b5_length (s : ByteArray) : (b5 s).length ≤ 2 := put5_length _ _
theorem b5_mem (s : ByteArray) (x : Int) : x ∈ b5 s ↔ x ∈ mk5 s := by
 unfold b5 mk5
 rw [put5_mem]
 simp only [List.mem_cons, List.not_mem_nil, or_false]
 exact Or.comm

/-- Is an entry right? -/
def entOk (e : S31) : Bool := within e.f0.size 1 40 && (decide ((e.f1.size : Int) ≤ 200) && ((!e.f3 || decide (e.f1.toList = ([] : List UInt8))) && within e.f2 1 1000000))
/-- Is the one ahead of the other? -/
def ahead (a b : S31) : Bool := Op.bytesLess a.f0.toList b.f0.toList || (decide (a.f0.toList = b.f0.toList) && decide (a.f2 > b.f2))
def okL : Option S31 → List S31 → Bool
 | _, [] => true
 | p, e :: es => entOk e && ((match p with | none => true | some q => ahead q e) && okL (some e) es)
def entriesOk (xs : List S31) : Bool := decide (xs.length ≤ 300) && okL none xs
theorem entOk_iff {e : S31} : entOk e = true ↔ (1 ≤ e.f0.size ∧ e.f0.size ≤ 40) ∧ e.f1.size ≤ 200 ∧ (e.f3 = true → e.f1.toList = []) ∧ 1 ≤ e.f2 ∧ e.f2 ≤ 1000000 := by
 unfold entOk within
 simp only [Bool.and_eq_true, Bool.or_eq_true, decide_eq_true_eq, Bool.not_eq_true']
 constructor
 ·rintro ⟨⟨h1, h2⟩, h3, h4, h5, h6⟩
  refine ⟨⟨by omega, by omega⟩, by omega, fun hg => ?_, h5, h6⟩
  rcases h4 with h4 | h4
  ·rw [hg] at h4; cases h4
  ·exact h4
 ·rintro ⟨⟨h1, h2⟩, h3, h4, h5, h6⟩
  refine ⟨⟨by omega, by omega⟩, by omega, ?_, h5, h6⟩
  cases h : e.f3 with
  | false => exact Or.inl rfl
  | true => exact Or.inr (h4 h)
/-- The entry ahead of place i. -/
def prev (xs : List S31) (i : Nat) : Option S31 := if i = 0 then none else xs[i - 1]?
theorem prev_succ {xs : List S31} {i : Nat} {e : S31} (h : xs[i]? = some e) : prev xs (i + 1) = some e := by
 unfold prev
 rw [if_neg (by omega), show i + 1 - 1 = i by omega, h]

theorem foldl_put5_length : ∀ (l acc : List Int), (l.foldl put5 acc).length ≤ acc.length + l.length
 | [], acc => by simp
 | n :: l, acc => by
  have h1 := foldl_put5_length l (put5 acc n)
  have h2 := put5_length acc n
  rw [List.foldl_cons, List.length_cons]
  omega
theorem spec_l5Bits_l1_ev (xs : List S31) (ms : List Int) (hm : ms.length ≤ 10) (i : Nat) (hi : i ≤ 1000000000) (R : List Int) : ∀ (bs : List Int) (j : Nat) (acc : List Int), ms.drop j = bs → acc.length + bs.length ≤ 1000000000 → Ev (fun k => spec_l5Bits.l0 k xs (bs.foldl put5 acc) ((i + 1 : Nat) : Int)) R → Ev (fun k => spec_l5Bits.l1 k xs acc (i : Int) ms (j : Int)) R
 | [], j, acc, hd, ha, h => by
  have := drop_nil hd
  refine Ev.step (f := fun k => spec_l5Bits.l0 k xs acc ((i + 1 : Nat) : Int)) (fun k => ?_) h
  simp only [spec_l5Bits.l1]
  rw [if_neg (by omega), w64s (by omega)]
 | x :: bs, j, acc, hd, ha, h => by
  obtain ⟨h2, h3, h4⟩ := drop_cons hd
  have e1 : rd ms (j : Int) = x := rd_at h4
  rw [List.length_cons] at ha
  have hp := put5_length acc x
  refine Ev.step (f := fun k => (spec_l5Put.f k acc x).bind fun t => spec_l5Bits.l1 k xs t (i : Int) ms ((j + 1 : Nat) : Int)) (fun k => ?_) (Ev.bind (spec_l5Put_ev acc x (by omega)) (spec_l5Bits_l1_ev xs ms hm i hi R bs (j + 1) (put5 acc x) h3 (by omega) h))
  simp only [spec_l5Bits.l1]
  rw [if_pos (by omega), if_pos (by omega), e1, w64s (by omega)]
theorem spec_l5Bits_l0_ev (xs : List S31) (hl : xs.length ≤ 100000) (hs : ∀ e ∈ xs, e.f0.size ≤ 1000000) : ∀ (bs : List S31) (i : Nat) (acc : List Int), xs.drop i = bs → acc.length + 2 * bs.length ≤ 1000000 → Ev (fun k => spec_l5Bits.l0 k xs acc (i : Int)) ((bs.flatMap (fun e => b5 e.f0)).foldl put5 acc)
 | [], i, acc, hd, ha => by
  have := drop_nil hd
  refine Ev.step (f := fun _ => some acc) (fun k => ?_) (Ev.now _)
  simp only [spec_l5Bits.l0]
  rw [if_neg (by omega)]
 | e :: bs, i, acc, hd, ha => by
  obtain ⟨h2, h3, h4⟩ := drop_cons hd
  have e1 : rd_T31 xs (i : Int) = e := getD_at h4
  have hb := b5_length e.f0
  have hf := foldl_put5_length (b5 e.f0) acc
  rw [List.length_cons] at ha
  rw [List.flatMap_cons, List.foldl_append]
  have ih := spec_l5Bits_l0_ev xs hl hs bs (i + 1) ((b5 e.f0).foldl put5 acc) h3 (by omega)
  refine Ev.step (f := fun k => (spec_l5Marks.f k e.f0).bind fun t => spec_l5Bits.l1 k xs acc (i : Int) t ((0 : Nat) : Int)) (fun k => ?_) (Ev.bind (spec_l5Marks_ev e.f0 (Nat.le_trans (hs e (List.mem_of_getElem? h4)) (by decide))) (spec_l5Bits_l1_ev xs (b5 e.f0) (by omega) i (by omega) _ (b5 e.f0) 0 acc rfl (by omega) ih))
  simp only [spec_l5Bits.l0]
  rw [if_pos (by omega), if_pos (by omega), e1]
  rfl
/-- A table's marks: all its keys' marks, each once, in order. -/
def bitsOf (xs : List S31) : List Int := once (xs.flatMap (fun e => mk5 e.f0))
theorem bitsOf_b5 (xs : List S31) : once (xs.flatMap (fun e => b5 e.f0)) = bitsOf xs := by
 unfold bitsOf
 refine inc_uniq _ _ (once_inc _) (once_inc _) (fun x => ?_)
 rw [once_mem, once_mem, List.mem_flatMap, List.mem_flatMap]
 constructor
 ·rintro ⟨e, he, hx⟩; exact ⟨e, he, (b5_mem _ _).1 hx⟩
 ·rintro ⟨e, he, hx⟩; exact ⟨e, he, (b5_mem _ _).2 hx⟩
theorem spec_l5Bits_ev (xs : List S31) (hl : xs.length ≤ 100000) (hs : ∀ e ∈ xs, e.f0.size ≤ 1000000) : Ev (fun k => spec_l5Bits.f k xs) (bitsOf xs) := by
 simp only [spec_l5Bits.f]
 exact evEq (spec_l5Bits_l0_ev xs hl hs xs 0 [] rfl (by simp; omega)) (bitsOf_b5 xs)
theorem spec_l1Number_l0_ev (n : Nat) : ∀ (acc : List Int), acc.length + n ≤ 100000000000000 → Ev (fun k => spec_l1Number.l0 k (n : Int) acc) (acc ++ numN n) := by
 induction n using Nat.strongRecOn with
 | ind n ih =>
  intro acc hl
  by_cases h : n < 128
  ·refine Ev.step (f := fun _ => some _) (fun k => ?_) (Ev.now _)
   simp only [spec_l1Number.l0]
   rw [if_neg (by omega), if_pos (by omega), numN_small h, Int.emod_eq_of_lt (by omega) (by omega)]
  ·have := ih (n / 128) (by omega) (acc ++ [((n % 128 + 128 : Nat) : Int)]) (by simp; omega)
   rw [List.append_assoc, List.singleton_append, ← numN_big h] at this
   refine Ev.step (f := fun k => spec_l1Number.l0 k ((n / 128 : Nat) : Int) (acc ++ [((n % 128 + 128 : Nat) : Int)])) (fun k => ?_) this
   simp only [spec_l1Number.l0]
   rw [if_pos (by omega), if_pos (by omega), Int.tdiv_eq_ediv_of_nonneg (by omega), Int.tmod_eq_emod_of_nonneg (by omega), w64 (by omega) (by omega), w64 (by omega) (by omega)]
   congr 1
   rw [Int.emod_eq_of_lt (by omega) (by omega)]
   congr 1
theorem spec_l1Number_ev (n : Nat) (h : n ≤ 100000000000000) : Ev (fun k => spec_l1Number.f k (n : Int)) (numN n) := by
 have := spec_l1Number_l0_ev n [] (by simpa using h)
 exact this

theorem impl_within_ev (a b c : Int) : Ev (fun _ => impl_within.f a b c) (within a b c) := by
 refine evId (fun _ => ?_)
 unfold impl_within.f within
 by_cases h : a ≥ b
 ·rw [if_pos h, decide_eq_true (show b ≤ a from h), Bool.true_and]
 ·rw [if_neg h, decide_eq_false (show ¬ b ≤ a from h), Bool.false_and]

theorem impl_Number_l0_ev (n : Nat) : ∀ (acc : List Int), acc.length + n ≤ 100000000000000 → Ev (fun k => impl_Number.l0 k (n : Int) acc) (acc ++ numN n) := by
 induction n using Nat.strongRecOn with
 | ind n ih =>
  intro acc hl
  by_cases h : n < 128
  ·refine Ev.step (f := fun _ => some _) (fun k => ?_) (Ev.now _)
   simp only [impl_Number.l0]
   rw [if_neg (by omega), if_pos (by omega), numN_small h, Int.emod_eq_of_lt (by omega) (by omega)]
  ·have := ih (n / 128) (by omega) (acc ++ [((n % 128 + 128 : Nat) : Int)]) (by simp; omega)
   rw [List.append_assoc, List.singleton_append, ← numN_big h] at this
   refine Ev.step (f := fun k => impl_Number.l0 k ((n / 128 : Nat) : Int) (acc ++ [((n % 128 + 128 : Nat) : Int)])) (fun k => ?_) this
   simp only [impl_Number.l0]
   rw [if_pos (by omega), if_pos (by omega), or128 (by omega) (by omega)]
   congr 3
   omega
theorem impl_Number_ev (n : Int) : Ev (fun k => impl_Number.f k n) (number n) := by
 simp only [impl_Number.f]
 refine Ev.bind (impl_within_ev n 0 1099511627776) ?_
 unfold number
 by_cases h : within n 0 1099511627776 = true
 ·rw [if_pos h]
  refine evPos h ?_
  simp only [within, Bool.and_eq_true, decide_eq_true_eq] at h
  have e := impl_Number_l0_ev n.toNat [] (by simp; omega)
  rw [show ((n.toNat : Nat) : Int) = n by omega] at e
  exact e
 ·rw [if_neg h]
  exact evNeg h (Ev.now _)
theorem impl_Number_nat (n : Nat) (h : n ≤ 1099511627776) : Ev (fun k => impl_Number.f k (n : Int)) (numN n) := by
 have e := impl_Number_ev (n : Int)
 unfold number at e
 rw [if_pos (by simp [within]; omega)] at e
 exact e

theorem spec_l1Text_ev (s : ByteArray) (h : s.size ≤ 1099511627776) : Ev (fun k => spec_l1Text.f k s) (textN s) := by
 simp only [spec_l1Text.f]
 have hl := numN_le10 (n := s.size) (by omega)
 exact Ev.bind (spec_l1Number_ev s.size (by omega)) (evPos (by omega) (Ev.now _))
theorem impl_Text_ev (s : ByteArray) : Ev (fun k => impl_Text.f k s) (text s) := by
 simp only [impl_Text.f]
 unfold text
 by_cases h : (s.size : Int) > 3000
 ·rw [if_pos h]; exact evPos h (Ev.now _)
 ·rw [if_neg h]
  have hl := numN_le10 (n := s.size) (by omega)
  exact evNeg h (Ev.bind (impl_Number_nat s.size (by omega)) (evPos (by omega) (Ev.now _)))

theorem spec_Common_l0_ev (s t : ByteArray) (hs : s.size ≤ 140737488351232) : ∀ (av bs : List Int) (i : Nat), (bytesOf s).drop i = av → (bytesOf t).drop i = bs → Ev (fun k => spec_Common.l0 k s t i) (((i + common av bs : Nat) : Int))
 | [], bs, i, ha, hb => by
  have := bdrop_nil ha
  refine Ev.step (f := fun _ => some (i : Int)) (fun k => ?_) (by simpa [common] using Ev.now (i : Int))
  simp only [spec_Common.l0]
  rw [if_neg (by omega)]
 | a :: av, [], i, ha, hb => by
  obtain ⟨h2, h3, h4, h5, h6⟩ := bdrop_cons ha
  have := bdrop_nil hb
  refine Ev.step (f := fun _ => some (i : Int)) (fun k => ?_) (by simpa [common] using Ev.now (i : Int))
  simp only [spec_Common.l0]
  rw [if_pos (by omega), if_neg (by omega)]
 | a :: av, b :: bs, i, ha, hb => by
  obtain ⟨h2, h3, h4, h5, h6⟩ := bdrop_cons ha
  obtain ⟨g2, g3, g4, g5, g6⟩ := bdrop_cons hb
  by_cases e : a = b
  ·have ih := spec_Common_l0_ev s t hs av bs (i + 1) h3 g3
   rw [show i + common (a :: av) (b :: bs) = i + 1 + common av bs by simp only [common, if_pos e]; omega]
   refine Ev.step (f := fun k => spec_Common.l0 k s t ((i + 1 : Nat) : Int)) (fun k => ?_) ih
   simp only [spec_Common.l0]
   rw [if_pos (by omega), if_pos (by omega), if_pos (by omega), h4, g4, if_pos e, w64s (by omega)]
  ·rw [show i + common (a :: av) (b :: bs) = i by simp only [common, if_neg e]; omega]
   refine Ev.step (f := fun _ => some (i : Int)) (fun k => ?_) (Ev.now _)
   simp only [spec_Common.l0]
   rw [if_pos (by omega), if_pos (by omega), if_pos (by omega), h4, g4, if_neg e]
theorem spec_Common_ev (s t : ByteArray) (hs : s.size ≤ 140737488351232) : Ev (fun k => spec_Common.f k s t) (common (bytesOf s) (bytesOf t) : Int) := by
 have := spec_Common_l0_ev s t hs (bytesOf s) (bytesOf t) 0 rfl rfl
 rw [Nat.zero_add] at this
 exact this
theorem impl_Common_same : ∀ k s t i, impl_Common.l0 k s t i = spec_Common.l0 k s t i
 | 0, _, _, _ => rfl
 | k + 1, s, t, i => by simp only [impl_Common.l0, spec_Common.l0, impl_Common_same k]
theorem impl_Common_ev (s t : ByteArray) (hs : s.size ≤ 140737488351232) : Ev (fun k => impl_Common.f k s t) (common (bytesOf s) (bytesOf t) : Int) :=
 Ev.congr (fun k => impl_Common_same k s t 0) (spec_Common_ev s t hs)

def flagI (b : Bool) : Int := if b = true then 1 else 0
/-- The mark of an entry: its number twice, and whether it is gone. -/
def markE (e : S31) : Nat := (2 * e.f2 + flagI e.f3).toNat
/-- One entry, the key ahead being 'last'. -/
def packE (last : ByteArray) (e : S31) : List Int :=
 numN (common (bytesOf last) (bytesOf e.f0)) ++ (textN (e.f0.extract (common (bytesOf last) (bytesOf e.f0)) e.f0.size) ++ (numN (markE e) ++ textN e.f1))
def packL (last : ByteArray) : Nat → List S31 → List Int
 | _, [] => []
 | i, e :: es => packE (if i % 8 = 0 then (⟨#[]⟩ : ByteArray) else last) e ++ packL e.f0 (i + 1) es
def packed (xs : List S31) : List Int := numN xs.length ++ packL (⟨#[]⟩ : ByteArray) 0 xs
theorem common_le : ∀ (as_ bs : List Int), common as_ bs ≤ as_.length ∧ common as_ bs ≤ bs.length
 | [], bs => by cases bs <;> simp [common]
 | a :: as_, [] => by simp [common]
 | a :: as_, b :: bs => by
  unfold common
  split
  ·have := common_le as_ bs
   simp only [List.length_cons]
   omega
  ·simp
theorem extract_size (s : ByteArray) (n : Nat) : (s.extract n s.size).size ≤ s.size := by
 simp [ByteArray.size_extract]
theorem packE_le (last : ByteArray) (e : S31) (h : entOk e = true) : (packE last e).length ≤ 300 := by
 obtain ⟨⟨h1, h2⟩, h3, h4, h5, h6⟩ := entOk_iff.1 h
 have c1 := (common_le (bytesOf last) (bytesOf e.f0)).2
 rw [bytesOf_length] at c1
 have n1 := numN_le10 (n := common (bytesOf last) (bytesOf e.f0)) (by omega)
 have x1 := extract_size e.f0 (common (bytesOf last) (bytesOf e.f0))
 have n2 := numN_le10 (n := (e.f0.extract (common (bytesOf last) (bytesOf e.f0)) e.f0.size).size) (by omega)
 have n3 := numN_le10 (n := markE e) (by unfold markE flagI; split <;> omega)
 have n4 := numN_le10 (n := e.f1.size) (by omega)
 unfold packE
 simp only [List.length_append, textN_length]
 omega
theorem packL_le : ∀ (xs : List S31) (last : ByteArray) (i : Nat), (∀ e ∈ xs, entOk e = true) → (packL last i xs).length ≤ 300 * xs.length
 | [], _, _, _ => by simp [packL]
 | e :: es, last, i, h => by
  unfold packL
  have h1 := packE_le (if i % 8 = 0 then (⟨#[]⟩ : ByteArray) else last) e (h e List.mem_cons_self)
  have h2 := packL_le es e.f0 (i + 1) (fun x hx => h x (List.mem_cons_of_mem _ hx))
  rw [List.length_append, List.length_cons]
  omega
theorem okL_all : ∀ (xs : List S31) (p : Option S31), okL p xs = true → ∀ e ∈ xs, entOk e = true
 | [], _, _, e, he => by simp at he
 | x :: xs, p, h, e, he => by
  unfold okL at h
  simp only [Bool.and_eq_true] at h
  rcases List.mem_cons.1 he with rfl | he
  ·exact h.1
  ·exact okL_all xs _ h.2.2 e he
theorem entriesOk_all {xs : List S31} (h : entriesOk xs = true) : ∀ e ∈ xs, entOk e = true := by
 unfold entriesOk at h
 simp only [Bool.and_eq_true] at h
 exact okL_all xs none h.2
theorem entriesOk_le {xs : List S31} (h : entriesOk xs = true) : xs.length ≤ 300 := by
 unfold entriesOk at h
 simp only [Bool.and_eq_true, decide_eq_true_eq] at h
 exact h.1
theorem common_empty (bs : List Int) : common [] bs = 0 := by cases bs <;> rfl

def ordI (x y : Int) : Int := if x < y then -1 else if x > y then 1 else 0
def ordS (x y : ByteArray) : Int := if Op.bytesLess x.toList y.toList = true then -1 else if Op.bytesLess y.toList x.toList = true then 1 else 0
def byOrder (a b : S31) : Int := if ordS a.f0 b.f0 = 0 then ordI b.f2 a.f2 else ordS a.f0 b.f0
theorem cmp_Compare_string_ev (x y : ByteArray) : Ev (fun _ => cmp_Compare_string.f x y) (ordS x y) := by
 refine evId (fun _ => ?_)
 unfold cmp_Compare_string.f cmp_isNaN_string.f ordS
 simp only [bne_self_eq_false, Option.bind_some, Bool.false_eq_true, if_false]
 split
 ·rfl
 ·split <;> rfl
theorem cmp_Compare_int64_ev (x y : Int) : Ev (fun _ => cmp_Compare_int64.f x y) (ordI x y) := by
 refine evId (fun _ => ?_)
 unfold cmp_Compare_int64.f cmp_isNaN_int64.f ordI
 simp only [bne_self_eq_false, Option.bind_some, Bool.false_eq_true, if_false]
 split
 ·rfl
 ·split <;> rfl
theorem cmp_Or_two (x y : Int) : Ev (fun k => cmp_Or_int.f k [x, y]) (if x = 0 then y else x) := by
 simp only [cmp_Or_int.f]
 refine ⟨3, fun k hk => ?_⟩
 obtain ⟨m, rfl⟩ : ∃ m, k = m + 3 := ⟨k - 3, by omega⟩
 have w1 : wrap64 (0 + 1) = 1 := w64 (x := 0 + 1) (by decide) (by decide)
 have w2 : wrap64 (1 + 1) = 2 := w64 (x := 1 + 1) (by decide) (by decide)
 have e0 : rd [x, y] 0 = x := rfl
 have e1 : rd [x, y] 1 = y := rfl
 simp only [cmp_Or_int.l0, w1, w2, e0, e1]
 by_cases hx : x = 0
 ·by_cases hy : y = 0
  ·simp [hx, hy]
  ·simp [hx, hy]
 ·simp [hx]
theorem impl_byOrder_ev (a b : S31) : Ev (fun k => impl_byOrder.f k a.f0 a.f1 a.f2 a.f3 b.f0 b.f1 b.f2 b.f3) (byOrder a b) := by
 simp only [impl_byOrder.f]
 exact Ev.bind (cmp_Compare_string_ev a.f0 b.f0) (Ev.bind (cmp_Compare_int64_ev b.f2 a.f2) (Ev.bind (cmp_Or_two _ _) (Ev.now _)))
theorem byOrder_ahead (a b : S31) : decide (byOrder a b ≥ 0) = !ahead a b := by
 unfold byOrder ahead ordS ordI
 cases h1 : Op.bytesLess a.f0.toList b.f0.toList with
 | true => simp
 | false =>
  cases h2 : Op.bytesLess b.f0.toList a.f0.toList with
  | true =>
   have : a.f0.toList ≠ b.f0.toList := by
    intro h
    rw [h, less_irrefl] at h2
    cases h2
   simp [this]
  | false =>
   have := less_tri _ _ h1 h2
   simp only [Bool.false_eq_true, if_false, if_true, this, decide_true, Bool.true_and, Bool.false_or]
   by_cases h3 : b.f2 < a.f2
   ·rw [if_pos h3, decide_eq_true (show a.f2 > b.f2 from h3)]; decide
   ·rw [if_neg h3, decide_eq_false (show ¬ a.f2 > b.f2 from h3)]
    split <;> decide

theorem impl_within_eq (a b c : Int) : impl_within.f a b c = some (within a b c) := by
 obtain ⟨k, h⟩ := (impl_within_ev a b c).rounds
 exact h
theorem impl_entryOk_ev (e : S31) : Ev (fun _ => impl_entryOk.f e.f0 e.f1 e.f2 e.f3) (entOk e) := by
 obtain ⟨a, b, c, g⟩ := e
 refine evId (fun _ => ?_)
 unfold impl_entryOk.f entOk
 simp only [impl_within_eq, Option.bind_some]
 cases h1 : within (a.size : Int) 1 40 with
 | false => simp
 | true =>
  rw [if_pos rfl]
  by_cases h3 : (b.size : Int) ≤ 200
  ·rw [if_pos h3, decide_eq_true h3]
   cases g with
   | false => simp
   | true =>
    rw [if_pos rfl]
    by_cases h4 : b.toList = ([] : List UInt8)
    ·rw [if_pos h4]; simp [h4]
    ·rw [if_neg h4]; simp [h4]
  ·rw [if_neg h3, decide_eq_false h3]; simp
theorem impl_EntriesOk_l0_ev (xs : List S31) (hl : xs.length ≤ 1000000000000000000) : ∀ (bs : List S31) (i : Nat), xs.drop i = bs → Ev (fun k => impl_EntriesOk.l0 k xs xs (xs.length : Int) i) (okL (prev xs i) bs)
 | [], i, hd => by
  have := drop_nil hd
  refine Ev.step (f := fun _ => some true) (fun k => ?_) (Ev.now _)
  simp only [impl_EntriesOk.l0]
  rw [if_neg (by omega)]
 | e :: bs, i, hd => by
  obtain ⟨h2, h3, h4⟩ := drop_cons hd
  have e1 : rd_T31 xs (i : Int) = e := getD_at h4
  have ih := impl_EntriesOk_l0_ev xs hl bs (i + 1) h3
  rw [prev_succ h4] at ih
  refine Ev.step (f := fun k => (impl_entryOk.f e.f0 e.f1 e.f2 e.f3).bind fun t127 => (if t127 = true then (if (i : Int) > 0 then ((impl_byOrder.f k (rd_T31 xs (wrap64 ((i : Int) - 1))).f0 (rd_T31 xs (wrap64 ((i : Int) - 1))).f1 (rd_T31 xs (wrap64 ((i : Int) - 1))).f2 (rd_T31 xs (wrap64 ((i : Int) - 1))).f3 e.f0 e.f1 e.f2 e.f3).bind fun t130 => (if t130 ≥ 0 then (some false) else (impl_EntriesOk.l0 k xs xs (xs.length : Int) ((i + 1 : Nat) : Int)))) else (impl_EntriesOk.l0 k xs xs (xs.length : Int) ((i + 1 : Nat) : Int))) else (some false))) (fun k => ?_) (Ev.bind (impl_entryOk_ev e) ?_)
  ·simp only [impl_EntriesOk.l0]
   rw [if_pos (by omega), if_pos (by omega), if_pos (by omega), e1, w64s (by omega)]
   by_cases hi : (i : Int) > 0
   ·simp only [if_pos hi, if_pos (show (0 : Int) ≤ wrap64 ((i : Int) - 1) by rw [w64 (by omega) (by omega)]; omega), if_pos (show wrap64 ((i : Int) - 1) < (xs.length : Int) by rw [w64 (by omega) (by omega)]; omega)]
   ·simp only [if_neg hi]
  ·unfold okL
   cases he : entOk e with
   | false => exact evNeg (by simp) (Ev.now _)
   | true =>
    refine evPos rfl ?_
    rw [Bool.true_and]
    by_cases hi : i = 0
    ·subst hi
     refine evNeg (by omega) (evEq ih ?_)
     simp [prev]
    ·obtain ⟨q, hq⟩ : ∃ q, xs[i - 1]? = some q := ⟨_, List.getElem?_eq_getElem (by omega)⟩
     have e2 : rd_T31 xs (wrap64 ((i : Int) - 1)) = q := by
      rw [w64 (by omega) (by omega), show (i : Int) - 1 = ((i - 1 : Nat) : Int) by omega]
      exact getD_at hq
     refine evPos (by omega) ?_
     rw [e2]
     refine Ev.bind (impl_byOrder_ev q e) ?_
     simp only [prev, if_neg hi, hq]
     have hb := byOrder_ahead q e
     cases ha : ahead q e with
     | false =>
      rw [ha] at hb
      exact evPos (of_decide_eq_true hb) (Ev.now _)
     | true =>
      rw [ha] at hb
      exact evNeg (of_decide_eq_false hb) (evEq ih (by rw [Bool.true_and]))
theorem impl_EntriesOk_ev (xs : List S31) : Ev (fun k => impl_EntriesOk.f k xs) (entriesOk xs) := by
 simp only [impl_EntriesOk.f]
 unfold entriesOk
 by_cases h : (xs.length : Int) > 300
 ·rw [decide_eq_false (by omega)]; exact evPos h (Ev.now _)
 ·rw [decide_eq_true (by omega), Bool.true_and]
  exact evNeg h (impl_EntriesOk_l0_ev xs (by omega) xs 0 rfl)

theorem impl_packed_l0_ev (xs : List S31) (hl : xs.length ≤ 300) (hok : ∀ e ∈ xs, entOk e = true) : ∀ (bs : List S31) (i : Nat) (acc : List Int) (last : ByteArray), xs.drop i = bs → (∀ p, prev xs i = some p → last = p.f0) → acc.length + 300 * bs.length ≤ 1000000000 → Ev (fun k => impl_packed.l0 k xs acc xs (xs.length : Int) i) (acc ++ packL last i bs)
 | [], i, acc, last, hd, hla, ha => by
  have := drop_nil hd
  refine Ev.step (f := fun _ => some acc) (fun k => ?_) (evEq (Ev.now _) (by simp [packL]))
  simp only [impl_packed.l0]
  rw [if_neg (by omega)]
 | e :: bs, i, acc, last, hd, hla, ha => by
  obtain ⟨h2, h3, h4⟩ := drop_cons hd
  have e1 : rd_T31 xs (i : Int) = e := getD_at h4
  have he := hok e (List.mem_of_getElem? h4)
  obtain ⟨⟨g1, g2⟩, g3, g4, g5, g6⟩ := entOk_iff.1 he
  rw [List.length_cons] at ha
  have key : ∀ (l : ByteArray) (c : Nat), common (bytesOf l) (bytesOf e.f0) = c → Ev (fun k => impl_packed.j1 k xs acc (c : Int) xs (xs.length : Int) i e.f0 e.f1 e.f2 e.f3) (acc ++ (packE l e ++ packL e.f0 (i + 1) bs)) := by
   intro l c hc
   have hp := packE_le l e he
   unfold packE at hp ⊢
   have c1 := (common_le (bytesOf l) (bytesOf e.f0)).2
   rw [bytesOf_length] at c1
   rw [hc] at hp c1 ⊢
   have x1 := extract_size e.f0 c
   have hm2 : markE e ≤ 100000000000 := by unfold markE flagI; split <;> omega
   simp only [List.length_append] at hp
   have ht1 : text (e.f0.extract c e.f0.size) = textN (e.f0.extract c e.f0.size) := if_neg (by omega)
   have ht2 : text e.f1 = textN e.f1 := if_neg (by omega)
   have j2 : Ev (fun k => impl_packed.j2 k xs acc (c : Int) ((markE e : Nat) : Int) xs (xs.length : Int) i e.f0 e.f1 e.f2 e.f3) (acc ++ ((numN c ++ (textN (e.f0.extract c e.f0.size) ++ (numN (markE e) ++ textN e.f1))) ++ packL e.f0 (i + 1) bs)) := by
    refine Ev.step (fun k => by simp only [impl_packed.j2]; exact rfl) ?_
    refine Ev.bind (impl_Number_nat c (by omega)) (evPos (by omega) ?_)
    simp only [Option.bind_some, Int.toNat_natCast]
    refine evPos (by omega) (evPos (by omega) (Ev.bind (evEq (impl_Text_ev _) ht1) (evPos (by rw [List.length_append]; omega) ?_)))
    refine Ev.bind (impl_Number_nat (markE e) (by omega)) (evPos (by simp only [List.length_append]; omega) (Ev.bind (evEq (impl_Text_ev e.f1) ht2) (evPos (by simp only [List.length_append]; omega) ?_)))
    have ih := impl_packed_l0_ev xs hl hok bs (i + 1) (acc ++ (numN c ++ (textN (e.f0.extract c e.f0.size) ++ (numN (markE e) ++ textN e.f1)))) e.f0 h3 (fun p hp => by rw [prev_succ h4] at hp; injection hp with hp; rw [hp]) (by simp only [List.length_append]; omega)
    rw [w64s (by omega)]
    simpa [List.append_assoc] using ih
   cases hg : e.f3 with
   | true =>
    refine Ev.step (fun k => ?_) j2
    simp only [impl_packed.j1]
    rw [if_pos trivial, hg]
    congr 1
    unfold markE flagI
    rw [hg, if_pos rfl, w64 (x := 2 * e.f2) (by omega) (by omega), w64 (by omega) (by omega)]
    omega
   | false =>
    refine Ev.step (fun k => ?_) j2
    simp only [impl_packed.j1]
    rw [if_neg (by decide), hg]
    congr 1
    unfold markE flagI
    rw [hg, if_neg (by decide), w64 (x := 2 * e.f2) (by omega) (by omega)]
    omega
  unfold packL
  by_cases h8 : i % 8 = 0
  ·rw [if_pos h8]
   refine Ev.step (fun k => ?_) (key (⟨#[]⟩ : ByteArray) 0 (common_empty _))
   simp only [impl_packed.l0]
   rw [if_pos (by omega), if_pos (by omega), if_pos (by omega), e1, if_neg (by rw [Int.tmod_eq_emod_of_nonneg (by omega)]; omega)]
   rfl
  ·rw [if_neg h8]
   obtain ⟨q, hq⟩ : ∃ q, xs[i - 1]? = some q := ⟨_, List.getElem?_eq_getElem (by omega)⟩
   have hla' : last = q.f0 := hla q (by unfold prev; rw [if_neg (by omega), hq])
   have e2 : rd_T31 xs (wrap64 ((i : Int) - 1)) = q := by
    rw [w64 (by omega) (by omega), show (i : Int) - 1 = ((i - 1 : Nat) : Int) by omega]
    exact getD_at hq
   have hq40 := (entOk_iff.1 (hok q (List.mem_of_getElem? hq))).1
   refine Ev.step (f := fun k => (impl_Common.f k q.f0 e.f0).bind fun t => impl_packed.j1 k xs acc t xs (xs.length : Int) i e.f0 e.f1 e.f2 e.f3) (fun k => ?_) (Ev.bind (impl_Common_ev q.f0 e.f0 (by omega)) (key last _ (by rw [hla'])))
   simp only [impl_packed.l0]
   rw [if_pos (by omega), if_pos (by omega), if_pos (by omega), e1, if_pos (by rw [Int.tmod_eq_emod_of_nonneg (by omega)]; omega), if_pos (by rw [w64 (by omega) (by omega)]; omega), if_pos (by rw [w64 (by omega) (by omega)]; omega), e2]
theorem impl_packed_ev (xs : List S31) (hl : xs.length ≤ 300) (hok : ∀ e ∈ xs, entOk e = true) : Ev (fun k => impl_packed.f k xs) (packed xs) := by
 simp only [impl_packed.f]
 have h2 := numN_le10 (n := xs.length) (by omega)
 exact Ev.bind (impl_Number_nat xs.length (by omega)) (impl_packed_l0_ev xs hl hok xs 0 _ _ rfl (fun p hp => by simp [prev] at hp) (by omega))

theorem chunkAt_mem {xs : List S31} {x : Nat} {e : S31} (h : e ∈ chunkAt xs x) : e ∈ xs := List.mem_of_mem_drop (List.mem_of_mem_take h)
theorem chunkAt_le (xs : List S31) (x : Nat) : (chunkAt xs x).length ≤ 8 := by
 unfold chunkAt ckLen
 rw [List.length_take]
 omega
theorem bl_ev (xs : List S31) (P : Nat → List Int) : ∀ (ns : List Nat), (∀ x ∈ ns, Ev (fun k => impl_packed.f k (chunkAt xs x)) (P x)) → Ev (fun k => impl_built.bl k xs ns) (ns.map (fun x => strOfNums (P x)))
 | [], _ => Ev.now _
 | n :: ns, h => by
  simp only [impl_built.bl]
  exact Ev.bind (h n List.mem_cons_self) (Ev.bind (bl_ev xs P ns (fun x hx => h x (List.mem_cons_of_mem _ hx))) (Ev.now _))
/-- A table's blocks. -/
def blocksOf (xs : List S31) : List ByteArray := (List.range (cks xs.length)).map (fun x => strOfNums (packed (chunkAt xs x)))
theorem impl_built_l0_ev (xs : List S31) (hl : xs.length ≤ 300) (hok : ∀ e ∈ xs, entOk e = true) (F0 F1 : ByteArray) (R : ByteArray × ByteArray × List Int × List ByteArray) : ∀ (bs : List S31) (i : Nat) (acc : List Int), xs.drop i = bs → acc.length + 2 * bs.length ≤ 1000000 →
  Ev (fun k => (slices_Sort_int64.f (acc ++ bs.flatMap (fun e => mk5 e.f0))).bind fun t => (slices_Compact_int64.f t).bind fun u => if xs.length < 1000000000000 then ((impl_built.bl k xs (List.range (cks xs.length + 1))).bind fun _ => (impl_built.bl k xs (List.range (cks xs.length))).bind fun b => some (F0, F1, u, b)) else none) R →
  Ev (fun k => impl_built.l0 k xs xs (xs.length : Int) (i : Int) F0 F1 acc) R
 | [], i, acc, hd, ha, h => by
  have := drop_nil hd
  rw [List.flatMap_nil, List.append_nil] at h
  refine Ev.step (fun k => by simp only [impl_built.l0]; exact rfl) (evNeg (by omega) h)
 | e :: bs, i, acc, hd, ha, h => by
  obtain ⟨h2, h3, h4⟩ := drop_cons hd
  have e1 : rd_T31 xs (i : Int) = e := getD_at h4
  have hk := (entOk_iff.1 (hok e (List.mem_of_getElem? h4))).1
  rw [List.length_cons] at ha
  have hm : (mk5 e.f0).length = 2 := rfl
  rw [List.flatMap_cons, ← List.append_assoc] at h
  have ih := impl_built_l0_ev xs hl hok F0 F1 R bs (i + 1) (acc ++ mk5 e.f0) h3 (by rw [List.length_append]; omega) h
  refine Ev.step (f := fun k => (impl_marks.f k e.f0).bind fun t => if acc.length + t.length < 17592186044416 then impl_built.l0 k xs xs (xs.length : Int) ((i + 1 : Nat) : Int) F0 F1 (acc ++ t) else none) (fun k => ?_) (Ev.bind (impl_marks_ev e.f0 (by omega)) (evPos (by omega) ih))
  simp only [impl_built.l0]
  rw [if_pos (by omega), if_pos (by omega), if_pos (by omega), e1, w64s (by omega)]
theorem impl_built_ev (xs : List S31) (hl : xs.length ≤ 300) (hok : ∀ e ∈ xs, entOk e = true) (h0 : xs ≠ []) : Ev (fun k => impl_built.f k xs) ((rd_T31 xs 0).f0, (rd_T31 xs (wrap64 ((xs.length : Int) - 1))).f0, bitsOf xs, blocksOf xs) := by
 have hp : 0 < xs.length := List.length_pos_iff.2 h0
 have hw : wrap64 ((xs.length : Int) - 1) = (xs.length : Int) - 1 := w64 (by omega) (by omega)
 simp only [impl_built.f]
 refine evPos (by omega) (evPos (by omega) (evPos (by omega) (impl_built_l0_ev xs hl hok _ _ _ xs 0 [] rfl (by simp; omega) ?_)))
 obtain ⟨z, hz⟩ : ∃ z, ([] : List Int) ++ xs.flatMap (fun e => mk5 e.f0) = z := ⟨_, rfl⟩
 have hz2 : z = xs.flatMap (fun e => mk5 e.f0) := by rw [← hz, List.nil_append]
 rw [hz]
 have hzl : 0 < z.length ∧ z.length < 1000000000000000000 := by
  have h2 : ∀ ys : List S31, (ys.flatMap (fun e => mk5 e.f0)).length = 2 * ys.length := by
   intro ys
   induction ys with
   | nil => rfl
   | cons y ys ih =>
    rw [List.flatMap_cons, List.length_append, ih, List.length_cons]
    have : (mk5 y.f0).length = 2 := rfl
    omega
  rw [hz2, h2]
  omega
 have hsl : (z.mergeSort fun x y => decide (x ≤ y)).length = z.length := List.length_mergeSort _
 have s1 : Ev (fun _ : Nat => slices_Sort_int64.f z) (z.mergeSort fun x y => decide (x ≤ y)) := evId (fun _ => by unfold slices_Sort_int64.f; rw [if_pos hzl])
 have s2 : Ev (fun _ : Nat => slices_Compact_int64.f (z.mergeSort fun x y => decide (x ≤ y))) (bitsOf xs) := evId (fun _ => by unfold slices_Compact_int64.f; rw [if_pos (by rw [hsl]; exact hzl), compact_sorted_once, hz2]; rfl)
 have pk : ∀ x, Ev (fun k => impl_packed.f k (chunkAt xs x)) (packed (chunkAt xs x)) := fun x => impl_packed_ev _ (by have := chunkAt_le xs x; omega) (fun e he => hok e (chunkAt_mem he))
 exact Ev.bind s1 (Ev.bind s2 (evPos (by omega) (Ev.bind (bl_ev xs _ _ (fun x _ => pk x)) (Ev.bind (bl_ev xs _ _ (fun x _ => pk x)) (Ev.now _)))))

theorem spec_ReadNumber_l0_ev (xs : List Int) (hx : ∀ x ∈ xs, 0 ≤ x ∧ x < 256) : ∀ (bs : List Int) (i : Nat) (p n : Int), xs.drop i = bs → PW i p → i ≤ 6 → 0 ≤ n → n < p → Ev (fun k => spec_ReadNumber.l0 k xs n p i) (rnum i p n bs)
 | [], i, p, n, hd, hP, hi, h0, h1 => by
  have := drop_nil hd
  refine Ev.step (f := fun k => spec_ReadNumber.j1 k xs n p i false) (fun k => ?_) (Ev.step (f := fun _ => some (0, 0)) (fun k => ?_) (Ev.now _))
  ·simp only [spec_ReadNumber.l0]
   rw [if_neg (by omega)]
  ·simp only [spec_ReadNumber.j1]
   rw [if_neg (by decide)]
 | b :: bs, i, p, n, hd, hP, hi, h0, h1 => by
  obtain ⟨h2, h3, h4⟩ := drop_cons hd
  obtain ⟨b0, b1⟩ := hx b (List.mem_of_getElem? h4)
  by_cases h6 : i < 6
  ·have hp := hP.pos
   have hq := hP.le (by omega)
   have hm := digit_mul b p hp
   have e2 : wrap64 (rd xs i) = b := by rw [rd_at h4, w64 (by omega) (by omega)]
   have e3 : Int.tmod b 128 = b % 128 := Int.tmod_eq_emod_of_nonneg (by omega)
   have ih := spec_ReadNumber_l0_ev xs hx bs (i + 1) (p * 128) (n + b % 128 * p) h3 hP.step (by omega)
   have hi1 : wrap64 ((i : Int) + 1) = (i : Int) + 1 := w64 (by omega) (by omega)
   have hip : (0 : Int) ≤ i := by omega
   have hil : (i : Int) < xs.length := by omega
   simp only [rnum, if_pos h6]
   have e4 : wrap64 (b % 128 * p) = b % 128 * p := by
    generalize b % 128 * p = q at hm; exact w64 (by omega) (by omega)
   have e1 : wrap64 (n + b % 128 * p) = n + b % 128 * p := by
    generalize b % 128 * p = q at hm; exact w64 (by omega) (by omega)
   have e5 : wrap64 (p * 128) = p * 128 := w64 (by omega) (by omega)
   have ih' : Ev (fun k => spec_ReadNumber.l0 k xs (n + b % 128 * p) (p * 128) ((i + 1 : Nat) : Int)) (rnum (i + 1) (p * 128) (n + b % 128 * p) bs) := by
    generalize b % 128 * p = q at hm ih ⊢; exact ih (by omega) (by omega)
   clear ih
   refine Ev.step (f := fun k => spec_ReadNumber.j1 k xs n p i true) (fun k => ?_) ?_
   ·simp only [spec_ReadNumber.l0]
    rw [if_pos hil, decide_eq_true (by omega : (i : Int) < 6)]
   ·by_cases hb : b < 128
    ·rw [if_pos hb]
     refine Ev.step (f := fun _ => some _) (fun k => ?_) (Ev.now _)
     simp only [spec_ReadNumber.j1]
     rw [if_pos trivial, if_pos hip, if_pos hil, e2, e3, e4, e1, if_pos hb, hi1]
     generalize n + b % 128 * p = q
     by_cases hn : q > 1099511627776
     ·rw [if_pos hn, if_pos (Or.inl hn)]
     ·rw [if_neg hn]
      by_cases hi0 : 0 < i
      ·rw [if_pos (by omega)]
       by_cases hb0 : b = 0
       ·rw [if_pos hb0, if_pos (Or.inr ⟨hi0, hb0⟩)]
       ·rw [if_neg hb0, if_neg (fun h => h.elim hn (fun h => hb0 h.2))]
      ·rw [if_neg (by omega), if_neg (fun h => h.elim hn (fun h => hi0 h.1))]
    ·rw [if_neg hb]
     refine Ev.step (f := fun k => spec_ReadNumber.l0 k xs (n + b % 128 * p) (p * 128) ((i + 1 : Nat) : Int)) (fun k => ?_) ih'
     simp only [spec_ReadNumber.j1]
     rw [if_pos trivial, if_pos hip, if_pos hil, e2, e3, e4, e1, if_neg hb, e5, hi1]
     rfl
  ·refine Ev.step (f := fun k => spec_ReadNumber.j1 k xs n p i false) (fun k => ?_) (Ev.step (f := fun _ => some (0, 0)) (fun k => ?_) (evEq (Ev.now _) ?_))
   ·simp only [spec_ReadNumber.l0]
    rw [if_pos (by omega), decide_eq_false (by omega : ¬ (i : Int) < 6)]
   ·simp only [spec_ReadNumber.j1]
    rw [if_neg (by decide)]
   ·simp only [rnum, if_neg h6]
theorem spec_ReadNumber_ev (xs : List Int) (hx : ∀ x ∈ xs, 0 ≤ x ∧ x < 256) : Ev (fun k => spec_ReadNumber.f k xs) (readNumber xs) :=
 spec_ReadNumber_l0_ev xs hx xs 0 1 0 rfl PW.zero (by decide) (by decide) (by decide)

theorem spec_ReadText_ev (xs : List Int) (hl : xs.length ≤ 1000000000000000000) (hx : ∀ x ∈ xs, 0 ≤ x ∧ x < 256) : Ev (fun k => spec_ReadText.f k xs) (readText xs) := by
 simp only [spec_ReadText.f]
 refine Ev.bind (spec_ReadNumber_ev xs hx) ?_
 have hb := readNumber_bd xs hx
 unfold readText
 generalize readNumber xs = p at hb ⊢
 obtain ⟨n, t⟩ := p
 simp only at hb ⊢
 by_cases h0 : t = 0
 ·rw [if_pos (Or.inl h0)]; exact evPos h0 (Ev.now _)
 refine evNeg h0 ?_
 by_cases h1 : n > 3000
 ·rw [if_pos (Or.inr (Or.inl h1))]; exact evPos h1 (Ev.now _)
 refine evNeg h1 ?_
 have e1 : wrap64 ((xs.length : Int) - t) = (xs.length : Int) - t := w64 (by omega) (by omega)
 rw [e1]
 by_cases h2 : n > (xs.length : Int) - t
 ·rw [if_pos (Or.inr (Or.inr h2))]; exact evPos h2 (Ev.now _)
 refine evNeg h2 ?_
 have e2 : wrap64 (t + n) = t + n := w64 (by omega) (by omega)
 rw [e2]
 exact evEq (evPos (by omega) (evPos (by omega) (evPos (by omega) (Ev.now _)))) (if_neg (fun h => by rcases h with h | h | h <;> omega)).symm

theorem evThen {α : Type} {c : Prop} [Decidable c] {f g : Nat → Option α} {r : α} (hc : c) (h : Ev (fun k => if c then f k else g k) r) : Ev f r := by
 obtain ⟨K, h⟩ := h
 exact ⟨K, fun k hk => (if_pos (e := g k) hc).symm.trans (h k hk)⟩
theorem evElse {α : Type} {c : Prop} [Decidable c] {f g : Nat → Option α} {r : α} (hc : ¬ c) (h : Ev (fun k => if c then f k else g k) r) : Ev g r := by
 obtain ⟨K, h⟩ := h
 exact ⟨K, fun k hk => (if_neg (t := f k) hc).symm.trans (h k hk)⟩
theorem rnum_numN (n : Nat) : ∀ (i : Nat) (p acc : Int) (r : List Int), PW i p → i ≤ 6 → 0 ≤ acc → (i = 0 ∨ 1 ≤ n) → acc + n * p ≤ 1099511627776 → rnum i p acc (numN n ++ r) = (acc + n * p, ((i + (numN n).length : Nat) : Int)) := by
 induction n using Nat.strongRecOn with
 | ind n ih =>
  intro i p acc r hP hi h0 hn hle
  have hp := hP.pos
  have h6 : i < 6 := by
   rcases hn with h | h
   ·omega
   ·by_cases h6 : i = 6
    ·exfalso
     unfold PW at hP
     subst h6
     have e : p = 4398046511104 := hP
     subst e
     omega
    ·omega
  by_cases h : n < 128
  ·rw [numN_small h, List.singleton_append]
   unfold rnum
   rw [if_pos h6, if_pos (by omega), Int.emod_eq_of_lt (by omega) (by omega), if_neg ?_]
   ·simp
   ·rintro (hc | ⟨hc, hd⟩)
    ·omega
    ·omega
  ·rw [numN_big h, List.cons_append]
   unfold rnum
   rw [if_pos h6, if_neg (by omega)]
   have e1 : (((n % 128 + 128 : Nat) : Int)) % 128 = ((n % 128 : Nat) : Int) := by omega
   rw [e1]
   have e2 : acc + ((n % 128 : Nat) : Int) * p + ((n / 128 : Nat) : Int) * (p * 128) = acc + n * p := by
    have e3 : (n : Int) = ((n / 128 : Nat) : Int) * 128 + ((n % 128 : Nat) : Int) := by omega
    rw [e3]
    generalize ((n / 128 : Nat) : Int) = a
    generalize ((n % 128 : Nat) : Int) = b
    rw [Int.add_mul, Int.mul_assoc, Int.mul_comm 128 p]
    omega
   have hm : 0 ≤ ((n % 128 : Nat) : Int) * p := Int.mul_nonneg (by omega) (by omega)
   rw [ih (n / 128) (by omega) (i + 1) (p * 128) _ r hP.step (by omega) (by omega) (Or.inr (by omega)) (by omega), e2]
   simp only [List.length_cons]
   congr 1
   omega
theorem readNumber_numN (n : Nat) (r : List Int) (h : n ≤ 1099511627776) : readNumber (numN n ++ r) = ((n : Int), ((numN n).length : Int)) := by
 unfold readNumber
 rw [rnum_numN n 0 1 0 r PW.zero (by decide) (by decide) (Or.inl rfl) (by omega)]
 simp
theorem readText_textN (s : ByteArray) (r : List Int) (h : s.size ≤ 3000) : readText (textN s ++ r) = (s, ((textN s).length : Int)) := by
 have hp := numN_pos s.size
 have hn : readNumber (textN s ++ r) = ((s.size : Int), ((numN s.size).length : Int)) := by
  unfold textN
  rw [List.append_assoc]
  exact readNumber_numN s.size _ (by omega)
 unfold readText
 rw [hn]
 have hl := textN_length s
 simp only
 rw [if_neg ?_]
 ·have e : ((numN s.size).length : Int) + (s.size : Int) = (((textN s).length : Nat) : Int) := by omega
  rw [e, Int.toNat_natCast, Int.toNat_natCast, List.take_left]
  unfold textN
  rw [List.drop_left, strOfNums_bytesOf]
 ·simp only [List.length_append]
  rintro (hc | hc | hc) <;> omega
theorem readText_size (xs : List Int) (hx : ∀ x ∈ xs, 0 ≤ x ∧ x < 256) : (readText xs).1.size ≤ 3000 := by
 have h := readNumber_bd xs hx
 unfold readText
 split
 ·decide
 ·rename_i hc
  simp only
  rw [← bytesOf_length, bytesOf_strOfNums (fun x hm => hx x (List.mem_of_mem_take (List.mem_of_mem_drop hm))), List.length_drop, List.length_take]
  omega
theorem common_take : ∀ (as_ bs : List Int), as_.take (common as_ bs) = bs.take (common as_ bs)
 | [], bs => by rw [common_empty]; rfl
 | a :: as_, [] => by simp [common]
 | a :: as_, b :: bs => by
  unfold common
  split
  ·rename_i h
   rw [List.take_succ_cons, List.take_succ_cons, common_take as_ bs, h]
  ·rfl
theorem bytesOf_append (s t : ByteArray) : bytesOf (s ++ t) = bytesOf s ++ bytesOf t := by
 unfold bytesOf
 simp
theorem bytesOf_extract (s : ByteArray) (a b : Nat) : bytesOf (s.extract a b) = ((bytesOf s).take b).drop a := by
 unfold bytesOf
 simp [List.map_take, List.map_drop, List.drop_take]
theorem common_key (l s : ByteArray) : l.extract 0 (common (bytesOf l) (bytesOf s)) ++ s.extract (common (bytesOf l) (bytesOf s)) s.size = s := by
 apply bytesOf_inj
 rw [bytesOf_append, bytesOf_extract, bytesOf_extract, List.drop_zero, common_take]
 rw [List.take_of_length_le (l := bytesOf s) (i := s.size) (by rw [bytesOf_length]; omega), List.take_append_drop]
/-- One entry off the begin, the key ahead being l. -/
def unStep (l : ByteArray) (ys : List Int) : Option (S31 × List Int) :=
 if (readNumber ys).2 = 0 ∨ (readText (ys.drop (readNumber ys).2.toNat)).2 = 0 ∨ (readNumber ys).1 > l.size then none
 else if (readNumber ((ys.drop (readNumber ys).2.toNat).drop (readText (ys.drop (readNumber ys).2.toNat)).2.toNat)).2 = 0 ∨ (readText (((ys.drop (readNumber ys).2.toNat).drop (readText (ys.drop (readNumber ys).2.toNat)).2.toNat).drop (readNumber ((ys.drop (readNumber ys).2.toNat).drop (readText (ys.drop (readNumber ys).2.toNat)).2.toNat)).2.toNat)).2 = 0 then none
 else some (⟨l.extract 0 (readNumber ys).1.toNat ++ (readText (ys.drop (readNumber ys).2.toNat)).1,
   (readText (((ys.drop (readNumber ys).2.toNat).drop (readText (ys.drop (readNumber ys).2.toNat)).2.toNat).drop (readNumber ((ys.drop (readNumber ys).2.toNat).drop (readText (ys.drop (readNumber ys).2.toNat)).2.toNat)).2.toNat)).1,
   wrap64 (Int.tdiv (readNumber ((ys.drop (readNumber ys).2.toNat).drop (readText (ys.drop (readNumber ys).2.toNat)).2.toNat)).1 2), (Int.tmod (readNumber ((ys.drop (readNumber ys).2.toNat).drop (readText (ys.drop (readNumber ys).2.toNat)).2.toNat)).1 2 == 1)⟩,
  (((ys.drop (readNumber ys).2.toNat).drop (readText (ys.drop (readNumber ys).2.toNat)).2.toNat).drop (readNumber ((ys.drop (readNumber ys).2.toNat).drop (readText (ys.drop (readNumber ys).2.toNat)).2.toNat)).2.toNat).drop (readText (((ys.drop (readNumber ys).2.toNat).drop (readText (ys.drop (readNumber ys).2.toNat)).2.toNat).drop (readNumber ((ys.drop (readNumber ys).2.toNat).drop (readText (ys.drop (readNumber ys).2.toNat)).2.toNat)).2.toNat)).2.toNat)
theorem markE_back (e : S31) (h : 1 ≤ e.f2) (h2 : e.f2 ≤ 1000000) : wrap64 (Int.tdiv ((markE e : Nat) : Int) 2) = e.f2 ∧ (Int.tmod ((markE e : Nat) : Int) 2 == 1) = e.f3 := by
 unfold markE flagI
 cases hg : e.f3 with
 | true =>
  rw [if_pos rfl, show (((2 * e.f2 + 1).toNat : Nat) : Int) = 2 * e.f2 + 1 by omega, Int.tdiv_eq_ediv_of_nonneg (by omega), Int.tmod_eq_emod_of_nonneg (by omega)]
  refine ⟨by rw [w64 (by omega) (by omega)]; omega, ?_⟩
  rw [beq_iff_eq]; omega
 | false =>
  rw [if_neg (by decide), show (((2 * e.f2 + 0).toNat : Nat) : Int) = 2 * e.f2 by omega, Int.tdiv_eq_ediv_of_nonneg (by omega), Int.tmod_eq_emod_of_nonneg (by omega)]
  refine ⟨by rw [w64 (by omega) (by omega)]; omega, ?_⟩
  rw [beq_eq_false_iff_ne]; omega
theorem unStep_laid (l : ByteArray) (e : S31) (c : Nat) (r : List Int) (he : entOk e = true) (hc : c ≤ l.size) (hce : c ≤ e.f0.size) (hk : l.extract 0 c ++ e.f0.extract c e.f0.size = e.f0) :
  unStep l (numN c ++ (textN (e.f0.extract c e.f0.size) ++ (numN (markE e) ++ (textN e.f1 ++ r)))) = some (e, r) := by
 obtain ⟨⟨h1, h2⟩, h3, h4, h5, h6⟩ := entOk_iff.1 he
 have x1 := extract_size e.f0 c
 have hm : markE e ≤ 100000000 := by unfold markE flagI; split <;> omega
 obtain ⟨b1, b2⟩ := markE_back e h5 h6
 have e1 := readNumber_numN c (textN (e.f0.extract c e.f0.size) ++ (numN (markE e) ++ (textN e.f1 ++ r))) (by omega)
 have e2 := readText_textN (e.f0.extract c e.f0.size) (numN (markE e) ++ (textN e.f1 ++ r)) (by omega)
 have e3 := readNumber_numN (markE e) (textN e.f1 ++ r) (by omega)
 have e4 := readText_textN e.f1 r (by omega)
 have p1 := numN_pos c
 have p2 := numN_pos (markE e)
 have p3 := numN_pos (e.f0.extract c e.f0.size).size
 have p4 := numN_pos e.f1.size
 have q1 := textN_length (e.f0.extract c e.f0.size)
 have q2 := textN_length e.f1
 unfold unStep
 simp only [e1, e2, e3, e4, Int.toNat_natCast, List.drop_left]
 rw [if_neg (by omega), if_neg (by omega), b1, b2, hk]
theorem unStep_packE (l : ByteArray) (e : S31) (r : List Int) (he : entOk e = true) : unStep l (packE l e ++ r) = some (e, r) := by
 unfold packE
 have c1 := common_le (bytesOf l) (bytesOf e.f0)
 rw [bytesOf_length, bytesOf_length] at c1
 have := unStep_laid l e (common (bytesOf l) (bytesOf e.f0)) r he c1.1 c1.2 (common_key l e.f0)
 simpa only [List.append_assoc] using this
theorem unStep_packE0 (l : ByteArray) (e : S31) (r : List Int) (he : entOk e = true) : unStep l (packE (⟨#[]⟩ : ByteArray) e ++ r) = some (e, r) := by
 unfold packE
 rw [bytesOf_empty, common_empty]
 have hk : l.extract 0 0 ++ e.f0.extract 0 e.f0.size = e.f0 := by
  apply bytesOf_inj
  rw [bytesOf_append, bytesOf_extract, bytesOf_extract, List.drop_zero, List.drop_zero, List.take_zero, List.nil_append, List.take_of_length_le (by rw [bytesOf_length]; omega)]
 have := unStep_laid l e 0 r he (by omega) (by omega) hk
 simpa only [List.append_assoc] using this
theorem packE_byte (l : ByteArray) (e : S31) : ∀ x ∈ packE l e, 0 ≤ x ∧ x < 256 := by
 intro x hx
 unfold packE at hx
 simp only [List.mem_append] at hx
 rcases hx with h | h | h | h
 ·exact numN_byte _ x h
 ·exact textN_byte _ x h
 ·exact numN_byte _ x h
 ·exact textN_byte _ x h
theorem packL_byte : ∀ (xs : List S31) (l : ByteArray) (i : Nat), ∀ x ∈ packL l i xs, 0 ≤ x ∧ x < 256
 | [], _, _, x, hx => by simp [packL] at hx
 | e :: es, l, i, x, hx => by
  unfold packL at hx
  rcases List.mem_append.1 hx with h | h
  ·exact packE_byte _ e x h
  ·exact packL_byte es _ _ x h
theorem packed_byte (xs : List S31) : ∀ x ∈ packed xs, 0 ≤ x ∧ x < 256 := by
 intro x hx
 unfold packed at hx
 rcases List.mem_append.1 hx with h | h
 ·exact numN_byte _ x h
 ·exact packL_byte _ _ _ x h
theorem strNums_eq {xs ys : List Int} (hx : ∀ x ∈ xs, 0 ≤ x ∧ x < 256) (hy : ∀ x ∈ ys, 0 ≤ x ∧ x < 256) : (strOfNums xs).toList = (strOfNums ys).toList ↔ xs = ys := by
 constructor
 ·intro h
  have := str_eq.1 h
  rw [← bytesOf_strOfNums hx, ← bytesOf_strOfNums hy, this]
 ·intro h; rw [h]
/-- Is it a list that these bytes stand for? -/
def Unp (xs : List Int) (L : List S31) : Prop := entriesOk L = true ∧ packed L = xs
open Classical in
noncomputable def unpacked (xs : List Int) : List S31 × Bool := if h : ∃ L, Unp xs L then (Classical.choose h, true) else ([], false)
theorem unpacked_le (xs : List Int) : (unpacked xs).1.length ≤ 300 := by
 unfold unpacked
 split
 ·rename_i h
  exact entriesOk_le (Classical.choose_spec h).1
 ·simp
theorem unpacked_ev {g : Nat → Option (List S31 × Bool)} {xs : List Int} (h1 : ∃ r, Ev g r ∧ (r = ([], false) ∨ ∃ L, r = (L, true) ∧ Unp xs L)) (h2 : ∀ L, Unp xs L → Ev g (L, true)) : Ev g (unpacked xs) := by
 unfold unpacked
 split
 ·rename_i h
  exact h2 _ (Classical.choose_spec h)
 ·rename_i h
  obtain ⟨r, hr, h3 | ⟨L, _, h4⟩⟩ := h1
  ·rw [← h3]; exact hr
  ·exact absurd ⟨L, h4⟩ h
theorem wadd {a b : Nat} (h : a + b ≤ 1000000000000000000) : wrap64 ((a : Int) + (b : Int)) = ((a + b : Nat) : Int) := by rw [w64 (by omega) (by omega)]; omega
theorem rdN (ys : List Int) (hy : ∀ x ∈ ys, 0 ≤ x ∧ x < 256) : ∃ c t : Nat, readNumber ys = ((c : Int), (t : Int)) ∧ c ≤ 1099511627776 ∧ t ≤ ys.length := by
 have b := readNumber_bd ys hy
 generalize readNumber ys = p at b
 obtain ⟨a, t⟩ := p
 simp only at b
 exact ⟨a.toNat, t.toNat, by rw [Int.toNat_of_nonneg b.1.1, Int.toNat_of_nonneg b.2.1], by omega, by omega⟩
theorem rdT (ys : List Int) (hy : ∀ x ∈ ys, 0 ≤ x ∧ x < 256) : ∃ (s : ByteArray) (t : Nat), readText ys = (s, (t : Int)) ∧ s.size ≤ 3000 ∧ t ≤ ys.length := by
 have b := readText_bd ys hy
 have s := readText_size ys hy
 generalize readText ys = p at b s
 obtain ⟨a, t⟩ := p
 simp only at b s
 exact ⟨a, t.toNat, by rw [Int.toNat_of_nonneg b.1], s, by omega⟩

theorem spec_l1In_ev (a b c : Int) : Ev (fun _ => spec_l1In.f a b c) (within a b c) := by
 refine evId (fun _ => ?_)
 unfold spec_l1In.f within
 by_cases h : a ≥ b
 ·rw [if_pos h, decide_eq_true (show b ≤ a from h), Bool.true_and]
 ·rw [if_neg h, decide_eq_false (show ¬ b ≤ a from h), Bool.false_and]

theorem spec_l3Entry_ev (e : S31) : Ev (fun _ => spec_l3Entry.f e.f0 e.f1 e.f2 e.f3) (entOk e) := by
 obtain ⟨a, b, c, g⟩ := e
 refine evId (fun _ => ?_)
 have hin : spec_l1In.f c 1 1000000 = some (within c 1 1000000) := by
  obtain ⟨k, h⟩ := (spec_l1In_ev c 1 1000000).rounds
  exact h
 unfold spec_l3Entry.f entOk
 simp only [hin, Option.bind_some]
 by_cases h1 : (a.size : Int) ≥ 1
 ·by_cases h2 : (a.size : Int) ≤ 40
  ·by_cases h3 : (b.size : Int) ≤ 200
   ·rw [if_pos h1, if_pos h2, if_pos h3]
    have : within (a.size : Int) 1 40 = true := by simp [within]; omega
    rw [this, decide_eq_true h3]
    cases g with
    | false => simp
    | true =>
     rw [if_pos rfl]
     by_cases h4 : b.toList = ([] : List UInt8)
     ·rw [if_pos h4]; simp [h4]
     ·rw [if_neg h4]; simp [h4]
   ·rw [if_pos h1, if_pos h2, if_neg h3, decide_eq_false h3]; simp
  ·rw [if_pos h1, if_neg h2]
   have : within (a.size : Int) 1 40 = false := by simp [within]; omega
   rw [this]; simp
 ·rw [if_neg h1]
  have : within (a.size : Int) 1 40 = false := by simp [within]; omega
  rw [this]; simp
theorem spec_l3Ahead_ev (a b : S31) : Ev (fun _ => spec_l3Ahead.f a.f0 a.f1 a.f2 a.f3 b.f0 b.f1 b.f2 b.f3) (ahead a b) := by
 refine evId (fun _ => ?_)
 unfold spec_l3Ahead.f ahead
 cases h : Op.bytesLess a.f0.toList b.f0.toList with
 | true => simp
 | false =>
  rw [if_neg (by simp)]
  by_cases h2 : a.f0.toList = b.f0.toList
  ·rw [if_pos h2]; simp [h2]
  ·rw [if_neg h2]; simp [h2]
theorem spec_EntriesOk_l0_ev (xs : List S31) (hl : xs.length ≤ 1000000000000000000) : ∀ (bs : List S31) (i : Nat), xs.drop i = bs → Ev (fun k => spec_EntriesOk.l0 k xs i) (okL (prev xs i) bs)
 | [], i, hd => by
  have := drop_nil hd
  refine Ev.step (f := fun _ => some true) (fun k => ?_) (Ev.now _)
  simp only [spec_EntriesOk.l0]
  rw [if_neg (by omega)]
 | e :: bs, i, hd => by
  obtain ⟨h2, h3, h4⟩ := drop_cons hd
  have e1 : rd_T31 xs (i : Int) = e := getD_at h4
  have ih := spec_EntriesOk_l0_ev xs hl bs (i + 1) h3
  rw [prev_succ h4] at ih
  refine Ev.step (f := fun k => (spec_l3Entry.f e.f0 e.f1 e.f2 e.f3).bind fun t127 => (if t127 = true then (if (i : Int) > 0 then ((spec_l3Ahead.f (rd_T31 xs (wrap64 ((i : Int) - 1))).f0 (rd_T31 xs (wrap64 ((i : Int) - 1))).f1 (rd_T31 xs (wrap64 ((i : Int) - 1))).f2 (rd_T31 xs (wrap64 ((i : Int) - 1))).f3 e.f0 e.f1 e.f2 e.f3).bind fun t130 => (if t130 = true then (spec_EntriesOk.l0 k xs ((i + 1 : Nat) : Int)) else (some false))) else (spec_EntriesOk.l0 k xs ((i + 1 : Nat) : Int))) else (some false))) (fun k => ?_) (Ev.bind (spec_l3Entry_ev e) ?_)
  ·simp only [spec_EntriesOk.l0]
   rw [if_pos (by omega), if_pos (by omega), e1, w64s (by omega)]
   by_cases hi : (i : Int) > 0
   ·simp only [if_pos hi, if_pos (show (0 : Int) ≤ wrap64 ((i : Int) - 1) by rw [w64 (by omega) (by omega)]; omega), if_pos (show wrap64 ((i : Int) - 1) < (xs.length : Int) by rw [w64 (by omega) (by omega)]; omega)]
   ·simp only [if_neg hi]
  ·unfold okL
   cases he : entOk e with
   | false => exact evNeg (by simp) (Ev.now _)
   | true =>
    refine evPos rfl ?_
    rw [Bool.true_and]
    by_cases hi : i = 0
    ·subst hi
     refine evNeg (by omega) (evEq ih ?_)
     simp [prev]
    ·obtain ⟨q, hq⟩ : ∃ q, xs[i - 1]? = some q := ⟨_, List.getElem?_eq_getElem (by omega)⟩
     have e2 : rd_T31 xs (wrap64 ((i : Int) - 1)) = q := by
      rw [w64 (by omega) (by omega), show (i : Int) - 1 = ((i - 1 : Nat) : Int) by omega]
      exact getD_at hq
     refine evPos (by omega) ?_
     rw [e2]
     refine Ev.bind (spec_l3Ahead_ev q e) ?_
     simp only [prev, if_neg hi, hq]
     cases ahead q e with
     | false => exact evNeg (by simp) (Ev.now _)
     | true => exact evPos rfl (evEq ih (by rw [Bool.true_and]))
theorem spec_EntriesOk_ev (xs : List S31) : Ev (fun k => spec_EntriesOk.f k xs) (entriesOk xs) := by
 simp only [spec_EntriesOk.f]
 unfold entriesOk
 by_cases h : (xs.length : Int) > 300
 ·rw [decide_eq_false (by omega)]; exact evPos h (Ev.now _)
 ·rw [decide_eq_true (by omega), Bool.true_and]
  exact evNeg h (spec_EntriesOk_l0_ev xs (by omega) xs 0 rfl)

theorem spec_l4Packed_l0_ev (xs : List S31) (hl : xs.length ≤ 300) (hok : ∀ e ∈ xs, entOk e = true) : ∀ (bs : List S31) (i : Nat) (acc : List Int) (last : ByteArray), xs.drop i = bs → last.size ≤ 40 → acc.length + 300 * bs.length ≤ 1000000000 → Ev (fun k => spec_l4Packed.l0 k xs acc last i) (acc ++ packL last i bs)
 | [], i, acc, last, hd, hla, ha => by
  have := drop_nil hd
  refine Ev.step (f := fun _ => some acc) (fun k => ?_) (evEq (Ev.now _) (by simp [packL]))
  simp only [spec_l4Packed.l0]
  rw [if_neg (by omega)]
 | e :: bs, i, acc, last, hd, hla, ha => by
  obtain ⟨h2, h3, h4⟩ := drop_cons hd
  have e1 : rd_T31 xs (i : Int) = e := getD_at h4
  have he := hok e (List.mem_of_getElem? h4)
  obtain ⟨⟨g1, g2⟩, g3, g4, g5, g6⟩ := entOk_iff.1 he
  rw [List.length_cons] at ha
  have key : ∀ l : ByteArray, l.size ≤ 40 → Ev (fun k => spec_l4Packed.j1 k xs acc l i e.f0 e.f1 e.f2 e.f3) (acc ++ (packE l e ++ packL e.f0 (i + 1) bs)) := by
   intro l hl40
   have hp := packE_le l e he
   unfold packE at hp ⊢
   have c1 := (common_le (bytesOf l) (bytesOf e.f0)).2
   rw [bytesOf_length] at c1
   generalize hc : common (bytesOf l) (bytesOf e.f0) = c at hp c1 ⊢
   have x1 := extract_size e.f0 c
   have hm : wrap64 (wrap64 (2 * e.f2) + flagI e.f3) = ((markE e : Nat) : Int) := by
    unfold markE flagI
    rw [w64 (x := 2 * e.f2) (by omega) (by omega)]
    split
    ·rw [w64 (by omega) (by omega)]; omega
    ·rw [w64 (by omega) (by omega)]; omega
   have hm2 : markE e ≤ 100000000000 := by unfold markE flagI; split <;> omega
   simp only [List.length_append] at hp
   refine Ev.step (fun k => by simp only [spec_l4Packed.j1]; exact rfl) ?_
   have hcm := spec_Common_ev l e.f0 (by omega)
   rw [hc] at hcm
   refine Ev.bind hcm (Ev.bind (spec_l1Number_ev c (by omega)) (evPos (by omega) ?_))
   simp only [Option.bind_some, Int.toNat_natCast]
   refine evPos (by omega) (evPos (by omega) (Ev.bind (spec_l1Text_ev _ (by omega)) (evPos (by rw [List.length_append]; omega) ?_)))
   have hflag : ∀ (b : Bool), Ev (fun _ => spec_l4Flag.f b) (flagI b) := fun b => evId (fun _ => by unfold spec_l4Flag.f flagI; split <;> rfl)
   refine Ev.bind (hflag e.f3) ?_
   rw [hm]
   refine Ev.bind (spec_l1Number_ev (markE e) (by omega)) (evPos (by simp only [List.length_append]; omega) (Ev.bind (spec_l1Text_ev e.f1 (by omega)) (evPos (by simp only [List.length_append]; omega) ?_)))
   have ih := spec_l4Packed_l0_ev xs hl hok bs (i + 1) (acc ++ (numN c ++ (textN (e.f0.extract c e.f0.size) ++ (numN (markE e) ++ textN e.f1)))) e.f0 h3 (by omega) (by simp only [List.length_append]; omega)
   rw [w64s (by omega)]
   simpa [List.append_assoc] using ih
  unfold packL
  by_cases h8 : i % 8 = 0
  ·rw [if_pos h8]
   refine Ev.step (fun k => ?_) (key (⟨#[]⟩ : ByteArray) (by decide))
   simp only [spec_l4Packed.l0]
   rw [if_pos (by omega), if_pos (by omega), e1, if_pos (by rw [Int.tmod_eq_emod_of_nonneg (by omega)]; omega)]
  ·rw [if_neg h8]
   refine Ev.step (fun k => ?_) (key last hla)
   simp only [spec_l4Packed.l0]
   rw [if_pos (by omega), if_pos (by omega), e1, if_neg (by rw [Int.tmod_eq_emod_of_nonneg (by omega)]; omega)]
theorem spec_l4Packed_ev (xs : List S31) (hl : xs.length ≤ 300) (hok : ∀ e ∈ xs, entOk e = true) : Ev (fun k => spec_l4Packed.f k xs) (packed xs) := by
 simp only [spec_l4Packed.f]
 have h2 := numN_le10 (n := xs.length) (by omega)
 exact Ev.bind (spec_l1Number_ev xs.length (by omega)) (spec_l4Packed_l0_ev xs hl hok xs 0 _ _ rfl (by decide) (by omega))

theorem spec_Packed_ev (xs : List S31) : Ev (fun k => spec_Packed.f k xs) (if entriesOk xs = true then packed xs else []) := by
 simp only [spec_Packed.f]
 refine Ev.bind (spec_EntriesOk_ev xs) ?_
 by_cases h : entriesOk xs = true
 ·rw [if_pos h]
  exact evPos h (Ev.bind (spec_l4Packed_ev xs (entriesOk_le h) (entriesOk_all h)) (Ev.now _))
 ·rw [if_neg h]
  exact evNeg h (Ev.now _)

theorem spec_Unpacked_second (xs : List Int) (out : List S31) (l p2a p4a : ByteArray) (p3a : Int) (n at_ c t1 t2 t3 t4 : Nat) (hl : xs.length ≤ 1000000000000) (hn : n ≤ 1000) (ho : out.length ≤ 100000) (hs : p2a.size ≤ 3000) (hc : c ≤ l.size) (hc2 : c ≤ 1099511627776) (hle : at_ + t1 + t2 + t3 + t4 ≤ xs.length)
  (r3 : Ev (fun k => spec_ReadNumber.f k (xs.drop (at_ + t1 + t2))) (p3a, (t3 : Int))) (r4 : Ev (fun k => spec_ReadText.f k (xs.drop (at_ + t1 + t2 + t3))) (p4a, (t4 : Int))) (r : List S31 × Bool)
  (hr : Ev (fun k => if (t3 : Int) = 0 then (some ((([] : List S31)), false)) else (if (t4 : Int) = 0 then (some ((([] : List S31)), false)) else (spec_Unpacked.l0 k xs (n : Int) ((at_ + t1 + t2 + t3 + t4 : Nat) : Int) (out ++ [(⟨(l.extract 0 c) ++ p2a, p4a, wrap64 (Int.tdiv p3a 2), ((Int.tmod p3a 2) == 1)⟩ : S31)]) ((l.extract 0 c) ++ p2a)))) r) :
  Ev (fun k => spec_Unpacked.j3 k xs ((n + 1 : Nat) : Int) (at_ : Int) out l (c : Int) (t1 : Int) p2a (t2 : Int) false) r := by
 have q1 : at_ + t1 ≤ 1000000000000000000 := by omega
 have q2 : at_ + t1 + t2 ≤ 1000000000000000000 := by omega
 have q3 : at_ + t1 + t2 + t3 ≤ 1000000000000000000 := by omega
 have q4 : at_ + t1 + t2 + t3 + t4 ≤ 1000000000000000000 := by omega
 have i0 : (0 : Int) ≤ ((at_ + t1 + t2 : Nat) : Int) := by omega
 have i1 : ((at_ + t1 + t2 : Nat) : Int) ≤ (xs.length : Int) := by omega
 have i2 : (0 : Int) ≤ ((at_ + t1 + t2 + t3 : Nat) : Int) := by omega
 have i3 : ((at_ + t1 + t2 + t3 : Nat) : Int) ≤ (xs.length : Int) := by omega
 have i4 : (l.extract 0 c).size + p2a.size ≤ 9223372036854775807 := by
  have : (l.extract 0 c).size ≤ c := by rw [ByteArray.size_extract]; omega
  omega
 have i5 : out.length < 2932031007402 := by omega
 have i6 : (0 : Int) ≤ (c : Int) := by omega
 have i7 : (c : Int) ≤ (l.size : Int) := by omega
 have w5 : wrap64 (((n + 1 : Nat) : Int) - 1) = (n : Int) := by rw [w64 (by omega) (by omega)]; omega
 have w1 : wrap64 ((at_ : Int) + (t1 : Int)) = ((at_ + t1 : Nat) : Int) := wadd q1
 have w2 : wrap64 (((at_ + t1 : Nat) : Int) + (t2 : Int)) = ((at_ + t1 + t2 : Nat) : Int) := wadd q2
 have w3 : wrap64 (((at_ + t1 + t2 : Nat) : Int) + (t3 : Int)) = ((at_ + t1 + t2 + t3 : Nat) : Int) := wadd q3
 have w4 : wrap64 (((at_ + t1 + t2 + t3 : Nat) : Int) + (t4 : Int)) = ((at_ + t1 + t2 + t3 + t4 : Nat) : Int) := wadd q4
 clear hl hn ho hs hc hc2 hle
 refine Ev.step (f := fun k => (spec_ReadNumber.f k (xs.drop (at_ + t1 + t2))).bind fun bt217 => (if 0 ≤ (wrap64 (((at_ + t1 + t2 : Nat) : Int) + bt217.2)) then (if (wrap64 (((at_ + t1 + t2 : Nat) : Int) + bt217.2)) ≤ (xs.length : Int) then ((spec_ReadText.f k (xs.drop ((wrap64 (((at_ + t1 + t2 : Nat) : Int) + bt217.2)) : Int).toNat)).bind fun bt220 => (if bt217.2 = 0 then (some ((([] : List S31)), false)) else (if bt220.2 = 0 then (some ((([] : List S31)), false)) else (spec_Unpacked.l0 k xs (n : Int) (wrap64 ((wrap64 (((at_ + t1 + t2 : Nat) : Int) + bt217.2)) + bt220.2)) (out ++ [(⟨(l.extract 0 c) ++ p2a, bt220.1, wrap64 (Int.tdiv bt217.1 2), ((Int.tmod bt217.1 2) == 1)⟩ : S31)]) ((l.extract 0 c) ++ p2a))))) else (none)) else (none))) (fun k => ?_) ?_
 ·simp only [spec_Unpacked.j3, w1, w2, w5, i0, i1, i4, i5, i6, i7, if_true, Int.toNat_natCast]
  rfl
 ·refine Ev.bind r3 ?_
  simp only [w3, Int.toNat_natCast]
  refine evPos i2 (evPos i3 (Ev.bind r4 ?_))
  simp only [w4]
  exact hr
theorem spec_Unpacked_first (xs : List Int) (out : List S31) (l p2a : ByteArray) (m at_ c t1 t2 : Nat) (hl : xs.length ≤ 1000000000000) (hle : at_ + t1 + t2 ≤ xs.length)
  (r1 : Ev (fun k => spec_ReadNumber.f k (xs.drop at_)) ((c : Int), (t1 : Int))) (r2 : Ev (fun k => spec_ReadText.f k (xs.drop (at_ + t1))) (p2a, (t2 : Int))) (r : List S31 × Bool)
  (hr : Ev (fun k => spec_Unpacked.j3 k xs (m : Int) (at_ : Int) out l (c : Int) (t1 : Int) p2a (t2 : Int) (decide ((t1 : Int) = 0 ∨ (t2 : Int) = 0 ∨ (c : Int) > (l.size : Int)))) r) :
  Ev (fun k => spec_Unpacked.j2 k xs (m : Int) (at_ : Int) out l) r := by
 have w1 : wrap64 ((at_ : Int) + (t1 : Int)) = ((at_ + t1 : Nat) : Int) := wadd (by omega)
 have i0 : (0 : Int) ≤ (at_ : Int) := by omega
 have i1 : (at_ : Int) ≤ (xs.length : Int) := by omega
 have i2 : (0 : Int) ≤ ((at_ + t1 : Nat) : Int) := by omega
 have i3 : ((at_ + t1 : Nat) : Int) ≤ (xs.length : Int) := by omega
 clear hl hle
 refine Ev.step (fun k => by simp only [spec_Unpacked.j2]; exact rfl) ?_
 refine evPos i0 (evPos i1 ?_)
 rw [Int.toNat_natCast]
 refine Ev.bind r1 ?_
 simp only [w1, Int.toNat_natCast]
 refine evPos i2 (evPos i3 (Ev.bind r2 ?_))
 simp only
 by_cases h1 : (t1 : Int) = 0
 ·refine evPos h1 ?_
  rw [decide_eq_true (Or.inl h1)] at hr
  exact hr
 ·refine evNeg h1 ?_
  by_cases h2 : (t2 : Int) = 0
  ·refine evPos h2 ?_
   rw [decide_eq_true (Or.inr (Or.inl h2))] at hr
   exact hr
  ·refine evNeg h2 ?_
   rw [show decide ((t1 : Int) = 0 ∨ (t2 : Int) = 0 ∨ (c : Int) > (l.size : Int)) = decide ((c : Int) > (l.size : Int)) by simp only [h1, h2, false_or]] at hr
   exact hr
theorem spec_Unpacked_step (xs : List Int) (hl : xs.length ≤ 1000000000000) (hx : ∀ x ∈ xs, 0 ≤ x ∧ x < 256) (n at_ : Nat) (out : List S31) (last : ByteArray) (ha : at_ ≤ xs.length) (hn : n ≤ 1000) (ho : out.length ≤ 100000) :
  (unStep (if out.length % 8 = 0 then (⟨#[]⟩ : ByteArray) else last) (xs.drop at_) = none → Ev (fun k => spec_Unpacked.l0 k xs ((n + 1 : Nat) : Int) (at_ : Int) out last) ([], false)) ∧
  (∀ e ys, unStep (if out.length % 8 = 0 then (⟨#[]⟩ : ByteArray) else last) (xs.drop at_) = some (e, ys) → ∃ at' : Nat, at' ≤ xs.length ∧ xs.drop at' = ys ∧ ∀ r, Ev (fun k => spec_Unpacked.l0 k xs (n : Int) (at' : Int) (out ++ [e]) e.f0) r → Ev (fun k => spec_Unpacked.l0 k xs ((n + 1 : Nat) : Int) (at_ : Int) out last) r) := by
 have key : ∀ l : ByteArray, (unStep l (xs.drop at_) = none → Ev (fun k => spec_Unpacked.j2 k xs ((n + 1 : Nat) : Int) (at_ : Int) out l) ([], false)) ∧
   (∀ e ys, unStep l (xs.drop at_) = some (e, ys) → ∃ at' : Nat, at' ≤ xs.length ∧ xs.drop at' = ys ∧ ∀ r, Ev (fun k => spec_Unpacked.l0 k xs (n : Int) (at' : Int) (out ++ [e]) e.f0) r → Ev (fun k => spec_Unpacked.j2 k xs ((n + 1 : Nat) : Int) (at_ : Int) out l) r) := by
  intro l
  have d1 := drop_byte hx at_
  obtain ⟨c, t1, e1, bc, b1⟩ := rdN _ d1
  have r1 := spec_ReadNumber_ev _ d1
  rw [e1] at r1
  rw [List.length_drop] at b1
  have d2 := drop_byte hx (at_ + t1)
  obtain ⟨p2a, t2, e2, s2, b2⟩ := rdT _ d2
  have r2 := spec_ReadText_ev (xs.drop (at_ + t1)) (by rw [List.length_drop]; omega) d2
  rw [e2] at r2
  rw [List.length_drop] at b2
  have d3 := drop_byte hx (at_ + t1 + t2)
  obtain ⟨p3a, t3, e3, bp, b3⟩ := rdN _ d3
  have r3 := spec_ReadNumber_ev _ d3
  rw [e3] at r3
  rw [List.length_drop] at b3
  have d4 := drop_byte hx (at_ + t1 + t2 + t3)
  obtain ⟨p4a, t4, e4, s4, b4⟩ := rdT _ d4
  have r4 := spec_ReadText_ev (xs.drop (at_ + t1 + t2 + t3)) (by rw [List.length_drop]; omega) d4
  rw [e4] at r4
  rw [List.length_drop] at b4
  have hle : at_ + t1 + t2 + t3 + t4 ≤ xs.length := by omega
  clear b1 b2 b3 b4 d1 d2 d3 d4 s4 bp
  unfold unStep
  simp only [e1, e2, e3, e4, Int.toNat_natCast, List.drop_drop]
  have first := spec_Unpacked_first xs out l p2a (n + 1) at_ c t1 t2 hl (by omega) r1 r2
  by_cases hf : (t1 : Int) = 0 ∨ (t2 : Int) = 0 ∨ (c : Int) > (l.size : Int)
  ·rw [if_pos hf]
   refine ⟨fun _ => first _ ?_, fun e ys h => by cases h⟩
   rw [decide_eq_true hf]
   refine Ev.step (f := fun _ => some ([], false)) (fun k => ?_) (Ev.now _)
   simp only [spec_Unpacked.j3]
   rw [if_pos trivial]
  ·rw [if_neg hf]
   rw [decide_eq_false hf] at first
   have h3 : ¬ (c : Int) > (l.size : Int) := fun h => hf (Or.inr (Or.inr h))
   have second := fun r hr => first r (spec_Unpacked_second xs out l p2a p4a (p3a : Int) n at_ c t1 t2 t3 t4 hl hn ho s2 (by omega) bc hle r3 r4 r hr)
   by_cases hg : (t3 : Int) = 0 ∨ (t4 : Int) = 0
   ·rw [if_pos hg]
    refine ⟨fun _ => second _ ?_, fun e ys h => by cases h⟩
    by_cases g3 : (t3 : Int) = 0
    ·exact evPos g3 (Ev.now _)
    ·exact evNeg g3 (evPos (hg.resolve_left g3) (Ev.now _))
   ·rw [if_neg hg]
    refine ⟨fun h => (by cases h), fun e ys h => ?_⟩
    simp only [Option.some.injEq, Prod.mk.injEq] at h
    obtain ⟨rfl, rfl⟩ := h
    refine ⟨at_ + t1 + t2 + t3 + t4, hle, rfl, fun r hr => second r ?_⟩
    exact evNeg (fun h => hg (Or.inl h)) (evNeg (fun h => hg (Or.inr h)) hr)
 by_cases h8 : out.length % 8 = 0
 ·rw [if_pos h8]
  have up : ∀ r, Ev (fun k => spec_Unpacked.j2 k xs ((n + 1 : Nat) : Int) (at_ : Int) out (⟨#[]⟩ : ByteArray)) r → Ev (fun k => spec_Unpacked.l0 k xs ((n + 1 : Nat) : Int) (at_ : Int) out last) r := fun r hr => by
   refine Ev.step (fun k => ?_) hr
   simp only [spec_Unpacked.l0]
   rw [if_pos (by omega), if_pos (by omega)]
  obtain ⟨k1, k2⟩ := key (⟨#[]⟩ : ByteArray)
  refine ⟨fun h => up _ (k1 h), fun e ys h => ?_⟩
  obtain ⟨a', q1, q2, q3⟩ := k2 e ys h
  exact ⟨a', q1, q2, fun r hr => up _ (q3 r hr)⟩
 ·rw [if_neg h8]
  have up : ∀ r, Ev (fun k => spec_Unpacked.j2 k xs ((n + 1 : Nat) : Int) (at_ : Int) out last) r → Ev (fun k => spec_Unpacked.l0 k xs ((n + 1 : Nat) : Int) (at_ : Int) out last) r := fun r hr => by
   refine Ev.step (fun k => ?_) hr
   simp only [spec_Unpacked.l0]
   rw [if_pos (by omega), if_neg (by omega)]
  obtain ⟨k1, k2⟩ := key last
  refine ⟨fun h => up _ (k1 h), fun e ys h => ?_⟩
  obtain ⟨a', q1, q2, q3⟩ := k2 e ys h
  exact ⟨a', q1, q2, fun r hr => up _ (q3 r hr)⟩
theorem spec_Unpacked_end (xs : List Int) (hx : ∀ x ∈ xs, 0 ≤ x ∧ x < 256) (hne : xs ≠ []) (at_ : Int) (out : List S31) (last : ByteArray) :
  (Unp xs out → Ev (fun k => spec_Unpacked.l0 k xs 0 at_ out last) (out, true)) ∧ (¬ Unp xs out → Ev (fun k => spec_Unpacked.l0 k xs 0 at_ out last) ([], false)) := by
 have up : ∀ r, Ev (fun k => ((spec_Packed.f k out).bind fun t201 => (if (strOfNums t201).toList = (strOfNums xs).toList then (some (out, true)) else (some ((([] : List S31)), false))))) r → Ev (fun k => spec_Unpacked.l0 k xs 0 at_ out last) r := fun r hr => by
  refine Ev.step (fun k => ?_) hr
  simp only [spec_Unpacked.l0]
  rw [if_neg (by decide)]
 have sp := spec_Packed_ev out
 refine ⟨fun h => up _ (Ev.bind sp ?_), fun h => up _ (Ev.bind sp ?_)⟩
 ·rw [if_pos h.1, h.2]
  exact evPos rfl (Ev.now _)
 ·by_cases ho : entriesOk out = true
  ·rw [if_pos ho]
   exact evNeg (fun e => h ⟨ho, (strNums_eq (packed_byte out) hx).1 e⟩) (Ev.now _)
  ·rw [if_neg ho]
   exact evNeg (fun e => hne ((strNums_eq (by simp) hx).1 e).symm) (Ev.now _)
theorem spec_Unpacked_some (xs : List Int) (hl : xs.length ≤ 1000000000000) (hx : ∀ x ∈ xs, 0 ≤ x ∧ x < 256) (hne : xs ≠ []) : ∀ (n at_ : Nat) (out : List S31) (last : ByteArray), at_ ≤ xs.length → n ≤ 1000 → out.length + n ≤ 100000 →
  ∃ r, Ev (fun k => spec_Unpacked.l0 k xs (n : Int) (at_ : Int) out last) r ∧ (r = ([], false) ∨ ∃ L, r = (L, true) ∧ Unp xs L)
 | 0, at_, out, last, ha, hn, ho => by
  obtain ⟨h1, h2⟩ := spec_Unpacked_end xs hx hne at_ out last
  by_cases h : Unp xs out
  ·exact ⟨_, h1 h, Or.inr ⟨out, rfl, h⟩⟩
  ·exact ⟨_, h2 h, Or.inl rfl⟩
 | n + 1, at_, out, last, ha, hn, ho => by
  obtain ⟨h1, h2⟩ := spec_Unpacked_step xs hl hx n at_ out last ha (by omega) (by omega)
  cases h : unStep (if out.length % 8 = 0 then (⟨#[]⟩ : ByteArray) else last) (xs.drop at_) with
  | none => exact ⟨_, h1 h, Or.inl rfl⟩
  | some p =>
   obtain ⟨e, ys⟩ := p
   obtain ⟨a', q1, q2, q3⟩ := h2 e ys h
   obtain ⟨r, hr, hc⟩ := spec_Unpacked_some xs hl hx hne n a' (out ++ [e]) e.f0 q1 (by omega) (by simp; omega)
   exact ⟨r, q3 r hr, hc⟩
theorem spec_Unpacked_back (xs : List Int) (hl : xs.length ≤ 1000000000000) (hx : ∀ x ∈ xs, 0 ≤ x ∧ x < 256) (hne : xs ≠ []) (L : List S31) (hL : Unp xs L) : ∀ (bs : List S31) (at_ : Nat) (out : List S31) (last : ByteArray), L = out ++ bs → at_ ≤ xs.length → xs.drop at_ = packL last out.length bs →
  Ev (fun k => spec_Unpacked.l0 k xs (bs.length : Int) (at_ : Int) out last) (L, true)
 | [], at_, out, last, he, ha, hd => by
  obtain ⟨h1, h2⟩ := spec_Unpacked_end xs hx hne at_ out last
  rw [List.append_nil] at he
  rw [he] at hL ⊢
  exact h1 hL
 | e :: bs, at_, out, last, he, ha, hd => by
  have hle := entriesOk_le hL.1
  have hok := entriesOk_all hL.1 e (by rw [he]; simp)
  have hlen : L.length = out.length + (bs.length + 1) := by rw [he]; simp
  obtain ⟨h1, h2⟩ := spec_Unpacked_step xs hl hx bs.length at_ out last ha (by omega) (by omega)
  have hs : unStep (if out.length % 8 = 0 then (⟨#[]⟩ : ByteArray) else last) (xs.drop at_) = some (e, packL e.f0 (out.length + 1) bs) := by
   rw [hd]
   exact unStep_packE _ e _ hok
  obtain ⟨a', q1, q2, q3⟩ := h2 _ _ hs
  refine q3 _ (spec_Unpacked_back xs hl hx hne L hL bs a' (out ++ [e]) e.f0 (by rw [he]; simp) q1 ?_)
  rw [q2]; simp
theorem spec_Unpacked_ev (xs : List Int) (hl : xs.length ≤ 1000000000000) (hx : ∀ x ∈ xs, 0 ≤ x ∧ x < 256) : Ev (fun k => spec_Unpacked.f k xs) (unpacked xs) := by
 have b1 := readNumber_bd xs hx
 have r1 := spec_ReadNumber_ev xs hx
 simp only [spec_Unpacked.f]
 by_cases h0 : (readNumber xs).2 = 0
 ·refine unpacked_ev ⟨_, Ev.bind r1 ?_, Or.inl rfl⟩ (fun L hL => ?_)
  ·simp only [Option.bind_some]
   refine evPos h0 (Ev.step (fun k => by simp only [spec_Unpacked.j0]; exact rfl) ?_)
   exact evPos trivial (Ev.now _)
  ·exfalso
   have hle := entriesOk_le hL.1
   have hp := hL.2
   unfold packed at hp
   rw [← hp, readNumber_numN _ _ (by omega)] at h0
   have := numN_pos L.length
   simp only at h0
   omega
 ·have hne : xs ≠ [] := fun h => h0 (by rw [h]; rfl)
  by_cases h3 : (readNumber xs).1 > 300
  ·refine unpacked_ev ⟨_, Ev.bind r1 ?_, Or.inl rfl⟩ (fun L hL => ?_)
   ·simp only [Option.bind_some]
    refine evNeg h0 ?_
    rw [decide_eq_true h3]
    refine Ev.step (fun k => by simp only [spec_Unpacked.j0]; exact rfl) ?_
    exact evPos trivial (Ev.now _)
   ·exfalso
    have hle := entriesOk_le hL.1
    have hp := hL.2
    unfold packed at hp
    rw [← hp, readNumber_numN _ _ (by omega)] at h3
    simp only at h3
    omega
  ·have up : ∀ r, Ev (fun k => spec_Unpacked.l0 k xs (readNumber xs).1 (readNumber xs).2 ([] : List S31) (⟨#[]⟩ : ByteArray)) r → Ev (fun k => (spec_ReadNumber.f k xs).bind fun bt196 => ((some (([] : List S31) : List S31)).bind fun y198 => (if bt196.2 = 0 then (spec_Unpacked.j0 k xs bt196.1 bt196.2 y198 true) else (spec_Unpacked.j0 k xs bt196.1 bt196.2 y198 (decide (bt196.1 > 300)))))) r := fun r hr => by
    refine Ev.bind r1 ?_
    simp only [Option.bind_some]
    refine evNeg h0 ?_
    rw [decide_eq_false h3]
    refine Ev.step (fun k => ?_) hr
    simp only [spec_Unpacked.j0]
    rw [if_neg (by decide)]
   obtain ⟨n, hn⟩ : ∃ n : Nat, (readNumber xs).1 = n := ⟨(readNumber xs).1.toNat, by omega⟩
   obtain ⟨t, ht⟩ : ∃ t : Nat, (readNumber xs).2 = t := ⟨(readNumber xs).2.toNat, by omega⟩
   refine unpacked_ev ?_ (fun L hL => ?_)
   ·obtain ⟨r, hr, hc⟩ := spec_Unpacked_some xs hl hx hne n t [] (⟨#[]⟩ : ByteArray) (by omega) (by omega) (by simp; omega)
    rw [← hn, ← ht] at hr
    exact ⟨r, up r hr, hc⟩
   ·have hle := entriesOk_le hL.1
    have hp := hL.2
    unfold packed at hp
    have e := readNumber_numN L.length (packL (⟨#[]⟩ : ByteArray) 0 L) (by omega)
    rw [hp] at e
    refine up _ ?_
    rw [e]
    refine spec_Unpacked_back xs hl hx hne L hL L _ [] _ rfl (by rw [← hp]; simp) ?_
    rw [← hp]; simp

theorem impl_ReadNumber_l0_ev (xs : List Int) (hl : xs.length ≤ 1000000000000000000) (hx : ∀ x ∈ xs, 0 ≤ x ∧ x < 256) : ∀ (bs : List Int) (i : Nat) (p n : Int), xs.drop i = bs → PW i p → i ≤ 6 → 0 ≤ n → n < p → Ev (fun k => impl_ReadNumber.l0 k n xs (xs.length : Int) i) (rnum i p n bs)
 | [], i, p, n, hd, hP, hi, h0, h1 => by
  have := drop_nil hd
  refine Ev.step (f := fun _ => some (0, 0)) (fun k => ?_) (Ev.now _)
  simp only [impl_ReadNumber.l0]
  rw [if_neg (by omega)]
 | b :: bs, i, p, n, hd, hP, hi, h0, h1 => by
  obtain ⟨h2, h3, h4⟩ := drop_cons hd
  obtain ⟨b0, b1⟩ := hx b (List.mem_of_getElem? h4)
  have hip : (0 : Int) ≤ i := by omega
  have hil : (i : Int) < xs.length := by omega
  by_cases h6 : i < 6
  ·have hp := hP.pos
   have hq := hP.le (by omega)
   have hm := digit_mul b p hp
   have e1 := join_eq (n := n) (b := b) (i := i) hP (by omega) h0 h1 b0 b1
   have e3 : (0 : Int) ≤ wrap64 (7 * (i : Int)) := by rw [w64 (by omega) (by omega)]; omega
   have hi1 : wrap64 ((i : Int) + 1) = (i : Int) + 1 := w64 (by omega) (by omega)
   have ih := impl_ReadNumber_l0_ev xs hl hx bs (i + 1) (p * 128) (n + b % 128 * p) h3 hP.step (by omega)
   have ih' : Ev (fun k => impl_ReadNumber.l0 k (n + b % 128 * p) xs (xs.length : Int) ((i + 1 : Nat) : Int)) (rnum (i + 1) (p * 128) (n + b % 128 * p) bs) := by
    generalize b % 128 * p = q at hm ih ⊢; exact ih (by omega) (by omega)
   clear ih
   simp only [rnum, if_pos h6]
   by_cases hb : b < 128
   ·rw [if_pos hb]
    refine Ev.step (f := fun _ => some _) (fun k => ?_) (Ev.now _)
    simp only [impl_ReadNumber.l0]
    rw [if_pos hil, if_pos hip, if_pos hil, if_neg (by omega), if_pos e3, rd_at h4, e1, if_pos hb, hi1]
    generalize n + b % 128 * p = q
    by_cases hi0 : 0 < i
    ·rw [if_pos (by omega)]
     by_cases hb0 : b = 0
     ·rw [if_pos hb0, if_pos (Or.inr ⟨hi0, hb0⟩)]
     ·rw [if_neg hb0]
      by_cases hn : q > 1099511627776
      ·rw [if_pos hn, if_pos (Or.inl hn)]
      ·rw [if_neg hn, if_neg (fun h => h.elim hn (fun h => hb0 h.2))]
    ·rw [if_neg (by omega)]
     by_cases hn : q > 1099511627776
     ·rw [if_pos hn, if_pos (Or.inl hn)]
     ·rw [if_neg hn, if_neg (fun h => h.elim hn (fun h => hi0 h.1))]
   ·rw [if_neg hb]
    refine Ev.step (f := fun k => impl_ReadNumber.l0 k (n + b % 128 * p) xs (xs.length : Int) ((i + 1 : Nat) : Int)) (fun k => ?_) ih'
    simp only [impl_ReadNumber.l0]
    rw [if_pos hil, if_pos hip, if_pos hil, if_neg (by omega), if_pos e3, rd_at h4, e1, if_neg hb, hi1]
    rfl
  ·refine Ev.step (f := fun _ => some (0, 0)) (fun k => ?_) (evEq (Ev.now _) ?_)
   ·simp only [impl_ReadNumber.l0]
    rw [if_pos hil, if_pos hip, if_pos hil, if_pos (by omega)]
   ·simp only [rnum, if_neg h6]
theorem impl_ReadNumber_ev (xs : List Int) (hl : xs.length ≤ 1000000000000000000) (hx : ∀ x ∈ xs, 0 ≤ x ∧ x < 256) : Ev (fun k => impl_ReadNumber.f k xs) (readNumber xs) :=
 impl_ReadNumber_l0_ev xs hl hx xs 0 1 0 rfl PW.zero (by decide) (by decide) (by decide)

theorem impl_ReadText_ev (xs : List Int) (hl : xs.length ≤ 1000000000000000000) (hx : ∀ x ∈ xs, 0 ≤ x ∧ x < 256) : Ev (fun k => impl_ReadText.f k xs) (readText xs) := by
 simp only [impl_ReadText.f]
 refine Ev.bind (impl_ReadNumber_ev xs hl hx) ?_
 have hb := readNumber_bd xs hx
 unfold readText
 generalize readNumber xs = p at hb ⊢
 obtain ⟨n, t⟩ := p
 simp only at hb ⊢
 by_cases h0 : t = 0
 ·rw [if_pos (Or.inl h0)]; exact evPos h0 (Ev.now _)
 refine evNeg h0 ?_
 by_cases h1 : n > 3000
 ·rw [if_pos (Or.inr (Or.inl h1))]; exact evPos h1 (Ev.now _)
 refine evNeg h1 ?_
 have e1 : wrap64 ((xs.length : Int) - t) = (xs.length : Int) - t := w64 (by omega) (by omega)
 rw [e1]
 by_cases h2 : n > (xs.length : Int) - t
 ·rw [if_pos (Or.inr (Or.inr h2))]; exact evPos h2 (Ev.now _)
 refine evNeg h2 ?_
 have e2 : wrap64 (t + n) = t + n := w64 (by omega) (by omega)
 rw [e2]
 exact evEq (evPos (by omega) (evPos (by omega) (evPos (by omega) (Ev.now _)))) (if_neg (fun h => by rcases h with h | h | h <;> omega)).symm

theorem impl_cursor_goes_ev (xs : List Int) (b : Bool) (t : Int) (h0 : 0 ≤ t) (h1 : t ≤ xs.length) : Ev (fun _ => impl_cursor_goes.f xs b t) (xs.drop t.toNat, (b || t == 0)) := by
 simp only [impl_cursor_goes.f]
 exact evPos h0 (evPos h1 (Ev.now _))
theorem impl_cursor_number_ev (xs : List Int) (b : Bool) (hl : xs.length ≤ 1000000000000000000) (hx : ∀ x ∈ xs, 0 ≤ x ∧ x < 256) : Ev (fun k => impl_cursor_number.f k xs b) ((readNumber xs).1, xs.drop (readNumber xs).2.toNat, (b || (readNumber xs).2 == 0)) := by
 have hb := readNumber_bd xs hx
 simp only [impl_cursor_number.f]
 exact Ev.bind (impl_ReadNumber_ev xs hl hx) (Ev.bind (impl_cursor_goes_ev xs b _ (by omega) (by omega)) (Ev.now _))
theorem impl_cursor_text_ev (xs : List Int) (b : Bool) (hl : xs.length ≤ 1000000000000000000) (hx : ∀ x ∈ xs, 0 ≤ x ∧ x < 256) : Ev (fun k => impl_cursor_text.f k xs b) ((readText xs).1, xs.drop (readText xs).2.toNat, (b || (readText xs).2 == 0)) := by
 have hb := readText_bd xs hx
 simp only [impl_cursor_text.f]
 exact Ev.bind (impl_ReadText_ev xs hl hx) (Ev.bind (impl_cursor_goes_ev xs b _ (by omega) (by omega)) (Ev.now _))
theorem impl_cursor_ended_ev (xs : List Int) (b : Bool) : Ev (fun _ => impl_cursor_ended.f xs b) (!b && decide (xs = []), xs, b) := by
 simp only [impl_cursor_ended.f]
 cases b with
 | true => exact evPos rfl (Ev.now _)
 | false =>
  refine evNeg (by decide) (evEq (Ev.now _) ?_)
  cases xs with
  | nil => rfl
  | cons y ys =>
   have : ((((y :: ys).length : Nat) : Int) == 0) = false := by
    rw [beq_eq_false_iff_ne]; simp; omega
   rw [this]; simp

theorem bytes_Equal_ev (xs ys : List Int) (hx : ∀ x ∈ xs, 0 ≤ x ∧ x < 256) (hy : ∀ x ∈ ys, 0 ≤ x ∧ x < 256) : Ev (fun _ => bytes_Equal.f xs ys) (decide (xs = ys)) := by
 refine evId (fun _ => ?_)
 simp only [bytes_Equal.f]
 congr 1
 rw [Bool.eq_iff_iff, beq_iff_eq, decide_eq_true_eq, strNums_eq hx hy]
theorem impl_Unpacked_j1_bad (xs : List Int) (n : Int) (key : ByteArray) (out : List S31) (ys : List Int) : Ev (fun k => impl_Unpacked.j1 k xs n key out false ys true) ([], false) := by
 refine Ev.step (fun k => by simp only [impl_Unpacked.j1]; exact rfl) ?_
 exact evNeg (by decide) (Ev.bind (impl_cursor_ended_ev ys true) (evNeg (by simp) (Ev.now _)))
theorem impl_Unpacked_bad (xs : List Int) (n : Int) (key : ByteArray) (out : List S31) (ys : List Int) : Ev (fun k => impl_Unpacked.l0 k xs n key out ys true) ([], false) := by
 refine Ev.step (fun k => ?_) (impl_Unpacked_j1_bad xs n key out ys)
 simp only [impl_Unpacked.l0]
 split <;> rfl
theorem impl_Unpacked_step (xs ys : List Int) (hl : ys.length ≤ 1000000000000) (hy : ∀ x ∈ ys, 0 ≤ x ∧ x < 256) (n : Nat) (out : List S31) (key : ByteArray) (hn : n ≤ 1000) (ho : out.length ≤ 100000) :
  (unStep key ys = none → Ev (fun k => impl_Unpacked.l0 k xs ((n + 1 : Nat) : Int) key out ys false) ([], false)) ∧
  (∀ e zs, unStep key ys = some (e, zs) → (zs.length ≤ ys.length ∧ ∀ x ∈ zs, 0 ≤ x ∧ x < 256) ∧ ∀ r, Ev (fun k => impl_Unpacked.l0 k xs (n : Int) e.f0 (out ++ [e]) zs false) r → Ev (fun k => impl_Unpacked.l0 k xs ((n + 1 : Nat) : Int) key out ys false) r) := by
 have w5 : wrap64 (((n + 1 : Nat) : Int) - 1) = (n : Int) := by rw [w64 (by omega) (by omega)]; omega
 obtain ⟨c, t1, e1, bc, b1⟩ := rdN ys hy
 have r1 := impl_cursor_number_ev ys false (by omega) hy
 unfold unStep
 rw [e1] at r1
 simp only [e1, Int.toNat_natCast] at r1 ⊢
 have d2 := drop_byte hy t1
 have l2 : (ys.drop t1).length ≤ ys.length := by rw [List.length_drop]; omega
 generalize ys.drop t1 = y1 at r1 d2 l2 ⊢
 obtain ⟨p2a, t2, e2, s2, b2⟩ := rdT y1 d2
 have r2 := impl_cursor_text_ev y1 (false || (t1 : Int) == 0) (by omega) d2
 rw [e2] at r2
 simp only [e2, Int.toNat_natCast] at r2 ⊢
 have d3 := drop_byte d2 t2
 have l3 : (y1.drop t2).length ≤ ys.length := by rw [List.length_drop]; omega
 clear e2 d2 l2 b2
 generalize y1.drop t2 = y2 at r2 d3 l3 ⊢
 obtain ⟨p3a, t3, e3, bp, b3⟩ := rdN y2 d3
 have r3 := impl_cursor_number_ev y2 ((false || (t1 : Int) == 0) || (t2 : Int) == 0) (by omega) d3
 rw [e3] at r3
 simp only [e3, Int.toNat_natCast] at r3 ⊢
 have d4 := drop_byte d3 t3
 have l4 : (y2.drop t3).length ≤ ys.length := by rw [List.length_drop]; omega
 clear e3 d3 l3 b3
 generalize y2.drop t3 = y3 at r3 d4 l4 ⊢
 obtain ⟨p4a, t4, e4, s4, b4⟩ := rdT y3 d4
 have r4 := impl_cursor_text_ev y3 (((false || (t1 : Int) == 0) || (t2 : Int) == 0) || (t3 : Int) == 0) (by omega) d4
 rw [e4] at r4
 simp only [e4, Int.toNat_natCast] at r4 ⊢
 have d5 := drop_byte d4 t4
 have l5 : (y3.drop t4).length ≤ ys.length := by rw [List.length_drop]; omega
 clear e4 d4 l4 b4
 generalize y3.drop t4 = y4 at r4 d5 l5 ⊢
 have start : ∀ r, Ev (fun k => if (c : Int) > (key.size : Int) then (some (([] : List S31), false)) else (impl_Unpacked.l0 k xs (n : Int) ((key.extract 0 c) ++ p2a) (out ++ [(⟨(key.extract 0 c) ++ p2a, p4a, wrap64 (Int.tdiv (p3a : Int) 2), ((Int.tmod (p3a : Int) 2) == 1)⟩ : S31)]) y4 ((((false || (t1 : Int) == 0) || (t2 : Int) == 0) || (t3 : Int) == 0) || (t4 : Int) == 0))) r → Ev (fun k => impl_Unpacked.l0 k xs ((n + 1 : Nat) : Int) key out ys false) r := by
  intro r hr
  refine Ev.step (f := fun k => impl_Unpacked.j1 k xs ((n + 1 : Nat) : Int) key out true ys false) (fun k => ?_) ?_
  ·simp only [impl_Unpacked.l0]
   rw [if_pos (by omega)]
   rfl
  refine Ev.step (fun k => by simp only [impl_Unpacked.j1]; exact rfl) ?_
  refine evPos trivial (Ev.bind r1 ?_)
  simp only
  by_cases h : (c : Int) > (key.size : Int)
  ·exact evPos h (evThen h hr)
  ·refine evNeg h (evPos (by omega) (evPos (by omega) (Ev.bind r2 ?_)))
   simp only [Int.toNat_natCast, w5]
   refine evPos ?_ (Ev.bind r3 ?_)
   ·have : (key.extract 0 c).size ≤ c := by rw [ByteArray.size_extract]; omega
    omega
   simp only
   refine Ev.bind r4 ?_
   simp only
   refine evPos (by omega) ?_
   exact evElse h hr
 by_cases hf : (t1 : Int) = 0 ∨ (t2 : Int) = 0 ∨ (c : Int) > (key.size : Int)
 ·rw [if_pos hf]
  refine ⟨fun _ => start _ ?_, fun e zs h => by cases h⟩
  by_cases h : (c : Int) > (key.size : Int)
  ·exact evPos h (Ev.now _)
  ·refine evNeg h ?_
   rw [show ((((false || (t1 : Int) == 0) || (t2 : Int) == 0) || (t3 : Int) == 0) || (t4 : Int) == 0) = true by
    rcases hf with hf | hf | hf
    ·simp [hf]
    ·simp [hf]
    ·exact absurd hf h]
   exact impl_Unpacked_bad _ _ _ _ _
 ·rw [if_neg hf]
  have h1 : ¬ (t1 : Int) = 0 := fun h => hf (Or.inl h)
  have h2 : ¬ (t2 : Int) = 0 := fun h => hf (Or.inr (Or.inl h))
  have h3 : ¬ (c : Int) > (key.size : Int) := fun h => hf (Or.inr (Or.inr h))
  by_cases hg : (t3 : Int) = 0 ∨ (t4 : Int) = 0
  ·rw [if_pos hg]
   refine ⟨fun _ => start _ (evNeg h3 ?_), fun e zs h => by cases h⟩
   rw [show ((((false || (t1 : Int) == 0) || (t2 : Int) == 0) || (t3 : Int) == 0) || (t4 : Int) == 0) = true by
    rcases hg with hg | hg <;> simp [hg]]
   exact impl_Unpacked_bad _ _ _ _ _
  ·rw [if_neg hg]
   have h4 : ¬ (t3 : Int) = 0 := fun h => hg (Or.inl h)
   have h5 : ¬ (t4 : Int) = 0 := fun h => hg (Or.inr h)
   rw [show ((((false || (t1 : Int) == 0) || (t2 : Int) == 0) || (t3 : Int) == 0) || (t4 : Int) == 0) = false by
    rw [beq_eq_false_iff_ne.2 h1, beq_eq_false_iff_ne.2 h2, beq_eq_false_iff_ne.2 h4, beq_eq_false_iff_ne.2 h5]; rfl] at start
   refine ⟨fun h => (by cases h), fun e zs h => ?_⟩
   simp only [Option.some.injEq, Prod.mk.injEq] at h
   obtain ⟨rfl, rfl⟩ := h
   exact ⟨⟨l5, d5⟩, fun r hr => start r (evNeg h3 hr)⟩
theorem impl_Unpacked_end (xs ys : List Int) (hx : ∀ x ∈ xs, 0 ≤ x ∧ x < 256) (out : List S31) (key : ByteArray) :
  (Unp xs out → ys = [] → Ev (fun k => impl_Unpacked.l0 k xs 0 key out ys false) (out, true)) ∧ (¬ (Unp xs out ∧ ys = []) → Ev (fun k => impl_Unpacked.l0 k xs 0 key out ys false) ([], false)) := by
 have up : ∀ r, Ev (fun k => impl_Unpacked.j1 k xs 0 key out false ys false) r → Ev (fun k => impl_Unpacked.l0 k xs 0 key out ys false) r := fun r hr => by
  refine Ev.step (fun k => ?_) hr
  simp only [impl_Unpacked.l0]
  rw [if_neg (by decide)]
 have en := impl_cursor_ended_ev ys false
 refine ⟨fun h hy => up _ (Ev.step (fun k => by simp only [impl_Unpacked.j1]; exact rfl) ?_), fun h => up _ (Ev.step (fun k => by simp only [impl_Unpacked.j1]; exact rfl) ?_)⟩
 ·refine evNeg (by decide) (Ev.bind en (evPos (by simp [hy]) (Ev.bind (impl_EntriesOk_ev out) (evPos h.1 (Ev.bind (impl_packed_ev out (entriesOk_le h.1) (entriesOk_all h.1)) (Ev.bind (bytes_Equal_ev _ _ (packed_byte out) hx) (evPos (by simpa using h.2) (Ev.now _))))))))
 ·refine evNeg (by decide) (Ev.bind en ?_)
  by_cases hy : ys = []
  ·refine evPos (by simp [hy]) (Ev.bind (impl_EntriesOk_ev out) ?_)
   by_cases ho : entriesOk out = true
   ·refine evPos ho (Ev.bind (impl_packed_ev out (entriesOk_le ho) (entriesOk_all ho)) (Ev.bind (bytes_Equal_ev _ _ (packed_byte out) hx) (evNeg (fun e => h ⟨⟨ho, of_decide_eq_true e⟩, hy⟩) (Ev.now _))))
   ·exact evNeg ho (Ev.now _)
  ·exact evNeg (by simp [hy]) (Ev.now _)
theorem impl_Unpacked_some (xs : List Int) (hx : ∀ x ∈ xs, 0 ≤ x ∧ x < 256) : ∀ (n : Nat) (ys : List Int) (out : List S31) (key : ByteArray), ys.length ≤ 1000000000000 → (∀ x ∈ ys, 0 ≤ x ∧ x < 256) → n ≤ 1000 → out.length + n ≤ 100000 →
  ∃ r, Ev (fun k => impl_Unpacked.l0 k xs (n : Int) key out ys false) r ∧ (r = ([], false) ∨ ∃ L, r = (L, true) ∧ Unp xs L)
 | 0, ys, out, key, hl, hy, hn, ho => by
  obtain ⟨h1, h2⟩ := impl_Unpacked_end xs ys hx out key
  by_cases h : Unp xs out ∧ ys = []
  ·exact ⟨_, h1 h.1 h.2, Or.inr ⟨out, rfl, h.1⟩⟩
  ·exact ⟨_, h2 h, Or.inl rfl⟩
 | n + 1, ys, out, key, hl, hy, hn, ho => by
  obtain ⟨h1, h2⟩ := impl_Unpacked_step xs ys hl hy n out key (by omega) (by omega)
  cases h : unStep key ys with
  | none => exact ⟨_, h1 h, Or.inl rfl⟩
  | some p =>
   obtain ⟨e, zs⟩ := p
   obtain ⟨⟨q1, q2⟩, q3⟩ := h2 e zs h
   obtain ⟨r, hr, hc⟩ := impl_Unpacked_some xs hx n zs (out ++ [e]) e.f0 (by omega) q2 (by omega) (by simp; omega)
   exact ⟨r, q3 r hr, hc⟩
theorem impl_Unpacked_back (xs : List Int) (hl : xs.length ≤ 1000000000000) (hx : ∀ x ∈ xs, 0 ≤ x ∧ x < 256) (L : List S31) (hL : Unp xs L) : ∀ (bs : List S31) (out : List S31) (key : ByteArray), L = out ++ bs → (packL key out.length bs).length ≤ 1000000000000 →
  Ev (fun k => impl_Unpacked.l0 k xs (bs.length : Int) key out (packL key out.length bs) false) (L, true)
 | [], out, key, he, ha => by
  obtain ⟨h1, h2⟩ := impl_Unpacked_end xs (packL key out.length []) hx out key
  rw [List.append_nil] at he
  rw [he] at hL ⊢
  exact h1 hL (by simp [packL])
 | e :: bs, out, key, he, ha => by
  have hle := entriesOk_le hL.1
  have hok := entriesOk_all hL.1 e (by rw [he]; simp)
  have hlen : L.length = out.length + (bs.length + 1) := by rw [he]; simp
  obtain ⟨h1, h2⟩ := impl_Unpacked_step xs (packL key out.length (e :: bs)) ha (packL_byte _ _ _) bs.length out key (by omega) (by omega)
  have hs : unStep key (packL key out.length (e :: bs)) = some (e, packL e.f0 (out.length + 1) bs) := by
   rw [packL]
   split
   ·exact unStep_packE0 _ e _ hok
   ·exact unStep_packE _ e _ hok
  obtain ⟨⟨q1, q2⟩, q3⟩ := h2 _ _ hs
  have ih := impl_Unpacked_back xs hl hx L hL bs (out ++ [e]) e.f0 (by rw [he]; simp) (by simp only [List.length_append, List.length_cons, List.length_nil]; simpa using (by omega : (packL e.f0 (out.length + 1) bs).length ≤ 1000000000000))
  refine q3 _ ?_
  simpa using ih
theorem impl_Unpacked_ev (xs : List Int) (hl : xs.length ≤ 1000000000000) (hx : ∀ x ∈ xs, 0 ≤ x ∧ x < 256) : Ev (fun k => impl_Unpacked.f k xs) (unpacked xs) := by
 have b1 := readNumber_bd xs hx
 have r1 := impl_cursor_number_ev xs false (by omega) hx
 simp only [impl_Unpacked.f]
 by_cases h3 : (readNumber xs).1 > 300
 ·refine unpacked_ev ⟨_, Ev.bind r1 (evPos h3 (Ev.now _)), Or.inl rfl⟩ (fun L hL => ?_)
  exfalso
  have hle := entriesOk_le hL.1
  have hp := hL.2
  unfold packed at hp
  rw [← hp, readNumber_numN _ _ (by omega)] at h3
  simp only at h3
  omega
 ·obtain ⟨n, hn⟩ : ∃ n : Nat, (readNumber xs).1 = n := ⟨(readNumber xs).1.toNat, by omega⟩
  have up : ∀ r, Ev (fun k => impl_Unpacked.l0 k xs (readNumber xs).1 (⟨#[]⟩ : ByteArray) ([] : List S31) (xs.drop (readNumber xs).2.toNat) (false || (readNumber xs).2 == 0)) r → Ev (fun k => (impl_cursor_number.f k xs false).bind fun bt305 => (if bt305.1 > 300 then (some (([] : List S31), false)) else (impl_Unpacked.l0 k xs bt305.1 (⟨#[]⟩ : ByteArray) (([] : List S31)) bt305.2.1 bt305.2.2))) r := fun r hr => Ev.bind r1 (evNeg h3 hr)
  refine unpacked_ev ?_ (fun L hL => ?_)
  ·by_cases h0 : (readNumber xs).2 = 0
   ·refine ⟨([], false), up _ ?_, Or.inl rfl⟩
    rw [show (false || (readNumber xs).2 == 0) = true by rw [h0]; rfl]
    exact impl_Unpacked_bad _ _ _ _ _
   ·obtain ⟨r, hr, hc⟩ := impl_Unpacked_some xs hx n (xs.drop (readNumber xs).2.toNat) [] (⟨#[]⟩ : ByteArray) (by rw [List.length_drop]; omega) (drop_byte hx _) (by omega) (by simp; omega)
    refine ⟨r, up r ?_, hc⟩
    rw [show (false || (readNumber xs).2 == 0) = false by rw [Bool.false_or, beq_eq_false_iff_ne]; exact h0, hn]
    exact hr
  ·have hle := entriesOk_le hL.1
   have hp := hL.2
   unfold packed at hp
   have e := readNumber_numN L.length (packL (⟨#[]⟩ : ByteArray) 0 L) (by omega)
   rw [hp] at e
   refine up _ ?_
   have hpos := numN_pos L.length
   rw [e]
   simp only [Int.toNat_natCast]
   rw [show (false || ((numN L.length).length : Int) == 0) = false by rw [Bool.false_or, beq_eq_false_iff_ne]; omega]
   have ed : xs.drop (numN L.length).length = packL (⟨#[]⟩ : ByteArray) 0 L := by rw [← hp]; simp
   have lp := packL_le L (⟨#[]⟩ : ByteArray) 0 (entriesOk_all hL.1)
   rw [ed]
   exact impl_Unpacked_back xs hl hx L hL L [] _ rfl (by simp only [List.length_nil]; omega)

/-- All entries of some blocks behind others; false: they are none. -/
noncomputable def allF : List S31 → List ByteArray → List S31 × Bool
 | acc, [] => (acc, entriesOk acc)
 | acc, b :: bs => if (unpacked (bytesOf b)).2 = true ∧ 1 ≤ (unpacked (bytesOf b)).1.length ∧ (unpacked (bytesOf b)).1.length ≤ 8 then allF (acc ++ (unpacked (bytesOf b)).1) bs else ([], false)
noncomputable def tblAll (ss : List ByteArray) : List S31 × Bool := if within ss.length 1 40 = true then allF [] ss else ([], false)
theorem allF_ok : ∀ (ss : List ByteArray) (acc : List S31), (allF acc ss).2 = true → entriesOk (allF acc ss).1 = true
 | [], acc, h => h
 | b :: bs, acc, h => by
  rw [allF] at h ⊢
  by_cases c : (unpacked (bytesOf b)).2 = true ∧ 1 ≤ (unpacked (bytesOf b)).1.length ∧ (unpacked (bytesOf b)).1.length ≤ 8
  ·rw [if_pos c] at h ⊢
   exact allF_ok bs _ h
  ·rw [if_neg c] at h; cases h
theorem allF_ne : ∀ (ss : List ByteArray) (acc : List S31), (allF acc ss).2 = true → acc ≠ [] ∨ ss ≠ [] → (allF acc ss).1 ≠ []
 | [], acc, _, h => h.elim id (fun hh => absurd rfl hh)
 | b :: bs, acc, h, _ => by
  rw [allF] at h ⊢
  by_cases c : (unpacked (bytesOf b)).2 = true ∧ 1 ≤ (unpacked (bytesOf b)).1.length ∧ (unpacked (bytesOf b)).1.length ≤ 8
  ·rw [if_pos c] at h ⊢
   refine allF_ne bs _ h (Or.inl (fun hh => ?_))
   have := congrArg List.length hh
   rw [List.length_append, List.length_nil] at this
   omega
  ·rw [if_neg c] at h; cases h
theorem tblAll_ok {ss : List ByteArray} (h : (tblAll ss).2 = true) : entriesOk (tblAll ss).1 = true ∧ (tblAll ss).1 ≠ [] := by
 unfold tblAll at h ⊢
 by_cases c : within ss.length 1 40 = true
 ·rw [if_pos c] at h ⊢
  refine ⟨allF_ok _ _ h, allF_ne _ _ h (Or.inr (fun hh => ?_))⟩
  rw [hh] at c
  exact absurd c (by decide)
 ·rw [if_neg c] at h; cases h
theorem spec_l5All_l0_ev (a b : ByteArray) (xs : List Int) (ss : List ByteArray) (hl : ss.length ≤ 40) (hs : ∀ s ∈ ss, s.size ≤ 1048576) : ∀ (bs : List ByteArray) (i : Nat) (acc : List S31), ss.drop i = bs → acc.length + 8 * bs.length ≤ 1000000 → Ev (fun k => spec_l5All.l0 k acc (i : Int) a b xs ss) (allF acc bs)
 | [], i, acc, hd, ha => by
  have := drop_nil hd
  refine Ev.step (fun k => by simp only [spec_l5All.l0]; exact rfl) (evNeg (by omega) (Ev.bind (spec_EntriesOk_ev acc) (Ev.now _)))
 | s :: bs, i, acc, hd, ha => by
  obtain ⟨h2, h3, h4⟩ := drop_cons hd
  have e1 : rdOf ByteArray.empty ss (i : Int) = s := getD_at h4
  have hz := hs s (List.mem_of_getElem? h4)
  have un := spec_Unpacked_ev (bytesOf s) (by rw [bytesOf_length]; omega) (bytesOf_byte s)
  have hle := unpacked_le (bytesOf s)
  rw [List.length_cons] at ha
  rw [allF]
  generalize unpacked (bytesOf s) = u at un hle
  obtain ⟨L, g⟩ := u
  refine Ev.step (f := fun k => (spec_Unpacked.f k (bytesOf s)).bind fun t => if t.2 = true then (if (t.1.length : Int) < 1 then some ([], false) else if (t.1.length : Int) > 8 then some ([], false) else if acc.length + t.1.length < 2932031007402 then spec_l5All.l0 k (acc ++ t.1) ((i + 1 : Nat) : Int) a b xs ss else none) else some ([], false)) (fun k => ?_) (Ev.bind un ?_)
  ·simp only [spec_l5All.l0]
   rw [if_pos (by omega), if_pos (by omega), e1, if_pos (by omega), w64s (by omega)]
  ·by_cases c1 : g = true
   ·refine evPos c1 ?_
    by_cases c2 : (L.length : Int) < 1
    ·exact evPos c2 (evEq (Ev.now _) (if_neg (fun hh => by have := hh.2.1; simp only at this; omega)).symm)
    ·refine evNeg c2 ?_
     by_cases c3 : (L.length : Int) > 8
     ·exact evPos c3 (evEq (Ev.now _) (if_neg (fun hh => by have := hh.2.2; simp only at this; omega)).symm)
     ·simp only at hle
      refine evNeg c3 (evPos (by simp only; omega) ?_)
      rw [if_pos ⟨c1, by simp only; omega, by simp only; omega⟩]
      exact spec_l5All_l0_ev a b xs ss hl hs bs (i + 1) (acc ++ L) h3 (by rw [List.length_append]; omega)
   ·exact evNeg c1 (evEq (Ev.now _) (if_neg (fun hh => c1 hh.1)).symm)
theorem spec_l5All_ev (a b : ByteArray) (xs : List Int) (ss : List ByteArray) (hs : ∀ s ∈ ss, s.size ≤ 1048576) : Ev (fun k => spec_l5All.f k a b xs ss) (tblAll ss) := by
 simp only [spec_l5All.f, Option.bind_some]
 have bad : Ev (fun k => spec_l5All.j0 k [] true a b xs ss) ([], false) := Ev.step (fun k => by simp only [spec_l5All.j0]; exact rfl) (evPos trivial (Ev.now _))
 unfold tblAll within
 by_cases c1 : (ss.length : Int) < 1
 ·refine evPos c1 (evEq bad (if_neg ?_).symm)
  simp only [Bool.and_eq_true, decide_eq_true_eq]
  omega
 ·refine evNeg c1 ?_
  by_cases c2 : (ss.length : Int) > 40
  ·rw [decide_eq_true c2]
   refine evEq bad (if_neg ?_).symm
   simp only [Bool.and_eq_true, decide_eq_true_eq]
   omega
  ·rw [decide_eq_false c2, if_pos (by simp only [Bool.and_eq_true, decide_eq_true_eq]; omega)]
   exact Ev.step (fun k => by simp only [spec_l5All.j0]; exact rfl) (evNeg Bool.false_ne_true (spec_l5All_l0_ev a b xs ss (by omega) hs ss 0 [] rfl (by simp; omega)))
theorem spec_l5Same_l0_ev (xs ys : List Int) (hl : xs.length = ys.length) (hx : xs.length ≤ 1000000000) : ∀ (as_ bs : List Int) (i : Nat), xs.drop i = as_ → ys.drop i = bs → Ev (fun k => spec_l5Same.l0 k xs ys (i : Int)) (decide (as_ = bs))
 | [], [], i, hd, _ => by
  have := drop_nil hd
  exact Ev.step (fun k => by simp only [spec_l5Same.l0]; exact rfl) (evNeg (by omega) (evEq (Ev.now _) (by simp)))
 | [], y :: bs, i, hd, he => by
  have := drop_nil hd
  have := (drop_cons he).1
  omega
 | x :: as_, [], i, hd, he => by
  have := drop_nil he
  have := (drop_cons hd).1
  omega
 | x :: as_, y :: bs, i, hd, he => by
  obtain ⟨h2, h3, h4⟩ := drop_cons hd
  obtain ⟨g2, g3, g4⟩ := drop_cons he
  refine Ev.step (f := fun k => if x = y then spec_l5Same.l0 k xs ys ((i + 1 : Nat) : Int) else some false) (fun k => ?_) ?_
  ·simp only [spec_l5Same.l0]
   rw [if_pos (by omega), if_pos (by omega), if_pos (by omega), rd_at h4, rd_at g4, w64s (by omega)]
  ·by_cases c : x = y
   ·exact evPos c (evEq (spec_l5Same_l0_ev xs ys hl hx as_ bs (i + 1) h3 g3) (by simp [c]))
   ·exact evNeg c (evEq (Ev.now _) (by simp [c]))
theorem spec_l5Same_ev (xs ys : List Int) (hx : xs.length ≤ 1000000000) : Ev (fun k => spec_l5Same.f k xs ys) (decide (xs = ys)) := by
 simp only [spec_l5Same.f]
 by_cases c : (xs.length : Int) = (ys.length : Int)
 ·exact evPos c (spec_l5Same_l0_ev xs ys (by omega) hx xs ys 0 rfl rfl)
 ·exact evNeg c (evEq (Ev.now _) (decide_eq_false (fun hh => c (by rw [hh]))).symm)
theorem slices_Equal_l0_ev (xs ys : List Int) (hl : xs.length = ys.length) (hx : xs.length ≤ 1000000000) : ∀ (as_ bs : List Int) (i : Nat), xs.drop i = as_ → ys.drop i = bs → Ev (fun k => slices_Equal_int64.l0 k xs ys (xs.length : Int) (i : Int)) (decide (as_ = bs))
 | [], [], i, hd, _ => by
  have := drop_nil hd
  exact Ev.step (fun k => by simp only [slices_Equal_int64.l0]; exact rfl) (evNeg (by omega) (evEq (Ev.now _) (by simp)))
 | [], y :: bs, i, hd, he => by
  have := drop_nil hd
  have := (drop_cons he).1
  omega
 | x :: as_, [], i, hd, he => by
  have := drop_nil he
  have := (drop_cons hd).1
  omega
 | x :: as_, y :: bs, i, hd, he => by
  obtain ⟨h2, h3, h4⟩ := drop_cons hd
  obtain ⟨g2, g3, g4⟩ := drop_cons he
  refine Ev.step (f := fun k => if x = y then slices_Equal_int64.l0 k xs ys (xs.length : Int) ((i + 1 : Nat) : Int) else some false) (fun k => ?_) ?_
  ·simp only [slices_Equal_int64.l0]
   rw [if_pos (by omega), if_pos (by omega), if_pos (by omega), if_pos (by omega), rd_at h4, rd_at g4, w64s (by omega)]
  ·by_cases c : x = y
   ·exact evPos c (evEq (slices_Equal_l0_ev xs ys hl hx as_ bs (i + 1) h3 g3) (by simp [c]))
   ·exact evNeg c (evEq (Ev.now _) (by simp [c]))
theorem slices_Equal_ev (xs ys : List Int) (hx : xs.length ≤ 1000000000) : Ev (fun k => slices_Equal_int64.f k xs ys) (decide (xs = ys)) := by
 simp only [slices_Equal_int64.f]
 by_cases c : (xs.length : Int) = (ys.length : Int)
 ·exact evPos c (slices_Equal_l0_ev xs ys (by omega) hx xs ys 0 rfl rfl)
 ·exact evNeg c (evEq (Ev.now _) (decide_eq_false (fun hh => c (by rw [hh]))).symm)
/-- Whether a table of right entries is what they are built to, but for its blocks. -/
def sameT (a b : ByteArray) (bits : List Int) (L : List S31) : Bool :=
 if a.toList = (rd_T31 L 0).f0.toList then (if b.toList = (rd_T31 L (wrap64 ((L.length : Int) - 1))).f0.toList then decide (bits = bitsOf L) else false) else false
noncomputable def tblOk (a b : ByteArray) (bits : List Int) (ss : List ByteArray) : Bool := (tblAll ss).2 && sameT a b bits (tblAll ss).1
theorem impl_entries_l0_ev (a b : ByteArray) (bits : List Int) (ss : List ByteArray) (hb : bits.length ≤ 1048576) (hl : ss.length ≤ 40) (hs : ∀ s ∈ ss, s.size ≤ 1048576) : ∀ (bs : List ByteArray) (i : Nat) (acc : List S31), ss.drop i = bs → acc.length + 8 * bs.length ≤ 1000000 → (acc ≠ [] ∨ bs ≠ []) →
  Ev (fun k => impl_entries.l0 k acc ss (ss.length : Int) (i : Int) a b bits ss) (if (allF acc bs).2 = true then ((allF acc bs).1, sameT a b bits (allF acc bs).1) else ([], false))
 | [], i, acc, hd, ha, hne => by
  have := drop_nil hd
  refine Ev.step (fun k => by simp only [impl_entries.l0]; exact rfl) (evNeg (by omega) (Ev.bind (impl_EntriesOk_ev acc) ?_))
  show Ev _ (if entriesOk acc = true then (acc, sameT a b bits acc) else ([], false))
  by_cases h : entriesOk acc = true
  ·rw [if_pos h]
   have h0 : acc ≠ [] := hne.elim id (fun hh => absurd rfl hh)
   refine evPos h (Ev.bind (impl_built_ev acc (entriesOk_le h) (entriesOk_all h) h0) ?_)
   unfold sameT
   by_cases c1 : a.toList = (rd_T31 acc 0).f0.toList
   ·rw [if_pos c1]
    refine evPos c1 ?_
    by_cases c2 : b.toList = (rd_T31 acc (wrap64 ((acc.length : Int) - 1))).f0.toList
    ·rw [if_pos c2]
     exact evPos c2 (Ev.bind (slices_Equal_ev bits _ (by omega)) (Ev.now _))
    ·rw [if_neg c2]
     exact evNeg c2 (Ev.now _)
   ·rw [if_neg c1]
    exact evNeg c1 (Ev.now _)
  ·rw [if_neg h]
   exact evNeg h (Ev.now _)
 | s :: bs, i, acc, hd, ha, hne => by
  obtain ⟨h2, h3, h4⟩ := drop_cons hd
  have e1 : rdOf ByteArray.empty ss (i : Int) = s := getD_at h4
  have hz := hs s (List.mem_of_getElem? h4)
  have un := impl_Unpacked_ev (bytesOf s) (by rw [bytesOf_length]; omega) (bytesOf_byte s)
  have hle := unpacked_le (bytesOf s)
  rw [List.length_cons] at ha
  rw [allF]
  generalize unpacked (bytesOf s) = u at un hle
  obtain ⟨L, g⟩ := u
  have wi : Ev (fun _ : Nat => impl_within.f (L.length : Int) 1 8) (within (L.length : Int) 1 8) := evId (fun _ => impl_within_eq _ _ _)
  refine Ev.step (f := fun k => (impl_Unpacked.f k (bytesOf s)).bind fun t => if t.2 = true then ((impl_within.f (t.1.length : Int) 1 8).bind fun q => if q = true then (if acc.length + t.1.length < 2932031007402 then impl_entries.l0 k (acc ++ t.1) ss (ss.length : Int) ((i + 1 : Nat) : Int) a b bits ss else none) else some ([], false)) else some ([], false)) (fun k => ?_) (Ev.bind un ?_)
  ·simp only [impl_entries.l0]
   rw [if_pos (by omega), if_pos (by omega), if_pos (by omega), e1, if_pos (by omega), w64s (by omega)]
  ·by_cases c1 : g = true
   ·refine evPos c1 (Ev.bind wi ?_)
    by_cases c2 : within (L.length : Int) 1 8 = true
    ·have c3 : 1 ≤ L.length ∧ L.length ≤ 8 := by
      unfold within at c2
      simp only [Bool.and_eq_true, decide_eq_true_eq] at c2
      omega
     simp only at hle
     rw [if_pos (show (g = true ∧ 1 ≤ L.length ∧ L.length ≤ 8) from ⟨c1, c3⟩)]
     refine evPos c2 (evPos (by simp only; omega) (impl_entries_l0_ev a b bits ss hb hl hs bs (i + 1) (acc ++ L) h3 (by rw [List.length_append]; omega) (Or.inl (fun hh => ?_))))
     have := congrArg List.length hh
     rw [List.length_append, List.length_nil] at this
     omega
    ·have c3 : ¬ (g = true ∧ 1 ≤ L.length ∧ L.length ≤ 8) := fun hh => c2 (by unfold within; simp only [Bool.and_eq_true, decide_eq_true_eq]; omega)
     rw [if_neg c3]
     exact evNeg c2 (Ev.now _)
   ·rw [if_neg (show ¬ (g = true ∧ 1 ≤ L.length ∧ L.length ≤ 8) from fun hh => c1 hh.1)]
    exact evNeg c1 (Ev.now _)
theorem impl_entries_ev (a b : ByteArray) (bits : List Int) (ss : List ByteArray) (hb : bits.length ≤ 1048576) (hs : ∀ s ∈ ss, s.size ≤ 1048576) : Ev (fun k => impl_entries.f k a b bits ss) (if (tblAll ss).2 = true then ((tblAll ss).1, sameT a b bits (tblAll ss).1) else ([], false)) := by
 simp only [impl_entries.f]
 refine Ev.bind (evId (fun _ => impl_within_eq _ _ _)) ?_
 unfold tblAll
 by_cases c : within (ss.length : Int) 1 40 = true
 ·rw [if_pos c]
  have c3 : 1 ≤ ss.length ∧ ss.length ≤ 40 := by
   unfold within at c
   simp only [Bool.and_eq_true, decide_eq_true_eq] at c
   omega
  exact evPos c (impl_entries_l0_ev a b bits ss hb c3.2 hs ss 0 [] rfl (by simp; omega) (Or.inr (fun hh => by rw [hh] at c3; simp at c3)))
 ·rw [if_neg c]
  exact evNeg c (Ev.now _)
theorem spec_TableOk_ev (a b : ByteArray) (bits : List Int) (ss : List ByteArray) (hb : bits.length ≤ 1048576) (hs : ∀ s ∈ ss, s.size ≤ 1048576) : Ev (fun k => spec_TableOk.f k a b bits ss) (tblOk a b bits ss) := by
 simp only [spec_TableOk.f]
 refine Ev.bind (spec_l5All_ev a b bits ss hs) ?_
 unfold tblOk sameT
 by_cases h : (tblAll ss).2 = true
 ·obtain ⟨ho, h0⟩ := tblAll_ok h
  have hl := entriesOk_le ho
  have hok := entriesOk_all ho
  generalize (tblAll ss).1 = L at ho h0 hl hok
  have hp : 0 < L.length := List.length_pos_iff.2 h0
  have hw : wrap64 ((L.length : Int) - 1) = (L.length : Int) - 1 := w64 (by omega) (by omega)
  rw [h, Bool.true_and]
  refine evPos rfl (evPos (by omega) ?_)
  by_cases c1 : a.toList = (rd_T31 L 0).f0.toList
  ·rw [if_pos c1]
   refine evPos c1 (evPos (by omega) (evPos (by omega) ?_))
   by_cases c2 : b.toList = (rd_T31 L (wrap64 ((L.length : Int) - 1))).f0.toList
   ·rw [if_pos c2]
    exact evPos c2 (Ev.bind (spec_l5Bits_ev L (by omega) (fun e he => by have := (entOk_iff.1 (hok e he)).1; omega)) (Ev.bind (spec_l5Same_ev bits _ (by omega)) (Ev.now _)))
   ·rw [if_neg c2]
    exact evNeg c2 (Ev.now _)
  ·rw [if_neg c1]
   exact evNeg c1 (Ev.now _)
 ·rw [Bool.eq_false_iff.2 h, Bool.false_and]
  exact evNeg Bool.false_ne_true (Ev.now _)

/-- A table's entries, if it is right. -/
noncomputable def tblEnt (a b : ByteArray) (bits : List Int) (ss : List ByteArray) : List S31 := if tblOk a b bits ss = true then (tblAll ss).1 else []
theorem tblEnt_le (a b : ByteArray) (bits : List Int) (ss : List ByteArray) : (tblEnt a b bits ss).length ≤ 300 := by
 unfold tblEnt
 by_cases h : tblOk a b bits ss = true
 ·rw [if_pos h]
  unfold tblOk at h
  rw [Bool.and_eq_true] at h
  exact entriesOk_le (tblAll_ok h.1).1
 ·rw [if_neg h]
  simp
theorem spec_Entries_ev (a b : ByteArray) (bits : List Int) (ss : List ByteArray) (hb : bits.length ≤ 1048576) (hs : ∀ s ∈ ss, s.size ≤ 1048576) : Ev (fun k => spec_Entries.f k a b bits ss) (tblEnt a b bits ss) := by
 simp only [spec_Entries.f]
 refine Ev.bind (spec_l5All_ev a b bits ss hs) (Ev.bind (spec_TableOk_ev a b bits ss hb hs) ?_)
 unfold tblEnt
 by_cases h : tblOk a b bits ss = true
 ·exact evPos h (evEq (Ev.now _) (if_pos h).symm)
 ·exact evNeg h (evEq (Ev.now _) (if_neg h).symm)
theorem impl_Entries_ev (a b : ByteArray) (bits : List Int) (ss : List ByteArray) (hb : bits.length ≤ 1048576) (hs : ∀ s ∈ ss, s.size ≤ 1048576) : Ev (fun k => impl_Entries.f k a b bits ss) (tblEnt a b bits ss) := by
 simp only [impl_Entries.f]
 refine Ev.bind (impl_entries_ev a b bits ss hb hs) ?_
 unfold tblEnt tblOk
 by_cases h : (tblAll ss).2 = true
 ·rw [if_pos h, h, Bool.true_and]
  by_cases c : sameT a b bits (tblAll ss).1 = true
  ·exact evPos c (evEq (Ev.now _) (if_pos c).symm)
  ·exact evNeg c (evEq (Ev.now _) (if_neg c).symm)
 ·rw [if_neg h, Bool.eq_false_iff.2 h, Bool.false_and]
  exact evNeg Bool.false_ne_true (Ev.now _)

theorem laws_eqEntry_self (e : S31) : laws_eqEntry.f e.f0 e.f1 e.f2 e.f3 e.f0 e.f1 e.f2 e.f3 = some true := by
 simp [laws_eqEntry.f]
theorem laws_eqEntryS_self (xs : List S31) (hl : xs.length ≤ 1000000000000000000) : Ev (fun k => laws_eqEntryS.f k xs xs) true := by
 simp only [laws_eqEntryS.f]
 refine evPos trivial (self_loop laws_eqEntryS.l0 (fun k xs i h => by simp only [laws_eqEntryS.l0]; rw [if_neg (by omega)]) (fun k xs i a hi ha h1 => ?_) xs hl)
 simp only [laws_eqEntryS.l0]
 rw [if_pos (by omega), if_pos (by omega), if_pos (by omega), laws_eqEntry_self, w64s (by omega)]
 rfl

theorem laws_markText_l0_ev (n : Nat) : ∀ (s : ByteArray), s.size + n ≤ 2000000000000000000 → ∃ t, Ev (fun k => laws_markText.l0 k (n : Int) s) t := by
 induction n using Nat.strongRecOn with
 | ind n ih =>
  intro s hs
  by_cases h : n = 0
  ·subst h
   refine ⟨_, Ev.step (f := fun _ => some ((⟨#[109]⟩ : ByteArray) ++ s)) (fun k => ?_) (Ev.now _)⟩
   simp only [laws_markText.l0]
   rw [if_neg (by simp), if_pos (by omega)]
  ·have hsz : (strOfNums [wrap64 (48 + Int.tmod (n : Int) 10) % 256]).size = 1 := by rw [strOfNums_size]; rfl
   obtain ⟨t, ht⟩ := ih (n / 10) (by omega) (strOfNums [wrap64 (48 + Int.tmod (n : Int) 10) % 256] ++ s) (by rw [ByteArray.size_append, hsz]; omega)
   refine ⟨t, Ev.step (f := fun k => laws_markText.l0 k ((n / 10 : Nat) : Int) (strOfNums [wrap64 (48 + Int.tmod (n : Int) 10) % 256] ++ s)) (fun k => ?_) ht⟩
   simp only [laws_markText.l0]
   rw [if_pos (by omega)]
   simp only [Option.bind_some]
   rw [if_pos (by rw [hsz]; omega), Int.tdiv_eq_ediv_of_nonneg (by omega), w64 (x := (n : Int) / 10) (by omega) (by omega)]
   rfl
theorem laws_markText_ex (a : Int) (h : a ≤ 1500000000000000000) : ∃ t, Ev (fun k => laws_markText.f k a) t := by
 simp only [laws_markText.f]
 by_cases h0 : a ≤ 0
 ·exact ⟨_, evPos h0 (Ev.now _)⟩
 ·obtain ⟨t, ht⟩ := laws_markText_l0_ev a.toNat (⟨#[]⟩ : ByteArray) (by show 0 + _ ≤ _; omega)
  rw [show ((a.toNat : Nat) : Int) = a by omega] at ht
  exact ⟨t, evNeg h0 ht⟩
/-- The text by which a place is marked. -/
noncomputable def mtx (a : Int) : ByteArray := by
 classical
 exact if h : ∃ t, Ev (fun k => laws_markText.f k a) t then Classical.choose h else ByteArray.empty
theorem mtx_ev (a : Int) (h : a ≤ 1500000000000000000) : Ev (fun k => laws_markText.f k a) (mtx a) := by
 unfold mtx
 rw [dif_pos (laws_markText_ex a h)]
 exact Classical.choose_spec (laws_markText_ex a h)

/-- The entry by which a place is marked. -/
noncomputable def mte (a : Int) : S31 := ⟨mtx a, mtx (a + 1), a + 2, ((a + 3) % 3 == 0)⟩
theorem getD_set {α : Type} (xs : List α) (i : Nat) (h : i < xs.length) (v d : α) : (xs.set i v).getD ((i : Int)).toNat d = v := by
 simp [List.getD_eq_getElem?_getD, List.getElem?_set, h]
theorem laws_markEntryS_ev (xs : List S31) (hl : xs.length ≤ 1000000000000000) (a : Int) (h1 : 1 ≤ a) (h2 : a ≤ 10000000000000000) : Ev (fun k => laws_markEntryS.f k xs a) (a + 4 * xs.length, marksOf mte 4 xs.length a) := by
 refine mark_loop laws_markEntryS.l0 mte 4 (by decide) (fun k xs a i h => ?_) (fun xs a i r h hi h1 h2 hr => ?_) xs hl a h1 h2
 ·simp only [laws_markEntryS.l0]
  rw [if_neg (by omega)]
 ·have e1 : wrap64 (a + 1) = a + 1 := w64 (by omega) (by omega)
  have e2 : wrap64 (a + 1 + 1) = a + 2 := w64 (x := a + 1 + 1) (by omega) (by omega) |>.trans (by omega)
  have e3 : wrap64 (a + 2 + 1) = a + 3 := w64 (x := a + 2 + 1) (by omega) (by omega) |>.trans (by omega)
  have e4 : wrap64 (a + 3 + 1) = a + 4 := w64 (x := a + 3 + 1) (by omega) (by omega) |>.trans (by omega)
  refine Ev.step (f := fun k => (laws_markText.f k a).bind fun t => (laws_markText.f k (a + 1)).bind fun u => laws_markEntryS.l0 k (xs.set i ⟨t, u, a + 2, ((a + 3) % 3 == 0)⟩) (a + 4) ((i + 1 : Nat) : Int)) (fun k => ?_) (Ev.bind (mtx_ev a (by omega)) (Ev.bind (mtx_ev (a + 1) (by omega)) hr))
  simp only [laws_markEntryS.l0]
  rw [if_pos (by omega)]
  simp only [if_pos (show (0 : Int) ≤ i by omega), Option.bind_some, e1, e2, e3, e4, w64s (show i ≤ 1000000000000000000 by omega), rd_T31, getD_set _ _ h, getD_set _ _ (show i < (xs.set i _).length by simpa using h), Int.toNat_natCast, List.set_set]
  congr 1
  funext t
  congr 1
  funext u
  rw [Int.tmod_eq_emod_of_nonneg (by omega)]
  have g1 : ∀ (ys : List S31) (v d : S31), i < ys.length → (ys.set i v).getD i d = v := fun ys v d hh => by simp [List.getD_eq_getElem?_getD, List.getElem?_set, hh]
  simp only [g1 _ _ _ h, g1 _ _ _ (show i < (xs.set i _).length by simpa using h)]

theorem laws_heldEntryS_ev (n : Nat) (hl : n ≤ 1000000000000000) (a : Int) (h1 : 1 ≤ a) (h2 : a ≤ 10000000000000000) : Ev (fun k => laws_heldEntryS.f k (marksOf mte 4 n a) a) (a + 4 * n) := by
 refine held_loop laws_heldEntryS.l0 mte 4 (by decide) (fun k xs a i h => ?_) (fun xs a i r h hi hi2 h1 h2 hr => ?_) n hl a h1 h2
 ·simp only [laws_heldEntryS.l0]
  rw [if_neg (by omega)]
 ·have e1 : wrap64 (a + 1) = a + 1 := w64 (by omega) (by omega)
  have e2 : wrap64 (a + 1 + 1) = a + 2 := w64 (x := a + 1 + 1) (by omega) (by omega) |>.trans (by omega)
  have e3 : wrap64 (a + 2 + 1) = a + 3 := w64 (x := a + 2 + 1) (by omega) (by omega) |>.trans (by omega)
  have e4 : wrap64 (a + 3 + 1) = a + 4 := w64 (x := a + 3 + 1) (by omega) (by omega) |>.trans (by omega)
  have e5 : rd_T31 xs (i : Int) = mte a := getD_at h
  have e6 : Int.tmod (a + 3) 3 = (a + 3) % 3 := Int.tmod_eq_emod_of_nonneg (by omega)
  refine Ev.step (fun k => by simp only [laws_heldEntryS.l0]; rw [if_pos (by omega), if_pos (by omega), e5, e1, e2, e3, e4, e6, w64s (by omega)]) ?_
  refine Ev.bind (mtx_ev a (by omega)) (evPos rfl (Ev.bind (mtx_ev (a + 1) (by omega)) (evPos rfl (evPos rfl (evNeg ?_ hr)))))
  simp [mte]

theorem laws_markInt64S_ev (xs : List Int) (hl : xs.length ≤ 1000000000000000) (a : Int) (h1 : 1 ≤ a) (h2 : a ≤ 10000000000000000) : Ev (fun k => laws_markInt64S.f k xs a) (a + 1 * xs.length, marksOf (fun a => a) 1 xs.length a) := by
 simp only [laws_markInt64S.f]
 refine mark_loop laws_markInt64S.l0 (fun a => a) 1 (by decide) (fun k xs a i h => by simp only [laws_markInt64S.l0]; rw [if_neg (by omega)]) (fun xs a i r hi hi2 ha hb h => ?_) xs hl a h1 h2
 refine Ev.step (fun k => ?_) h
 simp only [laws_markInt64S.l0]
 rw [if_pos (by omega), if_pos (by omega), w64 (x := a + 1) (by omega) (by omega), w64s (by omega), Int.toNat_natCast]

theorem laws_markStringS_ev (xs : List ByteArray) (hl : xs.length ≤ 1000000000000000) (a : Int) (h1 : 1 ≤ a) (h2 : a ≤ 10000000000000000) : Ev (fun k => laws_markStringS.f k xs a) (a + 1 * xs.length, marksOf mtx 1 xs.length a) := by
 refine mark_loop laws_markStringS.l0 mtx 1 (by decide) (fun k xs a i h => ?_) (fun xs a i r h hi h1 h2 hr => ?_) xs hl a h1 h2
 ·simp only [laws_markStringS.l0]
  rw [if_neg (by omega)]
 ·refine Ev.step (f := fun k => (laws_markText.f k a).bind fun t => laws_markStringS.l0 k (xs.set i t) (a + 1) ((i + 1 : Nat) : Int)) (fun k => ?_) (Ev.bind (mtx_ev a (by omega)) hr)
  simp only [laws_markStringS.l0]
  rw [if_pos (by omega)]
  simp only [if_pos (show (0 : Int) ≤ i by omega), w64s (show i ≤ 1000000000000000000 by omega), w64 (x := a + 1) (by omega) (by omega), Int.toNat_natCast]

theorem eqTable_self (a b : ByteArray) (xs : List Int) (ss : List ByteArray) (h1 : xs.length ≤ 1000000000000) (h2 : ss.length ≤ 1000000000000) : Ev (fun k => laws_eqTable.f k a b xs ss a b xs ss) true := by
 simp only [laws_eqTable.f]
 exact evPos (by simp) (evPos (by simp) (Ev.bind (laws_eqInt64S_self xs (by omega)) (evPos rfl (Ev.bind (laws_eqStringS_self ss (by omega)) (evPos rfl (Ev.now _))))))
theorem FnExactEntries (a b : ByteArray) (xs : List Int) (ss : List ByteArray) (ha : a.size ≤ maxLen) (hb : b.size ≤ maxLen) (hx : xs.length ≤ maxLen) (hxw : ∀ x ∈ xs, (Lit.int .i64 x).wf = true) (h1 : ss.length ≤ maxLen) (h2 : ∀ s ∈ ss, s.size ≤ maxLen) : ∃ k, laws_FnExactEntries.f k a b xs ss = some true := by
 refine Ev.rounds (g := fun k => laws_FnExactEntries.f k a b xs ss) ?_
 simp only [laws_FnExactEntries.f]
 obtain ⟨r, hr, hk⟩ := laws_szTable_ev a b xs ss ha hb hx h1 h2
 refine Ev.bind hr ?_
 by_cases h0 : r < 0
 ·exact evPos h0 (Ev.now _)
 obtain ⟨a1, a2, a3, a4, a5⟩ := hk (by omega)
 have toT := laws_toTable_ev a b xs ss a3 a4
 have sp := spec_Entries_ev a b xs ss a3 a5
 have im := impl_Entries_ev a b xs ss a3 a5
 have hd := tblEnt_le a b xs ss
 generalize tblEnt a b xs ss = d at sp im hd
 have hself := laws_eqEntryS_self d (by omega)
 have hmark := laws_markEntryS_ev d (by omega) 1 (by omega) (by omega)
 have hheld := laws_heldEntryS_ev d.length (by omega) 1 (by omega) (by omega)
 have hselfT := eqTable_self a b xs ss (by omega) (by omega)
 have q := laws_markInt64S_ev xs (by omega) 1 (by decide) (by decide)
 have w := laws_markStringS_ev ss (by omega) (1 + 1 * xs.length) (by omega) (by omega)
 have hmarkT : Ev (fun k => laws_markTable.f k a b xs ss 1) (1 + 1 * (xs.length : Int) + 1 * ss.length, marksOf (fun a => a) 1 xs.length 1, marksOf mtx 1 ss.length (1 + 1 * xs.length)) := by
  simp only [laws_markTable.f]
  exact Ev.bind q (Ev.bind w (Ev.now _))
 have t0 : Ev (fun k => laws_FnExactEntries.j0 k d d (!true) a b xs ss) true := by
  refine Ev.step (fun k => by simp only [laws_FnExactEntries.j0]; exact rfl) ?_
  exact evNeg (by decide) (Ev.bind hmark (Ev.bind hheld (evNeg (by omega) (evPos rfl (Ev.bind toT (Ev.bind im (Ev.bind hself (evPos rfl (Ev.bind hheld (evNeg (by omega) (evPos rfl (Ev.now _))))))))))))
 exact evNeg h0 (Ev.bind toT (Ev.bind sp (Ev.bind toT (Ev.bind im (Ev.bind hself (evPos rfl (Ev.bind toT (Ev.bind hselfT (evPos rfl (Ev.bind hmarkT (evNeg (by omega) (Ev.bind hself t0))))))))))))
end Go.Proofs.Ytaiggfjkikfcbaa.Pure

/- Proves the plain law behind this statement of the seat (what its functions come to, over numbers and lists): that it answers true. No condition beyond the statement's own. -/
import Derived.Test.YtaiggfjkikfcbaaPFnExactBuiltx
import Derived.Test.YtaiggfjkikfcbaaLib
import Derived.Test.YtaiggfjkikfcbaaLibHit
import Derived.Test.YtaiggfjkikfcbaaLibPu
import Derived.Test.YtaiggfjkikfcbaaLibRow
import Derived.Test.YtaiggfjkikfcbaaLibStr
namespace Go.Proofs.Ytaiggfjkikfcbaa.Pure
open Go Go.RowKit Go.Proofs.Ytaiggfjkikfcbaa.PFnExactBuilt Go.Proofs.YtaiggfjkikfcbaaW.PrintWords Go.Proofs.YtaiggfjkikfcbaaW.PrintLast Go.Proofs.YtaiggfjkikfcbaaW.PrintMore Go.Proofs.Ytaiggfjkikfcbaa.Lib
set_option linter.unusedVariables false
set_option linter.unusedSimpArgs false
def szE (left : Int) : List S24 → Int
  | [] => left
  | e :: xs => if left - e.f0.size < 0 ∨ left - e.f0.size - e.f1.size < 0 then -1 else szE (left - e.f0.size - e.f1.size) xs
theorem szE_bd : ∀ (xs : List S24) (left : Int), 0 ≤ szE left xs → 0 ≤ left → ∀ e ∈ xs, (e.f0.size : Int) ≤ left ∧ (e.f1.size : Int) ≤ left
  | [], _, _, _, s, hs => by simp at hs
  | x :: xs, left, h, h0, s, hs => by
    unfold szE at h
    by_cases hx : left - x.f0.size < 0 ∨ left - x.f0.size - x.f1.size < 0
    · rw [if_pos hx] at h; omega
    · rw [if_neg hx] at h
      rcases List.mem_cons.1 hs with rfl | hs
      · omega
      · have := szE_bd xs _ h (by omega) s hs
        omega
theorem szE_range : ∀ (xs : List S24) (left : Int), 0 ≤ left → -1 ≤ szE left xs ∧ szE left xs ≤ left
  | [], left, h => by unfold szE; omega
  | x :: xs, left, h => by
    unfold szE
    by_cases hx : left - x.f0.size < 0 ∨ left - x.f0.size - x.f1.size < 0
    · rw [if_pos hx]; omega
    · rw [if_neg hx]
      have := szE_range xs (left - x.f0.size - x.f1.size) (by omega)
      omega
theorem laws_szEntry_eq (e : S24) (left : Int) (h0 : 0 ≤ left) (h1 : left ≤ 1048576) (hb : e.f0.size ≤ maxLen ∧ e.f1.size ≤ maxLen) :
    laws_szEntry.f e.f0 e.f1 e.f2 e.f3 left = some (if left - e.f0.size < 0 ∨ left - e.f0.size - e.f1.size < 0 then -1 else left - e.f0.size - e.f1.size) := by
  have hm : maxLen = 9223372036854775807 := rfl
  have e1 : wrap64 (left - (e.f0.size : Int)) = left - e.f0.size := w64 (by omega) (by omega)
  simp only [laws_szEntry.f, e1]
  by_cases hx : left - (e.f0.size : Int) < 0
  · rw [if_pos hx, if_pos (Or.inl hx)]
  · have e2 : wrap64 (left - (e.f0.size : Int) - (e.f1.size : Int)) = left - e.f0.size - e.f1.size := w64 (by omega) (by omega)
    rw [if_neg hx, e2]
    by_cases hy : left - (e.f0.size : Int) - (e.f1.size : Int) < 0
    · rw [if_pos hy, if_pos (Or.inr hy)]
    · rw [if_neg hy, if_neg (fun h => h.elim hx hy)]
theorem laws_szEntryS_l0_ev (xs : List S24) (hl : xs.length ≤ 1000000000000000000) (hs : ∀ e ∈ xs, e.f0.size ≤ maxLen ∧ e.f1.size ≤ maxLen) : ∀ (bs : List S24) (i : Nat) (left : Int), xs.drop i = bs → 0 ≤ left → left ≤ 1048576 → Ev (fun k => laws_szEntryS.l0 k xs left i) (szE left bs)
  | [], i, left, hd, h0, h1 => by
    have := drop_nil hd
    refine Ev.step (f := fun _ => some left) (fun k => ?_) (Ev.now _)
    simp only [laws_szEntryS.l0]
    rw [if_neg (by omega)]
  | b :: bs, i, left, hd, h0, h1 => by
    obtain ⟨h2, h3, h4⟩ := drop_cons hd
    have e1 : rd_T24 xs (i : Int) = b := getD_at h4
    have e2 := laws_szEntry_eq b left h0 h1 (hs b (List.mem_of_getElem? h4))
    unfold szE
    by_cases hx : left - b.f0.size < 0 ∨ left - b.f0.size - b.f1.size < 0
    · rw [if_pos hx] at e2 ⊢
      refine Ev.step (f := fun _ => some (-1)) (fun k => ?_) (Ev.now _)
      simp only [laws_szEntryS.l0]
      rw [if_pos (by omega), if_pos (by omega), e1, e2]
      rfl
    · rw [if_neg hx] at e2 ⊢
      refine Ev.step (f := fun k => laws_szEntryS.l0 k xs (left - b.f0.size - b.f1.size) ((i + 1 : Nat) : Int)) (fun k => ?_) (laws_szEntryS_l0_ev xs hl hs bs (i + 1) _ h3 (by omega) (by omega))
      simp only [laws_szEntryS.l0]
      rw [if_pos (by omega), if_pos (by omega), e1, e2]
      simp only [Option.bind_some]
      rw [if_neg (by omega), w64s (by omega)]
theorem laws_szEntryS_ev (xs : List S24) (hl : xs.length ≤ maxLen) (hs : ∀ e ∈ xs, e.f0.size ≤ maxLen ∧ e.f1.size ≤ maxLen) (left : Int) (h0 : 0 ≤ left) (h1 : left ≤ 1048576) :
    ∃ r, Ev (fun k => laws_szEntryS.f k xs left) r ∧ -1 ≤ r ∧ r ≤ left ∧ (0 ≤ r → (xs.length : Int) ≤ left ∧ ∀ e ∈ xs, (e.f0.size : Int) ≤ left ∧ (e.f1.size : Int) ≤ left) := by
  have hm : maxLen = 9223372036854775807 := rfl
  have e : wrap64 (left - (xs.length : Int)) = left - xs.length := w64 (by omega) (by omega)
  by_cases h : left - (xs.length : Int) < 0
  · refine ⟨-1, ?_, by omega, by omega, fun h => by omega⟩
    simp only [laws_szEntryS.f]
    exact evPos (by rw [e]; exact h) (Ev.now _)
  · refine ⟨szE (left - xs.length) xs, ?_, ?_, ?_, fun hr => ⟨by omega, fun s h' => ?_⟩⟩
    · simp only [laws_szEntryS.f]
      refine evNeg (by rw [e]; exact h) ?_
      rw [e]
      exact laws_szEntryS_l0_ev xs (by omega) hs xs 0 _ rfl (by omega) (by omega)
    · exact (szE_range xs _ (by omega)).1
    · have := (szE_range xs (left - xs.length) (by omega)).2; omega
    · have := szE_bd xs _ hr (by omega) s h'; omega

/-- The law's record as the program's. -/
def toE (x : S24) : S31 := ⟨x.f0, x.f1, x.f2, x.f3⟩
theorem laws_toEntryS_ev (xs : List S24) (hl : xs.length ≤ 5864062014805) : Ev (fun k => laws_toEntryS.f k xs) (xs.map toE) := by
  simp only [laws_toEntryS.f]
  refine evPos (by omega) (evPos (by omega) ?_)
  exact copy_loop laws_toEntryS.l0 toE z31 (fun k xs ys i h => by simp only [laws_toEntryS.l0]; rw [if_neg (by omega)])
    (fun k xs ys i a hi ha h1 h2 => by
      simp only [laws_toEntryS.l0, laws_toEntry.f, Option.bind_some]
      rw [if_pos (by omega), if_pos (by omega), if_pos (by omega), w64s (by omega), show rd_T24 xs (i : Int) = a from getD_at ha, Int.toNat_natCast]
      rfl) xs (by omega)

theorem laws_eqEntry_self (e : S31) : laws_eqEntry.f e.f0 e.f1 e.f2 e.f3 e.f0 e.f1 e.f2 e.f3 = some true := by
  simp [laws_eqEntry.f]
theorem laws_eqEntryS_self (xs : List S31) (hl : xs.length ≤ 1000000000000000000) : Ev (fun k => laws_eqEntryS.f k xs xs) true := by
  simp only [laws_eqEntryS.f]
  refine evPos trivial (self_loop laws_eqEntryS.l0 (fun k xs i h => by simp only [laws_eqEntryS.l0]; rw [if_neg (by omega)]) (fun k xs i a hi ha h1 => ?_) xs hl)
  simp only [laws_eqEntryS.l0]
  rw [if_pos (by omega), if_pos (by omega), if_pos (by omega), laws_eqEntry_self, w64s (by omega)]
  rfl

theorem laws_markText_l0_ev (n : Nat) : ∀ (s : ByteArray), s.size + n ≤ 2000000000000000000 → ∃ t, Ev (fun k => laws_markText.l0 k (n : Int) s) t := by
  induction n using Nat.strongRecOn with
  | ind n ih =>
    intro s hs
    by_cases h : n = 0
    · subst h
      refine ⟨_, Ev.step (f := fun _ => some ((⟨#[109]⟩ : ByteArray) ++ s)) (fun k => ?_) (Ev.now _)⟩
      simp only [laws_markText.l0]
      rw [if_neg (by simp), if_pos (by omega)]
    · have hsz : (strOfNums [wrap64 (48 + Int.tmod (n : Int) 10) % 256]).size = 1 := by rw [strOfNums_size]; rfl
      obtain ⟨t, ht⟩ := ih (n / 10) (by omega) (strOfNums [wrap64 (48 + Int.tmod (n : Int) 10) % 256] ++ s) (by rw [ByteArray.size_append, hsz]; omega)
      refine ⟨t, Ev.step (f := fun k => laws_markText.l0 k ((n / 10 : Nat) : Int) (strOfNums [wrap64 (48 + Int.tmod (n : Int) 10) % 256] ++ s)) (fun k => ?_) ht⟩
      simp only [laws_markText.l0]
      rw [if_pos (by omega)]
      simp only [Option.bind_some]
      rw [if_pos (by rw [hsz]; omega), Int.tdiv_eq_ediv_of_nonneg (by omega), w64 (x := (n : Int) / 10) (by omega) (by omega)]
      rfl
theorem laws_markText_ex (a : Int) (h : a ≤ 1500000000000000000) : ∃ t, Ev (fun k => laws_markText.f k a) t := by
  simp only [laws_markText.f]
  by_cases h0 : a ≤ 0
  · exact ⟨_, evPos h0 (Ev.now _)⟩
  · obtain ⟨t, ht⟩ := laws_markText_l0_ev a.toNat (⟨#[]⟩ : ByteArray) (by show 0 + _ ≤ _; omega)
    rw [show ((a.toNat : Nat) : Int) = a by omega] at ht
    exact ⟨t, evNeg h0 ht⟩
/-- The text by which a place is marked. -/
noncomputable def mtx (a : Int) : ByteArray := by
  classical
  exact if h : ∃ t, Ev (fun k => laws_markText.f k a) t then Classical.choose h else ByteArray.empty
theorem mtx_ev (a : Int) (h : a ≤ 1500000000000000000) : Ev (fun k => laws_markText.f k a) (mtx a) := by
  unfold mtx
  rw [dif_pos (laws_markText_ex a h)]
  exact Classical.choose_spec (laws_markText_ex a h)

/-- The entry by which a place is marked. -/
noncomputable def mte (a : Int) : S31 := ⟨mtx a, mtx (a + 1), a + 2, ((a + 3) % 3 == 0)⟩
theorem getD_set {α : Type} (xs : List α) (i : Nat) (h : i < xs.length) (v d : α) : (xs.set i v).getD ((i : Int)).toNat d = v := by
  simp [List.getD_eq_getElem?_getD, List.getElem?_set, h]
theorem laws_markEntryS_ev (xs : List S31) (hl : xs.length ≤ 1000000000000000) (a : Int) (h1 : 1 ≤ a) (h2 : a ≤ 10000000000000000) : Ev (fun k => laws_markEntryS.f k xs a) (a + 4 * xs.length, marksOf mte 4 xs.length a) := by
  refine mark_loop laws_markEntryS.l0 mte 4 (by decide) (fun k xs a i h => ?_) (fun xs a i r h hi h1 h2 hr => ?_) xs hl a h1 h2
  · simp only [laws_markEntryS.l0]
    rw [if_neg (by omega)]
  · have e1 : wrap64 (a + 1) = a + 1 := w64 (by omega) (by omega)
    have e2 : wrap64 (a + 1 + 1) = a + 2 := w64 (x := a + 1 + 1) (by omega) (by omega) |>.trans (by omega)
    have e3 : wrap64 (a + 2 + 1) = a + 3 := w64 (x := a + 2 + 1) (by omega) (by omega) |>.trans (by omega)
    have e4 : wrap64 (a + 3 + 1) = a + 4 := w64 (x := a + 3 + 1) (by omega) (by omega) |>.trans (by omega)
    refine Ev.step (f := fun k => (laws_markText.f k a).bind fun t => (laws_markText.f k (a + 1)).bind fun u => laws_markEntryS.l0 k (xs.set i ⟨t, u, a + 2, ((a + 3) % 3 == 0)⟩) (a + 4) ((i + 1 : Nat) : Int)) (fun k => ?_) (Ev.bind (mtx_ev a (by omega)) (Ev.bind (mtx_ev (a + 1) (by omega)) hr))
    simp only [laws_markEntryS.l0]
    rw [if_pos (by omega)]
    simp only [if_pos (show (0 : Int) ≤ i by omega), Option.bind_some, e1, e2, e3, e4, w64s (show i ≤ 1000000000000000000 by omega), rd_T31, getD_set _ _ h, getD_set _ _ (show i < (xs.set i _).length by simpa using h), Int.toNat_natCast, List.set_set]
    congr 1
    funext t
    congr 1
    funext u
    rw [Int.tmod_eq_emod_of_nonneg (by omega)]
    have g1 : ∀ (ys : List S31) (v d : S31), i < ys.length → (ys.set i v).getD i d = v := fun ys v d hh => by simp [List.getD_eq_getElem?_getD, List.getElem?_set, hh]
    simp only [g1 _ _ _ h, g1 _ _ _ (show i < (xs.set i _).length by simpa using h)]

theorem spec_Digest_l0_ev (s : ByteArray) (hs : s.size ≤ 140737488351232) : ∀ (bs : List Int) (i : Nat) (h : Int), (bytesOf s).drop i = bs → 0 ≤ h → h < 2147483647 → Ev (fun k => spec_Digest.l0 k s h i) (dig h bs)
  | [], i, h, hd, h0, h1 => by
    have := bdrop_nil hd
    refine Ev.step (f := fun _ => some h) (fun k => ?_) (Ev.now _)
    simp only [spec_Digest.l0]
    rw [if_neg (by omega)]
  | b :: bs, i, h, hd, h0, h1 => by
    obtain ⟨h2, h3, h4, h5, h6⟩ := bdrop_cons hd
    refine Ev.step (f := fun k => spec_Digest.l0 k s (dstep h b) ((i + 1 : Nat) : Int)) (fun k => ?_) (spec_Digest_l0_ev s hs bs (i + 1) _ h3 (dstep_bd h b).1 (dstep_bd h b).2)
    simp only [spec_Digest.l0]
    rw [if_pos (by omega), if_pos (by omega), h4, dstep_eq h0 h1 h5 h6, w64s (by omega)]
theorem spec_Digest_ev (s : ByteArray) (hs : s.size ≤ 140737488351232) : Ev (fun k => spec_Digest.f k s) (digest s) :=
  spec_Digest_l0_ev s hs (bytesOf s) 0 1 rfl (by decide) (by decide)
theorem impl_Digest_l0_ev (s : ByteArray) (hs : s.size ≤ 140737488351232) : ∀ (bs : List Int) (i : Nat) (h : Int), (bytesOf s).drop i = bs → 0 ≤ h → h < 2147483647 → Ev (fun k => impl_Digest.l0 k s h (s.size : Int) i) (dig h bs)
  | [], i, h, hd, h0, h1 => by
    have := bdrop_nil hd
    refine Ev.step (f := fun _ => some h) (fun k => ?_) (Ev.now _)
    simp only [impl_Digest.l0]
    rw [if_neg (by omega)]
  | b :: bs, i, h, hd, h0, h1 => by
    obtain ⟨h2, h3, h4, h5, h6⟩ := bdrop_cons hd
    refine Ev.step (f := fun k => impl_Digest.l0 k s (dstep h b) (s.size : Int) ((i + 1 : Nat) : Int)) (fun k => ?_) (impl_Digest_l0_ev s hs bs (i + 1) _ h3 (dstep_bd h b).1 (dstep_bd h b).2)
    simp only [impl_Digest.l0]
    rw [if_pos (by omega), if_pos (by omega), if_pos (by omega), h4, dstep_eq h0 h1 h5 h6, w64s (by omega)]
theorem impl_Digest_ev (s : ByteArray) (hs : s.size ≤ 140737488351232) : Ev (fun k => impl_Digest.f k s) (digest s) :=
  impl_Digest_l0_ev s hs (bytesOf s) 0 1 rfl (by decide) (by decide)

def Inc (l : List Int) : Prop := l.Pairwise (fun x y => x < y)
theorem inc_uniq : ∀ (a b : List Int), Inc a → Inc b → (∀ x, x ∈ a ↔ x ∈ b) → a = b
  | [], [], _, _, _ => rfl
  | [], y :: b, _, _, h => absurd ((h y).2 List.mem_cons_self) (by simp)
  | x :: a, [], _, _, h => absurd ((h x).1 List.mem_cons_self) (by simp)
  | x :: a, y :: b, ha, hb, h => by
    obtain ⟨a1, a2⟩ := List.pairwise_cons.1 ha
    obtain ⟨b1, b2⟩ := List.pairwise_cons.1 hb
    have hxy : x = y := by
      have h1 := (h x).1 List.mem_cons_self
      have h2 := (h y).2 List.mem_cons_self
      rcases List.mem_cons.1 h1 with h1 | h1
      · exact h1
      · rcases List.mem_cons.1 h2 with h2 | h2
        · exact h2.symm
        · have := a1 y h2
          have := b1 x h1
          omega
    subst hxy
    congr 1
    refine inc_uniq a b a2 b2 (fun z => ?_)
    constructor
    · intro hz
      have hz1 := a1 z hz
      rcases List.mem_cons.1 ((h z).1 (List.mem_cons_of_mem _ hz)) with h1 | h1
      · omega
      · exact h1
    · intro hz
      have hz1 := b1 z hz
      rcases List.mem_cons.1 ((h z).2 (List.mem_cons_of_mem _ hz)) with h1 | h1
      · omega
      · exact h1
/-- A number into a list that rises. -/
def put5 : List Int → Int → List Int
  | [], n => [n]
  | x :: xs, n => if x < n then x :: put5 xs n else if x = n then x :: xs else n :: x :: xs
theorem put5_mem : ∀ (l : List Int) (n x : Int), x ∈ put5 l n ↔ x = n ∨ x ∈ l
  | [], n, x => by simp [put5]
  | y :: l, n, x => by
    unfold put5
    split
    · rw [List.mem_cons, put5_mem l n x, List.mem_cons]
      constructor
      · rintro (h | h | h) <;> simp [h]
      · rintro (h | h | h) <;> simp [h]
    · split
      · rename_i h
        subst h
        simp
      · simp
theorem put5_inc : ∀ (l : List Int) (n : Int), Inc l → Inc (put5 l n)
  | [], n, _ => List.pairwise_singleton _ _
  | y :: l, n, h => by
    obtain ⟨h1, h2⟩ := List.pairwise_cons.1 h
    unfold put5
    split
    · rename_i hy
      refine List.Pairwise.cons (fun z hz => ?_) (put5_inc l n h2)
      rcases (put5_mem l n z).1 hz with rfl | hz
      · exact hy
      · exact h1 z hz
    · rename_i hy
      split
      · exact h
      · refine List.Pairwise.cons (fun z hz => ?_) h
        rcases List.mem_cons.1 hz with rfl | hz
        · omega
        · have := h1 z hz; omega
theorem put5_length : ∀ (l : List Int) (n : Int), (put5 l n).length ≤ l.length + 1
  | [], n => by simp [put5]
  | y :: l, n => by
    have := put5_length l n
    unfold put5
    split
    · simp only [List.length_cons]; omega
    · split <;> simp only [List.length_cons] <;> omega
/-- All of a list, each once, in order. -/
def once (l : List Int) : List Int := l.foldl put5 []
theorem foldl_put5 : ∀ (l acc : List Int), Inc acc → Inc (l.foldl put5 acc) ∧ ∀ x, x ∈ l.foldl put5 acc ↔ x ∈ acc ∨ x ∈ l
  | [], acc, h => ⟨h, fun x => by simp⟩
  | n :: l, acc, h => by
    obtain ⟨h1, h2⟩ := foldl_put5 l (put5 acc n) (put5_inc acc n h)
    refine ⟨h1, fun x => ?_⟩
    rw [List.foldl_cons, h2, put5_mem, List.mem_cons]
    constructor
    · rintro ((h | h) | h) <;> simp [h]
    · rintro (h | h | h) <;> simp [h]
theorem once_inc (l : List Int) : Inc (once l) := (foldl_put5 l [] List.Pairwise.nil).1
theorem once_mem (l : List Int) (x : Int) : x ∈ once l ↔ x ∈ l := by
  have := (foldl_put5 l [] List.Pairwise.nil).2 x
  unfold once
  rw [this]
  simp
theorem once_length (l : List Int) : (once l).length ≤ l.length := by
  have h : ∀ (l acc : List Int), (l.foldl put5 acc).length ≤ acc.length + l.length := by
    intro l
    induction l with
    | nil => intro acc; simp
    | cons n l ih =>
      intro acc
      have h1 := ih (put5 acc n)
      have h2 := put5_length acc n
      rw [List.foldl_cons, List.length_cons]
      omega
  have := h l []
  simpa [once] using this
theorem compact_get {l : List Int} {j : Nat} (h : j < l.length) : l.toArray[j]! = l[j] := by simp [h]
theorem compact_mem (l : List Int) (x : Int) : x ∈ Lib.compact l ↔ x ∈ l := by
  unfold Lib.compact Lib.compactUpTo
  constructor
  · intro h
    obtain ⟨j, hj, rfl⟩ := List.mem_map.1 h
    have h1 := List.mem_range.1 (List.mem_filter.1 hj).1
    rw [compact_get h1]
    exact List.getElem_mem h1
  · intro h
    obtain ⟨j, hj, rfl⟩ := List.getElem_of_mem h
    have hh : ∀ (j : Nat) (hj : j < l.length), l[j] ∈ ((List.range l.length).filter (Lib.keeps l.toArray)).map (l.toArray[·]!) := by
      intro j
      induction j with
      | zero =>
        intro hj
        refine List.mem_map.2 ⟨0, List.mem_filter.2 ⟨List.mem_range.2 hj, by simp [Lib.keeps]⟩, compact_get hj⟩
      | succ j ih =>
        intro hj
        by_cases hk : Lib.keeps l.toArray (j + 1) = true
        · exact List.mem_map.2 ⟨j + 1, List.mem_filter.2 ⟨List.mem_range.2 hj, hk⟩, compact_get hj⟩
        · have e : l[j + 1] = l[j] := by
            unfold Lib.keeps at hk
            rw [decide_eq_true_eq] at hk
            have h2 := Decidable.of_not_not (fun hh => hk (Or.inr hh))
            rw [compact_get hj, Nat.add_sub_cancel, compact_get (by omega)] at h2
            exact h2
          rw [e]
          exact ih (by omega)
    exact hh j hj
theorem compact_inc (l : List Int) (h : l.Pairwise (fun x y => x ≤ y)) : Inc (Lib.compact l) := by
  unfold Lib.compact Lib.compactUpTo Inc
  rw [List.pairwise_map]
  have h1 : ((List.range l.length).filter (Lib.keeps l.toArray)).Pairwise (fun i j => i < j) := List.Pairwise.filter _ List.pairwise_lt_range
  have h2 : ((List.range l.length).filter (Lib.keeps l.toArray)).Pairwise (fun i j => (i < j ∧ i < l.length ∧ j < l.length) ∧ Lib.keeps l.toArray j = true) := by
    refine List.Pairwise.imp_of_mem ?_ h1
    intro a b ha hb hab
    exact ⟨⟨hab, List.mem_range.1 (List.mem_filter.1 ha).1, List.mem_range.1 (List.mem_filter.1 hb).1⟩, (List.mem_filter.1 hb).2⟩
  refine h2.imp ?_
  rintro i j ⟨⟨hij, hi, hj⟩, hk⟩
  rw [compact_get hi, compact_get hj]
  have hs := List.pairwise_iff_getElem.1 h
  unfold Lib.keeps at hk
  rw [decide_eq_true_eq] at hk
  have hne : l[j] ≠ l[j - 1]'(by omega) := by
    rcases hk with hk | hk
    · omega
    · rwa [compact_get hj, compact_get (show j - 1 < l.length by omega)] at hk
  have h3 : l[j - 1]'(by omega) ≤ l[j] := hs (j - 1) j (by omega) hj (by omega)
  have h4 : l[i] ≤ l[j - 1]'(by omega) := by
    by_cases e : i = j - 1
    · subst e; exact Int.le_refl _
    · exact hs i (j - 1) hi (by omega) (by omega)
  omega
theorem compact_sorted_once (l : List Int) : Lib.compact (l.mergeSort fun x y => decide (x ≤ y)) = once l := by
  refine inc_uniq _ _ (compact_inc _ ?_) (once_inc l) (fun x => ?_)
  · have := List.pairwise_mergeSort (le := fun (x y : Int) => decide (x ≤ y)) (fun a b c h1 h2 => by simp only [decide_eq_true_eq] at *; omega) (fun a b => by simp only [Bool.or_eq_true, decide_eq_true_eq]; omega) l
    exact this.imp (fun h => by simpa using h)
  · rw [compact_mem, once_mem]
    exact (List.mergeSort_perm l _).mem_iff

/-- The two marks of a key. -/
def mk5 (s : ByteArray) : List Int := [Int.tmod (digest s) 256, Int.tmod (digest (s ++ (⟨#[42]⟩ : ByteArray))) 256]
def b5 (s : ByteArray) : List Int := put5 [Int.tmod (digest s) 256] (Int.tmod (digest (s ++ (⟨#[42]⟩ : ByteArray))) 256)
theorem star_size (s : ByteArray) : (s ++ (⟨#[42]⟩ : ByteArray)).size = s.size + 1 := by
  rw [ByteArray.size_append]
  rfl
theorem impl_marks_ev (s : ByteArray) (hs : s.size ≤ 1000000) : Ev (fun k => impl_marks.f k s) (mk5 s) := by
  simp only [impl_marks.f]
  exact Ev.bind (impl_Digest_ev s (by omega)) (evPos (by omega) (Ev.bind (impl_Digest_ev _ (by rw [star_size]; omega)) (Ev.now _)))
theorem spec_l5Put_l0_ev (l : List Int) (n : Int) (hl : l.length ≤ 1000000000) : ∀ (bs : List Int) (i : Nat), l.drop i = bs → i ≤ l.length → Ev (fun k => spec_l5Put.l0 k l n (i : Int)) (l.take i ++ put5 bs n)
  | [], i, hd, hi => by
    have := drop_nil hd
    refine Ev.step (fun k => by simp only [spec_l5Put.l0]; exact rfl) ?_
    refine evNeg (by omega) (Ev.bind (Ev.now _) (evPos (by omega) (evPos (by omega) (Ev.bind (Ev.now _) (evPos ?_ (Ev.bind (Ev.now _) (evPos ?_ (Ev.bind (Ev.now _) (Ev.bind (Ev.now _) (evPos ?_ (evEq (Ev.now _) ?_)))))))))))
    · simp; omega
    · simp; omega
    · simp; omega
    · simp [put5, hd]
  | x :: bs, i, hd, hi => by
    obtain ⟨h2, h3, h4⟩ := drop_cons hd
    have e1 : rd l (i : Int) = x := rd_at h4
    have et : l.take (i + 1) = l.take i ++ [x] := by rw [List.take_add_one, h4]; rfl
    by_cases c : x < n
    · refine Ev.step (f := fun k => spec_l5Put.l0 k l n ((i + 1 : Nat) : Int)) (fun k => ?_) (evEq (spec_l5Put_l0_ev l n hl bs (i + 1) h3 (by omega)) ?_)
      · simp only [spec_l5Put.l0]
        rw [if_pos (by omega), if_pos (by omega), e1, if_pos c, w64s (by omega)]
      · rw [put5, if_pos c, et, List.append_assoc]
        rfl
    · by_cases c2 : x = n
      · refine Ev.step (f := fun _ => some l) (fun k => ?_) (evEq (Ev.now _) ?_)
        · simp only [spec_l5Put.l0]
          rw [if_pos (by omega), if_pos (by omega), e1, if_neg c, if_pos c2]
        · rw [put5, if_neg c, if_pos c2, ← hd, List.take_append_drop]
      · refine Ev.step (fun k => by simp only [spec_l5Put.l0]; exact rfl) ?_
        refine evPos (by omega) (evPos (by omega) (evNeg (by rw [e1]; exact c) (evNeg (by rw [e1]; exact c2) (Ev.bind (Ev.now _) (evPos (by omega) (Ev.bind (Ev.now _) (evPos ?_ (Ev.bind (Ev.now _) (evPos ?_ (Ev.bind (Ev.now _) (Ev.bind (Ev.now _) (evPos ?_ (evEq (Ev.now _) ?_)))))))))))))
        · simp; omega
        · simp; omega
        · simp; omega
        · rw [put5, if_neg c, if_neg c2]
          simp [hd]
theorem spec_l5Put_ev (l : List Int) (n : Int) (hl : l.length ≤ 1000000000) : Ev (fun k => spec_l5Put.f k l n) (put5 l n) := by
  simp only [spec_l5Put.f]
  have := spec_l5Put_l0_ev l n hl l 0 rfl (Nat.zero_le _)
  rwa [List.take_zero, List.nil_append] at this
theorem spec_l5Marks_ev (s : ByteArray) (hs : s.size ≤ 1000000) : Ev (fun k => spec_l5Marks.f k s) (b5 s) := by
  simp only [spec_l5Marks.f]
  exact Ev.bind (spec_Digest_ev s (by omega)) (evPos (by omega) (Ev.bind (spec_Digest_ev _ (by rw [star_size]; omega)) (Ev.bind (spec_l5Put_ev _ _ (by simp)) (Ev.now _))))
theorem b5_length (s : ByteArray) : (b5 s).length ≤ 2 := put5_length _ _
theorem b5_mem (s : ByteArray) (x : Int) : x ∈ b5 s ↔ x ∈ mk5 s := by
  unfold b5 mk5
  rw [put5_mem]
  simp only [List.mem_cons, List.not_mem_nil, or_false]
  exact Or.comm

/-- Is an entry right? -/
def entOk (e : S31) : Bool := within e.f0.size 1 40 && (decide ((e.f1.size : Int) ≤ 200) && ((!e.f3 || decide (e.f1.toList = ([] : List UInt8))) && within e.f2 1 1000000))
/-- Is the one ahead of the other? -/
def ahead (a b : S31) : Bool := Op.bytesLess a.f0.toList b.f0.toList || (decide (a.f0.toList = b.f0.toList) && decide (a.f2 > b.f2))
def okL : Option S31 → List S31 → Bool
  | _, [] => true
  | p, e :: es => entOk e && ((match p with | none => true | some q => ahead q e) && okL (some e) es)
def entriesOk (xs : List S31) : Bool := decide (xs.length ≤ 300) && okL none xs
theorem entOk_iff {e : S31} : entOk e = true ↔ (1 ≤ e.f0.size ∧ e.f0.size ≤ 40) ∧ e.f1.size ≤ 200 ∧ (e.f3 = true → e.f1.toList = []) ∧ 1 ≤ e.f2 ∧ e.f2 ≤ 1000000 := by
  unfold entOk within
  simp only [Bool.and_eq_true, Bool.or_eq_true, decide_eq_true_eq, Bool.not_eq_true']
  constructor
  · rintro ⟨⟨h1, h2⟩, h3, h4, h5, h6⟩
    refine ⟨⟨by omega, by omega⟩, by omega, fun hg => ?_, h5, h6⟩
    rcases h4 with h4 | h4
    · rw [hg] at h4; cases h4
    · exact h4
  · rintro ⟨⟨h1, h2⟩, h3, h4, h5, h6⟩
    refine ⟨⟨by omega, by omega⟩, by omega, ?_, h5, h6⟩
    cases h : e.f3 with
    | false => exact Or.inl rfl
    | true => exact Or.inr (h4 h)
/-- The entry ahead of place i. -/
def prev (xs : List S31) (i : Nat) : Option S31 := if i = 0 then none else xs[i - 1]?
theorem prev_succ {xs : List S31} {i : Nat} {e : S31} (h : xs[i]? = some e) : prev xs (i + 1) = some e := by
  unfold prev
  rw [if_neg (by omega), show i + 1 - 1 = i by omega, h]

theorem foldl_put5_length : ∀ (l acc : List Int), (l.foldl put5 acc).length ≤ acc.length + l.length
  | [], acc => by simp
  | n :: l, acc => by
    have h1 := foldl_put5_length l (put5 acc n)
    have h2 := put5_length acc n
    rw [List.foldl_cons, List.length_cons]
    omega
theorem spec_l5Bits_l1_ev (xs : List S31) (ms : List Int) (hm : ms.length ≤ 10) (i : Nat) (hi : i ≤ 1000000000) (R : List Int) : ∀ (bs : List Int) (j : Nat) (acc : List Int), ms.drop j = bs → acc.length + bs.length ≤ 1000000000 → Ev (fun k => spec_l5Bits.l0 k xs (bs.foldl put5 acc) ((i + 1 : Nat) : Int)) R → Ev (fun k => spec_l5Bits.l1 k xs acc (i : Int) ms (j : Int)) R
  | [], j, acc, hd, ha, h => by
    have := drop_nil hd
    refine Ev.step (f := fun k => spec_l5Bits.l0 k xs acc ((i + 1 : Nat) : Int)) (fun k => ?_) h
    simp only [spec_l5Bits.l1]
    rw [if_neg (by omega), w64s (by omega)]
  | x :: bs, j, acc, hd, ha, h => by
    obtain ⟨h2, h3, h4⟩ := drop_cons hd
    have e1 : rd ms (j : Int) = x := rd_at h4
    rw [List.length_cons] at ha
    have hp := put5_length acc x
    refine Ev.step (f := fun k => (spec_l5Put.f k acc x).bind fun t => spec_l5Bits.l1 k xs t (i : Int) ms ((j + 1 : Nat) : Int)) (fun k => ?_) (Ev.bind (spec_l5Put_ev acc x (by omega)) (spec_l5Bits_l1_ev xs ms hm i hi R bs (j + 1) (put5 acc x) h3 (by omega) h))
    simp only [spec_l5Bits.l1]
    rw [if_pos (by omega), if_pos (by omega), e1, w64s (by omega)]
theorem spec_l5Bits_l0_ev (xs : List S31) (hl : xs.length ≤ 100000) (hs : ∀ e ∈ xs, e.f0.size ≤ 1000000) : ∀ (bs : List S31) (i : Nat) (acc : List Int), xs.drop i = bs → acc.length + 2 * bs.length ≤ 1000000 → Ev (fun k => spec_l5Bits.l0 k xs acc (i : Int)) ((bs.flatMap (fun e => b5 e.f0)).foldl put5 acc)
  | [], i, acc, hd, ha => by
    have := drop_nil hd
    refine Ev.step (f := fun _ => some acc) (fun k => ?_) (Ev.now _)
    simp only [spec_l5Bits.l0]
    rw [if_neg (by omega)]
  | e :: bs, i, acc, hd, ha => by
    obtain ⟨h2, h3, h4⟩ := drop_cons hd
    have e1 : rd_T31 xs (i : Int) = e := getD_at h4
    have hb := b5_length e.f0
    have hf := foldl_put5_length (b5 e.f0) acc
    rw [List.length_cons] at ha
    rw [List.flatMap_cons, List.foldl_append]
    have ih := spec_l5Bits_l0_ev xs hl hs bs (i + 1) ((b5 e.f0).foldl put5 acc) h3 (by omega)
    refine Ev.step (f := fun k => (spec_l5Marks.f k e.f0).bind fun t => spec_l5Bits.l1 k xs acc (i : Int) t ((0 : Nat) : Int)) (fun k => ?_) (Ev.bind (spec_l5Marks_ev e.f0 (hs e (List.mem_of_getElem? h4))) (spec_l5Bits_l1_ev xs (b5 e.f0) (by omega) i (by omega) _ (b5 e.f0) 0 acc rfl (by omega) ih))
    simp only [spec_l5Bits.l0]
    rw [if_pos (by omega), if_pos (by omega), e1]
    rfl
/-- A table's marks: all its keys' marks, each once, in order. -/
def bitsOf (xs : List S31) : List Int := once (xs.flatMap (fun e => mk5 e.f0))
theorem bitsOf_b5 (xs : List S31) : once (xs.flatMap (fun e => b5 e.f0)) = bitsOf xs := by
  unfold bitsOf
  refine inc_uniq _ _ (once_inc _) (once_inc _) (fun x => ?_)
  rw [once_mem, once_mem, List.mem_flatMap, List.mem_flatMap]
  constructor
  · rintro ⟨e, he, hx⟩; exact ⟨e, he, (b5_mem _ _).1 hx⟩
  · rintro ⟨e, he, hx⟩; exact ⟨e, he, (b5_mem _ _).2 hx⟩
theorem spec_l5Bits_ev (xs : List S31) (hl : xs.length ≤ 100000) (hs : ∀ e ∈ xs, e.f0.size ≤ 1000000) : Ev (fun k => spec_l5Bits.f k xs) (bitsOf xs) := by
  simp only [spec_l5Bits.f]
  exact evEq (spec_l5Bits_l0_ev xs hl hs xs 0 [] rfl (by simp; omega)) (bitsOf_b5 xs)
theorem bitsOf_length (xs : List S31) : (bitsOf xs).length ≤ 2 * xs.length := by
  have h := once_length (xs.flatMap (fun e => mk5 e.f0))
  have h2 : ∀ ys : List S31, (ys.flatMap (fun e => mk5 e.f0)).length = 2 * ys.length := by
    intro ys
    induction ys with
    | nil => rfl
    | cons y ys ih =>
      rw [List.flatMap_cons, List.length_append, ih, List.length_cons]
      have : (mk5 y.f0).length = 2 := rfl
      omega
  rw [h2] at h
  exact h

theorem spec_l1Number_l0_ev (n : Nat) : ∀ (acc : List Int), acc.length + n ≤ 100000000000000 → Ev (fun k => spec_l1Number.l0 k (n : Int) acc) (acc ++ numN n) := by
  induction n using Nat.strongRecOn with
  | ind n ih =>
    intro acc hl
    by_cases h : n < 128
    · refine Ev.step (f := fun _ => some _) (fun k => ?_) (Ev.now _)
      simp only [spec_l1Number.l0]
      rw [if_neg (by omega), if_pos (by omega), numN_small h, Int.emod_eq_of_lt (by omega) (by omega)]
    · have := ih (n / 128) (by omega) (acc ++ [((n % 128 + 128 : Nat) : Int)]) (by simp; omega)
      rw [List.append_assoc, List.singleton_append, ← numN_big h] at this
      refine Ev.step (f := fun k => spec_l1Number.l0 k ((n / 128 : Nat) : Int) (acc ++ [((n % 128 + 128 : Nat) : Int)])) (fun k => ?_) this
      simp only [spec_l1Number.l0]
      rw [if_pos (by omega), if_pos (by omega), Int.tdiv_eq_ediv_of_nonneg (by omega), Int.tmod_eq_emod_of_nonneg (by omega), w64 (by omega) (by omega), w64 (by omega) (by omega)]
      congr 1
      rw [Int.emod_eq_of_lt (by omega) (by omega)]
      congr 1
theorem spec_l1Number_ev (n : Nat) (h : n ≤ 100000000000000) : Ev (fun k => spec_l1Number.f k (n : Int)) (numN n) := by
  have := spec_l1Number_l0_ev n [] (by simpa using h)
  exact this

theorem impl_within_ev (a b c : Int) : Ev (fun _ => impl_within.f a b c) (within a b c) := by
  refine evId (fun _ => ?_)
  unfold impl_within.f within
  by_cases h : a ≥ b
  · rw [if_pos h, decide_eq_true (show b ≤ a from h), Bool.true_and]
  · rw [if_neg h, decide_eq_false (show ¬ b ≤ a from h), Bool.false_and]

theorem impl_Number_l0_ev (n : Nat) : ∀ (acc : List Int), acc.length + n ≤ 100000000000000 → Ev (fun k => impl_Number.l0 k (n : Int) acc) (acc ++ numN n) := by
  induction n using Nat.strongRecOn with
  | ind n ih =>
    intro acc hl
    by_cases h : n < 128
    · refine Ev.step (f := fun _ => some _) (fun k => ?_) (Ev.now _)
      simp only [impl_Number.l0]
      rw [if_neg (by omega), if_pos (by omega), numN_small h, Int.emod_eq_of_lt (by omega) (by omega)]
    · have := ih (n / 128) (by omega) (acc ++ [((n % 128 + 128 : Nat) : Int)]) (by simp; omega)
      rw [List.append_assoc, List.singleton_append, ← numN_big h] at this
      refine Ev.step (f := fun k => impl_Number.l0 k ((n / 128 : Nat) : Int) (acc ++ [((n % 128 + 128 : Nat) : Int)])) (fun k => ?_) this
      simp only [impl_Number.l0]
      rw [if_pos (by omega), if_pos (by omega), or128 (by omega) (by omega)]
      congr 3
      omega
theorem impl_Number_ev (n : Int) : Ev (fun k => impl_Number.f k n) (number n) := by
  simp only [impl_Number.f]
  refine Ev.bind (impl_within_ev n 0 1099511627776) ?_
  unfold number
  by_cases h : within n 0 1099511627776 = true
  · rw [if_pos h]
    refine evPos h ?_
    simp only [within, Bool.and_eq_true, decide_eq_true_eq] at h
    have e := impl_Number_l0_ev n.toNat [] (by simp; omega)
    rw [show ((n.toNat : Nat) : Int) = n by omega] at e
    exact e
  · rw [if_neg h]
    exact evNeg h (Ev.now _)
theorem impl_Number_nat (n : Nat) (h : n ≤ 1099511627776) : Ev (fun k => impl_Number.f k (n : Int)) (numN n) := by
  have e := impl_Number_ev (n : Int)
  unfold number at e
  rw [if_pos (by simp [within]; omega)] at e
  exact e

theorem spec_l1Text_ev (s : ByteArray) (h : s.size ≤ 1099511627776) : Ev (fun k => spec_l1Text.f k s) (textN s) := by
  simp only [spec_l1Text.f]
  have hl := numN_le10 (n := s.size) (by omega)
  exact Ev.bind (spec_l1Number_ev s.size (by omega)) (evPos (by omega) (Ev.now _))
theorem impl_Text_ev (s : ByteArray) : Ev (fun k => impl_Text.f k s) (text s) := by
  simp only [impl_Text.f]
  unfold text
  by_cases h : (s.size : Int) > 3000
  · rw [if_pos h]; exact evPos h (Ev.now _)
  · rw [if_neg h]
    have hl := numN_le10 (n := s.size) (by omega)
    exact evNeg h (Ev.bind (impl_Number_nat s.size (by omega)) (evPos (by omega) (Ev.now _)))

theorem spec_Common_l0_ev (s t : ByteArray) (hs : s.size ≤ 140737488351232) : ∀ (av bs : List Int) (i : Nat), (bytesOf s).drop i = av → (bytesOf t).drop i = bs → Ev (fun k => spec_Common.l0 k s t i) (((i + common av bs : Nat) : Int))
  | [], bs, i, ha, hb => by
    have := bdrop_nil ha
    refine Ev.step (f := fun _ => some (i : Int)) (fun k => ?_) (by simpa [common] using Ev.now (i : Int))
    simp only [spec_Common.l0]
    rw [if_neg (by omega)]
  | a :: av, [], i, ha, hb => by
    obtain ⟨h2, h3, h4, h5, h6⟩ := bdrop_cons ha
    have := bdrop_nil hb
    refine Ev.step (f := fun _ => some (i : Int)) (fun k => ?_) (by simpa [common] using Ev.now (i : Int))
    simp only [spec_Common.l0]
    rw [if_pos (by omega), if_neg (by omega)]
  | a :: av, b :: bs, i, ha, hb => by
    obtain ⟨h2, h3, h4, h5, h6⟩ := bdrop_cons ha
    obtain ⟨g2, g3, g4, g5, g6⟩ := bdrop_cons hb
    by_cases e : a = b
    · have ih := spec_Common_l0_ev s t hs av bs (i + 1) h3 g3
      rw [show i + common (a :: av) (b :: bs) = i + 1 + common av bs by simp only [common, if_pos e]; omega]
      refine Ev.step (f := fun k => spec_Common.l0 k s t ((i + 1 : Nat) : Int)) (fun k => ?_) ih
      simp only [spec_Common.l0]
      rw [if_pos (by omega), if_pos (by omega), if_pos (by omega), h4, g4, if_pos e, w64s (by omega)]
    · rw [show i + common (a :: av) (b :: bs) = i by simp only [common, if_neg e]; omega]
      refine Ev.step (f := fun _ => some (i : Int)) (fun k => ?_) (Ev.now _)
      simp only [spec_Common.l0]
      rw [if_pos (by omega), if_pos (by omega), if_pos (by omega), h4, g4, if_neg e]
theorem spec_Common_ev (s t : ByteArray) (hs : s.size ≤ 140737488351232) : Ev (fun k => spec_Common.f k s t) (common (bytesOf s) (bytesOf t) : Int) := by
  have := spec_Common_l0_ev s t hs (bytesOf s) (bytesOf t) 0 rfl rfl
  rw [Nat.zero_add] at this
  exact this
theorem impl_Common_same : ∀ k s t i, impl_Common.l0 k s t i = spec_Common.l0 k s t i
  | 0, _, _, _ => rfl
  | k + 1, s, t, i => by simp only [impl_Common.l0, spec_Common.l0, impl_Common_same k]
theorem impl_Common_ev (s t : ByteArray) (hs : s.size ≤ 140737488351232) : Ev (fun k => impl_Common.f k s t) (common (bytesOf s) (bytesOf t) : Int) :=
  Ev.congr (fun k => impl_Common_same k s t 0) (spec_Common_ev s t hs)

def flagI (b : Bool) : Int := if b = true then 1 else 0
/-- The mark of an entry: its number twice, and whether it is gone. -/
def markE (e : S31) : Nat := (2 * e.f2 + flagI e.f3).toNat
/-- One entry, the key ahead being 'last'. -/
def packE (last : ByteArray) (e : S31) : List Int :=
  numN (common (bytesOf last) (bytesOf e.f0)) ++ (textN (e.f0.extract (common (bytesOf last) (bytesOf e.f0)) e.f0.size) ++ (numN (markE e) ++ textN e.f1))
def packL (last : ByteArray) : Nat → List S31 → List Int
  | _, [] => []
  | i, e :: es => packE (if i % 8 = 0 then (⟨#[]⟩ : ByteArray) else last) e ++ packL e.f0 (i + 1) es
def packed (xs : List S31) : List Int := numN xs.length ++ packL (⟨#[]⟩ : ByteArray) 0 xs
theorem common_le : ∀ (as_ bs : List Int), common as_ bs ≤ as_.length ∧ common as_ bs ≤ bs.length
  | [], bs => by cases bs <;> simp [common]
  | a :: as_, [] => by simp [common]
  | a :: as_, b :: bs => by
    unfold common
    split
    · have := common_le as_ bs
      simp only [List.length_cons]
      omega
    · simp
theorem extract_size (s : ByteArray) (n : Nat) : (s.extract n s.size).size ≤ s.size := by
  simp [ByteArray.size_extract]
theorem packE_le (last : ByteArray) (e : S31) (h : entOk e = true) : (packE last e).length ≤ 300 := by
  obtain ⟨⟨h1, h2⟩, h3, h4, h5, h6⟩ := entOk_iff.1 h
  have c1 := (common_le (bytesOf last) (bytesOf e.f0)).2
  rw [bytesOf_length] at c1
  have n1 := numN_le10 (n := common (bytesOf last) (bytesOf e.f0)) (by omega)
  have x1 := extract_size e.f0 (common (bytesOf last) (bytesOf e.f0))
  have n2 := numN_le10 (n := (e.f0.extract (common (bytesOf last) (bytesOf e.f0)) e.f0.size).size) (by omega)
  have n3 := numN_le10 (n := markE e) (by unfold markE flagI; split <;> omega)
  have n4 := numN_le10 (n := e.f1.size) (by omega)
  unfold packE
  simp only [List.length_append, textN_length]
  omega
theorem okL_all : ∀ (xs : List S31) (p : Option S31), okL p xs = true → ∀ e ∈ xs, entOk e = true
  | [], _, _, e, he => by simp at he
  | x :: xs, p, h, e, he => by
    unfold okL at h
    simp only [Bool.and_eq_true] at h
    rcases List.mem_cons.1 he with rfl | he
    · exact h.1
    · exact okL_all xs _ h.2.2 e he
theorem entriesOk_all {xs : List S31} (h : entriesOk xs = true) : ∀ e ∈ xs, entOk e = true := by
  unfold entriesOk at h
  simp only [Bool.and_eq_true] at h
  exact okL_all xs none h.2
theorem entriesOk_le {xs : List S31} (h : entriesOk xs = true) : xs.length ≤ 300 := by
  unfold entriesOk at h
  simp only [Bool.and_eq_true, decide_eq_true_eq] at h
  exact h.1
theorem common_empty (bs : List Int) : common [] bs = 0 := by cases bs <;> rfl

def ordI (x y : Int) : Int := if x < y then -1 else if x > y then 1 else 0
def ordS (x y : ByteArray) : Int := if Op.bytesLess x.toList y.toList = true then -1 else if Op.bytesLess y.toList x.toList = true then 1 else 0
def byOrder (a b : S31) : Int := if ordS a.f0 b.f0 = 0 then ordI b.f2 a.f2 else ordS a.f0 b.f0
theorem cmp_Compare_string_ev (x y : ByteArray) : Ev (fun _ => cmp_Compare_string.f x y) (ordS x y) := by
  refine evId (fun _ => ?_)
  unfold cmp_Compare_string.f cmp_isNaN_string.f ordS
  simp only [bne_self_eq_false, Option.bind_some, Bool.false_eq_true, if_false]
  split
  · rfl
  · split <;> rfl
theorem cmp_Compare_int64_ev (x y : Int) : Ev (fun _ => cmp_Compare_int64.f x y) (ordI x y) := by
  refine evId (fun _ => ?_)
  unfold cmp_Compare_int64.f cmp_isNaN_int64.f ordI
  simp only [bne_self_eq_false, Option.bind_some, Bool.false_eq_true, if_false]
  split
  · rfl
  · split <;> rfl
theorem cmp_Or_two (x y : Int) : Ev (fun k => cmp_Or_int.f k [x, y]) (if x = 0 then y else x) := by
  simp only [cmp_Or_int.f]
  refine ⟨3, fun k hk => ?_⟩
  obtain ⟨m, rfl⟩ : ∃ m, k = m + 3 := ⟨k - 3, by omega⟩
  have w1 : wrap64 (0 + 1) = 1 := w64 (x := 0 + 1) (by decide) (by decide)
  have w2 : wrap64 (1 + 1) = 2 := w64 (x := 1 + 1) (by decide) (by decide)
  have e0 : rd [x, y] 0 = x := rfl
  have e1 : rd [x, y] 1 = y := rfl
  simp only [cmp_Or_int.l0, w1, w2, e0, e1]
  by_cases hx : x = 0
  · by_cases hy : y = 0
    · simp [hx, hy]
    · simp [hx, hy]
  · simp [hx]
theorem impl_byOrder_ev (a b : S31) : Ev (fun k => impl_byOrder.f k a.f0 a.f1 a.f2 a.f3 b.f0 b.f1 b.f2 b.f3) (byOrder a b) := by
  simp only [impl_byOrder.f]
  exact Ev.bind (cmp_Compare_string_ev a.f0 b.f0) (Ev.bind (cmp_Compare_int64_ev b.f2 a.f2) (Ev.bind (cmp_Or_two _ _) (Ev.now _)))
theorem byOrder_ahead (a b : S31) : decide (byOrder a b ≥ 0) = !ahead a b := by
  unfold byOrder ahead ordS ordI
  cases h1 : Op.bytesLess a.f0.toList b.f0.toList with
  | true => simp
  | false =>
    cases h2 : Op.bytesLess b.f0.toList a.f0.toList with
    | true =>
      have : a.f0.toList ≠ b.f0.toList := by
        intro h
        rw [h, less_irrefl] at h2
        cases h2
      simp [this]
    | false =>
      have := less_tri _ _ h1 h2
      simp only [Bool.false_eq_true, if_false, if_true, this, decide_true, Bool.true_and, Bool.false_or]
      by_cases h3 : b.f2 < a.f2
      · rw [if_pos h3, decide_eq_true (show a.f2 > b.f2 from h3)]; decide
      · rw [if_neg h3, decide_eq_false (show ¬ a.f2 > b.f2 from h3)]
        split <;> decide

theorem impl_within_eq (a b c : Int) : impl_within.f a b c = some (within a b c) := by
  obtain ⟨k, h⟩ := (impl_within_ev a b c).rounds
  exact h
theorem impl_entryOk_ev (e : S31) : Ev (fun _ => impl_entryOk.f e.f0 e.f1 e.f2 e.f3) (entOk e) := by
  obtain ⟨a, b, c, g⟩ := e
  refine evId (fun _ => ?_)
  unfold impl_entryOk.f entOk
  simp only [impl_within_eq, Option.bind_some]
  cases h1 : within (a.size : Int) 1 40 with
  | false => simp
  | true =>
    rw [if_pos rfl]
    by_cases h3 : (b.size : Int) ≤ 200
    · rw [if_pos h3, decide_eq_true h3]
      cases g with
      | false => simp
      | true =>
        rw [if_pos rfl]
        by_cases h4 : b.toList = ([] : List UInt8)
        · rw [if_pos h4]; simp [h4]
        · rw [if_neg h4]; simp [h4]
    · rw [if_neg h3, decide_eq_false h3]; simp
theorem impl_EntriesOk_l0_ev (xs : List S31) (hl : xs.length ≤ 1000000000000000000) : ∀ (bs : List S31) (i : Nat), xs.drop i = bs → Ev (fun k => impl_EntriesOk.l0 k xs xs (xs.length : Int) i) (okL (prev xs i) bs)
  | [], i, hd => by
    have := drop_nil hd
    refine Ev.step (f := fun _ => some true) (fun k => ?_) (Ev.now _)
    simp only [impl_EntriesOk.l0]
    rw [if_neg (by omega)]
  | e :: bs, i, hd => by
    obtain ⟨h2, h3, h4⟩ := drop_cons hd
    have e1 : rd_T31 xs (i : Int) = e := getD_at h4
    have ih := impl_EntriesOk_l0_ev xs hl bs (i + 1) h3
    rw [prev_succ h4] at ih
    refine Ev.step (f := fun k => (impl_entryOk.f e.f0 e.f1 e.f2 e.f3).bind fun t127 => (if t127 = true then (if (i : Int) > 0 then ((impl_byOrder.f k (rd_T31 xs (wrap64 ((i : Int) - 1))).f0 (rd_T31 xs (wrap64 ((i : Int) - 1))).f1 (rd_T31 xs (wrap64 ((i : Int) - 1))).f2 (rd_T31 xs (wrap64 ((i : Int) - 1))).f3 e.f0 e.f1 e.f2 e.f3).bind fun t130 => (if t130 ≥ 0 then (some false) else (impl_EntriesOk.l0 k xs xs (xs.length : Int) ((i + 1 : Nat) : Int)))) else (impl_EntriesOk.l0 k xs xs (xs.length : Int) ((i + 1 : Nat) : Int))) else (some false))) (fun k => ?_) (Ev.bind (impl_entryOk_ev e) ?_)
    · simp only [impl_EntriesOk.l0]
      rw [if_pos (by omega), if_pos (by omega), if_pos (by omega), e1, w64s (by omega)]
      by_cases hi : (i : Int) > 0
      · simp only [if_pos hi, if_pos (show (0 : Int) ≤ wrap64 ((i : Int) - 1) by rw [w64 (by omega) (by omega)]; omega), if_pos (show wrap64 ((i : Int) - 1) < (xs.length : Int) by rw [w64 (by omega) (by omega)]; omega)]
      · simp only [if_neg hi]
    · unfold okL
      cases he : entOk e with
      | false => exact evNeg (by simp) (Ev.now _)
      | true =>
        refine evPos rfl ?_
        rw [Bool.true_and]
        by_cases hi : i = 0
        · subst hi
          refine evNeg (by omega) (evEq ih ?_)
          simp [prev]
        · obtain ⟨q, hq⟩ : ∃ q, xs[i - 1]? = some q := ⟨_, List.getElem?_eq_getElem (by omega)⟩
          have e2 : rd_T31 xs (wrap64 ((i : Int) - 1)) = q := by
            rw [w64 (by omega) (by omega), show (i : Int) - 1 = ((i - 1 : Nat) : Int) by omega]
            exact getD_at hq
          refine evPos (by omega) ?_
          rw [e2]
          refine Ev.bind (impl_byOrder_ev q e) ?_
          simp only [prev, if_neg hi, hq]
          have hb := byOrder_ahead q e
          cases ha : ahead q e with
          | false =>
            rw [ha] at hb
            exact evPos (of_decide_eq_true hb) (Ev.now _)
          | true =>
            rw [ha] at hb
            exact evNeg (of_decide_eq_false hb) (evEq ih (by rw [Bool.true_and]))
theorem impl_EntriesOk_ev (xs : List S31) : Ev (fun k => impl_EntriesOk.f k xs) (entriesOk xs) := by
  simp only [impl_EntriesOk.f]
  unfold entriesOk
  by_cases h : (xs.length : Int) > 300
  · rw [decide_eq_false (by omega)]; exact evPos h (Ev.now _)
  · rw [decide_eq_true (by omega), Bool.true_and]
    exact evNeg h (impl_EntriesOk_l0_ev xs (by omega) xs 0 rfl)

theorem impl_packed_l0_ev (xs : List S31) (hl : xs.length ≤ 300) (hok : ∀ e ∈ xs, entOk e = true) : ∀ (bs : List S31) (i : Nat) (acc : List Int) (last : ByteArray), xs.drop i = bs → (∀ p, prev xs i = some p → last = p.f0) → acc.length + 300 * bs.length ≤ 1000000000 → Ev (fun k => impl_packed.l0 k xs acc xs (xs.length : Int) i) (acc ++ packL last i bs)
  | [], i, acc, last, hd, hla, ha => by
    have := drop_nil hd
    refine Ev.step (f := fun _ => some acc) (fun k => ?_) (evEq (Ev.now _) (by simp [packL]))
    simp only [impl_packed.l0]
    rw [if_neg (by omega)]
  | e :: bs, i, acc, last, hd, hla, ha => by
    obtain ⟨h2, h3, h4⟩ := drop_cons hd
    have e1 : rd_T31 xs (i : Int) = e := getD_at h4
    have he := hok e (List.mem_of_getElem? h4)
    obtain ⟨⟨g1, g2⟩, g3, g4, g5, g6⟩ := entOk_iff.1 he
    rw [List.length_cons] at ha
    have key : ∀ (l : ByteArray) (c : Nat), common (bytesOf l) (bytesOf e.f0) = c → Ev (fun k => impl_packed.j1 k xs acc (c : Int) xs (xs.length : Int) i e.f0 e.f1 e.f2 e.f3) (acc ++ (packE l e ++ packL e.f0 (i + 1) bs)) := by
      intro l c hc
      have hp := packE_le l e he
      unfold packE at hp ⊢
      have c1 := (common_le (bytesOf l) (bytesOf e.f0)).2
      rw [bytesOf_length] at c1
      rw [hc] at hp c1 ⊢
      have x1 := extract_size e.f0 c
      have hm2 : markE e ≤ 100000000000 := by unfold markE flagI; split <;> omega
      simp only [List.length_append] at hp
      have ht1 : text (e.f0.extract c e.f0.size) = textN (e.f0.extract c e.f0.size) := if_neg (by omega)
      have ht2 : text e.f1 = textN e.f1 := if_neg (by omega)
      have j2 : Ev (fun k => impl_packed.j2 k xs acc (c : Int) ((markE e : Nat) : Int) xs (xs.length : Int) i e.f0 e.f1 e.f2 e.f3) (acc ++ ((numN c ++ (textN (e.f0.extract c e.f0.size) ++ (numN (markE e) ++ textN e.f1))) ++ packL e.f0 (i + 1) bs)) := by
        refine Ev.step (fun k => by simp only [impl_packed.j2]; exact rfl) ?_
        refine Ev.bind (impl_Number_nat c (by omega)) (evPos (by omega) ?_)
        simp only [Option.bind_some, Int.toNat_natCast]
        refine evPos (by omega) (evPos (by omega) (Ev.bind (evEq (impl_Text_ev _) ht1) (evPos (by rw [List.length_append]; omega) ?_)))
        refine Ev.bind (impl_Number_nat (markE e) (by omega)) (evPos (by simp only [List.length_append]; omega) (Ev.bind (evEq (impl_Text_ev e.f1) ht2) (evPos (by simp only [List.length_append]; omega) ?_)))
        have ih := impl_packed_l0_ev xs hl hok bs (i + 1) (acc ++ (numN c ++ (textN (e.f0.extract c e.f0.size) ++ (numN (markE e) ++ textN e.f1)))) e.f0 h3 (fun p hp => by rw [prev_succ h4] at hp; injection hp with hp; rw [hp]) (by simp only [List.length_append]; omega)
        rw [w64s (by omega)]
        simpa [List.append_assoc] using ih
      cases hg : e.f3 with
      | true =>
        refine Ev.step (fun k => ?_) j2
        simp only [impl_packed.j1]
        rw [if_pos trivial, hg]
        congr 1
        unfold markE flagI
        rw [hg, if_pos rfl, w64 (x := 2 * e.f2) (by omega) (by omega), w64 (by omega) (by omega)]
        omega
      | false =>
        refine Ev.step (fun k => ?_) j2
        simp only [impl_packed.j1]
        rw [if_neg (by decide), hg]
        congr 1
        unfold markE flagI
        rw [hg, if_neg (by decide), w64 (x := 2 * e.f2) (by omega) (by omega)]
        omega
    unfold packL
    by_cases h8 : i % 8 = 0
    · rw [if_pos h8]
      refine Ev.step (fun k => ?_) (key (⟨#[]⟩ : ByteArray) 0 (common_empty _))
      simp only [impl_packed.l0]
      rw [if_pos (by omega), if_pos (by omega), if_pos (by omega), e1, if_neg (by rw [Int.tmod_eq_emod_of_nonneg (by omega)]; omega)]
      rfl
    · rw [if_neg h8]
      obtain ⟨q, hq⟩ : ∃ q, xs[i - 1]? = some q := ⟨_, List.getElem?_eq_getElem (by omega)⟩
      have hla' : last = q.f0 := hla q (by unfold prev; rw [if_neg (by omega), hq])
      have e2 : rd_T31 xs (wrap64 ((i : Int) - 1)) = q := by
        rw [w64 (by omega) (by omega), show (i : Int) - 1 = ((i - 1 : Nat) : Int) by omega]
        exact getD_at hq
      have hq40 := (entOk_iff.1 (hok q (List.mem_of_getElem? hq))).1
      refine Ev.step (f := fun k => (impl_Common.f k q.f0 e.f0).bind fun t => impl_packed.j1 k xs acc t xs (xs.length : Int) i e.f0 e.f1 e.f2 e.f3) (fun k => ?_) (Ev.bind (impl_Common_ev q.f0 e.f0 (by omega)) (key last _ (by rw [hla'])))
      simp only [impl_packed.l0]
      rw [if_pos (by omega), if_pos (by omega), if_pos (by omega), e1, if_pos (by rw [Int.tmod_eq_emod_of_nonneg (by omega)]; omega), if_pos (by rw [w64 (by omega) (by omega)]; omega), if_pos (by rw [w64 (by omega) (by omega)]; omega), e2]
theorem impl_packed_ev (xs : List S31) (hl : xs.length ≤ 300) (hok : ∀ e ∈ xs, entOk e = true) : Ev (fun k => impl_packed.f k xs) (packed xs) := by
  simp only [impl_packed.f]
  have h2 := numN_le10 (n := xs.length) (by omega)
  exact Ev.bind (impl_Number_nat xs.length (by omega)) (impl_packed_l0_ev xs hl hok xs 0 _ _ rfl (fun p hp => by simp [prev] at hp) (by omega))

theorem spec_l1In_ev (a b c : Int) : Ev (fun _ => spec_l1In.f a b c) (within a b c) := by
  refine evId (fun _ => ?_)
  unfold spec_l1In.f within
  by_cases h : a ≥ b
  · rw [if_pos h, decide_eq_true (show b ≤ a from h), Bool.true_and]
  · rw [if_neg h, decide_eq_false (show ¬ b ≤ a from h), Bool.false_and]

theorem spec_l3Entry_ev (e : S31) : Ev (fun _ => spec_l3Entry.f e.f0 e.f1 e.f2 e.f3) (entOk e) := by
  obtain ⟨a, b, c, g⟩ := e
  refine evId (fun _ => ?_)
  have hin : spec_l1In.f c 1 1000000 = some (within c 1 1000000) := by
    obtain ⟨k, h⟩ := (spec_l1In_ev c 1 1000000).rounds
    exact h
  unfold spec_l3Entry.f entOk
  simp only [hin, Option.bind_some]
  by_cases h1 : (a.size : Int) ≥ 1
  · by_cases h2 : (a.size : Int) ≤ 40
    · by_cases h3 : (b.size : Int) ≤ 200
      · rw [if_pos h1, if_pos h2, if_pos h3]
        have : within (a.size : Int) 1 40 = true := by simp [within]; omega
        rw [this, decide_eq_true h3]
        cases g with
        | false => simp
        | true =>
          rw [if_pos rfl]
          by_cases h4 : b.toList = ([] : List UInt8)
          · rw [if_pos h4]; simp [h4]
          · rw [if_neg h4]; simp [h4]
      · rw [if_pos h1, if_pos h2, if_neg h3, decide_eq_false h3]; simp
    · rw [if_pos h1, if_neg h2]
      have : within (a.size : Int) 1 40 = false := by simp [within]; omega
      rw [this]; simp
  · rw [if_neg h1]
    have : within (a.size : Int) 1 40 = false := by simp [within]; omega
    rw [this]; simp
theorem spec_l3Ahead_ev (a b : S31) : Ev (fun _ => spec_l3Ahead.f a.f0 a.f1 a.f2 a.f3 b.f0 b.f1 b.f2 b.f3) (ahead a b) := by
  refine evId (fun _ => ?_)
  unfold spec_l3Ahead.f ahead
  cases h : Op.bytesLess a.f0.toList b.f0.toList with
  | true => simp
  | false =>
    rw [if_neg (by simp)]
    by_cases h2 : a.f0.toList = b.f0.toList
    · rw [if_pos h2]; simp [h2]
    · rw [if_neg h2]; simp [h2]
theorem spec_EntriesOk_l0_ev (xs : List S31) (hl : xs.length ≤ 1000000000000000000) : ∀ (bs : List S31) (i : Nat), xs.drop i = bs → Ev (fun k => spec_EntriesOk.l0 k xs i) (okL (prev xs i) bs)
  | [], i, hd => by
    have := drop_nil hd
    refine Ev.step (f := fun _ => some true) (fun k => ?_) (Ev.now _)
    simp only [spec_EntriesOk.l0]
    rw [if_neg (by omega)]
  | e :: bs, i, hd => by
    obtain ⟨h2, h3, h4⟩ := drop_cons hd
    have e1 : rd_T31 xs (i : Int) = e := getD_at h4
    have ih := spec_EntriesOk_l0_ev xs hl bs (i + 1) h3
    rw [prev_succ h4] at ih
    refine Ev.step (f := fun k => (spec_l3Entry.f e.f0 e.f1 e.f2 e.f3).bind fun t127 => (if t127 = true then (if (i : Int) > 0 then ((spec_l3Ahead.f (rd_T31 xs (wrap64 ((i : Int) - 1))).f0 (rd_T31 xs (wrap64 ((i : Int) - 1))).f1 (rd_T31 xs (wrap64 ((i : Int) - 1))).f2 (rd_T31 xs (wrap64 ((i : Int) - 1))).f3 e.f0 e.f1 e.f2 e.f3).bind fun t130 => (if t130 = true then (spec_EntriesOk.l0 k xs ((i + 1 : Nat) : Int)) else (some false))) else (spec_EntriesOk.l0 k xs ((i + 1 : Nat) : Int))) else (some false))) (fun k => ?_) (Ev.bind (spec_l3Entry_ev e) ?_)
    · simp only [spec_EntriesOk.l0]
      rw [if_pos (by omega), if_pos (by omega), e1, w64s (by omega)]
      by_cases hi : (i : Int) > 0
      · simp only [if_pos hi, if_pos (show (0 : Int) ≤ wrap64 ((i : Int) - 1) by rw [w64 (by omega) (by omega)]; omega), if_pos (show wrap64 ((i : Int) - 1) < (xs.length : Int) by rw [w64 (by omega) (by omega)]; omega)]
      · simp only [if_neg hi]
    · unfold okL
      cases he : entOk e with
      | false => exact evNeg (by simp) (Ev.now _)
      | true =>
        refine evPos rfl ?_
        rw [Bool.true_and]
        by_cases hi : i = 0
        · subst hi
          refine evNeg (by omega) (evEq ih ?_)
          simp [prev]
        · obtain ⟨q, hq⟩ : ∃ q, xs[i - 1]? = some q := ⟨_, List.getElem?_eq_getElem (by omega)⟩
          have e2 : rd_T31 xs (wrap64 ((i : Int) - 1)) = q := by
            rw [w64 (by omega) (by omega), show (i : Int) - 1 = ((i - 1 : Nat) : Int) by omega]
            exact getD_at hq
          refine evPos (by omega) ?_
          rw [e2]
          refine Ev.bind (spec_l3Ahead_ev q e) ?_
          simp only [prev, if_neg hi, hq]
          cases ahead q e with
          | false => exact evNeg (by simp) (Ev.now _)
          | true => exact evPos rfl (evEq ih (by rw [Bool.true_and]))
theorem spec_EntriesOk_ev (xs : List S31) : Ev (fun k => spec_EntriesOk.f k xs) (entriesOk xs) := by
  simp only [spec_EntriesOk.f]
  unfold entriesOk
  by_cases h : (xs.length : Int) > 300
  · rw [decide_eq_false (by omega)]; exact evPos h (Ev.now _)
  · rw [decide_eq_true (by omega), Bool.true_and]
    exact evNeg h (spec_EntriesOk_l0_ev xs (by omega) xs 0 rfl)

theorem spec_l4Packed_l0_ev (xs : List S31) (hl : xs.length ≤ 300) (hok : ∀ e ∈ xs, entOk e = true) : ∀ (bs : List S31) (i : Nat) (acc : List Int) (last : ByteArray), xs.drop i = bs → last.size ≤ 40 → acc.length + 300 * bs.length ≤ 1000000000 → Ev (fun k => spec_l4Packed.l0 k xs acc last i) (acc ++ packL last i bs)
  | [], i, acc, last, hd, hla, ha => by
    have := drop_nil hd
    refine Ev.step (f := fun _ => some acc) (fun k => ?_) (evEq (Ev.now _) (by simp [packL]))
    simp only [spec_l4Packed.l0]
    rw [if_neg (by omega)]
  | e :: bs, i, acc, last, hd, hla, ha => by
    obtain ⟨h2, h3, h4⟩ := drop_cons hd
    have e1 : rd_T31 xs (i : Int) = e := getD_at h4
    have he := hok e (List.mem_of_getElem? h4)
    obtain ⟨⟨g1, g2⟩, g3, g4, g5, g6⟩ := entOk_iff.1 he
    rw [List.length_cons] at ha
    have key : ∀ l : ByteArray, l.size ≤ 40 → Ev (fun k => spec_l4Packed.j1 k xs acc l i e.f0 e.f1 e.f2 e.f3) (acc ++ (packE l e ++ packL e.f0 (i + 1) bs)) := by
      intro l hl40
      have hp := packE_le l e he
      unfold packE at hp ⊢
      have c1 := (common_le (bytesOf l) (bytesOf e.f0)).2
      rw [bytesOf_length] at c1
      generalize hc : common (bytesOf l) (bytesOf e.f0) = c at hp c1 ⊢
      have x1 := extract_size e.f0 c
      have hm : wrap64 (wrap64 (2 * e.f2) + flagI e.f3) = ((markE e : Nat) : Int) := by
        unfold markE flagI
        rw [w64 (x := 2 * e.f2) (by omega) (by omega)]
        split
        · rw [w64 (by omega) (by omega)]; omega
        · rw [w64 (by omega) (by omega)]; omega
      have hm2 : markE e ≤ 100000000000 := by unfold markE flagI; split <;> omega
      simp only [List.length_append] at hp
      refine Ev.step (fun k => by simp only [spec_l4Packed.j1]; exact rfl) ?_
      have hcm := spec_Common_ev l e.f0 (by omega)
      rw [hc] at hcm
      refine Ev.bind hcm (Ev.bind (spec_l1Number_ev c (by omega)) (evPos (by omega) ?_))
      simp only [Option.bind_some, Int.toNat_natCast]
      refine evPos (by omega) (evPos (by omega) (Ev.bind (spec_l1Text_ev _ (by omega)) (evPos (by rw [List.length_append]; omega) ?_)))
      have hflag : ∀ (b : Bool), Ev (fun _ => spec_l4Flag.f b) (flagI b) := fun b => evId (fun _ => by unfold spec_l4Flag.f flagI; split <;> rfl)
      refine Ev.bind (hflag e.f3) ?_
      rw [hm]
      refine Ev.bind (spec_l1Number_ev (markE e) (by omega)) (evPos (by simp only [List.length_append]; omega) (Ev.bind (spec_l1Text_ev e.f1 (by omega)) (evPos (by simp only [List.length_append]; omega) ?_)))
      have ih := spec_l4Packed_l0_ev xs hl hok bs (i + 1) (acc ++ (numN c ++ (textN (e.f0.extract c e.f0.size) ++ (numN (markE e) ++ textN e.f1)))) e.f0 h3 (by omega) (by simp only [List.length_append]; omega)
      rw [w64s (by omega)]
      simpa [List.append_assoc] using ih
    unfold packL
    by_cases h8 : i % 8 = 0
    · rw [if_pos h8]
      refine Ev.step (fun k => ?_) (key (⟨#[]⟩ : ByteArray) (by decide))
      simp only [spec_l4Packed.l0]
      rw [if_pos (by omega), if_pos (by omega), e1, if_pos (by rw [Int.tmod_eq_emod_of_nonneg (by omega)]; omega)]
    · rw [if_neg h8]
      refine Ev.step (fun k => ?_) (key last hla)
      simp only [spec_l4Packed.l0]
      rw [if_pos (by omega), if_pos (by omega), e1, if_neg (by rw [Int.tmod_eq_emod_of_nonneg (by omega)]; omega)]
theorem spec_l4Packed_ev (xs : List S31) (hl : xs.length ≤ 300) (hok : ∀ e ∈ xs, entOk e = true) : Ev (fun k => spec_l4Packed.f k xs) (packed xs) := by
  simp only [spec_l4Packed.f]
  have h2 := numN_le10 (n := xs.length) (by omega)
  exact Ev.bind (spec_l1Number_ev xs.length (by omega)) (spec_l4Packed_l0_ev xs hl hok xs 0 _ _ rfl (by decide) (by omega))

theorem chunkAt_mem {xs : List S31} {x : Nat} {e : S31} (h : e ∈ chunkAt xs x) : e ∈ xs := List.mem_of_mem_drop (List.mem_of_mem_take h)
theorem chunkAt_le (xs : List S31) (x : Nat) : (chunkAt xs x).length ≤ 8 := by
  unfold chunkAt ckLen
  rw [List.length_take]
  omega
theorem bl_ev (xs : List S31) (P : Nat → List Int) : ∀ (ns : List Nat), (∀ x ∈ ns, Ev (fun k => impl_packed.f k (chunkAt xs x)) (P x)) → Ev (fun k => impl_built.bl k xs ns) (ns.map (fun x => strOfNums (P x)))
  | [], _ => Ev.now _
  | n :: ns, h => by
    simp only [impl_built.bl]
    exact Ev.bind (h n List.mem_cons_self) (Ev.bind (bl_ev xs P ns (fun x hx => h x (List.mem_cons_of_mem _ hx))) (Ev.now _))
/-- A table's blocks. -/
def blocksOf (xs : List S31) : List ByteArray := (List.range (cks xs.length)).map (fun x => strOfNums (packed (chunkAt xs x)))
theorem impl_built_l0_ev (xs : List S31) (hl : xs.length ≤ 300) (hok : ∀ e ∈ xs, entOk e = true) (F0 F1 : ByteArray) (R : ByteArray × ByteArray × List Int × List ByteArray) : ∀ (bs : List S31) (i : Nat) (acc : List Int), xs.drop i = bs → acc.length + 2 * bs.length ≤ 1000000 →
    Ev (fun k => (slices_Sort_int64.f (acc ++ bs.flatMap (fun e => mk5 e.f0))).bind fun t => (slices_Compact_int64.f t).bind fun u => if xs.length < 1000000000000 then ((impl_built.bl k xs (List.range (cks xs.length + 1))).bind fun _ => (impl_built.bl k xs (List.range (cks xs.length))).bind fun b => some (F0, F1, u, b)) else none) R →
    Ev (fun k => impl_built.l0 k xs xs (xs.length : Int) (i : Int) F0 F1 acc) R
  | [], i, acc, hd, ha, h => by
    have := drop_nil hd
    rw [List.flatMap_nil, List.append_nil] at h
    refine Ev.step (fun k => by simp only [impl_built.l0]; exact rfl) (evNeg (by omega) h)
  | e :: bs, i, acc, hd, ha, h => by
    obtain ⟨h2, h3, h4⟩ := drop_cons hd
    have e1 : rd_T31 xs (i : Int) = e := getD_at h4
    have hk := (entOk_iff.1 (hok e (List.mem_of_getElem? h4))).1
    rw [List.length_cons] at ha
    have hm : (mk5 e.f0).length = 2 := rfl
    rw [List.flatMap_cons, ← List.append_assoc] at h
    have ih := impl_built_l0_ev xs hl hok F0 F1 R bs (i + 1) (acc ++ mk5 e.f0) h3 (by rw [List.length_append]; omega) h
    refine Ev.step (f := fun k => (impl_marks.f k e.f0).bind fun t => if acc.length + t.length < 17592186044416 then impl_built.l0 k xs xs (xs.length : Int) ((i + 1 : Nat) : Int) F0 F1 (acc ++ t) else none) (fun k => ?_) (Ev.bind (impl_marks_ev e.f0 (by omega)) (evPos (by omega) ih))
    simp only [impl_built.l0]
    rw [if_pos (by omega), if_pos (by omega), if_pos (by omega), e1, w64s (by omega)]
theorem impl_built_ev (xs : List S31) (hl : xs.length ≤ 300) (hok : ∀ e ∈ xs, entOk e = true) (h0 : xs ≠ []) : Ev (fun k => impl_built.f k xs) ((rd_T31 xs 0).f0, (rd_T31 xs (wrap64 ((xs.length : Int) - 1))).f0, bitsOf xs, blocksOf xs) := by
  have hp : 0 < xs.length := List.length_pos_iff.2 h0
  have hw : wrap64 ((xs.length : Int) - 1) = (xs.length : Int) - 1 := w64 (by omega) (by omega)
  simp only [impl_built.f]
  refine evPos (by omega) (evPos (by omega) (evPos (by omega) (impl_built_l0_ev xs hl hok _ _ _ xs 0 [] rfl (by simp; omega) ?_)))
  obtain ⟨z, hz⟩ : ∃ z, ([] : List Int) ++ xs.flatMap (fun e => mk5 e.f0) = z := ⟨_, rfl⟩
  have hz2 : z = xs.flatMap (fun e => mk5 e.f0) := by rw [← hz, List.nil_append]
  rw [hz]
  have hzl : 0 < z.length ∧ z.length < 1000000000000000000 := by
    have h2 : ∀ ys : List S31, (ys.flatMap (fun e => mk5 e.f0)).length = 2 * ys.length := by
      intro ys
      induction ys with
      | nil => rfl
      | cons y ys ih =>
        rw [List.flatMap_cons, List.length_append, ih, List.length_cons]
        have : (mk5 y.f0).length = 2 := rfl
        omega
    rw [hz2, h2]
    omega
  have hsl : (z.mergeSort fun x y => decide (x ≤ y)).length = z.length := List.length_mergeSort _
  have s1 : Ev (fun _ : Nat => slices_Sort_int64.f z) (z.mergeSort fun x y => decide (x ≤ y)) := evId (fun _ => by unfold slices_Sort_int64.f; rw [if_pos hzl])
  have s2 : Ev (fun _ : Nat => slices_Compact_int64.f (z.mergeSort fun x y => decide (x ≤ y))) (bitsOf xs) := evId (fun _ => by unfold slices_Compact_int64.f; rw [if_pos (by rw [hsl]; exact hzl), compact_sorted_once, hz2]; rfl)
  have pk : ∀ x, Ev (fun k => impl_packed.f k (chunkAt xs x)) (packed (chunkAt xs x)) := fun x => impl_packed_ev _ (by have := chunkAt_le xs x; omega) (fun e he => hok e (chunkAt_mem he))
  exact Ev.bind s1 (Ev.bind s2 (evPos (by omega) (Ev.bind (bl_ev xs _ _ (fun x _ => pk x)) (Ev.bind (bl_ev xs _ _ (fun x _ => pk x)) (Ev.now _)))))
theorem chunk_cut (xs : List S31) (j t : Nat) (ht : t = min xs.length (8 * j + 8)) (hj : 8 * j < xs.length) : (xs.take t).drop (8 * j) = chunkAt xs j := by
  unfold chunkAt ckLen
  rw [List.drop_take, Nat.mul_comm j 8, show t - 8 * j = min 8 (xs.length - 8 * j) by omega]
theorem spec_l5Built_l0_ev (xs : List S31) (hl : xs.length ≤ 300) (hok : ∀ e ∈ xs, entOk e = true) (F0 F1 : ByteArray) (bits : List Int) : ∀ (d j : Nat) (acc : List ByteArray), j + d = cks xs.length → acc.length + d ≤ 1000000 → Ev (fun k => spec_l5Built.l0 k xs ((8 * j : Nat) : Int) F0 F1 bits acc) (F0, F1, bits, acc ++ (List.range' j d).map (fun x => strOfNums (packed (chunkAt xs x))))
  | 0, j, acc, hd, ha => by
    have hlt : ¬ ((8 * j : Nat) : Int) < (xs.length : Int) := by unfold cks at hd; omega
    refine Ev.step (fun k => by simp only [spec_l5Built.l0]; exact rfl) (evNeg hlt (evEq (Ev.now _) ?_))
    simp
  | d + 1, j, acc, hd, ha => by
    have hlt : 8 * j < xs.length := by unfold cks at hd; omega
    have hw : wrap64 (((8 * j : Nat) : Int) + 8) = ((8 * (j + 1) : Nat) : Int) := (w64 (by omega) (by omega)).trans (by omega)
    obtain ⟨t, ht⟩ : ∃ t, t = min xs.length (8 * j + 8) := ⟨_, rfl⟩
    have hmin : spec_l1Min.f (xs.length : Int) ((8 * (j + 1) : Nat) : Int) = some (t : Int) := by
      unfold spec_l1Min.f
      split
      · congr 1; omega
      · congr 1; omega
    have hc := chunk_cut xs j t ht hlt
    have pk : Ev (fun k => spec_l4Packed.f k (chunkAt xs j)) (packed (chunkAt xs j)) := spec_l4Packed_ev _ (by have := chunkAt_le xs j; omega) (fun e he => hok e (chunkAt_mem he))
    have ih := spec_l5Built_l0_ev xs hl hok F0 F1 bits d (j + 1) (acc ++ [strOfNums (packed (chunkAt xs j))]) (by omega) (by rw [List.length_append]; simp; omega)
    refine Ev.step (f := fun k => (spec_l4Packed.f k (chunkAt xs j)).bind fun q => if acc.length < 8796093022208 then spec_l5Built.l0 k xs ((8 * (j + 1) : Nat) : Int) F0 F1 bits (acc ++ [strOfNums q]) else none) (fun k => ?_) (Ev.bind pk (evPos (by omega) (evEq ih ?_)))
    · simp only [spec_l5Built.l0]
      rw [if_pos (by omega), hw, hmin]
      simp only [Option.bind_some]
      rw [if_pos (by omega), if_pos (by omega), if_pos (by omega), Int.toNat_natCast, Int.toNat_natCast, hc]
    · rw [List.range'_succ, List.map_cons, List.append_assoc]
      rfl
theorem spec_l5Built_ev (xs : List S31) (hl : xs.length ≤ 300) (hok : ∀ e ∈ xs, entOk e = true) (h0 : xs ≠ []) : Ev (fun k => spec_l5Built.f k xs) ((rd_T31 xs 0).f0, (rd_T31 xs (wrap64 ((xs.length : Int) - 1))).f0, bitsOf xs, blocksOf xs) := by
  have hp : 0 < xs.length := List.length_pos_iff.2 h0
  have hw : wrap64 ((xs.length : Int) - 1) = (xs.length : Int) - 1 := w64 (by omega) (by omega)
  simp only [spec_l5Built.f]
  refine evPos (by omega) (evPos (by omega) (evPos (by omega) (Ev.bind (spec_l5Bits_ev xs (by omega) (fun e he => by have := (entOk_iff.1 (hok e he)).1; omega)) ?_)))
  have := spec_l5Built_l0_ev xs hl hok (rd_T31 xs 0).f0 (rd_T31 xs (wrap64 ((xs.length : Int) - 1))).f0 (bitsOf xs) (cks xs.length) 0 [] (by omega) (by simp; unfold cks; omega)
  refine evEq this ?_
  unfold blocksOf
  rw [List.range_eq_range', List.nil_append]
theorem blocksOf_length (xs : List S31) : (blocksOf xs).length = cks xs.length := by
  unfold blocksOf
  rw [List.length_map, List.length_range]
theorem tbl_ex (xs : List S31) : ∃ v : ByteArray × ByteArray × List Int × List ByteArray × Bool, v.2.2.1.length ≤ 1000 ∧ v.2.2.2.1.length ≤ 1000 ∧ Ev (fun k => spec_Built.f k xs) v ∧ Ev (fun k => impl_Built.f k xs) v := by
  simp only [spec_Built.f, impl_Built.f]
  by_cases h : entriesOk xs = true
  · by_cases h2 : (xs.length : Int) = 0
    · exact ⟨((⟨#[]⟩ : ByteArray), (⟨#[]⟩ : ByteArray), [], [], false), by simp, by simp, Ev.bind (spec_EntriesOk_ev xs) (evPos h (evPos h2 (Ev.now _))), Ev.bind (impl_EntriesOk_ev xs) (evPos h (evPos h2 (Ev.now _)))⟩
    · have h0 : xs ≠ [] := fun hh => by rw [hh] at h2; simp at h2
      have hl := entriesOk_le h
      have hok := entriesOk_all h
      exact ⟨((rd_T31 xs 0).f0, (rd_T31 xs (wrap64 ((xs.length : Int) - 1))).f0, bitsOf xs, blocksOf xs, true), by have := bitsOf_length xs; simp only; omega, by have := blocksOf_length xs; unfold cks at this; simp only; omega,
        Ev.bind (spec_EntriesOk_ev xs) (evPos h (evNeg h2 (Ev.bind (spec_l5Built_ev xs hl hok h0) (Ev.now _)))), Ev.bind (impl_EntriesOk_ev xs) (evPos h (evNeg h2 (Ev.bind (impl_built_ev xs hl hok h0) (Ev.now _))))⟩
  · exact ⟨((⟨#[]⟩ : ByteArray), (⟨#[]⟩ : ByteArray), [], [], false), by simp, by simp, Ev.bind (spec_EntriesOk_ev xs) (evNeg h (Ev.now _)), Ev.bind (impl_EntriesOk_ev xs) (evNeg h (Ev.now _))⟩

theorem laws_eqInt64S_self (xs : List Int) (hl : xs.length ≤ 1000000000000000000) : Ev (fun k => laws_eqInt64S.f k xs xs) true := by
  simp only [laws_eqInt64S.f]
  refine evPos trivial (self_loop laws_eqInt64S.l0 (fun k xs i h => by simp only [laws_eqInt64S.l0]; rw [if_neg (by omega)]) (fun k xs i a hi ha h1 => ?_) xs hl)
  simp only [laws_eqInt64S.l0]
  rw [if_pos (by omega), if_pos (by omega), if_pos (by omega), if_pos trivial, w64s (by omega)]

theorem laws_eqStringS_self (xs : List ByteArray) (hl : xs.length ≤ 1000000000000000000) : Ev (fun k => laws_eqStringS.f k xs xs) true := by
  simp only [laws_eqStringS.f]
  refine evPos trivial (self_loop laws_eqStringS.l0 (fun k xs i h => by simp only [laws_eqStringS.l0]; rw [if_neg (by omega)]) (fun k xs i a hi ha h1 => ?_) xs hl)
  simp only [laws_eqStringS.l0]
  rw [if_pos (by omega), if_pos (by omega), if_pos (by omega), w64s (by omega), if_pos trivial]

theorem laws_markInt64S_ev (xs : List Int) (hl : xs.length ≤ 1000000000000000) (a : Int) (h1 : 1 ≤ a) (h2 : a ≤ 10000000000000000) : Ev (fun k => laws_markInt64S.f k xs a) (a + 1 * xs.length, marksOf (fun a => a) 1 xs.length a) := by
  simp only [laws_markInt64S.f]
  refine mark_loop laws_markInt64S.l0 (fun a => a) 1 (by decide) (fun k xs a i h => by simp only [laws_markInt64S.l0]; rw [if_neg (by omega)]) (fun xs a i r hi hi2 ha hb h => ?_) xs hl a h1 h2
  refine Ev.step (fun k => ?_) h
  simp only [laws_markInt64S.l0]
  rw [if_pos (by omega), if_pos (by omega), w64 (x := a + 1) (by omega) (by omega), w64s (by omega), Int.toNat_natCast]

theorem laws_markStringS_ev (xs : List ByteArray) (hl : xs.length ≤ 1000000000000000) (a : Int) (h1 : 1 ≤ a) (h2 : a ≤ 10000000000000000) : Ev (fun k => laws_markStringS.f k xs a) (a + 1 * xs.length, marksOf mtx 1 xs.length a) := by
  refine mark_loop laws_markStringS.l0 mtx 1 (by decide) (fun k xs a i h => ?_) (fun xs a i r h hi h1 h2 hr => ?_) xs hl a h1 h2
  · simp only [laws_markStringS.l0]
    rw [if_neg (by omega)]
  · refine Ev.step (f := fun k => (laws_markText.f k a).bind fun t => laws_markStringS.l0 k (xs.set i t) (a + 1) ((i + 1 : Nat) : Int)) (fun k => ?_) (Ev.bind (mtx_ev a (by omega)) hr)
    simp only [laws_markStringS.l0]
    rw [if_pos (by omega)]
    simp only [if_pos (show (0 : Int) ≤ i by omega), w64s (show i ≤ 1000000000000000000 by omega), w64 (x := a + 1) (by omega) (by omega), Int.toNat_natCast]

theorem laws_heldInt64S_ev (n : Nat) (hl : n ≤ 1000000000000000) (a : Int) (h1 : 1 ≤ a) (h2 : a ≤ 10000000000000000) : Ev (fun k => laws_heldInt64S.f k (marksOf (fun a => a) 1 n a) a) (a + 1 * n) := by
  refine held_loop laws_heldInt64S.l0 (fun a => a) 1 (by decide) (fun k xs a i h => ?_) (fun xs a i r h hi hi2 h1 h2 hr => ?_) n hl a h1 h2
  · simp only [laws_heldInt64S.l0]
    rw [if_neg (by omega)]
  · refine Ev.step (f := fun k => if rd xs (i : Int) = a then laws_heldInt64S.l0 k xs (a + 1) ((i + 1 : Nat) : Int) else some (-1)) (fun k => ?_) (evPos (rd_at h) hr)
    simp only [laws_heldInt64S.l0]
    rw [if_pos (by omega), if_pos (by omega), w64s (by omega), w64 (x := a + 1) (by omega) (by omega)]

theorem laws_heldStringS_ev (n : Nat) (hl : n ≤ 1000000000000000) (a : Int) (h1 : 1 ≤ a) (h2 : a ≤ 10000000000000000) : Ev (fun k => laws_heldStringS.f k (marksOf mtx 1 n a) a) (a + 1 * n) := by
  refine held_loop laws_heldStringS.l0 mtx 1 (by decide) (fun k xs a i h => ?_) (fun xs a i r h hi hi2 h1 h2 hr => ?_) n hl a h1 h2
  · simp only [laws_heldStringS.l0]
    rw [if_neg (by omega)]
  · refine Ev.step (f := fun k => (laws_markText.f k a).bind fun t => if (rdOf ByteArray.empty xs (i : Int)).toList = t.toList then laws_heldStringS.l0 k xs (a + 1) ((i + 1 : Nat) : Int) else some (-1)) (fun k => ?_) (Ev.bind (mtx_ev a (by omega)) (evPos (by rw [show rdOf ByteArray.empty xs (i : Int) = mtx a from getD_at h]) hr))
    simp only [laws_heldStringS.l0]
    rw [if_pos (by omega), if_pos (by omega), w64s (by omega), w64 (x := a + 1) (by omega) (by omega)]

theorem laws_eqTable_self (a b : ByteArray) (xs : List Int) (ss : List ByteArray) (h1 : xs.length ≤ 1000000000000) (h2 : ss.length ≤ 1000000000000) : Ev (fun k => laws_eqTable.f k a b xs ss a b xs ss) true := by
  simp only [laws_eqTable.f]
  exact evPos (by simp) (evPos (by simp) (Ev.bind (laws_eqInt64S_self xs (by omega)) (evPos rfl (Ev.bind (laws_eqStringS_self ss (by omega)) (evPos rfl (Ev.now _))))))
/-- A table's marks, as they are laid. -/
noncomputable def mti (n : Nat) : List Int := marksOf (fun a => a) 1 n 1
noncomputable def mts (n m : Nat) : List ByteArray := marksOf mtx 1 m (1 + n)
theorem laws_markTable_ev (a b : ByteArray) (xs : List Int) (ss : List ByteArray) (h1 : xs.length ≤ 1000000000000) (h2 : ss.length ≤ 1000000000000) : Ev (fun k => laws_markTable.f k a b xs ss 1) (1 + xs.length + ss.length, mti xs.length, mts xs.length ss.length) := by
  simp only [laws_markTable.f]
  have e : (1 : Int) + 1 * (xs.length : Int) = 1 + xs.length := by omega
  have q := laws_markInt64S_ev xs (by omega) 1 (by decide) (by decide)
  rw [e] at q
  have r := laws_markStringS_ev ss (by omega) (1 + xs.length) (by omega) (by omega)
  rw [show (1 + (xs.length : Int) + 1 * (ss.length : Int)) = 1 + xs.length + ss.length by omega] at r
  exact Ev.bind q (Ev.bind r (Ev.now _))
theorem laws_heldTable_ev (a b : ByteArray) (n m : Nat) (h1 : n ≤ 1000000000000) (h2 : m ≤ 1000000000000) : Ev (fun k => laws_heldTable.f k a b (mti n) (mts n m) 1) (1 + n + m) := by
  simp only [laws_heldTable.f]
  have e : (1 : Int) + 1 * (n : Int) = 1 + n := by omega
  have q := laws_heldInt64S_ev n (by omega) 1 (by decide) (by decide)
  rw [e] at q
  have r := laws_heldStringS_ev m (by omega) (1 + n) (by omega) (by omega)
  rw [show (1 + (n : Int) + 1 * (m : Int)) = 1 + n + m by omega] at r
  exact Ev.bind q (evNeg (by omega) (Ev.bind r (evNeg (by omega) (Ev.now _))))

theorem FnExactBuilt (xs : List S24) (hm : xs.length ≤ maxLen) (hw : ∀ e ∈ xs, e.f0.size ≤ maxLen ∧ e.f1.size ≤ maxLen ∧ (Lit.int .i64 e.f2).wf = true ∧ True) : ∃ k, laws_FnExactBuilt.f k xs = some true := by
  refine Ev.rounds (g := fun k => laws_FnExactBuilt.f k xs) ?_
  simp only [laws_FnExactBuilt.f]
  obtain ⟨r, hr, _, _, hk⟩ := laws_szEntryS_ev xs hm (fun e h => ⟨(hw e h).1, (hw e h).2.1⟩) 1048576 (by decide) (by decide)
  refine Ev.bind hr ?_
  by_cases h1 : r < 0
  · exact evPos h1 (Ev.now _)
  obtain ⟨hl, hs⟩ := hk (by omega)
  have toS := laws_toEntryS_ev xs (by omega)
  obtain ⟨⟨a, b, bi, bl, is⟩, v1, v2, sp, im⟩ := tbl_ex (xs.map toE)
  simp only at v1 v2
  have hself0 := laws_eqEntryS_self (xs.map toE) (by rw [List.length_map]; omega)
  have hmark0 := laws_markEntryS_ev (xs.map toE) (by rw [List.length_map]; omega) 1 (by omega) (by omega)
  have hself := laws_eqTable_self a b bi bl (by omega) (by omega)
  have hmark := laws_markTable_ev a b bi bl (by omega) (by omega)
  have hheld := laws_heldTable_ev a b bi.length bl.length (by omega) (by omega)
  have t2 : Ev (fun k => laws_FnExactBuilt.j2 k (1 + bi.length + bl.length) (is != is) a b (mti bi.length) (mts bi.length bl.length)) true := by
    refine Ev.step (fun k => by simp only [laws_FnExactBuilt.j2]; exact rfl) ?_
    exact evNeg (by simp) (Ev.bind hheld (evNeg (by omega) (evPos rfl (Ev.now _))))
  have t1 : Ev (fun k => laws_FnExactBuilt.j1 k xs is (is != is) a b bi bl a b bi bl) true := by
    refine Ev.step (fun k => by simp only [laws_FnExactBuilt.j1]; exact rfl) ?_
    exact evNeg (by simp) (Ev.bind hmark (Ev.bind hheld (evNeg (by omega) (evPos rfl (Ev.bind toS (Ev.bind im (Ev.bind hself (evPos rfl t2))))))))
  have t0 : Ev (fun k => laws_FnExactBuilt.j0 k xs is (xs.map toE) is (is != is) a b bi bl a b bi bl) true := by
    refine Ev.step (fun k => by simp only [laws_FnExactBuilt.j0]; exact rfl) ?_
    exact evNeg (by simp) (Ev.bind toS (Ev.bind hself0 (evPos rfl (Ev.bind hmark0 (evNeg (by rw [List.length_map]; omega) (Ev.bind hself (evPos rfl t1)))))))
  exact evNeg h1 (Ev.bind toS (Ev.bind sp (Ev.bind toS (Ev.bind im (Ev.bind hself (evPos rfl t0))))))
end Go.Proofs.Ytaiggfjkikfcbaa.Pure

/- Proves the plain law behind this statement of the seat (what its functions come to, over numbers and lists): that it answers true. No condition beyond the statement's own. -/
import Derived.Test.YtajidjlbgpaaoaaPFnExactCutx
import Derived.Test.YtajidjlbgpaaoaaLib
import Derived.Test.YtajidjlbgpaaoaaLibHit
import Derived.Test.YtajidjlbgpaaoaaLibRow
import Derived.Test.YtajidjlbgpaaoaaLibStr
namespace Go.Proofs.Ytajidjlbgpaaoaa.Pure
open Go Go.RowKit Go.Proofs.Ytajidjlbgpaaoaa.PFnExactCut Go.Proofs.YtajidjlbgpaaoaaW.PrintWords Go.Proofs.YtajidjlbgpaaoaaW.PrintLast Go.Proofs.YtajidjlbgpaaoaaW.PrintMore Go.Proofs.Ytajidjlbgpaaoaa.Lib
set_option linter.unusedVariables false
set_option linter.unusedSimpArgs false
def szS (left : Int) : List ByteArray → Int
  | [] => left
  | s :: xs => if left - s.size < 0 then -1 else szS (left - s.size) xs
theorem szS_bd : ∀ (xs : List ByteArray) (left : Int), 0 ≤ szS left xs → 0 ≤ left → ∀ s ∈ xs, (s.size : Int) ≤ left
  | [], _, _, _, s, hs => by simp at hs
  | x :: xs, left, h, h0, s, hs => by
    unfold szS at h
    by_cases hx : left - x.size < 0
    · rw [if_pos hx] at h; omega
    · rw [if_neg hx] at h
      rcases List.mem_cons.1 hs with rfl | hs
      · omega
      · have := szS_bd xs _ h (by omega) s hs
        omega
theorem szS_range : ∀ (xs : List ByteArray) (left : Int), 0 ≤ left → -1 ≤ szS left xs ∧ szS left xs ≤ left
  | [], left, h => by unfold szS; omega
  | x :: xs, left, h => by
    unfold szS
    by_cases hx : left - x.size < 0
    · rw [if_pos hx]; omega
    · rw [if_neg hx]
      have := szS_range xs (left - x.size) (by omega)
      omega
theorem laws_szStringS_l0_ev (xs : List ByteArray) (hl : xs.length ≤ 1000000000000000000) (hs : ∀ s ∈ xs, s.size ≤ maxLen) : ∀ (bs : List ByteArray) (i : Nat) (left : Int), xs.drop i = bs → 0 ≤ left → left ≤ 1048576 → Ev (fun k => laws_szStringS.l0 k xs left i) (szS left bs)
  | [], i, left, hd, h0, h1 => by
    have := drop_nil hd
    refine Ev.step (f := fun _ => some left) (fun k => ?_) (Ev.now _)
    simp only [laws_szStringS.l0]
    rw [if_neg (by omega)]
  | b :: bs, i, left, hd, h0, h1 => by
    obtain ⟨h2, h3, h4⟩ := drop_cons hd
    have hb : b.size ≤ 9223372036854775807 := hs b (List.mem_of_getElem? h4)
    have e1 : rdOf ByteArray.empty xs (i : Int) = b := getD_at h4
    have e2 : wrap64 (left - (b.size : Int)) = left - b.size := w64 (by omega) (by omega)
    unfold szS
    by_cases hx : left - b.size < 0
    · rw [if_pos hx]
      refine Ev.step (f := fun _ => some (-1)) (fun k => ?_) (Ev.now _)
      simp only [laws_szStringS.l0]
      rw [if_pos (by omega), if_pos (by omega), e1, e2, if_pos hx]
    · rw [if_neg hx]
      refine Ev.step (f := fun k => laws_szStringS.l0 k xs (left - b.size) ((i + 1 : Nat) : Int)) (fun k => ?_) (laws_szStringS_l0_ev xs hl hs bs (i + 1) _ h3 (by omega) (by omega))
      simp only [laws_szStringS.l0]
      rw [if_pos (by omega), if_pos (by omega), e1, e2, if_neg hx, w64s (by omega)]
/-- The law's guard: its answer, and what is known where it lets in. -/
theorem laws_szStringS_ev (xs : List ByteArray) (hl : xs.length ≤ maxLen) (hs : ∀ s ∈ xs, s.size ≤ maxLen) (left : Int) (h0 : 0 ≤ left) (h1 : left ≤ 1048576) :
    ∃ r, Ev (fun k => laws_szStringS.f k xs left) r ∧ -1 ≤ r ∧ r ≤ left ∧ (0 ≤ r → (xs.length : Int) ≤ left ∧ ∀ s ∈ xs, (s.size : Int) ≤ left) := by
  have hm : maxLen = 9223372036854775807 := rfl
  have e : wrap64 (left - (xs.length : Int)) = left - xs.length := w64 (by omega) (by omega)
  by_cases h : left - (xs.length : Int) < 0
  · refine ⟨-1, ?_, by omega, by omega, fun h => by omega⟩
    simp only [laws_szStringS.f]
    exact evPos (by rw [e]; exact h) (Ev.now _)
  · refine ⟨szS (left - xs.length) xs, ?_, ?_, ?_, fun hr => ⟨by omega, fun s h' => ?_⟩⟩
    · simp only [laws_szStringS.f]
      refine evNeg (by rw [e]; exact h) ?_
      rw [e]
      exact laws_szStringS_l0_ev xs (by omega) hs xs 0 _ rfl (by omega) (by omega)
    · exact (szS_range xs _ (by omega)).1
    · have := (szS_range xs (left - xs.length) (by omega)).2; omega
    · have := szS_bd xs _ hr (by omega) s h'; omega

def szP (left : Int) : List S100 → Int
  | [] => left
  | e :: xs => if left - e.f1.size < 0 then -1 else szP (left - e.f1.size) xs
theorem szP_bd : ∀ (xs : List S100) (left : Int), 0 ≤ szP left xs → 0 ≤ left → ∀ e ∈ xs, (e.f1.size : Int) ≤ left
  | [], _, _, _, s, hs => by simp at hs
  | x :: xs, left, h, h0, s, hs => by
    unfold szP at h
    by_cases hx : left - x.f1.size < 0
    · rw [if_pos hx] at h; omega
    · rw [if_neg hx] at h
      rcases List.mem_cons.1 hs with rfl | hs
      · omega
      · have := szP_bd xs _ h (by omega) s hs
        omega
theorem szP_range : ∀ (xs : List S100) (left : Int), 0 ≤ left → -1 ≤ szP left xs ∧ szP left xs ≤ left
  | [], left, h => by unfold szP; omega
  | x :: xs, left, h => by
    unfold szP
    by_cases hx : left - x.f1.size < 0
    · rw [if_pos hx]; omega
    · rw [if_neg hx]
      have := szP_range xs (left - x.f1.size) (by omega)
      omega
theorem laws_szPatch_eq (e : S100) (left : Int) (h0 : 0 ≤ left) (h1 : left ≤ 1048576) (hb : e.f1.size ≤ maxLen) :
    laws_szPatch.f e.f0 e.f1 left = some (if left - e.f1.size < 0 then -1 else left - e.f1.size) := by
  have hm : maxLen = 9223372036854775807 := rfl
  have e1 : wrap64 (left - (e.f1.size : Int)) = left - e.f1.size := w64 (by omega) (by omega)
  simp only [laws_szPatch.f, e1]
  by_cases hx : left - (e.f1.size : Int) < 0
  · rw [if_pos hx, if_pos hx]
  · rw [if_neg hx, if_neg hx]
theorem laws_szPatchS_l0_ev (xs : List S100) (hl : xs.length ≤ 1000000000000000000) (hs : ∀ e ∈ xs, e.f1.size ≤ maxLen) : ∀ (bs : List S100) (i : Nat) (left : Int), xs.drop i = bs → 0 ≤ left → left ≤ 1048576 → Ev (fun k => laws_szPatchS.l0 k xs left i) (szP left bs)
  | [], i, left, hd, h0, h1 => by
    have := drop_nil hd
    refine Ev.step (f := fun _ => some left) (fun k => ?_) (Ev.now _)
    simp only [laws_szPatchS.l0]
    rw [if_neg (by omega)]
  | b :: bs, i, left, hd, h0, h1 => by
    obtain ⟨h2, h3, h4⟩ := drop_cons hd
    have e1 : rd_T100 xs (i : Int) = b := getD_at h4
    have e2 := laws_szPatch_eq b left h0 h1 (hs b (List.mem_of_getElem? h4))
    unfold szP
    by_cases hx : left - b.f1.size < 0
    · rw [if_pos hx] at e2 ⊢
      refine Ev.step (f := fun _ => some (-1)) (fun k => ?_) (Ev.now _)
      simp only [laws_szPatchS.l0]
      rw [if_pos (by omega), if_pos (by omega), e1, e2]
      rfl
    · rw [if_neg hx] at e2 ⊢
      refine Ev.step (f := fun k => laws_szPatchS.l0 k xs (left - b.f1.size) ((i + 1 : Nat) : Int)) (fun k => ?_) (laws_szPatchS_l0_ev xs hl hs bs (i + 1) _ h3 (by omega) (by omega))
      simp only [laws_szPatchS.l0]
      rw [if_pos (by omega), if_pos (by omega), e1, e2]
      simp only [Option.bind_some]
      rw [if_neg (by omega), w64s (by omega)]
theorem laws_szPatchS_ev (xs : List S100) (hl : xs.length ≤ maxLen) (hs : ∀ e ∈ xs, e.f1.size ≤ maxLen) (left : Int) (h0 : 0 ≤ left) (h1 : left ≤ 1048576) :
    ∃ r, Ev (fun k => laws_szPatchS.f k xs left) r ∧ -1 ≤ r ∧ r ≤ left ∧ (0 ≤ r → (xs.length : Int) ≤ left ∧ ∀ e ∈ xs, (e.f1.size : Int) ≤ left) := by
  have hm : maxLen = 9223372036854775807 := rfl
  have e : wrap64 (left - (xs.length : Int)) = left - xs.length := w64 (by omega) (by omega)
  by_cases h : left - (xs.length : Int) < 0
  · refine ⟨-1, ?_, by omega, by omega, fun h => by omega⟩
    simp only [laws_szPatchS.f]
    exact evPos (by rw [e]; exact h) (Ev.now _)
  · refine ⟨szP (left - xs.length) xs, ?_, ?_, ?_, fun hr => ⟨by omega, fun s h' => ?_⟩⟩
    · simp only [laws_szPatchS.f]
      refine evNeg (by rw [e]; exact h) ?_
      rw [e]
      exact laws_szPatchS_l0_ev xs (by omega) hs xs 0 _ rfl (by omega) (by omega)
    · exact (szP_range xs _ (by omega)).1
    · have := (szP_range xs (left - xs.length) (by omega)).2; omega
    · have := szP_bd xs _ hr (by omega) s h'; omega
theorem laws_szDevice_ev (ss : List ByteArray) (ps : List S100) (h1 : ss.length ≤ maxLen) (h2 : ∀ s ∈ ss, s.size ≤ maxLen) (h3 : ps.length ≤ maxLen) (h4 : ∀ e ∈ ps, e.f1.size ≤ maxLen) :
    ∃ r, Ev (fun k => laws_szDevice.f k ss ps 1048576) r ∧ (0 ≤ r → ss.length ≤ 1048576 ∧ (∀ s ∈ ss, s.size ≤ 1048576) ∧ ps.length ≤ 1048576 ∧ ∀ e ∈ ps, e.f1.size ≤ 1048576) := by
  simp only [laws_szDevice.f]
  obtain ⟨r, hr, a0, a1, a2⟩ := laws_szStringS_ev ss h1 h2 1048576 (by decide) (by decide)
  by_cases hr0 : r < 0
  · exact ⟨-1, Ev.bind hr (evPos hr0 (Ev.now _)), fun h => absurd h (by decide)⟩
  obtain ⟨a3, a4⟩ := a2 (by omega)
  obtain ⟨q, hq, b0, b1, b2⟩ := laws_szPatchS_ev ps h3 h4 r (by omega) (by omega)
  by_cases hq0 : q < 0
  · exact ⟨-1, Ev.bind hr (evNeg hr0 (Ev.bind hq (evPos hq0 (Ev.now _)))), fun h => absurd h (by decide)⟩
  obtain ⟨b3, b4⟩ := b2 (by omega)
  exact ⟨q, Ev.bind hr (evNeg hr0 (Ev.bind hq (evNeg hq0 (Ev.now _)))), fun _ => ⟨by omega, fun s hs => by have := a4 s hs; omega, by omega, fun e he => by have := b4 e he; omega⟩⟩

theorem laws_toStringS_ev (xs : List ByteArray) (hl : xs.length ≤ 17592186044416) : Ev (fun k => laws_toStringS.f k xs) xs := by
  simp only [laws_toStringS.f]
  refine evPos (by omega) (evPos (by omega) ?_)
  have := copy_loop laws_toStringS.l0 (fun x => x) (⟨#[]⟩ : ByteArray) (fun k xs ys i h => by simp only [laws_toStringS.l0]; rw [if_neg (by omega)])
    (fun k xs ys i a hi ha h1 h2 => by
      simp only [laws_toStringS.l0]
      rw [if_pos (by omega), if_pos (by omega), if_pos (by omega), w64s (by omega), show rdOf ByteArray.empty xs (i : Int) = a from getD_at ha, Int.toNat_natCast]) xs (by omega)
  simpa using this

/-- The law's record as the program's. -/
def toP (x : S100) : S72 := ⟨x.f0, x.f1⟩
theorem laws_toPatchS_ev (xs : List S100) (hl : xs.length ≤ 5864062014805) : Ev (fun k => laws_toPatchS.f k xs) (xs.map toP) := by
  simp only [laws_toPatchS.f]
  refine evPos (by omega) (evPos (by omega) ?_)
  have := copy_loop laws_toPatchS.l0 toP z72 (fun k xs ys i h => by simp only [laws_toPatchS.l0]; rw [if_neg (by omega)])
    (fun k xs ys i a hi ha h1 h2 => by
      simp only [laws_toPatchS.l0, laws_toPatch.f, Option.bind_some]
      rw [if_pos (by omega), if_pos (by omega), if_pos (by omega), w64s (by omega), show rd_T100 xs (i : Int) = a from getD_at ha, Int.toNat_natCast]
      rfl) xs (by omega)
  simpa using this
theorem laws_toDevice_ev (ss : List ByteArray) (ps : List S100) (h1 : ss.length ≤ 1048576) (h2 : ps.length ≤ 1048576) : Ev (fun k => laws_toDevice.f k ss ps) (ss, ps.map toP) := by
  simp only [laws_toDevice.f]
  exact Ev.bind (laws_toStringS_ev ss (by omega)) (Ev.bind (laws_toPatchS_ev ps (by omega)) (Ev.now _))

theorem spec_l1In_ev (a b c : Int) : Ev (fun _ => spec_l1In.f a b c) (within a b c) := by
  refine evId (fun _ => ?_)
  unfold spec_l1In.f within
  by_cases h : a ≥ b
  · rw [if_pos h, decide_eq_true (show b ≤ a from h), Bool.true_and]
  · rw [if_neg h, decide_eq_false (show ¬ b ≤ a from h), Bool.false_and]

theorem impl_within_ev (a b c : Int) : Ev (fun _ => impl_within.f a b c) (within a b c) := by
  refine evId (fun _ => ?_)
  unfold impl_within.f within
  by_cases h : a ≥ b
  · rw [if_pos h, decide_eq_true (show b ≤ a from h), Bool.true_and]
  · rw [if_neg h, decide_eq_false (show ¬ b ≤ a from h), Bool.false_and]

def patchOk (n : Nat) (x : S72) : Bool := within x.f0 0 ((n : Int) - 1) && decide ((x.f1.size : Int) ≤ 400)
def deviceOk (ss : List ByteArray) (ps : List S72) : Bool := within ss.length 1 16 && (decide ((ps.length : Int) ≤ 30) && (ss.all (fun s => decide ((s.size : Int) ≤ 400)) && ps.all (patchOk ss.length)))
theorem impl_DeviceOk_ev (ss : List ByteArray) (ps : List S72) : Ev (fun _ => impl_DeviceOk.f ss ps) (deviceOk ss ps) := by
  refine evId fun k => ?_
  have e1 : ss.any (fun s => decide ((s.size : Int) > 400)) = !ss.all (fun s => decide ((s.size : Int) ≤ 400)) := by
    rw [List.not_all_eq_any_not]
    congr 1
    funext s
    rw [Bool.eq_iff_iff]
    simp
  have e2 : (!ps.any (fun x => !okPatch ss.length x)) = ps.all (patchOk ss.length) := by
    rw [List.not_any_eq_all_not]
    congr 1
    funext x
    simp [okPatch, patchOk, within]
  unfold impl_DeviceOk.f deviceOk
  rw [e1, e2]
  by_cases h1 : 1 ≤ (ss.length : Int) ∧ (ss.length : Int) ≤ 16
  · rw [if_pos h1, show within (ss.length : Int) 1 16 = true by unfold within; simp only [Bool.and_eq_true, decide_eq_true_eq]; exact h1, Bool.true_and]
    by_cases h2 : (ps.length : Int) > 30
    · rw [if_pos h2, decide_eq_false (by omega), Bool.false_and]
    · rw [if_neg h2, decide_eq_true (by omega), Bool.true_and]
      by_cases h3 : ss.all (fun s => decide ((s.size : Int) ≤ 400)) = true
      · rw [h3, Bool.true_and, if_neg (by decide)]
      · rw [Bool.eq_false_iff.2 h3, Bool.false_and, if_pos (by decide)]
  · rw [if_neg h1, show within (ss.length : Int) 1 16 = false by rw [Bool.eq_false_iff]; intro h; unfold within at h; simp only [Bool.and_eq_true, decide_eq_true_eq] at h; exact h1 h, Bool.false_and]
theorem spec_DeviceOk_l1_ev (ss : List ByteArray) (ps : List S72) (hs : ss.length ≤ 16) (hp : ps.length ≤ 30) : ∀ (bs : List S72) (i : Nat), ps.drop i = bs → Ev (fun k => spec_DeviceOk.l1 k (ss.length : Int) i ss ps) (bs.all (patchOk ss.length))
  | [], i, hd => by
    have := drop_nil hd
    refine Ev.step (f := fun _ => some true) (fun k => ?_) (Ev.now _)
    simp only [spec_DeviceOk.l1]
    rw [if_neg (by omega)]
  | b :: bs, i, hd => by
    obtain ⟨h2, h3, h4⟩ := drop_cons hd
    have e1 : rd_T72 ps (i : Int) = b := getD_at h4
    have e2 : wrap64 ((ss.length : Int) - 1) = (ss.length : Int) - 1 := w64 (by omega) (by omega)
    refine Ev.step (f := fun k => (spec_l1In.f b.f0 0 ((ss.length : Int) - 1)).bind fun t => if t = true then (if (b.f1.size : Int) > 400 then some false else spec_DeviceOk.l1 k (ss.length : Int) ((i + 1 : Nat) : Int) ss ps) else some false) (fun k => ?_) ?_
    · simp only [spec_DeviceOk.l1]
      rw [if_pos (by omega), if_pos (by omega), e1, e2, w64s (by omega)]
    · refine Ev.bind (spec_l1In_ev _ _ _) ?_
      rw [List.all_cons]
      unfold patchOk
      by_cases h5 : within b.f0 0 ((ss.length : Int) - 1) = true
      · rw [h5, Bool.true_and]
        refine evPos rfl ?_
        by_cases h6 : (b.f1.size : Int) > 400
        · rw [decide_eq_false (by omega), Bool.false_and]
          exact evPos h6 (Ev.now _)
        · rw [decide_eq_true (by omega), Bool.true_and]
          exact evNeg h6 (spec_DeviceOk_l1_ev ss ps hs hp bs (i + 1) h3)
      · rw [Bool.eq_false_iff.2 h5, Bool.false_and, Bool.false_and]
        exact evNeg (by decide) (Ev.now _)
theorem spec_DeviceOk_l0_ev (ss : List ByteArray) (ps : List S72) (hs : ss.length ≤ 16) (hp : ps.length ≤ 30) : ∀ (bs : List ByteArray) (i : Nat), ss.drop i = bs → Ev (fun k => spec_DeviceOk.l0 k (ss.length : Int) i ss ps) (bs.all (fun s => decide ((s.size : Int) ≤ 400)) && ps.all (patchOk ss.length))
  | [], i, hd => by
    have := drop_nil hd
    rw [List.all_nil, Bool.true_and]
    refine Ev.step (f := fun k => spec_DeviceOk.l1 k (ss.length : Int) ((0 : Nat) : Int) ss ps) (fun k => ?_) (spec_DeviceOk_l1_ev ss ps hs hp ps 0 rfl)
    simp only [spec_DeviceOk.l0]
    rw [if_neg (by omega)]
    rfl
  | b :: bs, i, hd => by
    obtain ⟨h2, h3, h4⟩ := drop_cons hd
    have e1 : rdOf ByteArray.empty ss (i : Int) = b := getD_at h4
    refine Ev.step (f := fun k => if (b.size : Int) > 400 then some false else spec_DeviceOk.l0 k (ss.length : Int) ((i + 1 : Nat) : Int) ss ps) (fun k => ?_) ?_
    · simp only [spec_DeviceOk.l0]
      rw [if_pos (by omega), if_pos (by omega), if_pos (by omega), e1, w64s (by omega)]
    · rw [List.all_cons]
      by_cases h6 : (b.size : Int) > 400
      · rw [decide_eq_false (by omega), Bool.false_and, Bool.false_and]
        exact evPos h6 (Ev.now _)
      · rw [decide_eq_true (by omega), Bool.true_and]
        exact evNeg h6 (spec_DeviceOk_l0_ev ss ps hs hp bs (i + 1) h3)
theorem spec_DeviceOk_ev (ss : List ByteArray) (ps : List S72) : Ev (fun k => spec_DeviceOk.f k ss ps) (deviceOk ss ps) := by
  simp only [spec_DeviceOk.f]
  unfold deviceOk
  by_cases h1 : (ss.length : Int) < 1
  · refine evPos h1 (Ev.step (f := fun _ => some false) (fun k => by simp only [spec_DeviceOk.j0]; rfl) (evEq (Ev.now _) ?_))
    rw [show within (ss.length : Int) 1 16 = false by unfold within; rw [decide_eq_false (by omega), Bool.false_and], Bool.false_and]
  refine evNeg h1 ?_
  by_cases h2 : (ss.length : Int) > 16
  · refine evPos h2 (Ev.step (f := fun _ => some false) (fun k => by simp only [spec_DeviceOk.j0]; rfl) (evEq (Ev.now _) ?_))
    rw [show within (ss.length : Int) 1 16 = false by unfold within; rw [decide_eq_false (p := (ss.length : Int) ≤ 16) (by omega), Bool.and_false], Bool.false_and]
  refine evNeg h2 ?_
  rw [show within (ss.length : Int) 1 16 = true by unfold within; rw [decide_eq_true (p := (1 : Int) ≤ (ss.length : Int)) (by omega), decide_eq_true (by omega)]; rfl, Bool.true_and]
  by_cases h3 : (ps.length : Int) > 30
  · rw [decide_eq_true h3, decide_eq_false (by omega), Bool.false_and]
    exact Ev.step (f := fun _ => some false) (fun k => by simp only [spec_DeviceOk.j0]; rfl) (Ev.now _)
  · rw [decide_eq_false h3, decide_eq_true (by omega), Bool.true_and]
    refine Ev.step (f := fun k => spec_DeviceOk.l0 k (ss.length : Int) ((0 : Nat) : Int) ss ps) (fun k => by simp only [spec_DeviceOk.j0]; rfl) (spec_DeviceOk_l0_ev ss ps (by omega) (by omega) ss 0 rfl)
theorem deviceOk_bd {ss : List ByteArray} {ps : List S72} (h : deviceOk ss ps = true) : 1 ≤ ss.length ∧ ss.length ≤ 16 ∧ ps.length ≤ 30 ∧ (∀ s ∈ ss, s.size ≤ 400) ∧ ∀ p ∈ ps, 0 ≤ p.f0 ∧ p.f0 < ss.length ∧ p.f1.size ≤ 400 := by
  unfold deviceOk within at h
  simp only [Bool.and_eq_true, decide_eq_true_eq, List.all_eq_true, patchOk, within] at h
  obtain ⟨⟨h1, h2⟩, h3, h4, h5⟩ := h
  exact ⟨by omega, by omega, by omega, fun s hs => by have := h4 s hs; omega, fun p hp => by have := h5 p hp; omega⟩
theorem within_bd {a b c : Int} (h : within a b c = true) : b ≤ a ∧ a ≤ c := by
  unfold within at h
  simpa using h

/-- Of the late patches some are kept. -/
def settle : List Bool → List ByteArray → List S72 → List ByteArray
  | k :: ks, ss, p :: ps => settle ks (if k = true then ss.set p.f0.toNat p.f1 else ss) ps
  | _, ss, _ => ss
theorem settle_nil (ss : List ByteArray) (ps : List S72) : settle [] ss ps = ss := by cases ps <;> rfl
theorem settle_nil2 (ks : List Bool) (ss : List ByteArray) : settle ks ss [] = ss := by cases ks <;> rfl
theorem settle_length : ∀ (ps : List S72) (ks : List Bool) (ss : List ByteArray), (settle ks ss ps).length = ss.length
  | [], ks, ss => by rw [settle_nil2]
  | p :: ps, [], ss => by rw [settle_nil]
  | p :: ps, k :: ks, ss => by
    rw [settle, settle_length ps ks]
    split
    · rw [List.length_set]
    · rfl
def cutOf (ss : List ByteArray) (ps : List S72) (kept : List Bool) : List ByteArray × List S72 := if deviceOk ss ps = true then (settle kept ss ps, []) else ([], [])
theorem cutOf_bd (ss : List ByteArray) (ps : List S72) (kept : List Bool) : (cutOf ss ps kept).1.length ≤ 16 ∧ (cutOf ss ps kept).2 = [] := by
  unfold cutOf
  split
  · rename_i h
    obtain ⟨d1, d2, d3, d4, d5⟩ := deviceOk_bd h
    exact ⟨by show (settle kept ss ps).length ≤ 16; rw [settle_length]; exact d2, rfl⟩
  · exact ⟨by simp, rfl⟩
theorem spec_Cut_l0_ev (kept : List Bool) (ss0 : List ByteArray) (ps : List S72) (n : Nat) (hk : kept.length ≤ 1000000000) (hp : ps.length ≤ 30) (hb : ∀ p ∈ ps, 0 ≤ p.f0 ∧ p.f0 < (n : Int)) : ∀ (bs : List S72) (i : Nat) (ss : List ByteArray), ss.length = n → ps.drop i = bs → Ev (fun k => spec_Cut.l0 k kept i ss0 ps ss) (settle (kept.drop i) ss bs, [])
  | [], i, ss, hs, hd => by
    have := drop_nil hd
    rw [settle_nil2]
    refine Ev.step (f := fun k => spec_Cut.j1 k kept i false ss0 ps ss) (fun k => ?_) (Ev.step (f := fun _ => some (ss, [])) (fun k => ?_) (Ev.now _))
    · simp only [spec_Cut.l0]
      rw [if_neg (by omega)]
    · simp only [spec_Cut.j1]
      rfl
  | b :: bs, i, ss, hs, hd => by
    obtain ⟨h2, h3, h4⟩ := drop_cons hd
    have e1 : rd_T72 ps (i : Int) = b := getD_at h4
    obtain ⟨b0, b1⟩ := hb b (List.mem_of_getElem? h4)
    refine Ev.step (f := fun k => spec_Cut.j1 k kept i (decide ((i : Int) < (kept.length : Int))) ss0 ps ss) (fun k => ?_) ?_
    · simp only [spec_Cut.l0]
      rw [if_pos (by omega)]
    · by_cases hi : i < kept.length
      · obtain ⟨y, ys, hy⟩ : ∃ y ys, kept.drop i = y :: ys := ⟨_, _, List.drop_eq_getElem_cons hi⟩
        obtain ⟨k2, k3, k4⟩ := drop_cons hy
        have e2 : rdOf false kept (i : Int) = y := getD_at k4
        rw [hy, settle, decide_eq_true (by omega)]
        have ih := spec_Cut_l0_ev kept ss0 ps n hk hp hb bs (i + 1) (if y = true then ss.set b.f0.toNat b.f1 else ss) (by split <;> simp [hs]) h3
        rw [k3] at ih
        refine Ev.step (f := fun k => spec_Cut.l0 k kept ((i + 1 : Nat) : Int) ss0 ps (if y = true then ss.set b.f0.toNat b.f1 else ss)) (fun k => ?_) ih
        simp only [spec_Cut.j1, if_true]
        rw [if_pos (by omega), if_pos (by omega), e2, e1, w64s (by omega)]
        by_cases h5 : y = true
        · rw [if_pos h5, if_pos h5, if_pos (by omega), if_pos b0, if_pos (by omega)]
        · rw [if_neg h5, if_neg h5]
      · rw [show kept.drop i = [] from drop_end _ _ (by omega), settle_nil, decide_eq_false (by omega)]
        exact Ev.step (f := fun _ => some (ss, [])) (fun k => by simp only [spec_Cut.j1]; rfl) (Ev.now _)
theorem spec_Cut_ev (ss : List ByteArray) (ps : List S72) (kept : List Bool) (hk : kept.length ≤ 1000000000) : Ev (fun k => spec_Cut.f k ss ps kept) (cutOf ss ps kept) := by
  simp only [spec_Cut.f]
  refine Ev.bind (spec_DeviceOk_ev ss ps) ?_
  unfold cutOf
  by_cases h : deviceOk ss ps = true
  · obtain ⟨d1, d2, d3, d4, d5⟩ := deviceOk_bd h
    rw [if_pos h]
    refine evPos h (Ev.bind (Ev.now _) (evPos (by simp only [List.length_nil]; omega) ?_))
    have := spec_Cut_l0_ev kept ss ps ss.length hk d3 (fun p hp => ⟨(d5 p hp).1, (d5 p hp).2.1⟩) ps 0 ss rfl rfl
    exact this
  · rw [if_neg h]
    exact evNeg h (Ev.now _)

theorem impl_Device_settledG_l0_ev (kept : List Bool) (ps : List S72) (n : Nat) (hp : ps.length ≤ 30) (hb : ∀ p ∈ ps, 0 ≤ p.f0 ∧ p.f0 < (n : Int)) : ∀ (bs : List S72) (i : Nat) (ss : List ByteArray), ss.length = n → ps.drop i = bs → Ev (fun k => impl_Device_settledG.l0 (keptAt kept) k ps (ps.length : Int) i ss) (settle (kept.drop i) ss bs, [])
  | [], i, ss, hs, hd => by
    have := drop_nil hd
    rw [settle_nil2]
    refine Ev.step (f := fun _ => some (ss, [])) (fun k => ?_) (Ev.now _)
    simp only [impl_Device_settledG.l0]
    rw [if_neg (by omega)]
  | b :: bs, i, ss, hs, hd => by
    obtain ⟨h2, h3, h4⟩ := drop_cons hd
    have e1 : rd_T72 ps (i : Int) = b := getD_at h4
    obtain ⟨b0, b1⟩ := hb b (List.mem_of_getElem? h4)
    by_cases hi : i < kept.length
    · obtain ⟨y, ys, hy⟩ : ∃ y ys, kept.drop i = y :: ys := ⟨_, _, List.drop_eq_getElem_cons hi⟩
      obtain ⟨k2, k3, k4⟩ := drop_cons hy
      have e2 : keptAt kept (i : Int) = y := by
        unfold keptAt
        rw [if_pos (by omega)]
        exact getD_at k4
      have ih := impl_Device_settledG_l0_ev kept ps n hp hb bs (i + 1) (if y = true then ss.set b.f0.toNat b.f1 else ss) (by split <;> simp [hs]) h3
      rw [k3] at ih
      rw [hy, settle]
      refine Ev.step (f := fun k => impl_Device_settledG.l0 (keptAt kept) k ps (ps.length : Int) ((i + 1 : Nat) : Int) (if y = true then ss.set b.f0.toNat b.f1 else ss)) (fun k => ?_) ih
      simp only [impl_Device_settledG.l0, Option.bind_some]
      rw [if_pos (by omega), if_pos (by omega), if_pos (by omega), e2, e1, w64s (by omega)]
      by_cases h5 : y = true
      · rw [if_pos h5, if_pos h5, if_pos b0, if_pos (by omega)]
      · rw [if_neg h5, if_neg h5]
    · have e2 : keptAt kept (i : Int) = false := by
        unfold keptAt
        rw [if_neg (by omega)]
      have ih := impl_Device_settledG_l0_ev kept ps n hp hb bs (i + 1) ss hs h3
      rw [show kept.drop (i + 1) = [] from drop_end _ _ (by omega), settle_nil] at ih
      rw [show kept.drop i = [] from drop_end _ _ (by omega), settle_nil]
      refine Ev.step (f := fun k => impl_Device_settledG.l0 (keptAt kept) k ps (ps.length : Int) ((i + 1 : Nat) : Int) ss) (fun k => ?_) ih
      simp only [impl_Device_settledG.l0, Option.bind_some]
      rw [if_pos (by omega), if_pos (by omega), if_pos (by omega), e2, if_neg (by decide), w64s (by omega)]
theorem impl_Cut_ev (ss : List ByteArray) (ps : List S72) (kept : List Bool) : Ev (fun k => impl_Cut.f k ss ps kept) (cutOf ss ps kept) := by
  simp only [impl_Cut.f, impl_Device_settledG.f, slices_Clone_string.f]
  refine Ev.bind (impl_DeviceOk_ev ss ps) ?_
  unfold cutOf
  by_cases h : deviceOk ss ps = true
  · obtain ⟨d1, d2, d3, d4, d5⟩ := deviceOk_bd h
    rw [if_pos h]
    exact evPos h (Ev.bind (evPos (by omega) (Ev.now _)) (impl_Device_settledG_l0_ev kept ps ss.length d3 (fun p hp => ⟨(d5 p hp).1, (d5 p hp).2.1⟩) ps 0 ss rfl rfl))
  · rw [if_neg h]
    exact evNeg h (Ev.now _)

theorem laws_eqStringS_self (xs : List ByteArray) (hl : xs.length ≤ 1000000000000000000) : Ev (fun k => laws_eqStringS.f k xs xs) true := by
  simp only [laws_eqStringS.f]
  refine evPos trivial (self_loop laws_eqStringS.l0 (fun k xs i h => by simp only [laws_eqStringS.l0]; rw [if_neg (by omega)]) (fun k xs i a hi ha h1 => ?_) xs hl)
  simp only [laws_eqStringS.l0]
  rw [if_pos (by omega), if_pos (by omega), if_pos (by omega), w64s (by omega), if_pos trivial]

theorem laws_eqPatch_self (e : S72) : laws_eqPatch.f e.f0 e.f1 e.f0 e.f1 = some true := by
  simp [laws_eqPatch.f]
theorem laws_eqPatchS_self (xs : List S72) (hl : xs.length ≤ 1000000000000000000) : Ev (fun k => laws_eqPatchS.f k xs xs) true := by
  simp only [laws_eqPatchS.f]
  refine evPos trivial (self_loop laws_eqPatchS.l0 (fun k xs i h => by simp only [laws_eqPatchS.l0]; rw [if_neg (by omega)]) (fun k xs i a hi ha h1 => ?_) xs hl)
  simp only [laws_eqPatchS.l0]
  rw [if_pos (by omega), if_pos (by omega), if_pos (by omega), laws_eqPatch_self, w64s (by omega)]
  rfl
theorem laws_eqDevice_self (ss : List ByteArray) (ps : List S72) (h1 : ss.length ≤ 1000000000000000000) (h2 : ps.length ≤ 1000000000000000000) : Ev (fun k => laws_eqDevice.f k ss ps ss ps) true := by
  simp only [laws_eqDevice.f]
  exact Ev.bind (laws_eqStringS_self ss h1) (evPos rfl (Ev.bind (laws_eqPatchS_self ps h2) (evPos rfl (Ev.now _))))

theorem laws_markText_l0_ev (n : Nat) : ∀ (s : ByteArray), s.size + n ≤ 2000000000000000000 → ∃ t, Ev (fun k => laws_markText.l0 k (n : Int) s) t := by
  induction n using Nat.strongRecOn with
  | ind n ih =>
    intro s hs
    by_cases h : n = 0
    · subst h
      refine ⟨_, Ev.step (f := fun _ => some ((⟨#[109]⟩ : ByteArray) ++ s)) (fun k => ?_) (Ev.now _)⟩
      simp only [laws_markText.l0]
      rw [if_neg (by simp), if_pos (by omega)]
    · have hsz : (strOfNums [wrap64 (48 + Int.tmod (n : Int) 10) % 256]).size = 1 := by rw [strOfNums_size]; rfl
      obtain ⟨t, ht⟩ := ih (n / 10) (by omega) (strOfNums [wrap64 (48 + Int.tmod (n : Int) 10) % 256] ++ s) (by rw [ByteArray.size_append, hsz]; omega)
      refine ⟨t, Ev.step (f := fun k => laws_markText.l0 k ((n / 10 : Nat) : Int) (strOfNums [wrap64 (48 + Int.tmod (n : Int) 10) % 256] ++ s)) (fun k => ?_) ht⟩
      simp only [laws_markText.l0]
      rw [if_pos (by omega)]
      simp only [Option.bind_some]
      rw [if_pos (by rw [hsz]; omega), Int.tdiv_eq_ediv_of_nonneg (by omega), w64 (x := (n : Int) / 10) (by omega) (by omega)]
      rfl
theorem laws_markText_ex (a : Int) (h : a ≤ 1500000000000000000) : ∃ t, Ev (fun k => laws_markText.f k a) t := by
  simp only [laws_markText.f]
  by_cases h0 : a ≤ 0
  · exact ⟨_, evPos h0 (Ev.now _)⟩
  · obtain ⟨t, ht⟩ := laws_markText_l0_ev a.toNat (⟨#[]⟩ : ByteArray) (by show 0 + _ ≤ _; omega)
    rw [show ((a.toNat : Nat) : Int) = a by omega] at ht
    exact ⟨t, evNeg h0 ht⟩
/-- The text by which a place is marked. -/
noncomputable def mtx (a : Int) : ByteArray := by
  classical
  exact if h : ∃ t, Ev (fun k => laws_markText.f k a) t then Classical.choose h else ByteArray.empty
theorem mtx_ev (a : Int) (h : a ≤ 1500000000000000000) : Ev (fun k => laws_markText.f k a) (mtx a) := by
  unfold mtx
  rw [dif_pos (laws_markText_ex a h)]
  exact Classical.choose_spec (laws_markText_ex a h)

theorem laws_markStringS_ev (xs : List ByteArray) (hl : xs.length ≤ 1000000000000000) (a : Int) (h1 : 1 ≤ a) (h2 : a ≤ 10000000000000000) : Ev (fun k => laws_markStringS.f k xs a) (a + 1 * xs.length, marksOf mtx 1 xs.length a) := by
  refine mark_loop laws_markStringS.l0 mtx 1 (by decide) (fun k xs a i h => ?_) (fun xs a i r h hi h1 h2 hr => ?_) xs hl a h1 h2
  · simp only [laws_markStringS.l0]
    rw [if_neg (by omega)]
  · refine Ev.step (f := fun k => (laws_markText.f k a).bind fun t => laws_markStringS.l0 k (xs.set i t) (a + 1) ((i + 1 : Nat) : Int)) (fun k => ?_) (Ev.bind (mtx_ev a (by omega)) hr)
    simp only [laws_markStringS.l0]
    rw [if_pos (by omega)]
    simp only [if_pos (show (0 : Int) ≤ i by omega), w64s (show i ≤ 1000000000000000000 by omega), w64 (x := a + 1) (by omega) (by omega), Int.toNat_natCast]

theorem laws_heldStringS_ev (n : Nat) (hl : n ≤ 1000000000000000) (a : Int) (h1 : 1 ≤ a) (h2 : a ≤ 10000000000000000) : Ev (fun k => laws_heldStringS.f k (marksOf mtx 1 n a) a) (a + 1 * n) := by
  refine held_loop laws_heldStringS.l0 mtx 1 (by decide) (fun k xs a i h => ?_) (fun xs a i r h hi hi2 h1 h2 hr => ?_) n hl a h1 h2
  · simp only [laws_heldStringS.l0]
    rw [if_neg (by omega)]
  · refine Ev.step (f := fun k => (laws_markText.f k a).bind fun t => if (rdOf ByteArray.empty xs (i : Int)).toList = t.toList then laws_heldStringS.l0 k xs (a + 1) ((i + 1 : Nat) : Int) else some (-1)) (fun k => ?_) (Ev.bind (mtx_ev a (by omega)) (evPos (by rw [show rdOf ByteArray.empty xs (i : Int) = mtx a from getD_at h]) hr))
    simp only [laws_heldStringS.l0]
    rw [if_pos (by omega), if_pos (by omega), w64s (by omega), w64 (x := a + 1) (by omega) (by omega)]

noncomputable def mtp (a : Int) : S72 := ⟨a, mtx (a + 1)⟩
theorem laws_markPatchS_ev (xs : List S72) (hl : xs.length ≤ 1000000000000000) (a : Int) (h1 : 1 ≤ a) (h2 : a ≤ 10000000000000000) : Ev (fun k => laws_markPatchS.f k xs a) (a + 2 * xs.length, marksOf mtp 2 xs.length a) := by
  refine mark_loop laws_markPatchS.l0 mtp 2 (by decide) (fun k xs a i h => ?_) (fun xs a i r h hi h1 h2 hr => ?_) xs hl a h1 h2
  · simp only [laws_markPatchS.l0]
    rw [if_neg (by omega)]
  · have e1 : wrap64 (a + 1) = a + 1 := w64 (by omega) (by omega)
    have e2 : wrap64 (a + 1 + 1) = a + 2 := w64 (x := a + 1 + 1) (by omega) (by omega) |>.trans (by omega)
    refine Ev.step (f := fun k => (laws_markText.f k (a + 1)).bind fun u => laws_markPatchS.l0 k (xs.set i ⟨a, u⟩) (a + 2) ((i + 1 : Nat) : Int)) (fun k => ?_) (Ev.bind (mtx_ev (a + 1) (by omega)) hr)
    simp only [laws_markPatchS.l0]
    rw [if_pos (by omega), if_pos (by omega)]
    have g1 : ∀ (ys : List S72) (v d : S72), i < ys.length → (ys.set i v).getD i d = v := fun ys v d hh => by simp [List.getD_eq_getElem?_getD, List.getElem?_set, hh]
    simp only [Option.bind_some, e1, e2, w64s (show i ≤ 1000000000000000000 by omega), rd_T72, Int.toNat_natCast, List.set_set, g1 _ _ _ h]
theorem laws_heldPatchS_ev (n : Nat) (hl : n ≤ 1000000000000000) (a : Int) (h1 : 1 ≤ a) (h2 : a ≤ 10000000000000000) : Ev (fun k => laws_heldPatchS.f k (marksOf mtp 2 n a) a) (a + 2 * n) := by
  refine held_loop laws_heldPatchS.l0 mtp 2 (by decide) (fun k xs a i h => ?_) (fun xs a i r h hi hi2 h1 h2 hr => ?_) n hl a h1 h2
  · simp only [laws_heldPatchS.l0]
    rw [if_neg (by omega)]
  · have e1 : wrap64 (a + 1) = a + 1 := w64 (by omega) (by omega)
    have e2 : wrap64 (a + 1 + 1) = a + 2 := w64 (x := a + 1 + 1) (by omega) (by omega) |>.trans (by omega)
    have e5 : rd_T72 xs (i : Int) = mtp a := getD_at h
    refine Ev.step (fun k => by simp only [laws_heldPatchS.l0]; rw [if_pos (by omega), if_pos (by omega), e5, e1, e2, w64s (by omega)]) ?_
    exact evPos rfl (Ev.bind (mtx_ev (a + 1) (by omega)) (evPos rfl hr))
/-- A device that is marked, and its marks. -/
noncomputable def mds (n : Nat) : List ByteArray := marksOf mtx 1 n 1
noncomputable def mdl (n m : Nat) : List S72 := marksOf mtp 2 m (1 + n)
theorem laws_markDevice_ev (ss : List ByteArray) (ps : List S72) (h1 : ss.length ≤ 1000000000000) (h2 : ps.length ≤ 1000000000000) : Ev (fun k => laws_markDevice.f k ss ps 1) (1 + ss.length + 2 * ps.length, mds ss.length, mdl ss.length ps.length) := by
  simp only [laws_markDevice.f]
  have e : (1 : Int) + 1 * (ss.length : Int) = 1 + ss.length := by omega
  have a := laws_markStringS_ev ss (by omega) 1 (by decide) (by decide)
  rw [e] at a
  exact Ev.bind a (Ev.bind (laws_markPatchS_ev ps (by omega) (1 + ss.length) (by omega) (by omega)) (Ev.now _))
theorem laws_heldDevice_ev (n m : Nat) (h1 : n ≤ 1000000000000) (h2 : m ≤ 1000000000000) : Ev (fun k => laws_heldDevice.f k (mds n) (mdl n m) 1) (1 + n + 2 * m) := by
  simp only [laws_heldDevice.f]
  have e : (1 : Int) + 1 * (n : Int) = 1 + n := by omega
  have a := laws_heldStringS_ev n (by omega) 1 (by decide) (by decide)
  rw [e] at a
  exact Ev.bind a (evNeg (by omega) (Ev.bind (laws_heldPatchS_ev m (by omega) (1 + n) (by omega) (by omega)) (evNeg (by omega) (Ev.now _))))

theorem laws_toBoolS_ev (xs : List Bool) (hl : xs.length ≤ 281474976710656) : Ev (fun k => laws_toBoolS.f k xs) xs := by
  simp only [laws_toBoolS.f]
  refine evPos (by omega) (evPos (by omega) ?_)
  have := copy_loop laws_toBoolS.l0 (fun x => x) false (fun k xs ys i h => by simp only [laws_toBoolS.l0]; rw [if_neg (by omega)])
    (fun k xs ys i a hi ha h1 h2 => by
      simp only [laws_toBoolS.l0]
      rw [if_pos (by omega), if_pos (by omega), if_pos (by omega), w64s (by omega), show rdOf false xs (i : Int) = a from getD_at ha, Int.toNat_natCast]) xs (by omega)
  simpa using this
theorem laws_eqBoolS_self (xs : List Bool) (hl : xs.length ≤ 1000000000000000000) : Ev (fun k => laws_eqBoolS.f k xs xs) true := by
  simp only [laws_eqBoolS.f]
  refine evPos trivial (self_loop laws_eqBoolS.l0 (fun k xs i h => by simp only [laws_eqBoolS.l0]; rw [if_neg (by omega)]) (fun k xs i a hi ha h1 => ?_) xs hl)
  simp only [laws_eqBoolS.l0]
  rw [if_pos (by omega), if_pos (by omega), if_pos (by omega), if_neg (by simp), w64s (by omega)]
def mb (a : Int) : Bool := Int.tmod a 3 == 0
theorem laws_markBoolS_ev (xs : List Bool) (hl : xs.length ≤ 1000000000000000) (a : Int) (h1 : 1 ≤ a) (h2 : a ≤ 10000000000000000) : Ev (fun k => laws_markBoolS.f k xs a) (a + 1 * xs.length, marksOf mb 1 xs.length a) := by
  simp only [laws_markBoolS.f]
  refine mark_loop laws_markBoolS.l0 mb 1 (by decide) (fun k xs a i h => by simp only [laws_markBoolS.l0]; rw [if_neg (by omega)]) (fun xs a i r hi hi2 ha hb h => ?_) xs hl a h1 h2
  refine Ev.step (fun k => ?_) h
  simp only [laws_markBoolS.l0]
  rw [if_pos (by omega), if_pos (by omega), w64 (x := a + 1) (by omega) (by omega), w64s (by omega), Int.toNat_natCast]
  rfl

theorem FnExactCut (ss : List ByteArray) (ps : List S100) (ks : List Bool) (h1 : ss.length ≤ maxLen) (h2 : ∀ s ∈ ss, s.size ≤ maxLen) (h3 : ps.length ≤ maxLen) (h4 : ∀ e ∈ ps, (Lit.int .i64 e.f0).wf = true ∧ e.f1.size ≤ maxLen) (hk1 : ks.length ≤ maxLen) (hk2 : ∀ b ∈ ks, True) : ∃ k, laws_FnExactCut.f k ss ps ks = some true := by
  refine Ev.rounds (g := fun k => laws_FnExactCut.f k ss ps ks) ?_
  simp only [laws_FnExactCut.f]
  by_cases hks : (ks.length : Int) > 1048576
  · exact evPos hks (Ev.now _)
  refine evNeg hks ?_
  obtain ⟨r, hr, hk⟩ := laws_szDevice_ev ss ps h1 h2 h3 (fun e he => (h4 e he).2)
  refine Ev.step (fun k => by simp only [laws_FnExactCut.j0]; exact rfl) ?_
  refine Ev.bind hr ?_
  by_cases h0 : r < 0
  · exact evPos h0 (Ev.now _)
  obtain ⟨a1, a2, a3, a4⟩ := hk (by omega)
  have toD := laws_toDevice_ev ss ps a1 a3
  have toB := laws_toBoolS_ev ks (by omega)
  have sp := spec_Cut_ev ss (ps.map toP) ks (by omega)
  have im := impl_Cut_ev ss (ps.map toP) ks
  have hb := cutOf_bd ss (ps.map toP) ks
  have hself0 := laws_eqDevice_self ss (ps.map toP) (by omega) (by rw [List.length_map]; omega)
  have hselfB := laws_eqBoolS_self ks (by omega)
  have hmark0 := laws_markDevice_ev ss (ps.map toP) (by omega) (by rw [List.length_map]; omega)
  have hmarkB := laws_markBoolS_ev ks (by omega) (1 + ss.length + 2 * (ps.map toP).length) (by omega) (by rw [List.length_map]; omega)
  generalize cutOf ss (ps.map toP) ks = d at sp im hb
  obtain ⟨gs, gp⟩ := d
  obtain ⟨hb1, hb2⟩ := hb
  simp only at hb1 hb2
  subst hb2
  have hself := laws_eqDevice_self gs [] (by omega) (by simp)
  have hmark := laws_markDevice_ev gs [] (by omega) (by simp)
  have hheld := laws_heldDevice_ev gs.length 0 (by omega) (by omega)
  simp only [List.length_nil] at hmark
  have t9 : Ev (fun k => laws_FnExactCut.j9 k (1 + gs.length + 2 * ((0 : Nat) : Int)) (mds gs.length) (mdl gs.length 0)) true := by
    refine Ev.step (fun k => by simp only [laws_FnExactCut.j9]; exact rfl) ?_
    exact Ev.bind hheld (evNeg (by omega) (evPos rfl (Ev.now _)))
  have t8 : Ev (fun k => laws_FnExactCut.j8 k ks (1 + gs.length + 2 * ((0 : Nat) : Int)) ss ps gs [] (mds gs.length) (mdl gs.length 0)) true := by
    refine Ev.step (fun k => by simp only [laws_FnExactCut.j8]; exact rfl) ?_
    exact Ev.bind toD (Ev.bind toB (Ev.bind im (Ev.bind hself (evPos rfl t9))))
  have t6 : Ev (fun k => laws_FnExactCut.j6 k ks ss ps gs [] gs []) true := by
    refine Ev.step (fun k => by simp only [laws_FnExactCut.j6]; exact rfl) ?_
    refine Ev.bind hmark (Ev.bind hheld (evNeg (by omega) ?_))
    refine Ev.step (fun k => by simp only [laws_FnExactCut.j7]; exact rfl) ?_
    exact evPos trivial t8
  have t4 : Ev (fun k => laws_FnExactCut.j4 k ks ks ss ps gs [] ss (ps.map toP) gs []) true := by
    refine Ev.step (fun k => by simp only [laws_FnExactCut.j4]; exact rfl) ?_
    refine Ev.bind hmark0 (Ev.bind hmarkB (evNeg (by rw [List.length_map]; omega) (Ev.bind hself ?_)))
    refine Ev.step (fun k => by simp only [laws_FnExactCut.j5]; exact rfl) ?_
    exact evNeg (by simp) t6
  refine evNeg h0 ?_
  refine Ev.step (fun k => by simp only [laws_FnExactCut.j1]; exact rfl) ?_
  refine Ev.bind toD (Ev.bind toB (Ev.bind sp (Ev.bind toD (Ev.bind toB (Ev.bind im (Ev.bind hself (evPos rfl ?_)))))))
  refine Ev.step (fun k => by simp only [laws_FnExactCut.j2]; exact rfl) ?_
  refine Ev.bind toD (Ev.bind hself0 (evPos rfl ?_))
  refine Ev.step (fun k => by simp only [laws_FnExactCut.j3]; exact rfl) ?_
  exact Ev.bind toB (Ev.bind hselfB (evPos rfl t4))
end Go.Proofs.Ytajidjlbgpaaoaa.Pure

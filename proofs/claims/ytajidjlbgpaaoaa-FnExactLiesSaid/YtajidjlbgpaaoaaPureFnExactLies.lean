/- Proves the plain law behind this statement of the seat (what its functions come to, over numbers and lists): that it answers true. No condition beyond the statement's own. -/
import Derived.Test.YtajidjlbgpaaoaaPFnExactLiesx
import Derived.Test.YtajidjlbgpaaoaaLib
import Derived.Test.YtajidjlbgpaaoaaLibHit
import Derived.Test.YtajidjlbgpaaoaaLibRow
import Derived.Test.YtajidjlbgpaaoaaLibStr
namespace Go.Proofs.Ytajidjlbgpaaoaa.Pure
open Go Go.RowKit Go.Proofs.Ytajidjlbgpaaoaa.PFnExactLies Go.Proofs.YtajidjlbgpaaoaaW.PrintWords Go.Proofs.YtajidjlbgpaaoaaW.PrintLast Go.Proofs.YtajidjlbgpaaoaaW.PrintMore Go.Proofs.Ytajidjlbgpaaoaa.Lib
set_option linter.unusedVariables false
set_option linter.unusedSimpArgs false
def szS (left : Int) : List ByteArray → Int
  | [] => left
  | s :: xs => if left - s.size < 0 then -1 else szS (left - s.size) xs
theorem szS_bd : ∀ (xs : List ByteArray) (left : Int), 0 ≤ szS left xs → 0 ≤ left → ∀ s ∈ xs, (s.size : Int) ≤ left
  | [], _, _, _, s, hs => by simp at hs
  | x :: xs, left, h, h0, s, hs => by
    unfold szS at h
    by_cases hx : left - x.size < 0
    · rw [if_pos hx] at h; omega
    · rw [if_neg hx] at h
      rcases List.mem_cons.1 hs with rfl | hs
      · omega
      · have := szS_bd xs _ h (by omega) s hs
        omega
theorem szS_range : ∀ (xs : List ByteArray) (left : Int), 0 ≤ left → -1 ≤ szS left xs ∧ szS left xs ≤ left
  | [], left, h => by unfold szS; omega
  | x :: xs, left, h => by
    unfold szS
    by_cases hx : left - x.size < 0
    · rw [if_pos hx]; omega
    · rw [if_neg hx]
      have := szS_range xs (left - x.size) (by omega)
      omega
theorem laws_szStringS_l0_ev (xs : List ByteArray) (hl : xs.length ≤ 1000000000000000000) (hs : ∀ s ∈ xs, s.size ≤ maxLen) : ∀ (bs : List ByteArray) (i : Nat) (left : Int), xs.drop i = bs → 0 ≤ left → left ≤ 1048576 → Ev (fun k => laws_szStringS.l0 k xs left i) (szS left bs)
  | [], i, left, hd, h0, h1 => by
    have := drop_nil hd
    refine Ev.step (f := fun _ => some left) (fun k => ?_) (Ev.now _)
    simp only [laws_szStringS.l0]
    rw [if_neg (by omega)]
  | b :: bs, i, left, hd, h0, h1 => by
    obtain ⟨h2, h3, h4⟩ := drop_cons hd
    have hb : b.size ≤ 9223372036854775807 := hs b (List.mem_of_getElem? h4)
    have e1 : rdOf ByteArray.empty xs (i : Int) = b := getD_at h4
    have e2 : wrap64 (left - (b.size : Int)) = left - b.size := w64 (by omega) (by omega)
    unfold szS
    by_cases hx : left - b.size < 0
    · rw [if_pos hx]
      refine Ev.step (f := fun _ => some (-1)) (fun k => ?_) (Ev.now _)
      simp only [laws_szStringS.l0]
      rw [if_pos (by omega), if_pos (by omega), e1, e2, if_pos hx]
    · rw [if_neg hx]
      refine Ev.step (f := fun k => laws_szStringS.l0 k xs (left - b.size) ((i + 1 : Nat) : Int)) (fun k => ?_) (laws_szStringS_l0_ev xs hl hs bs (i + 1) _ h3 (by omega) (by omega))
      simp only [laws_szStringS.l0]
      rw [if_pos (by omega), if_pos (by omega), e1, e2, if_neg hx, w64s (by omega)]
/-- The law's guard: its answer, and what is known where it lets in. -/
theorem laws_szStringS_ev (xs : List ByteArray) (hl : xs.length ≤ maxLen) (hs : ∀ s ∈ xs, s.size ≤ maxLen) (left : Int) (h0 : 0 ≤ left) (h1 : left ≤ 1048576) :
    ∃ r, Ev (fun k => laws_szStringS.f k xs left) r ∧ -1 ≤ r ∧ r ≤ left ∧ (0 ≤ r → (xs.length : Int) ≤ left ∧ ∀ s ∈ xs, (s.size : Int) ≤ left) := by
  have hm : maxLen = 9223372036854775807 := rfl
  have e : wrap64 (left - (xs.length : Int)) = left - xs.length := w64 (by omega) (by omega)
  by_cases h : left - (xs.length : Int) < 0
  · refine ⟨-1, ?_, by omega, by omega, fun h => by omega⟩
    simp only [laws_szStringS.f]
    exact evPos (by rw [e]; exact h) (Ev.now _)
  · refine ⟨szS (left - xs.length) xs, ?_, ?_, ?_, fun hr => ⟨by omega, fun s h' => ?_⟩⟩
    · simp only [laws_szStringS.f]
      refine evNeg (by rw [e]; exact h) ?_
      rw [e]
      exact laws_szStringS_l0_ev xs (by omega) hs xs 0 _ rfl (by omega) (by omega)
    · exact (szS_range xs _ (by omega)).1
    · have := (szS_range xs (left - xs.length) (by omega)).2; omega
    · have := szS_bd xs _ hr (by omega) s h'; omega

def szP (left : Int) : List S100 → Int
  | [] => left
  | e :: xs => if left - e.f1.size < 0 then -1 else szP (left - e.f1.size) xs
theorem szP_bd : ∀ (xs : List S100) (left : Int), 0 ≤ szP left xs → 0 ≤ left → ∀ e ∈ xs, (e.f1.size : Int) ≤ left
  | [], _, _, _, s, hs => by simp at hs
  | x :: xs, left, h, h0, s, hs => by
    unfold szP at h
    by_cases hx : left - x.f1.size < 0
    · rw [if_pos hx] at h; omega
    · rw [if_neg hx] at h
      rcases List.mem_cons.1 hs with rfl | hs
      · omega
      · have := szP_bd xs _ h (by omega) s hs
        omega
theorem szP_range : ∀ (xs : List S100) (left : Int), 0 ≤ left → -1 ≤ szP left xs ∧ szP left xs ≤ left
  | [], left, h => by unfold szP; omega
  | x :: xs, left, h => by
    unfold szP
    by_cases hx : left - x.f1.size < 0
    · rw [if_pos hx]; omega
    · rw [if_neg hx]
      have := szP_range xs (left - x.f1.size) (by omega)
      omega
theorem laws_szPatch_eq (e : S100) (left : Int) (h0 : 0 ≤ left) (h1 : left ≤ 1048576) (hb : e.f1.size ≤ maxLen) :
    laws_szPatch.f e.f0 e.f1 left = some (if left - e.f1.size < 0 then -1 else left - e.f1.size) := by
  have hm : maxLen = 9223372036854775807 := rfl
  have e1 : wrap64 (left - (e.f1.size : Int)) = left - e.f1.size := w64 (by omega) (by omega)
  simp only [laws_szPatch.f, e1]
  by_cases hx : left - (e.f1.size : Int) < 0
  · rw [if_pos hx, if_pos hx]
  · rw [if_neg hx, if_neg hx]
theorem laws_szPatchS_l0_ev (xs : List S100) (hl : xs.length ≤ 1000000000000000000) (hs : ∀ e ∈ xs, e.f1.size ≤ maxLen) : ∀ (bs : List S100) (i : Nat) (left : Int), xs.drop i = bs → 0 ≤ left → left ≤ 1048576 → Ev (fun k => laws_szPatchS.l0 k xs left i) (szP left bs)
  | [], i, left, hd, h0, h1 => by
    have := drop_nil hd
    refine Ev.step (f := fun _ => some left) (fun k => ?_) (Ev.now _)
    simp only [laws_szPatchS.l0]
    rw [if_neg (by omega)]
  | b :: bs, i, left, hd, h0, h1 => by
    obtain ⟨h2, h3, h4⟩ := drop_cons hd
    have e1 : rd_T100 xs (i : Int) = b := getD_at h4
    have e2 := laws_szPatch_eq b left h0 h1 (hs b (List.mem_of_getElem? h4))
    unfold szP
    by_cases hx : left - b.f1.size < 0
    · rw [if_pos hx] at e2 ⊢
      refine Ev.step (f := fun _ => some (-1)) (fun k => ?_) (Ev.now _)
      simp only [laws_szPatchS.l0]
      rw [if_pos (by omega), if_pos (by omega), e1, e2]
      rfl
    · rw [if_neg hx] at e2 ⊢
      refine Ev.step (f := fun k => laws_szPatchS.l0 k xs (left - b.f1.size) ((i + 1 : Nat) : Int)) (fun k => ?_) (laws_szPatchS_l0_ev xs hl hs bs (i + 1) _ h3 (by omega) (by omega))
      simp only [laws_szPatchS.l0]
      rw [if_pos (by omega), if_pos (by omega), e1, e2]
      simp only [Option.bind_some]
      rw [if_neg (by omega), w64s (by omega)]
theorem laws_szPatchS_ev (xs : List S100) (hl : xs.length ≤ maxLen) (hs : ∀ e ∈ xs, e.f1.size ≤ maxLen) (left : Int) (h0 : 0 ≤ left) (h1 : left ≤ 1048576) :
    ∃ r, Ev (fun k => laws_szPatchS.f k xs left) r ∧ -1 ≤ r ∧ r ≤ left ∧ (0 ≤ r → (xs.length : Int) ≤ left ∧ ∀ e ∈ xs, (e.f1.size : Int) ≤ left) := by
  have hm : maxLen = 9223372036854775807 := rfl
  have e : wrap64 (left - (xs.length : Int)) = left - xs.length := w64 (by omega) (by omega)
  by_cases h : left - (xs.length : Int) < 0
  · refine ⟨-1, ?_, by omega, by omega, fun h => by omega⟩
    simp only [laws_szPatchS.f]
    exact evPos (by rw [e]; exact h) (Ev.now _)
  · refine ⟨szP (left - xs.length) xs, ?_, ?_, ?_, fun hr => ⟨by omega, fun s h' => ?_⟩⟩
    · simp only [laws_szPatchS.f]
      refine evNeg (by rw [e]; exact h) ?_
      rw [e]
      exact laws_szPatchS_l0_ev xs (by omega) hs xs 0 _ rfl (by omega) (by omega)
    · exact (szP_range xs _ (by omega)).1
    · have := (szP_range xs (left - xs.length) (by omega)).2; omega
    · have := szP_bd xs _ hr (by omega) s h'; omega
theorem laws_szDevice_ev (ss : List ByteArray) (ps : List S100) (h1 : ss.length ≤ maxLen) (h2 : ∀ s ∈ ss, s.size ≤ maxLen) (h3 : ps.length ≤ maxLen) (h4 : ∀ e ∈ ps, e.f1.size ≤ maxLen) :
    ∃ r, Ev (fun k => laws_szDevice.f k ss ps 1048576) r ∧ (0 ≤ r → ss.length ≤ 1048576 ∧ (∀ s ∈ ss, s.size ≤ 1048576) ∧ ps.length ≤ 1048576 ∧ ∀ e ∈ ps, e.f1.size ≤ 1048576) := by
  simp only [laws_szDevice.f]
  obtain ⟨r, hr, a0, a1, a2⟩ := laws_szStringS_ev ss h1 h2 1048576 (by decide) (by decide)
  by_cases hr0 : r < 0
  · exact ⟨-1, Ev.bind hr (evPos hr0 (Ev.now _)), fun h => absurd h (by decide)⟩
  obtain ⟨a3, a4⟩ := a2 (by omega)
  obtain ⟨q, hq, b0, b1, b2⟩ := laws_szPatchS_ev ps h3 h4 r (by omega) (by omega)
  by_cases hq0 : q < 0
  · exact ⟨-1, Ev.bind hr (evNeg hr0 (Ev.bind hq (evPos hq0 (Ev.now _)))), fun h => absurd h (by decide)⟩
  obtain ⟨b3, b4⟩ := b2 (by omega)
  exact ⟨q, Ev.bind hr (evNeg hr0 (Ev.bind hq (evNeg hq0 (Ev.now _)))), fun _ => ⟨by omega, fun s hs => by have := a4 s hs; omega, by omega, fun e he => by have := b4 e he; omega⟩⟩

theorem laws_toStringS_ev (xs : List ByteArray) (hl : xs.length ≤ 17592186044416) : Ev (fun k => laws_toStringS.f k xs) xs := by
  simp only [laws_toStringS.f]
  refine evPos (by omega) (evPos (by omega) ?_)
  have := copy_loop laws_toStringS.l0 (fun x => x) (⟨#[]⟩ : ByteArray) (fun k xs ys i h => by simp only [laws_toStringS.l0]; rw [if_neg (by omega)])
    (fun k xs ys i a hi ha h1 h2 => by
      simp only [laws_toStringS.l0]
      rw [if_pos (by omega), if_pos (by omega), if_pos (by omega), w64s (by omega), show rdOf ByteArray.empty xs (i : Int) = a from getD_at ha, Int.toNat_natCast]) xs (by omega)
  simpa using this

/-- The law's record as the program's. -/
def toP (x : S100) : S72 := ⟨x.f0, x.f1⟩
theorem laws_toPatchS_ev (xs : List S100) (hl : xs.length ≤ 5864062014805) : Ev (fun k => laws_toPatchS.f k xs) (xs.map toP) := by
  simp only [laws_toPatchS.f]
  refine evPos (by omega) (evPos (by omega) ?_)
  have := copy_loop laws_toPatchS.l0 toP z72 (fun k xs ys i h => by simp only [laws_toPatchS.l0]; rw [if_neg (by omega)])
    (fun k xs ys i a hi ha h1 h2 => by
      simp only [laws_toPatchS.l0, laws_toPatch.f, Option.bind_some]
      rw [if_pos (by omega), if_pos (by omega), if_pos (by omega), w64s (by omega), show rd_T100 xs (i : Int) = a from getD_at ha, Int.toNat_natCast]
      rfl) xs (by omega)
  simpa using this
theorem laws_toDevice_ev (ss : List ByteArray) (ps : List S100) (h1 : ss.length ≤ 1048576) (h2 : ps.length ≤ 1048576) : Ev (fun k => laws_toDevice.f k ss ps) (ss, ps.map toP) := by
  simp only [laws_toDevice.f]
  exact Ev.bind (laws_toStringS_ev ss (by omega)) (Ev.bind (laws_toPatchS_ev ps (by omega)) (Ev.now _))

theorem spec_l1In_ev (a b c : Int) : Ev (fun _ => spec_l1In.f a b c) (within a b c) := by
  refine evId (fun _ => ?_)
  unfold spec_l1In.f within
  by_cases h : a ≥ b
  · rw [if_pos h, decide_eq_true (show b ≤ a from h), Bool.true_and]
  · rw [if_neg h, decide_eq_false (show ¬ b ≤ a from h), Bool.false_and]

theorem impl_within_ev (a b c : Int) : Ev (fun _ => impl_within.f a b c) (within a b c) := by
  refine evId (fun _ => ?_)
  unfold impl_within.f within
  by_cases h : a ≥ b
  · rw [if_pos h, decide_eq_true (show b ≤ a from h), Bool.true_and]
  · rw [if_neg h, decide_eq_false (show ¬ b ≤ a from h), Bool.false_and]

def patchOk (n : Nat) (x : S72) : Bool := within x.f0 0 ((n : Int) - 1) && decide ((x.f1.size : Int) ≤ 400)
def deviceOk (ss : List ByteArray) (ps : List S72) : Bool := within ss.length 1 16 && (decide ((ps.length : Int) ≤ 30) && (ss.all (fun s => decide ((s.size : Int) ≤ 400)) && ps.all (patchOk ss.length)))
theorem impl_DeviceOk_ev (ss : List ByteArray) (ps : List S72) : Ev (fun _ => impl_DeviceOk.f ss ps) (deviceOk ss ps) := by
  refine evId fun k => ?_
  have e1 : ss.any (fun s => decide ((s.size : Int) > 400)) = !ss.all (fun s => decide ((s.size : Int) ≤ 400)) := by
    rw [List.not_all_eq_any_not]
    congr 1
    funext s
    rw [Bool.eq_iff_iff]
    simp
  have e2 : (!ps.any (fun x => !okPatch ss.length x)) = ps.all (patchOk ss.length) := by
    rw [List.not_any_eq_all_not]
    congr 1
    funext x
    simp [okPatch, patchOk, within]
  unfold impl_DeviceOk.f deviceOk
  rw [e1, e2]
  by_cases h1 : 1 ≤ (ss.length : Int) ∧ (ss.length : Int) ≤ 16
  · rw [if_pos h1, show within (ss.length : Int) 1 16 = true by unfold within; simp only [Bool.and_eq_true, decide_eq_true_eq]; exact h1, Bool.true_and]
    by_cases h2 : (ps.length : Int) > 30
    · rw [if_pos h2, decide_eq_false (by omega), Bool.false_and]
    · rw [if_neg h2, decide_eq_true (by omega), Bool.true_and]
      by_cases h3 : ss.all (fun s => decide ((s.size : Int) ≤ 400)) = true
      · rw [h3, Bool.true_and, if_neg (by decide)]
      · rw [Bool.eq_false_iff.2 h3, Bool.false_and, if_pos (by decide)]
  · rw [if_neg h1, show within (ss.length : Int) 1 16 = false by rw [Bool.eq_false_iff]; intro h; unfold within at h; simp only [Bool.and_eq_true, decide_eq_true_eq] at h; exact h1 h, Bool.false_and]
theorem spec_DeviceOk_l1_ev (ss : List ByteArray) (ps : List S72) (hs : ss.length ≤ 16) (hp : ps.length ≤ 30) : ∀ (bs : List S72) (i : Nat), ps.drop i = bs → Ev (fun k => spec_DeviceOk.l1 k (ss.length : Int) i ss ps) (bs.all (patchOk ss.length))
  | [], i, hd => by
    have := drop_nil hd
    refine Ev.step (f := fun _ => some true) (fun k => ?_) (Ev.now _)
    simp only [spec_DeviceOk.l1]
    rw [if_neg (by omega)]
  | b :: bs, i, hd => by
    obtain ⟨h2, h3, h4⟩ := drop_cons hd
    have e1 : rd_T72 ps (i : Int) = b := getD_at h4
    have e2 : wrap64 ((ss.length : Int) - 1) = (ss.length : Int) - 1 := w64 (by omega) (by omega)
    refine Ev.step (f := fun k => (spec_l1In.f b.f0 0 ((ss.length : Int) - 1)).bind fun t => if t = true then (if (b.f1.size : Int) > 400 then some false else spec_DeviceOk.l1 k (ss.length : Int) ((i + 1 : Nat) : Int) ss ps) else some false) (fun k => ?_) ?_
    · simp only [spec_DeviceOk.l1]
      rw [if_pos (by omega), if_pos (by omega), e1, e2, w64s (by omega)]
    · refine Ev.bind (spec_l1In_ev _ _ _) ?_
      rw [List.all_cons]
      unfold patchOk
      by_cases h5 : within b.f0 0 ((ss.length : Int) - 1) = true
      · rw [h5, Bool.true_and]
        refine evPos rfl ?_
        by_cases h6 : (b.f1.size : Int) > 400
        · rw [decide_eq_false (by omega), Bool.false_and]
          exact evPos h6 (Ev.now _)
        · rw [decide_eq_true (by omega), Bool.true_and]
          exact evNeg h6 (spec_DeviceOk_l1_ev ss ps hs hp bs (i + 1) h3)
      · rw [Bool.eq_false_iff.2 h5, Bool.false_and, Bool.false_and]
        exact evNeg (by decide) (Ev.now _)
theorem spec_DeviceOk_l0_ev (ss : List ByteArray) (ps : List S72) (hs : ss.length ≤ 16) (hp : ps.length ≤ 30) : ∀ (bs : List ByteArray) (i : Nat), ss.drop i = bs → Ev (fun k => spec_DeviceOk.l0 k (ss.length : Int) i ss ps) (bs.all (fun s => decide ((s.size : Int) ≤ 400)) && ps.all (patchOk ss.length))
  | [], i, hd => by
    have := drop_nil hd
    rw [List.all_nil, Bool.true_and]
    refine Ev.step (f := fun k => spec_DeviceOk.l1 k (ss.length : Int) ((0 : Nat) : Int) ss ps) (fun k => ?_) (spec_DeviceOk_l1_ev ss ps hs hp ps 0 rfl)
    simp only [spec_DeviceOk.l0]
    rw [if_neg (by omega)]
    rfl
  | b :: bs, i, hd => by
    obtain ⟨h2, h3, h4⟩ := drop_cons hd
    have e1 : rdOf ByteArray.empty ss (i : Int) = b := getD_at h4
    refine Ev.step (f := fun k => if (b.size : Int) > 400 then some false else spec_DeviceOk.l0 k (ss.length : Int) ((i + 1 : Nat) : Int) ss ps) (fun k => ?_) ?_
    · simp only [spec_DeviceOk.l0]
      rw [if_pos (by omega), if_pos (by omega), if_pos (by omega), e1, w64s (by omega)]
    · rw [List.all_cons]
      by_cases h6 : (b.size : Int) > 400
      · rw [decide_eq_false (by omega), Bool.false_and, Bool.false_and]
        exact evPos h6 (Ev.now _)
      · rw [decide_eq_true (by omega), Bool.true_and]
        exact evNeg h6 (spec_DeviceOk_l0_ev ss ps hs hp bs (i + 1) h3)
theorem spec_DeviceOk_ev (ss : List ByteArray) (ps : List S72) : Ev (fun k => spec_DeviceOk.f k ss ps) (deviceOk ss ps) := by
  simp only [spec_DeviceOk.f]
  unfold deviceOk
  by_cases h1 : (ss.length : Int) < 1
  · refine evPos h1 (Ev.step (f := fun _ => some false) (fun k => by simp only [spec_DeviceOk.j0]; rfl) (evEq (Ev.now _) ?_))
    rw [show within (ss.length : Int) 1 16 = false by unfold within; rw [decide_eq_false (by omega), Bool.false_and], Bool.false_and]
  refine evNeg h1 ?_
  by_cases h2 : (ss.length : Int) > 16
  · refine evPos h2 (Ev.step (f := fun _ => some false) (fun k => by simp only [spec_DeviceOk.j0]; rfl) (evEq (Ev.now _) ?_))
    rw [show within (ss.length : Int) 1 16 = false by unfold within; rw [decide_eq_false (p := (ss.length : Int) ≤ 16) (by omega), Bool.and_false], Bool.false_and]
  refine evNeg h2 ?_
  rw [show within (ss.length : Int) 1 16 = true by unfold within; rw [decide_eq_true (p := (1 : Int) ≤ (ss.length : Int)) (by omega), decide_eq_true (by omega)]; rfl, Bool.true_and]
  by_cases h3 : (ps.length : Int) > 30
  · rw [decide_eq_true h3, decide_eq_false (by omega), Bool.false_and]
    exact Ev.step (f := fun _ => some false) (fun k => by simp only [spec_DeviceOk.j0]; rfl) (Ev.now _)
  · rw [decide_eq_false h3, decide_eq_true (by omega), Bool.true_and]
    refine Ev.step (f := fun k => spec_DeviceOk.l0 k (ss.length : Int) ((0 : Nat) : Int) ss ps) (fun k => by simp only [spec_DeviceOk.j0]; rfl) (spec_DeviceOk_l0_ev ss ps (by omega) (by omega) ss 0 rfl)

def lst (a : Int) (s : ByteArray) : List S72 → ByteArray
  | [] => s
  | p :: ps => lst a (if p.f0 = a then p.f1 else s) ps
theorem lst_find (a : Int) : ∀ (ps : List S72) (s : ByteArray), lst a s ps = match ps.reverse.find? (fun p => decide (p.f0 = a)) with | some p => p.f1 | none => s
  | [], s => rfl
  | p :: ps, s => by
    rw [lst, lst_find a ps, List.reverse_cons, List.find?_append]
    cases h : ps.reverse.find? (fun p => decide (p.f0 = a)) with
    | some q => rfl
    | none =>
      by_cases e : p.f0 = a
      · rw [if_pos e]; simp [e]
      · rw [if_neg e]; simp [e]
/-- What is read of a sector that is there. -/
def liesOf (ss : List ByteArray) (ps : List S72) (a : Int) : ByteArray := lst a (rdOf ByteArray.empty ss a) ps
def lies (ss : List ByteArray) (ps : List S72) (a : Int) : ByteArray := if deviceOk ss ps = true ∧ within a 0 ((ss.length : Int) - 1) = true then liesOf ss ps a else ⟨#[]⟩
theorem deviceOk_bd {ss : List ByteArray} {ps : List S72} (h : deviceOk ss ps = true) : 1 ≤ ss.length ∧ ss.length ≤ 16 ∧ ps.length ≤ 30 ∧ (∀ s ∈ ss, s.size ≤ 400) ∧ ∀ p ∈ ps, 0 ≤ p.f0 ∧ p.f0 < ss.length ∧ p.f1.size ≤ 400 := by
  unfold deviceOk within at h
  simp only [Bool.and_eq_true, decide_eq_true_eq, List.all_eq_true, patchOk, within] at h
  obtain ⟨⟨h1, h2⟩, h3, h4, h5⟩ := h
  exact ⟨by omega, by omega, by omega, fun s hs => by have := h4 s hs; omega, fun p hp => by have := h5 p hp; omega⟩
theorem within_bd {a b c : Int} (h : within a b c = true) : b ≤ a ∧ a ≤ c := by
  unfold within at h
  simpa using h
theorem impl_Device_lies_ev (ss : List ByteArray) (ps : List S72) (a : Int) (h0 : 0 ≤ a) (h1 : a < ss.length) : Ev (fun _ => impl_Device_lies.f ss ps a) (liesOf ss ps a) := by
  refine evId fun k => ?_
  unfold impl_Device_lies.f liesOf
  rw [lst_find]
  cases h : ps.reverse.find? (fun p => decide (p.f0 = a)) with
  | some q => rfl
  | none => simp only [if_pos h0, if_pos h1]
theorem impl_Device_fits_ev (ss : List ByteArray) (ps : List S72) (a : Int) (s : ByteArray) (h : ss.length ≤ 1000000) : Ev (fun _ => impl_Device_fits.f ss ps a s) (within a 0 ((ss.length : Int) - 1) && decide ((s.size : Int) ≤ 400)) := by
  simp only [impl_Device_fits.f]
  rw [w64 (x := (ss.length : Int) - 1) (by omega) (by omega)]
  refine Ev.bind (impl_within_ev _ _ _) ?_
  by_cases h1 : within a 0 ((ss.length : Int) - 1) = true
  · rw [h1, Bool.true_and]; exact evPos rfl (Ev.now _)
  · rw [Bool.eq_false_iff.2 h1, Bool.false_and]; exact evNeg (by decide) (Ev.now _)
theorem impl_Lies_ev (ss : List ByteArray) (ps : List S72) (a : Int) : Ev (fun _ => impl_Lies.f ss ps a) (lies ss ps a) := by
  simp only [impl_Lies.f]
  refine Ev.bind (impl_DeviceOk_ev ss ps) ?_
  by_cases h : deviceOk ss ps = true
  · obtain ⟨d1, d2, d3, d4, d5⟩ := deviceOk_bd h
    have hf := impl_Device_fits_ev ss ps a (⟨#[]⟩ : ByteArray) (by omega)
    by_cases h1 : within a 0 ((ss.length : Int) - 1) = true
    · have hw := within_bd h1
      rw [show lies ss ps a = liesOf ss ps a from if_pos ⟨h, h1⟩]
      rw [h1] at hf
      exact evPos h (Ev.bind hf (evPos rfl (Ev.bind (impl_Device_lies_ev ss ps a (by omega) (by omega)) (Ev.now _))))
    · rw [show lies ss ps a = ⟨#[]⟩ from if_neg (fun e => h1 e.2)]
      rw [Bool.eq_false_iff.2 h1] at hf
      exact evPos h (Ev.bind hf (evNeg (by decide) (Ev.now _)))
  · rw [show lies ss ps a = ⟨#[]⟩ from if_neg (fun e => h e.1)]
    exact evNeg h (Ev.now _)
theorem spec_Lies_l0_ev (ss : List ByteArray) (ps : List S72) (a : Int) (hp : ps.length ≤ 30) : ∀ (bs : List S72) (i : Nat) (s : ByteArray), ps.drop i = bs → Ev (fun k => spec_Lies.l0 k a s i ss ps) (lst a s bs)
  | [], i, s, hd => by
    have := drop_nil hd
    refine Ev.step (f := fun _ => some s) (fun k => ?_) (Ev.now _)
    simp only [spec_Lies.l0]
    rw [if_neg (by omega)]
  | b :: bs, i, s, hd => by
    obtain ⟨h2, h3, h4⟩ := drop_cons hd
    have e1 : rd_T72 ps (i : Int) = b := getD_at h4
    rw [lst]
    refine Ev.step (f := fun k => spec_Lies.l0 k a (if b.f0 = a then b.f1 else s) ((i + 1 : Nat) : Int) ss ps) (fun k => ?_) (spec_Lies_l0_ev ss ps a hp bs (i + 1) _ h3)
    simp only [spec_Lies.l0]
    rw [if_pos (by omega), if_pos (by omega), e1, w64s (by omega)]
    by_cases e : b.f0 = a
    · rw [if_pos e, if_pos e]
    · rw [if_neg e, if_neg e]
theorem spec_Lies_ev (ss : List ByteArray) (ps : List S72) (a : Int) : Ev (fun k => spec_Lies.f k ss ps a) (lies ss ps a) := by
  simp only [spec_Lies.f]
  refine Ev.bind (spec_DeviceOk_ev ss ps) ?_
  unfold lies
  by_cases h : deviceOk ss ps = true
  · obtain ⟨d1, d2, d3, d4, d5⟩ := deviceOk_bd h
    rw [w64 (x := (ss.length : Int) - 1) (by omega) (by omega)]
    refine evPos h (Ev.bind (spec_l1In_ev _ _ _) ?_)
    by_cases h1 : within a 0 ((ss.length : Int) - 1) = true
    · rw [if_pos ⟨h, h1⟩, h1]
      have := within_bd h1
      refine Ev.step (f := fun k => spec_Lies.l0 k a (rdOf ByteArray.empty ss a) ((0 : Nat) : Int) ss ps) (fun k => ?_) (spec_Lies_l0_ev ss ps a d3 ps 0 _ rfl)
      simp only [spec_Lies.j0]
      rw [if_neg (by decide), if_pos (by omega), if_pos (by omega)]
      rfl
    · rw [if_neg (fun e => h1 e.2), Bool.eq_false_iff.2 h1]
      exact Ev.step (f := fun _ => some ⟨#[]⟩) (fun k => by simp only [spec_Lies.j0]; rfl) (Ev.now _)
  · rw [if_neg (fun e => h e.1)]
    exact evNeg h (Ev.step (f := fun _ => some ⟨#[]⟩) (fun k => by simp only [spec_Lies.j0]; rfl) (Ev.now _))

theorem laws_eqStringS_self (xs : List ByteArray) (hl : xs.length ≤ 1000000000000000000) : Ev (fun k => laws_eqStringS.f k xs xs) true := by
  simp only [laws_eqStringS.f]
  refine evPos trivial (self_loop laws_eqStringS.l0 (fun k xs i h => by simp only [laws_eqStringS.l0]; rw [if_neg (by omega)]) (fun k xs i a hi ha h1 => ?_) xs hl)
  simp only [laws_eqStringS.l0]
  rw [if_pos (by omega), if_pos (by omega), if_pos (by omega), w64s (by omega), if_pos trivial]

theorem laws_eqPatch_self (e : S72) : laws_eqPatch.f e.f0 e.f1 e.f0 e.f1 = some true := by
  simp [laws_eqPatch.f]
theorem laws_eqPatchS_self (xs : List S72) (hl : xs.length ≤ 1000000000000000000) : Ev (fun k => laws_eqPatchS.f k xs xs) true := by
  simp only [laws_eqPatchS.f]
  refine evPos trivial (self_loop laws_eqPatchS.l0 (fun k xs i h => by simp only [laws_eqPatchS.l0]; rw [if_neg (by omega)]) (fun k xs i a hi ha h1 => ?_) xs hl)
  simp only [laws_eqPatchS.l0]
  rw [if_pos (by omega), if_pos (by omega), if_pos (by omega), laws_eqPatch_self, w64s (by omega)]
  rfl
theorem laws_eqDevice_self (ss : List ByteArray) (ps : List S72) (h1 : ss.length ≤ 1000000000000000000) (h2 : ps.length ≤ 1000000000000000000) : Ev (fun k => laws_eqDevice.f k ss ps ss ps) true := by
  simp only [laws_eqDevice.f]
  exact Ev.bind (laws_eqStringS_self ss h1) (evPos rfl (Ev.bind (laws_eqPatchS_self ps h2) (evPos rfl (Ev.now _))))

theorem FnExactLies (ss : List ByteArray) (ps : List S100) (a : Int) (h1 : ss.length ≤ maxLen) (h2 : ∀ s ∈ ss, s.size ≤ maxLen) (h3 : ps.length ≤ maxLen) (h4 : ∀ e ∈ ps, (Lit.int .i64 e.f0).wf = true ∧ e.f1.size ≤ maxLen) (ha : (Lit.int .i64 a).wf = true) : ∃ k, laws_FnExactLies.f k ss ps a = some true := by
  refine Ev.rounds (g := fun k => laws_FnExactLies.f k ss ps a) ?_
  simp only [laws_FnExactLies.f]
  obtain ⟨r, hr, hk⟩ := laws_szDevice_ev ss ps h1 h2 h3 (fun e he => (h4 e he).2)
  refine Ev.bind hr ?_
  by_cases h0 : r < 0
  · exact evPos h0 (Ev.now _)
  obtain ⟨a1, a2, a3, a4⟩ := hk (by omega)
  have toD := laws_toDevice_ev ss ps a1 a3
  refine evNeg h0 (Ev.bind toD (Ev.bind (spec_Lies_ev _ _ _) (Ev.bind toD (Ev.bind (impl_Lies_ev _ _ _) (evPos rfl (Ev.bind toD (Ev.bind (laws_eqDevice_self ss (ps.map toP) (by omega) (by rw [List.length_map]; omega)) (evPos rfl (Ev.now _)))))))))
end Go.Proofs.Ytajidjlbgpaaoaa.Pure

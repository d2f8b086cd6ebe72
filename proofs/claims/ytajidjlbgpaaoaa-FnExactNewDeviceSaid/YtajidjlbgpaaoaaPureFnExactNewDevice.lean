/- Proves the plain law behind this statement of the seat (what its functions come to, over numbers and lists): that it answers true. No condition beyond the statement's own. -/
import Derived.Test.YtajidjlbgpaaoaaPFnExactNewDevicex
import Derived.Test.YtajidjlbgpaaoaaLib
import Derived.Test.YtajidjlbgpaaoaaLibRow
import Derived.Test.YtajidjlbgpaaoaaLibStr
namespace Go.Proofs.Ytajidjlbgpaaoaa.Pure
open Go Go.RowKit Go.Proofs.Ytajidjlbgpaaoaa.PFnExactNewDevice Go.Proofs.YtajidjlbgpaaoaaW.PrintWords Go.Proofs.YtajidjlbgpaaoaaW.PrintLast Go.Proofs.YtajidjlbgpaaoaaW.PrintMore Go.Proofs.Ytajidjlbgpaaoaa.Lib
set_option linter.unusedVariables false
set_option linter.unusedSimpArgs false
theorem laws_eqStringS_self (xs : List ByteArray) (hl : xs.length ≤ 1000000000000000000) : Ev (fun k => laws_eqStringS.f k xs xs) true := by
  simp only [laws_eqStringS.f]
  refine evPos trivial (self_loop laws_eqStringS.l0 (fun k xs i h => by simp only [laws_eqStringS.l0]; rw [if_neg (by omega)]) (fun k xs i a hi ha h1 => ?_) xs hl)
  simp only [laws_eqStringS.l0]
  rw [if_pos (by omega), if_pos (by omega), if_pos (by omega), w64s (by omega), if_pos trivial]

theorem laws_markText_l0_ev (n : Nat) : ∀ (s : ByteArray), s.size + n ≤ 2000000000000000000 → ∃ t, Ev (fun k => laws_markText.l0 k (n : Int) s) t := by
  induction n using Nat.strongRecOn with
  | ind n ih =>
    intro s hs
    by_cases h : n = 0
    · subst h
      refine ⟨_, Ev.step (f := fun _ => some ((⟨#[109]⟩ : ByteArray) ++ s)) (fun k => ?_) (Ev.now _)⟩
      simp only [laws_markText.l0]
      rw [if_neg (by simp), if_pos (by omega)]
    · have hsz : (strOfNums [wrap64 (48 + Int.tmod (n : Int) 10) % 256]).size = 1 := by rw [strOfNums_size]; rfl
      obtain ⟨t, ht⟩ := ih (n / 10) (by omega) (strOfNums [wrap64 (48 + Int.tmod (n : Int) 10) % 256] ++ s) (by rw [ByteArray.size_append, hsz]; omega)
      refine ⟨t, Ev.step (f := fun k => laws_markText.l0 k ((n / 10 : Nat) : Int) (strOfNums [wrap64 (48 + Int.tmod (n : Int) 10) % 256] ++ s)) (fun k => ?_) ht⟩
      simp only [laws_markText.l0]
      rw [if_pos (by omega)]
      simp only [Option.bind_some]
      rw [if_pos (by rw [hsz]; omega), Int.tdiv_eq_ediv_of_nonneg (by omega), w64 (x := (n : Int) / 10) (by omega) (by omega)]
      rfl
theorem laws_markText_ex (a : Int) (h : a ≤ 1500000000000000000) : ∃ t, Ev (fun k => laws_markText.f k a) t := by
  simp only [laws_markText.f]
  by_cases h0 : a ≤ 0
  · exact ⟨_, evPos h0 (Ev.now _)⟩
  · obtain ⟨t, ht⟩ := laws_markText_l0_ev a.toNat (⟨#[]⟩ : ByteArray) (by show 0 + _ ≤ _; omega)
    rw [show ((a.toNat : Nat) : Int) = a by omega] at ht
    exact ⟨t, evNeg h0 ht⟩
/-- The text by which a place is marked. -/
noncomputable def mtx (a : Int) : ByteArray := by
  classical
  exact if h : ∃ t, Ev (fun k => laws_markText.f k a) t then Classical.choose h else ByteArray.empty
theorem mtx_ev (a : Int) (h : a ≤ 1500000000000000000) : Ev (fun k => laws_markText.f k a) (mtx a) := by
  unfold mtx
  rw [dif_pos (laws_markText_ex a h)]
  exact Classical.choose_spec (laws_markText_ex a h)

theorem laws_markStringS_ev (xs : List ByteArray) (hl : xs.length ≤ 1000000000000000) (a : Int) (h1 : 1 ≤ a) (h2 : a ≤ 10000000000000000) : Ev (fun k => laws_markStringS.f k xs a) (a + 1 * xs.length, marksOf mtx 1 xs.length a) := by
  refine mark_loop laws_markStringS.l0 mtx 1 (by decide) (fun k xs a i h => ?_) (fun xs a i r h hi h1 h2 hr => ?_) xs hl a h1 h2
  · simp only [laws_markStringS.l0]
    rw [if_neg (by omega)]
  · refine Ev.step (f := fun k => (laws_markText.f k a).bind fun t => laws_markStringS.l0 k (xs.set i t) (a + 1) ((i + 1 : Nat) : Int)) (fun k => ?_) (Ev.bind (mtx_ev a (by omega)) hr)
    simp only [laws_markStringS.l0]
    rw [if_pos (by omega)]
    simp only [if_pos (show (0 : Int) ≤ i by omega), w64s (show i ≤ 1000000000000000000 by omega), w64 (x := a + 1) (by omega) (by omega), Int.toNat_natCast]

theorem laws_heldStringS_ev (n : Nat) (hl : n ≤ 1000000000000000) (a : Int) (h1 : 1 ≤ a) (h2 : a ≤ 10000000000000000) : Ev (fun k => laws_heldStringS.f k (marksOf mtx 1 n a) a) (a + 1 * n) := by
  refine held_loop laws_heldStringS.l0 mtx 1 (by decide) (fun k xs a i h => ?_) (fun xs a i r h hi hi2 h1 h2 hr => ?_) n hl a h1 h2
  · simp only [laws_heldStringS.l0]
    rw [if_neg (by omega)]
  · refine Ev.step (f := fun k => (laws_markText.f k a).bind fun t => if (rdOf ByteArray.empty xs (i : Int)).toList = t.toList then laws_heldStringS.l0 k xs (a + 1) ((i + 1 : Nat) : Int) else some (-1)) (fun k => ?_) (Ev.bind (mtx_ev a (by omega)) (evPos (by rw [show rdOf ByteArray.empty xs (i : Int) = mtx a from getD_at h]) hr))
    simp only [laws_heldStringS.l0]
    rw [if_pos (by omega), if_pos (by omega), w64s (by omega), w64 (x := a + 1) (by omega) (by omega)]

theorem laws_eqPatch_self (e : S72) : laws_eqPatch.f e.f0 e.f1 e.f0 e.f1 = some true := by
  simp [laws_eqPatch.f]
theorem laws_eqPatchS_self (xs : List S72) (hl : xs.length ≤ 1000000000000000000) : Ev (fun k => laws_eqPatchS.f k xs xs) true := by
  simp only [laws_eqPatchS.f]
  refine evPos trivial (self_loop laws_eqPatchS.l0 (fun k xs i h => by simp only [laws_eqPatchS.l0]; rw [if_neg (by omega)]) (fun k xs i a hi ha h1 => ?_) xs hl)
  simp only [laws_eqPatchS.l0]
  rw [if_pos (by omega), if_pos (by omega), if_pos (by omega), laws_eqPatch_self, w64s (by omega)]
  rfl
theorem laws_eqDevice_self (ss : List ByteArray) (ps : List S72) (h1 : ss.length ≤ 1000000000000000000) (h2 : ps.length ≤ 1000000000000000000) : Ev (fun k => laws_eqDevice.f k ss ps ss ps) true := by
  simp only [laws_eqDevice.f]
  exact Ev.bind (laws_eqStringS_self ss h1) (evPos rfl (Ev.bind (laws_eqPatchS_self ps h2) (evPos rfl (Ev.now _))))
noncomputable def mtp (a : Int) : S72 := ⟨a, mtx (a + 1)⟩
theorem laws_markPatchS_ev (xs : List S72) (hl : xs.length ≤ 1000000000000000) (a : Int) (h1 : 1 ≤ a) (h2 : a ≤ 10000000000000000) : Ev (fun k => laws_markPatchS.f k xs a) (a + 2 * xs.length, marksOf mtp 2 xs.length a) := by
  refine mark_loop laws_markPatchS.l0 mtp 2 (by decide) (fun k xs a i h => ?_) (fun xs a i r h hi h1 h2 hr => ?_) xs hl a h1 h2
  · simp only [laws_markPatchS.l0]
    rw [if_neg (by omega)]
  · have e1 : wrap64 (a + 1) = a + 1 := w64 (by omega) (by omega)
    have e2 : wrap64 (a + 1 + 1) = a + 2 := w64 (x := a + 1 + 1) (by omega) (by omega) |>.trans (by omega)
    refine Ev.step (f := fun k => (laws_markText.f k (a + 1)).bind fun u => laws_markPatchS.l0 k (xs.set i ⟨a, u⟩) (a + 2) ((i + 1 : Nat) : Int)) (fun k => ?_) (Ev.bind (mtx_ev (a + 1) (by omega)) hr)
    simp only [laws_markPatchS.l0]
    rw [if_pos (by omega), if_pos (by omega)]
    have g1 : ∀ (ys : List S72) (v d : S72), i < ys.length → (ys.set i v).getD i d = v := fun ys v d hh => by simp [List.getD_eq_getElem?_getD, List.getElem?_set, hh]
    simp only [Option.bind_some, e1, e2, w64s (show i ≤ 1000000000000000000 by omega), rd_T72, Int.toNat_natCast, List.set_set, g1 _ _ _ h]
theorem laws_heldPatchS_ev (n : Nat) (hl : n ≤ 1000000000000000) (a : Int) (h1 : 1 ≤ a) (h2 : a ≤ 10000000000000000) : Ev (fun k => laws_heldPatchS.f k (marksOf mtp 2 n a) a) (a + 2 * n) := by
  refine held_loop laws_heldPatchS.l0 mtp 2 (by decide) (fun k xs a i h => ?_) (fun xs a i r h hi hi2 h1 h2 hr => ?_) n hl a h1 h2
  · simp only [laws_heldPatchS.l0]
    rw [if_neg (by omega)]
  · have e1 : wrap64 (a + 1) = a + 1 := w64 (by omega) (by omega)
    have e2 : wrap64 (a + 1 + 1) = a + 2 := w64 (x := a + 1 + 1) (by omega) (by omega) |>.trans (by omega)
    have e5 : rd_T72 xs (i : Int) = mtp a := getD_at h
    refine Ev.step (fun k => by simp only [laws_heldPatchS.l0]; rw [if_pos (by omega), if_pos (by omega), e5, e1, e2, w64s (by omega)]) ?_
    exact evPos rfl (Ev.bind (mtx_ev (a + 1) (by omega)) (evPos rfl hr))
/-- A device that is marked, and its marks. -/
noncomputable def mds (n : Nat) : List ByteArray := marksOf mtx 1 n 1
noncomputable def mdl (n m : Nat) : List S72 := marksOf mtp 2 m (1 + n)
theorem laws_markDevice_ev (ss : List ByteArray) (ps : List S72) (h1 : ss.length ≤ 1000000000000) (h2 : ps.length ≤ 1000000000000) : Ev (fun k => laws_markDevice.f k ss ps 1) (1 + ss.length + 2 * ps.length, mds ss.length, mdl ss.length ps.length) := by
  simp only [laws_markDevice.f]
  have e : (1 : Int) + 1 * (ss.length : Int) = 1 + ss.length := by omega
  have a := laws_markStringS_ev ss (by omega) 1 (by decide) (by decide)
  rw [e] at a
  exact Ev.bind a (Ev.bind (laws_markPatchS_ev ps (by omega) (1 + ss.length) (by omega) (by omega)) (Ev.now _))
theorem laws_heldDevice_ev (n m : Nat) (h1 : n ≤ 1000000000000) (h2 : m ≤ 1000000000000) : Ev (fun k => laws_heldDevice.f k (mds n) (mdl n m) 1) (1 + n + 2 * m) := by
  simp only [laws_heldDevice.f]
  have e : (1 : Int) + 1 * (n : Int) = 1 + n := by omega
  have a := laws_heldStringS_ev n (by omega) 1 (by decide) (by decide)
  rw [e] at a
  exact Ev.bind a (evNeg (by omega) (Ev.bind (laws_heldPatchS_ev m (by omega) (1 + n) (by omega) (by omega)) (evNeg (by omega) (Ev.now _))))

theorem spec_l1In_ev (a b c : Int) : Ev (fun _ => spec_l1In.f a b c) (within a b c) := by
  refine evId (fun _ => ?_)
  unfold spec_l1In.f within
  by_cases h : a ≥ b
  · rw [if_pos h, decide_eq_true (show b ≤ a from h), Bool.true_and]
  · rw [if_neg h, decide_eq_false (show ¬ b ≤ a from h), Bool.false_and]

theorem impl_within_ev (a b c : Int) : Ev (fun _ => impl_within.f a b c) (within a b c) := by
  refine evId (fun _ => ?_)
  unfold impl_within.f within
  by_cases h : a ≥ b
  · rw [if_pos h, decide_eq_true (show b ≤ a from h), Bool.true_and]
  · rw [if_neg h, decide_eq_false (show ¬ b ≤ a from h), Bool.false_and]

def newDevice (n : Int) : List ByteArray × List S72 × Bool := if within n 1 16 = true then (List.replicate n.toNat (⟨#[]⟩ : ByteArray), [], true) else ([], [], false)
theorem spec_NewDevice_ev (n : Int) : Ev (fun _ => spec_NewDevice.f n) (newDevice n) := by
  simp only [spec_NewDevice.f]
  refine Ev.bind (spec_l1In_ev n 1 16) ?_
  unfold newDevice
  by_cases h : within n 1 16 = true
  · have h' := h
    simp only [within, Bool.and_eq_true, decide_eq_true_eq] at h'
    exact evEq (evPos h (evPos (by omega) (evPos (by omega) (Ev.now _)))) (if_pos h).symm
  · exact evEq (evNeg h (Ev.now _)) (if_neg h).symm
theorem impl_NewDevice_ev (n : Int) : Ev (fun _ => impl_NewDevice.f n) (newDevice n) := by
  simp only [impl_NewDevice.f]
  refine Ev.bind (impl_within_ev n 1 16) ?_
  unfold newDevice
  by_cases h : within n 1 16 = true
  · have h' := h
    simp only [within, Bool.and_eq_true, decide_eq_true_eq] at h'
    exact evEq (evPos h (evPos (by omega) (evPos (by omega) (Ev.now _)))) (if_pos h).symm
  · exact evEq (evNeg h (Ev.now _)) (if_neg h).symm
theorem FnExactNewDevice (n : Int) (hn : (Lit.int .i64 n).wf = true) : ∃ k, laws_FnExactNewDevice.f k n = some true := by
  refine Ev.rounds (g := fun k => laws_FnExactNewDevice.f k n) ?_
  simp only [laws_FnExactNewDevice.f]
  have sp := spec_NewDevice_ev n
  have im := impl_NewDevice_ev n
  have hb : (newDevice n).1.length ≤ 100 ∧ (newDevice n).2.1.length ≤ 100 := by
    unfold newDevice
    split
    · rename_i h
      simp only [within, Bool.and_eq_true, decide_eq_true_eq] at h
      simp
      omega
    · simp
  generalize newDevice n = d at sp im hb
  obtain ⟨ss, ps, b⟩ := d
  simp only at hb
  have hself := laws_eqDevice_self ss ps (by omega) (by omega)
  have hmark := laws_markDevice_ev ss ps (by omega) (by omega)
  have hheld := laws_heldDevice_ev ss.length ps.length (by omega) (by omega)
  have t1 : Ev (fun k => laws_FnExactNewDevice.j1 k (1 + ss.length + 2 * ps.length) false (mds ss.length) (mdl ss.length ps.length)) true := by
    refine Ev.step (fun k => by simp only [laws_FnExactNewDevice.j1]; exact rfl) ?_
    exact evNeg (by simp) (Ev.bind hheld (evNeg (by omega) (evPos rfl (Ev.now _))))
  refine Ev.bind sp (Ev.bind im (Ev.bind hself (evPos rfl ?_)))
  refine Ev.step (fun k => by simp only [laws_FnExactNewDevice.j0]; exact rfl) ?_
  refine evNeg (by simp) (Ev.bind hmark (Ev.bind hheld (evNeg (by omega) (evPos rfl (Ev.bind im (Ev.bind hself (evPos rfl ?_)))))))
  simpa using t1
end Go.Proofs.Ytajidjlbgpaaoaa.Pure

-- by a program of this session (wip/print/run.py) for this claim
import Derived.Test.YtajidjlbgpaaoaaPFnExactBottomx0
import Derived.Test.YtajidjlbgpaaoaaPFnExactBottomx1
import Derived.Test.YtajidjlbgpaaoaaPFnExactBottomx2
import Derived.Test.YtajidjlbgpaaoaaPFnExactBottomx3
import Derived.Test.YtajidjlbgpaaoaaPFnExactBottomx4
import Derived.Test.YtajidjlbgpaaoaaPFnExactBottomx9
import Derived.Test.YtajidjlbgpaaoaaPFnExactBottomx13
namespace Go.Proofs.Ytajidjlbgpaaoaa.PFnExactBottom
open Go.RowKit Go.Proofs.YtajidjlbgpaaoaaW.PrintWords Go.Proofs.YtajidjlbgpaaoaaW.PrintLast Go.Proofs.YtajidjlbgpaaoaaW.PrintMore
attribute [local go_sem] max2_int min2_int max_two min_two max_three min_three max_four min_four   -- for this text's walks alone
set_option linter.unusedVariables false
set_option linter.unusedSimpArgs false

/-! ### laws_FnExactBottom: function 9 -/
theorem z9a {p_ : Prop} (h_ : p_ := by repeat (first | (with_reducible first | exact HB.out | apply below_alloc | apply pw_below_drewN | apply below_drew1) | exact HB.out)) : p_ := h_
theorem z9b {p_ : Prop} (h_ : p_ := by (try simp only [List.map_toArray, List.map_cons, List.map_nil]); first | done | rfl | (simp only [List.length_drop, List.length_take]; rfl)) : p_ := h_
theorem z9c {p_ : Prop} (h_ : p_ := by (with_reducible repeat (first | apply Kd.R_alloc | apply Kd.R_drewN | apply Kd.R_drew)); exact HO_9.out) : p_ := h_
theorem z9d {p_ : Prop} (h_ : p_ := by (with_reducible repeat (first | apply Kd.R_alloc | apply Kd.R_drewN | apply Kd.R_drew)); exact HO_6.out) : p_ := h_
theorem z9e {p_ : Prop} (h_ : p_ := by (with_reducible repeat (first | apply Kd.R_alloc | apply Kd.R_drewN | apply Kd.R_drew)); exact HO248.out) : p_ := h_
theorem z9f {p_ : Prop} (h_ : p_ := by (with_reducible repeat (first | apply Kd.R_alloc | apply Kd.R_drewN | apply Kd.R_drew)); exact HO251.out) : p_ := h_
theorem z9g {p_ : Prop} (h_ : p_ := by (with_reducible repeat (first | apply Kd.R_alloc | apply Kd.R_drewN | apply Kd.R_drew)); exact HO254.out) : p_ := h_
theorem z9h {p_ : Prop} (h_ : p_ := by (with_reducible repeat (first | apply Kd.R_alloc | apply Kd.R_drewN | apply Kd.R_drew)); exact HO_7.out) : p_ := h_
theorem z9i {p_ : Prop} (h_ : p_ := by (with_reducible repeat (first | apply Kd.R_alloc | apply Kd.R_drewN | apply Kd.R_drew)); exact HO_8.out) : p_ := h_
mutual
def laws_FnExactBottom.j0 : Nat → List (S86) → List Int → Option (Bool)
 | 0, _, _ => none
 | k + 1, x0, x1 => (laws_szEntryS.f k x0 1048576).bind fun t245 => (if t245 < 0 then (some true) else (laws_FnExactBottom.j1 k x0 x1))
def laws_FnExactBottom.j1 : Nat → List (S86) → List Int → Option (Bool)
 | 0, _, _ => none
 | k + 1, x0, x1 => (laws_toEntryS.f k x0).bind fun t246 => ((laws_toInt64S.f k x1).bind fun t249 => ((spec_Bottom.f k t246 t249).bind fun t252 => ((laws_toEntryS.f k x0).bind fun t255 => ((laws_toInt64S.f k x1).bind fun t258 => ((impl_Bottom.f k t255 t258).bind fun t261 => ((laws_eqEntryS.f k t261 t252).bind fun t264 => (if t264 = true then (laws_FnExactBottom.j2 k x0 x1 t252 t255 t258 t261) else (some false))))))))
def laws_FnExactBottom.j2 : Nat → List (S86) → List Int → List (S88) → List (S88) → List Int → List (S88) → Option (Bool)
 | 0, _, _, _, _, _, _ => none
 | k + 1, x0, x1, x6, x7, x8, x9 => (laws_toEntryS.f k x0).bind fun t265 => ((laws_eqEntryS.f k x7 t265).bind fun t268 => (if t268 = true then (laws_FnExactBottom.j3 k x0 x1 x6 x7 x8 x9) else (some false)))
def laws_FnExactBottom.j3 : Nat → List (S86) → List Int → List (S88) → List (S88) → List Int → List (S88) → Option (Bool)
 | 0, _, _, _, _, _, _ => none
 | k + 1, x0, x1, x6, x7, x8, x9 => (laws_toInt64S.f k x1).bind fun t269 => ((laws_eqInt64S.f k x8 t269).bind fun t272 => (if t272 = true then (laws_FnExactBottom.j4 k x0 x1 x6 x7 x8 x9) else (some false)))
def laws_FnExactBottom.j4 : Nat → List (S86) → List Int → List (S88) → List (S88) → List Int → List (S88) → Option (Bool)
 | 0, _, _, _, _, _, _ => none
 | k + 1, x0, x1, x6, x7, x8, x9 => (laws_markEntryS.f k x7 1).bind fun bt273 => ((laws_markInt64S.f k x8 bt273.1).bind fun bt275 => (if bt275.1 < 0 then (laws_FnExactBottom.j5 k x0 x1 x6 x9 true) else ((laws_eqEntryS.f k x9 x6).bind fun t277 => (laws_FnExactBottom.j5 k x0 x1 x6 x9 (!t277)))))
def laws_FnExactBottom.j5 : Nat → List (S86) → List Int → List (S88) → List (S88) → Bool → Option (Bool)
 | 0, _, _, _, _, _ => none
 | k + 1, x0, x1, x6, x9, x61 => if x61 = true then (some false) else (laws_FnExactBottom.j6 k x0 x1 x6 x9)
def laws_FnExactBottom.j6 : Nat → List (S86) → List Int → List (S88) → List (S88) → Option (Bool)
 | 0, _, _, _, _ => none
 | k + 1, x0, x1, x6, x9 => (laws_markEntryS.f k x9 1).bind fun bt278 => ((laws_heldEntryS.f k bt278.2 1).bind fun t280 => (if t280 < 0 then (some false) else (laws_FnExactBottom.j7 k x0 x1 x6 bt278.2 bt278.1 t280)))
def laws_FnExactBottom.j7 : Nat → List (S86) → List Int → List (S88) → List (S88) → Int → Int → Option (Bool)
 | 0, _, _, _, _, _, _ => none
 | k + 1, x0, x1, x6, x9, x11, x12 => if x12 = x11 then (laws_FnExactBottom.j8 k x0 x1 x6 x9 x11) else (some false)
def laws_FnExactBottom.j8 : Nat → List (S86) → List Int → List (S88) → List (S88) → Int → Option (Bool)
 | 0, _, _, _, _, _ => none
 | k + 1, x0, x1, x6, x9, x11 => (laws_toEntryS.f k x0).bind fun t281 => ((laws_toInt64S.f k x1).bind fun t284 => ((impl_Bottom.f k t281 t284).bind fun t287 => ((laws_eqEntryS.f k t287 x6).bind fun t290 => (if t290 = true then (laws_FnExactBottom.j9 k x9 x11) else (some false)))))
def laws_FnExactBottom.j9 : Nat → List (S88) → Int → Option (Bool)
 | 0, _, _ => none
 | k + 1, x9, x11 => (laws_heldEntryS.f k x9 1).bind fun t291 => (if t291 < 0 then (some false) else (if t291 = x11 then (some true) else (some false)))
end
def laws_FnExactBottom.f (k : Nat) (l0 : List (S86)) (l1 : List Int) : Option (Bool) := if (l1.length : Int) > 1048576 then (some true) else (laws_FnExactBottom.j0 k l0 l1)
theorem laws_FnExactBottom.mono_l : ∀ k, (∀ y0 y1, LeO (laws_FnExactBottom.j0 k y0 y1) (laws_FnExactBottom.j0 (k + 1) y0 y1)) ∧ (∀ y0 y1, LeO (laws_FnExactBottom.j1 k y0 y1) (laws_FnExactBottom.j1 (k + 1) y0 y1)) ∧ (∀ y0 y1 y2 y3 y4 y5, LeO (laws_FnExactBottom.j2 k y0 y1 y2 y3 y4 y5) (laws_FnExactBottom.j2 (k + 1) y0 y1 y2 y3 y4 y5)) ∧ (∀ y0 y1 y2 y3 y4 y5, LeO (laws_FnExactBottom.j3 k y0 y1 y2 y3 y4 y5) (laws_FnExactBottom.j3 (k + 1) y0 y1 y2 y3 y4 y5)) ∧ (∀ y0 y1 y2 y3 y4 y5, LeO (laws_FnExactBottom.j4 k y0 y1 y2 y3 y4 y5) (laws_FnExactBottom.j4 (k + 1) y0 y1 y2 y3 y4 y5)) ∧ (∀ y0 y1 y2 y3 y4, LeO (laws_FnExactBottom.j5 k y0 y1 y2 y3 y4) (laws_FnExactBottom.j5 (k + 1) y0 y1 y2 y3 y4)) ∧ (∀ y0 y1 y2 y3, LeO (laws_FnExactBottom.j6 k y0 y1 y2 y3) (laws_FnExactBottom.j6 (k + 1) y0 y1 y2 y3)) ∧ (∀ y0 y1 y2 y3 y4 y5, LeO (laws_FnExactBottom.j7 k y0 y1 y2 y3 y4 y5) (laws_FnExactBottom.j7 (k + 1) y0 y1 y2 y3 y4 y5)) ∧ (∀ y0 y1 y2 y3 y4, LeO (laws_FnExactBottom.j8 k y0 y1 y2 y3 y4) (laws_FnExactBottom.j8 (k + 1) y0 y1 y2 y3 y4)) ∧ (∀ y0 y1, LeO (laws_FnExactBottom.j9 k y0 y1) (laws_FnExactBottom.j9 (k + 1) y0 y1))
 | 0 => ⟨fun _ _ r h => by simp [laws_FnExactBottom.j0] at h, fun _ _ r h => by simp [laws_FnExactBottom.j1] at h, fun _ _ _ _ _ _ r h => by simp [laws_FnExactBottom.j2] at h, fun _ _ _ _ _ _ r h => by simp [laws_FnExactBottom.j3] at h, fun _ _ _ _ _ _ r h => by simp [laws_FnExactBottom.j4] at h, fun _ _ _ _ _ r h => by simp [laws_FnExactBottom.j5] at h, fun _ _ _ _ r h => by simp [laws_FnExactBottom.j6] at h, fun _ _ _ _ _ _ r h => by simp [laws_FnExactBottom.j7] at h, fun _ _ _ _ _ r h => by simp [laws_FnExactBottom.j8] at h, fun _ _ r h => by simp [laws_FnExactBottom.j9] at h⟩
 | k + 1 => by
  obtain ⟨ih0, ih1, ih2, ih3, ih4, ih5, ih6, ih7, ih8, ih9⟩ := laws_FnExactBottom.mono_l k
  refine ⟨?_, ?_, ?_, ?_, ?_, ?_, ?_, ?_, ?_, ?_⟩
  {
  intro y0 y1
  unfold laws_FnExactBottom.j0
  repeat' first
  | (with_reducible exact ih0 _ _)
  | (with_reducible exact ih1 _ _)
  | (with_reducible exact ih2 _ _ _ _ _ _)
  | (with_reducible exact ih3 _ _ _ _ _ _)
  | (with_reducible exact ih4 _ _ _ _ _ _)
  | (with_reducible exact ih5 _ _ _ _ _)
  | (with_reducible exact ih6 _ _ _ _)
  | (with_reducible exact ih7 _ _ _ _ _ _)
  | (with_reducible exact ih8 _ _ _ _ _)
  | (with_reducible exact ih9 _ _)
  | (with_reducible exact impl_Bottom.mono _ _ _)
  | (with_reducible exact laws_eqEntryS.mono _ _ _)
  | (with_reducible exact laws_eqInt64S.mono _ _ _)
  | (with_reducible exact laws_heldEntryS.mono _ _ _)
  | (with_reducible exact laws_markEntryS.mono _ _ _)
  | (with_reducible exact laws_markInt64S.mono _ _ _)
  | (with_reducible exact laws_szEntryS.mono _ _ _)
  | (with_reducible exact laws_toEntryS.mono _ _)
  | (with_reducible exact laws_toInt64S.mono _ _)
  | (with_reducible exact spec_Bottom.mono _ _ _)
  | (with_reducible exact LeO.refl _)
  | (with_reducible exact LeO.none _)
  | (with_reducible refine LeO.ite ?_ ?_)
  | (with_reducible refine LeO.bind ?_ (fun _ => ?_))
  | exact ih0 _ _
  | exact ih1 _ _
  | exact ih2 _ _ _ _ _ _
  | exact ih3 _ _ _ _ _ _
  | exact ih4 _ _ _ _ _ _
  | exact ih5 _ _ _ _ _
  | exact ih6 _ _ _ _
  | exact ih7 _ _ _ _ _ _
  | exact ih8 _ _ _ _ _
  | exact ih9 _ _
  | exact impl_Bottom.mono _ _ _
  | exact laws_eqEntryS.mono _ _ _
  | exact laws_eqInt64S.mono _ _ _
  | exact laws_heldEntryS.mono _ _ _
  | exact laws_markEntryS.mono _ _ _
  | exact laws_markInt64S.mono _ _ _
  | exact laws_szEntryS.mono _ _ _
  | exact laws_toEntryS.mono _ _
  | exact laws_toInt64S.mono _ _
  | exact spec_Bottom.mono _ _ _
  | exact LeO.none _
  | refine LeO.ite ?_ ?_
  | refine LeO.bind ?_ (fun _ => ?_)
  }
  {
  intro y0 y1
  unfold laws_FnExactBottom.j1
  repeat' first
  | (with_reducible exact ih0 _ _)
  | (with_reducible exact ih1 _ _)
  | (with_reducible exact ih2 _ _ _ _ _ _)
  | (with_reducible exact ih3 _ _ _ _ _ _)
  | (with_reducible exact ih4 _ _ _ _ _ _)
  | (with_reducible exact ih5 _ _ _ _ _)
  | (with_reducible exact ih6 _ _ _ _)
  | (with_reducible exact ih7 _ _ _ _ _ _)
  | (with_reducible exact ih8 _ _ _ _ _)
  | (with_reducible exact ih9 _ _)
  | (with_reducible exact impl_Bottom.mono _ _ _)
  | (with_reducible exact laws_eqEntryS.mono _ _ _)
  | (with_reducible exact laws_eqInt64S.mono _ _ _)
  | (with_reducible exact laws_heldEntryS.mono _ _ _)
  | (with_reducible exact laws_markEntryS.mono _ _ _)
  | (with_reducible exact laws_markInt64S.mono _ _ _)
  | (with_reducible exact laws_szEntryS.mono _ _ _)
  | (with_reducible exact laws_toEntryS.mono _ _)
  | (with_reducible exact laws_toInt64S.mono _ _)
  | (with_reducible exact spec_Bottom.mono _ _ _)
  | (with_reducible exact LeO.refl _)
  | (with_reducible exact LeO.none _)
  | (with_reducible refine LeO.ite ?_ ?_)
  | (with_reducible refine LeO.bind ?_ (fun _ => ?_))
  | exact ih0 _ _
  | exact ih1 _ _
  | exact ih2 _ _ _ _ _ _
  | exact ih3 _ _ _ _ _ _
  | exact ih4 _ _ _ _ _ _
  | exact ih5 _ _ _ _ _
  | exact ih6 _ _ _ _
  | exact ih7 _ _ _ _ _ _
  | exact ih8 _ _ _ _ _
  | exact ih9 _ _
  | exact impl_Bottom.mono _ _ _
  | exact laws_eqEntryS.mono _ _ _
  | exact laws_eqInt64S.mono _ _ _
  | exact laws_heldEntryS.mono _ _ _
  | exact laws_markEntryS.mono _ _ _
  | exact laws_markInt64S.mono _ _ _
  | exact laws_szEntryS.mono _ _ _
  | exact laws_toEntryS.mono _ _
  | exact laws_toInt64S.mono _ _
  | exact spec_Bottom.mono _ _ _
  | exact LeO.none _
  | refine LeO.ite ?_ ?_
  | refine LeO.bind ?_ (fun _ => ?_)
  }
  {
  intro y0 y1 y2 y3 y4 y5
  unfold laws_FnExactBottom.j2
  repeat' first
  | (with_reducible exact ih0 _ _)
  | (with_reducible exact ih1 _ _)
  | (with_reducible exact ih2 _ _ _ _ _ _)
  | (with_reducible exact ih3 _ _ _ _ _ _)
  | (with_reducible exact ih4 _ _ _ _ _ _)
  | (with_reducible exact ih5 _ _ _ _ _)
  | (with_reducible exact ih6 _ _ _ _)
  | (with_reducible exact ih7 _ _ _ _ _ _)
  | (with_reducible exact ih8 _ _ _ _ _)
  | (with_reducible exact ih9 _ _)
  | (with_reducible exact impl_Bottom.mono _ _ _)
  | (with_reducible exact laws_eqEntryS.mono _ _ _)
  | (with_reducible exact laws_eqInt64S.mono _ _ _)
  | (with_reducible exact laws_heldEntryS.mono _ _ _)
  | (with_reducible exact laws_markEntryS.mono _ _ _)
  | (with_reducible exact laws_markInt64S.mono _ _ _)
  | (with_reducible exact laws_szEntryS.mono _ _ _)
  | (with_reducible exact laws_toEntryS.mono _ _)
  | (with_reducible exact laws_toInt64S.mono _ _)
  | (with_reducible exact spec_Bottom.mono _ _ _)
  | (with_reducible exact LeO.refl _)
  | (with_reducible exact LeO.none _)
  | (with_reducible refine LeO.ite ?_ ?_)
  | (with_reducible refine LeO.bind ?_ (fun _ => ?_))
  | exact ih0 _ _
  | exact ih1 _ _
  | exact ih2 _ _ _ _ _ _
  | exact ih3 _ _ _ _ _ _
  | exact ih4 _ _ _ _ _ _
  | exact ih5 _ _ _ _ _
  | exact ih6 _ _ _ _
  | exact ih7 _ _ _ _ _ _
  | exact ih8 _ _ _ _ _
  | exact ih9 _ _
  | exact impl_Bottom.mono _ _ _
  | exact laws_eqEntryS.mono _ _ _
  | exact laws_eqInt64S.mono _ _ _
  | exact laws_heldEntryS.mono _ _ _
  | exact laws_markEntryS.mono _ _ _
  | exact laws_markInt64S.mono _ _ _
  | exact laws_szEntryS.mono _ _ _
  | exact laws_toEntryS.mono _ _
  | exact laws_toInt64S.mono _ _
  | exact spec_Bottom.mono _ _ _
  | exact LeO.none _
  | refine LeO.ite ?_ ?_
  | refine LeO.bind ?_ (fun _ => ?_)
  }
  {
  intro y0 y1 y2 y3 y4 y5
  unfold laws_FnExactBottom.j3
  repeat' first
  | (with_reducible exact ih0 _ _)
  | (with_reducible exact ih1 _ _)
  | (with_reducible exact ih2 _ _ _ _ _ _)
  | (with_reducible exact ih3 _ _ _ _ _ _)
  | (with_reducible exact ih4 _ _ _ _ _ _)
  | (with_reducible exact ih5 _ _ _ _ _)
  | (with_reducible exact ih6 _ _ _ _)
  | (with_reducible exact ih7 _ _ _ _ _ _)
  | (with_reducible exact ih8 _ _ _ _ _)
  | (with_reducible exact ih9 _ _)
  | (with_reducible exact impl_Bottom.mono _ _ _)
  | (with_reducible exact laws_eqEntryS.mono _ _ _)
  | (with_reducible exact laws_eqInt64S.mono _ _ _)
  | (with_reducible exact laws_heldEntryS.mono _ _ _)
  | (with_reducible exact laws_markEntryS.mono _ _ _)
  | (with_reducible exact laws_markInt64S.mono _ _ _)
  | (with_reducible exact laws_szEntryS.mono _ _ _)
  | (with_reducible exact laws_toEntryS.mono _ _)
  | (with_reducible exact laws_toInt64S.mono _ _)
  | (with_reducible exact spec_Bottom.mono _ _ _)
  | (with_reducible exact LeO.refl _)
  | (with_reducible exact LeO.none _)
  | (with_reducible refine LeO.ite ?_ ?_)
  | (with_reducible refine LeO.bind ?_ (fun _ => ?_))
  | exact ih0 _ _
  | exact ih1 _ _
  | exact ih2 _ _ _ _ _ _
  | exact ih3 _ _ _ _ _ _
  | exact ih4 _ _ _ _ _ _
  | exact ih5 _ _ _ _ _
  | exact ih6 _ _ _ _
  | exact ih7 _ _ _ _ _ _
  | exact ih8 _ _ _ _ _
  | exact ih9 _ _
  | exact impl_Bottom.mono _ _ _
  | exact laws_eqEntryS.mono _ _ _
  | exact laws_eqInt64S.mono _ _ _
  | exact laws_heldEntryS.mono _ _ _
  | exact laws_markEntryS.mono _ _ _
  | exact laws_markInt64S.mono _ _ _
  | exact laws_szEntryS.mono _ _ _
  | exact laws_toEntryS.mono _ _
  | exact laws_toInt64S.mono _ _
  | exact spec_Bottom.mono _ _ _
  | exact LeO.none _
  | refine LeO.ite ?_ ?_
  | refine LeO.bind ?_ (fun _ => ?_)
  }
  {
  intro y0 y1 y2 y3 y4 y5
  unfold laws_FnExactBottom.j4
  repeat' first
  | (with_reducible exact ih0 _ _)
  | (with_reducible exact ih1 _ _)
  | (with_reducible exact ih2 _ _ _ _ _ _)
  | (with_reducible exact ih3 _ _ _ _ _ _)
  | (with_reducible exact ih4 _ _ _ _ _ _)
  | (with_reducible exact ih5 _ _ _ _ _)
  | (with_reducible exact ih6 _ _ _ _)
  | (with_reducible exact ih7 _ _ _ _ _ _)
  | (with_reducible exact ih8 _ _ _ _ _)
  | (with_reducible exact ih9 _ _)
  | (with_reducible exact impl_Bottom.mono _ _ _)
  | (with_reducible exact laws_eqEntryS.mono _ _ _)
  | (with_reducible exact laws_eqInt64S.mono _ _ _)
  | (with_reducible exact laws_heldEntryS.mono _ _ _)
  | (with_reducible exact laws_markEntryS.mono _ _ _)
  | (with_reducible exact laws_markInt64S.mono _ _ _)
  | (with_reducible exact laws_szEntryS.mono _ _ _)
  | (with_reducible exact laws_toEntryS.mono _ _)
  | (with_reducible exact laws_toInt64S.mono _ _)
  | (with_reducible exact spec_Bottom.mono _ _ _)
  | (with_reducible exact LeO.refl _)
  | (with_reducible exact LeO.none _)
  | (with_reducible refine LeO.ite ?_ ?_)
  | (with_reducible refine LeO.bind ?_ (fun _ => ?_))
  | exact ih0 _ _
  | exact ih1 _ _
  | exact ih2 _ _ _ _ _ _
  | exact ih3 _ _ _ _ _ _
  | exact ih4 _ _ _ _ _ _
  | exact ih5 _ _ _ _ _
  | exact ih6 _ _ _ _
  | exact ih7 _ _ _ _ _ _
  | exact ih8 _ _ _ _ _
  | exact ih9 _ _
  | exact impl_Bottom.mono _ _ _
  | exact laws_eqEntryS.mono _ _ _
  | exact laws_eqInt64S.mono _ _ _
  | exact laws_heldEntryS.mono _ _ _
  | exact laws_markEntryS.mono _ _ _
  | exact laws_markInt64S.mono _ _ _
  | exact laws_szEntryS.mono _ _ _
  | exact laws_toEntryS.mono _ _
  | exact laws_toInt64S.mono _ _
  | exact spec_Bottom.mono _ _ _
  | exact LeO.none _
  | refine LeO.ite ?_ ?_
  | refine LeO.bind ?_ (fun _ => ?_)
  }
  {
  intro y0 y1 y2 y3 y4
  unfold laws_FnExactBottom.j5
  repeat' first
  | (with_reducible exact ih0 _ _)
  | (with_reducible exact ih1 _ _)
  | (with_reducible exact ih2 _ _ _ _ _ _)
  | (with_reducible exact ih3 _ _ _ _ _ _)
  | (with_reducible exact ih4 _ _ _ _ _ _)
  | (with_reducible exact ih5 _ _ _ _ _)
  | (with_reducible exact ih6 _ _ _ _)
  | (with_reducible exact ih7 _ _ _ _ _ _)
  | (with_reducible exact ih8 _ _ _ _ _)
  | (with_reducible exact ih9 _ _)
  | (with_reducible exact impl_Bottom.mono _ _ _)
  | (with_reducible exact laws_eqEntryS.mono _ _ _)
  | (with_reducible exact laws_eqInt64S.mono _ _ _)
  | (with_reducible exact laws_heldEntryS.mono _ _ _)
  | (with_reducible exact laws_markEntryS.mono _ _ _)
  | (with_reducible exact laws_markInt64S.mono _ _ _)
  | (with_reducible exact laws_szEntryS.mono _ _ _)
  | (with_reducible exact laws_toEntryS.mono _ _)
  | (with_reducible exact laws_toInt64S.mono _ _)
  | (with_reducible exact spec_Bottom.mono _ _ _)
  | (with_reducible exact LeO.refl _)
  | (with_reducible exact LeO.none _)
  | (with_reducible refine LeO.ite ?_ ?_)
  | (with_reducible refine LeO.bind ?_ (fun _ => ?_))
  | exact ih0 _ _
  | exact ih1 _ _
  | exact ih2 _ _ _ _ _ _
  | exact ih3 _ _ _ _ _ _
  | exact ih4 _ _ _ _ _ _
  | exact ih5 _ _ _ _ _
  | exact ih6 _ _ _ _
  | exact ih7 _ _ _ _ _ _
  | exact ih8 _ _ _ _ _
  | exact ih9 _ _
  | exact impl_Bottom.mono _ _ _
  | exact laws_eqEntryS.mono _ _ _
  | exact laws_eqInt64S.mono _ _ _
  | exact laws_heldEntryS.mono _ _ _
  | exact laws_markEntryS.mono _ _ _
  | exact laws_markInt64S.mono _ _ _
  | exact laws_szEntryS.mono _ _ _
  | exact laws_toEntryS.mono _ _
  | exact laws_toInt64S.mono _ _
  | exact spec_Bottom.mono _ _ _
  | exact LeO.none _
  | refine LeO.ite ?_ ?_
  | refine LeO.bind ?_ (fun _ => ?_)
  }
  {
  intro y0 y1 y2 y3
  unfold laws_FnExactBottom.j6
  repeat' first
  | (with_reducible exact ih0 _ _)
  | (with_reducible exact ih1 _ _)
  | (with_reducible exact ih2 _ _ _ _ _ _)
  | (with_reducible exact ih3 _ _ _ _ _ _)
  | (with_reducible exact ih4 _ _ _ _ _ _)
  | (with_reducible exact ih5 _ _ _ _ _)
  | (with_reducible exact ih6 _ _ _ _)
  | (with_reducible exact ih7 _ _ _ _ _ _)
  | (with_reducible exact ih8 _ _ _ _ _)
  | (with_reducible exact ih9 _ _)
  | (with_reducible exact impl_Bottom.mono _ _ _)
  | (with_reducible exact laws_eqEntryS.mono _ _ _)
  | (with_reducible exact laws_eqInt64S.mono _ _ _)
  | (with_reducible exact laws_heldEntryS.mono _ _ _)
  | (with_reducible exact laws_markEntryS.mono _ _ _)
  | (with_reducible exact laws_markInt64S.mono _ _ _)
  | (with_reducible exact laws_szEntryS.mono _ _ _)
  | (with_reducible exact laws_toEntryS.mono _ _)
  | (with_reducible exact laws_toInt64S.mono _ _)
  | (with_reducible exact spec_Bottom.mono _ _ _)
  | (with_reducible exact LeO.refl _)
  | (with_reducible exact LeO.none _)
  | (with_reducible refine LeO.ite ?_ ?_)
  | (with_reducible refine LeO.bind ?_ (fun _ => ?_))
  | exact ih0 _ _
  | exact ih1 _ _
  | exact ih2 _ _ _ _ _ _
  | exact ih3 _ _ _ _ _ _
  | exact ih4 _ _ _ _ _ _
  | exact ih5 _ _ _ _ _
  | exact ih6 _ _ _ _
  | exact ih7 _ _ _ _ _ _
  | exact ih8 _ _ _ _ _
  | exact ih9 _ _
  | exact impl_Bottom.mono _ _ _
  | exact laws_eqEntryS.mono _ _ _
  | exact laws_eqInt64S.mono _ _ _
  | exact laws_heldEntryS.mono _ _ _
  | exact laws_markEntryS.mono _ _ _
  | exact laws_markInt64S.mono _ _ _
  | exact laws_szEntryS.mono _ _ _
  | exact laws_toEntryS.mono _ _
  | exact laws_toInt64S.mono _ _
  | exact spec_Bottom.mono _ _ _
  | exact LeO.none _
  | refine LeO.ite ?_ ?_
  | refine LeO.bind ?_ (fun _ => ?_)
  }
  {
  intro y0 y1 y2 y3 y4 y5
  unfold laws_FnExactBottom.j7
  repeat' first
  | (with_reducible exact ih0 _ _)
  | (with_reducible exact ih1 _ _)
  | (with_reducible exact ih2 _ _ _ _ _ _)
  | (with_reducible exact ih3 _ _ _ _ _ _)
  | (with_reducible exact ih4 _ _ _ _ _ _)
  | (with_reducible exact ih5 _ _ _ _ _)
  | (with_reducible exact ih6 _ _ _ _)
  | (with_reducible exact ih7 _ _ _ _ _ _)
  | (with_reducible exact ih8 _ _ _ _ _)
  | (with_reducible exact ih9 _ _)
  | (with_reducible exact impl_Bottom.mono _ _ _)
  | (with_reducible exact laws_eqEntryS.mono _ _ _)
  | (with_reducible exact laws_eqInt64S.mono _ _ _)
  | (with_reducible exact laws_heldEntryS.mono _ _ _)
  | (with_reducible exact laws_markEntryS.mono _ _ _)
  | (with_reducible exact laws_markInt64S.mono _ _ _)
  | (with_reducible exact laws_szEntryS.mono _ _ _)
  | (with_reducible exact laws_toEntryS.mono _ _)
  | (with_reducible exact laws_toInt64S.mono _ _)
  | (with_reducible exact spec_Bottom.mono _ _ _)
  | (with_reducible exact LeO.refl _)
  | (with_reducible exact LeO.none _)
  | (with_reducible refine LeO.ite ?_ ?_)
  | (with_reducible refine LeO.bind ?_ (fun _ => ?_))
  | exact ih0 _ _
  | exact ih1 _ _
  | exact ih2 _ _ _ _ _ _
  | exact ih3 _ _ _ _ _ _
  | exact ih4 _ _ _ _ _ _
  | exact ih5 _ _ _ _ _
  | exact ih6 _ _ _ _
  | exact ih7 _ _ _ _ _ _
  | exact ih8 _ _ _ _ _
  | exact ih9 _ _
  | exact impl_Bottom.mono _ _ _
  | exact laws_eqEntryS.mono _ _ _
  | exact laws_eqInt64S.mono _ _ _
  | exact laws_heldEntryS.mono _ _ _
  | exact laws_markEntryS.mono _ _ _
  | exact laws_markInt64S.mono _ _ _
  | exact laws_szEntryS.mono _ _ _
  | exact laws_toEntryS.mono _ _
  | exact laws_toInt64S.mono _ _
  | exact spec_Bottom.mono _ _ _
  | exact LeO.none _
  | refine LeO.ite ?_ ?_
  | refine LeO.bind ?_ (fun _ => ?_)
  }
  {
  intro y0 y1 y2 y3 y4
  unfold laws_FnExactBottom.j8
  repeat' first
  | (with_reducible exact ih0 _ _)
  | (with_reducible exact ih1 _ _)
  | (with_reducible exact ih2 _ _ _ _ _ _)
  | (with_reducible exact ih3 _ _ _ _ _ _)
  | (with_reducible exact ih4 _ _ _ _ _ _)
  | (with_reducible exact ih5 _ _ _ _ _)
  | (with_reducible exact ih6 _ _ _ _)
  | (with_reducible exact ih7 _ _ _ _ _ _)
  | (with_reducible exact ih8 _ _ _ _ _)
  | (with_reducible exact ih9 _ _)
  | (with_reducible exact impl_Bottom.mono _ _ _)
  | (with_reducible exact laws_eqEntryS.mono _ _ _)
  | (with_reducible exact laws_eqInt64S.mono _ _ _)
  | (with_reducible exact laws_heldEntryS.mono _ _ _)
  | (with_reducible exact laws_markEntryS.mono _ _ _)
  | (with_reducible exact laws_markInt64S.mono _ _ _)
  | (with_reducible exact laws_szEntryS.mono _ _ _)
  | (with_reducible exact laws_toEntryS.mono _ _)
  | (with_reducible exact laws_toInt64S.mono _ _)
  | (with_reducible exact spec_Bottom.mono _ _ _)
  | (with_reducible exact LeO.refl _)
  | (with_reducible exact LeO.none _)
  | (with_reducible refine LeO.ite ?_ ?_)
  | (with_reducible refine LeO.bind ?_ (fun _ => ?_))
  | exact ih0 _ _
  | exact ih1 _ _
  | exact ih2 _ _ _ _ _ _
  | exact ih3 _ _ _ _ _ _
  | exact ih4 _ _ _ _ _ _
  | exact ih5 _ _ _ _ _
  | exact ih6 _ _ _ _
  | exact ih7 _ _ _ _ _ _
  | exact ih8 _ _ _ _ _
  | exact ih9 _ _
  | exact impl_Bottom.mono _ _ _
  | exact laws_eqEntryS.mono _ _ _
  | exact laws_eqInt64S.mono _ _ _
  | exact laws_heldEntryS.mono _ _ _
  | exact laws_markEntryS.mono _ _ _
  | exact laws_markInt64S.mono _ _ _
  | exact laws_szEntryS.mono _ _ _
  | exact laws_toEntryS.mono _ _
  | exact laws_toInt64S.mono _ _
  | exact spec_Bottom.mono _ _ _
  | exact LeO.none _
  | refine LeO.ite ?_ ?_
  | refine LeO.bind ?_ (fun _ => ?_)
  }
  {
  intro y0 y1
  unfold laws_FnExactBottom.j9
  repeat' first
  | (with_reducible exact ih0 _ _)
  | (with_reducible exact ih1 _ _)
  | (with_reducible exact ih2 _ _ _ _ _ _)
  | (with_reducible exact ih3 _ _ _ _ _ _)
  | (with_reducible exact ih4 _ _ _ _ _ _)
  | (with_reducible exact ih5 _ _ _ _ _)
  | (with_reducible exact ih6 _ _ _ _)
  | (with_reducible exact ih7 _ _ _ _ _ _)
  | (with_reducible exact ih8 _ _ _ _ _)
  | (with_reducible exact ih9 _ _)
  | (with_reducible exact impl_Bottom.mono _ _ _)
  | (with_reducible exact laws_eqEntryS.mono _ _ _)
  | (with_reducible exact laws_eqInt64S.mono _ _ _)
  | (with_reducible exact laws_heldEntryS.mono _ _ _)
  | (with_reducible exact laws_markEntryS.mono _ _ _)
  | (with_reducible exact laws_markInt64S.mono _ _ _)
  | (with_reducible exact laws_szEntryS.mono _ _ _)
  | (with_reducible exact laws_toEntryS.mono _ _)
  | (with_reducible exact laws_toInt64S.mono _ _)
  | (with_reducible exact spec_Bottom.mono _ _ _)
  | (with_reducible exact LeO.refl _)
  | (with_reducible exact LeO.none _)
  | (with_reducible refine LeO.ite ?_ ?_)
  | (with_reducible refine LeO.bind ?_ (fun _ => ?_))
  | exact ih0 _ _
  | exact ih1 _ _
  | exact ih2 _ _ _ _ _ _
  | exact ih3 _ _ _ _ _ _
  | exact ih4 _ _ _ _ _ _
  | exact ih5 _ _ _ _ _
  | exact ih6 _ _ _ _
  | exact ih7 _ _ _ _ _ _
  | exact ih8 _ _ _ _ _
  | exact ih9 _ _
  | exact impl_Bottom.mono _ _ _
  | exact laws_eqEntryS.mono _ _ _
  | exact laws_eqInt64S.mono _ _ _
  | exact laws_heldEntryS.mono _ _ _
  | exact laws_markEntryS.mono _ _ _
  | exact laws_markInt64S.mono _ _ _
  | exact laws_szEntryS.mono _ _ _
  | exact laws_toEntryS.mono _ _
  | exact laws_toInt64S.mono _ _
  | exact spec_Bottom.mono _ _ _
  | exact LeO.none _
  | refine LeO.ite ?_ ?_
  | refine LeO.bind ?_ (fun _ => ?_)
  }
theorem laws_FnExactBottom.mono : ∀ a0 a1 k, LeO (laws_FnExactBottom.f k a0 a1) (laws_FnExactBottom.f (k + 1) a0 a1) := by
 intro a0 a1 k
 obtain ⟨ih0, ih1, ih2, ih3, ih4, ih5, ih6, ih7, ih8, ih9⟩ := laws_FnExactBottom.mono_l k
 unfold laws_FnExactBottom.f
 repeat' first
   | (with_reducible exact ih0 _ _)
   | (with_reducible exact ih1 _ _)
   | (with_reducible exact ih2 _ _ _ _ _ _)
   | (with_reducible exact ih3 _ _ _ _ _ _)
   | (with_reducible exact ih4 _ _ _ _ _ _)
   | (with_reducible exact ih5 _ _ _ _ _)
   | (with_reducible exact ih6 _ _ _ _)
   | (with_reducible exact ih7 _ _ _ _ _ _)
   | (with_reducible exact ih8 _ _ _ _ _)
   | (with_reducible exact ih9 _ _)
   | (with_reducible exact impl_Bottom.mono _ _ _)
   | (with_reducible exact laws_eqEntryS.mono _ _ _)
   | (with_reducible exact laws_eqInt64S.mono _ _ _)
   | (with_reducible exact laws_heldEntryS.mono _ _ _)
   | (with_reducible exact laws_markEntryS.mono _ _ _)
   | (with_reducible exact laws_markInt64S.mono _ _ _)
   | (with_reducible exact laws_szEntryS.mono _ _ _)
   | (with_reducible exact laws_toEntryS.mono _ _)
   | (with_reducible exact laws_toInt64S.mono _ _)
   | (with_reducible exact spec_Bottom.mono _ _ _)
   | (with_reducible exact LeO.refl _)
   | (with_reducible exact LeO.none _)
   | (with_reducible refine LeO.ite ?_ ?_)
   | (with_reducible refine LeO.bind ?_ (fun _ => ?_))
   | exact ih0 _ _
   | exact ih1 _ _
   | exact ih2 _ _ _ _ _ _
   | exact ih3 _ _ _ _ _ _
   | exact ih4 _ _ _ _ _ _
   | exact ih5 _ _ _ _ _
   | exact ih6 _ _ _ _
   | exact ih7 _ _ _ _ _ _
   | exact ih8 _ _ _ _ _
   | exact ih9 _ _
   | exact impl_Bottom.mono _ _ _
   | exact laws_eqEntryS.mono _ _ _
   | exact laws_eqInt64S.mono _ _ _
   | exact laws_heldEntryS.mono _ _ _
   | exact laws_markEntryS.mono _ _ _
   | exact laws_markInt64S.mono _ _ _
   | exact laws_szEntryS.mono _ _ _
   | exact laws_toEntryS.mono _ _
   | exact laws_toInt64S.mono _ _
   | exact spec_Bottom.mono _ _ _
   | exact LeO.none _
   | refine LeO.ite ?_ ?_
   | refine LeO.bind ?_ (fun _ => ?_)
set_option maxHeartbeats 8000000 in
set_option maxRecDepth 100000 in
theorem laws_FnExactBottom.calls (k : Nat) (A0 : Option Addr) (c0 : Nat) (l0 : List (S86)) (A1 : Option Addr) (c1 : Nat) (l1 : List Int) (r : Bool) (w : World) (hr0 : Kd.C k86 w A0 l0.length l0) (hc0 : l0.length ≤ c0) (hr1 : Kd.C (Kd.int .i64) w A1 l1.length l1) (hc1 : l1.length ≤ c1) (h : laws_FnExactBottom.f k l0 l1 = some r) :
  Calls Try.prog 9 #[.slice A0 l0.length c0, .slice A1 l1.length c1] w fun e w' => e = .returned (.bool r) ∧ Below w.heap.size w w' := by
 have HR0 := Aside0.mk hr0
 have HC0 := Aside0.mk hc0
 clear hr0 hc0
 have HR1 := Aside0.mk hr1
 have HC1 := Aside0.mk hc1
 clear hr1 hc1
 have HB := Aside0.mk (Below.refl w.heap.size w)
 have H : (if (l1.length : Int) > 1048576 then (some true) else (laws_FnExactBottom.j0 k l0 l1)) = some r := h
 clear h
 have HC3 := Aside0.mk H
 clear H
 go_enter Try.func9, Try.ntmps9
 go_upto_if 16 with (fail)
 go_cut [] (fun wc => ∃ (kq : Nat), Aside0 (laws_FnExactBottom.j0 kq l0 l1 = some r) ∧ Aside0 (kq ≤ k) ∧ Aside0 (Below w.heap.size w wc))
 case first =>
  have H := HC3.out
  clear HC3
  by_cases c4 : (l1.length : Int) > 1048576
  {
  rw [if_pos c4] at H
  have c4b0 : decide (1048576 < (l1.length : Int)) = true := decide_eq_true c4
  have c4b1 : decide (1048576 < l1.length) = true := decide_eq_true (by omega)
  clear c4
  (first | rw [c4b0] | (simp only [i64_w, i32_w]; rw [c4b0]) | skip)
  obtain rfl := Option.some.inj H
  go_wp2
  go_ret
  exact ⟨by first | rfl | (simp [errW_none, errW_some] <;> rfl) | (simp [*, errW_none, errW_some] <;> rfl), by repeat (first | (with_reducible first | exact HB.out | apply below_alloc | apply pw_below_drewN | apply below_drew1) | exact HB.out)⟩
  }
  {
  rw [if_neg c4] at H
  have c4b0 : decide (1048576 < (l1.length : Int)) = false := decide_eq_false c4
  have c4b1 : decide (1048576 < l1.length) = false := decide_eq_false (by omega)
  clear c4
  (first | rw [c4b0] | (simp only [i64_w, i32_w]; rw [c4b0]) | skip)
  have H' := Aside0.mk H
  clear H
  go_wp2
  go_meet
  case rel => exact ⟨_, H', ⟨by first | omega | exact Nat.le_refl _⟩, ⟨by repeat (first | (with_reducible first | exact HB.out | apply below_alloc | apply pw_below_drewN | apply below_drew1) | exact HB.out)⟩⟩
  }
 case rest =>
  clear HC3
  try clear c1
  try clear p2
  try clear c4
  try clear c4b0
  try clear c4b1
  obtain ⟨kq, HA, HJ2, HB⟩ := hcut
  cases kq with
  | zero => exact absurd HA.out (by simp [laws_FnExactBottom.j0])
  | succ kj2 =>
   have H := HA.out
   clear HA
   simp only [laws_FnExactBottom.j0] at H
   replace H := Option.bind_eq_some_iff.mp H
   obtain ⟨t245, A50, H⟩ := H
   replace H : (if t245 < 0 then (some true) else (laws_FnExactBottom.j1 kj2 l0 l1)) = some r := H
   have A5 := Aside0.mk A50
   clear A50
   have HC6 := Aside0.mk H
   clear H
   go_upto_if 21 with (first | ((with_reducible refine gate_callee (f := 29) rfl ?_); refine goesL_ (some 19) rfl rfl Try.func29 (by kernel_rfl) rfl #[.slice A0 l0.length c0, .int .i64 1048576] rfl z9b ?_; (with_reducible refine (laws_szEntryS.calls kj2 _ _ l0 1048576 t245 _ ?side1 ?side2 A5.out).mono ?_); (case side1 => repeat (first | exact (Kd.C_below HR0.out HB.out) | (with_reducible refine Kd.C_alloc ?_ _) | (with_reducible refine Kd.C_drewN ?_ _) | (with_reducible refine Kd.C_drew ?_))); (case side2 => exact HC0.out); rintro e w7 ⟨rfl, hb⟩; refine ⟨_, rfl, ?_⟩; have n0_ := Aside0.mk (below_step z9a hb); clear HB; have HB := n0_; clear n0_; (try clear hb); (try clear hb2); (try clear hk); (try clear hi)))
   (try simp only [Act.put, List.setIfInBounds_toArray, List.set_cons_zero, List.set_cons_succ])
   go_cut [] (fun wc => ∃ (kq : Nat), Aside0 (laws_FnExactBottom.j1 kq l0 l1 = some r) ∧ Aside0 (kq ≤ kj2) ∧ Aside0 (Below w.heap.size w wc))
   case first =>
    have H := HC6.out
    clear HC6
    by_cases c8 : t245 < 0
    {
    rw [if_pos c8] at H
    have c8b0 : decide (t245 < 0) = true := decide_eq_true c8
    clear c8
    (first | rw [c8b0] | (simp only [i64_w, i32_w]; rw [c8b0]) | skip)
    obtain rfl := Option.some.inj H
    go_wp2
    go_ret
    exact ⟨by first | rfl | (simp [errW_none, errW_some] <;> rfl) | (simp [*, errW_none, errW_some] <;> rfl), by repeat (first | (with_reducible first | exact HB.out | apply below_alloc | apply pw_below_drewN | apply below_drew1) | exact HB.out)⟩
    }
    {
    rw [if_neg c8] at H
    have c8b0 : decide (t245 < 0) = false := decide_eq_false c8
    clear c8
    (first | rw [c8b0] | (simp only [i64_w, i32_w]; rw [c8b0]) | skip)
    have H' := Aside0.mk H
    clear H
    go_wp2
    go_meet
    case rel => exact ⟨_, H', ⟨by have := HJ2.out; first | omega | exact Nat.le_refl _⟩, ⟨by repeat (first | (with_reducible first | exact HB.out | apply below_alloc | apply pw_below_drewN | apply below_drew1) | exact HB.out)⟩⟩
    }
   case rest =>
    clear HC6
    try clear c1
    try clear c2
    try clear p2
    try clear c4
    try clear c4b0
    try clear c4b1
    try clear c8
    try clear c8b0
    try clear p2
    obtain ⟨kq, HA, HJ5, HB⟩ := hcut
    cases kq with
    | zero => exact absurd HA.out (by simp [laws_FnExactBottom.j1])
    | succ kj5 =>
     have H := HA.out
     clear HA
     simp only [laws_FnExactBottom.j1] at H
     replace H := Option.bind_eq_some_iff.mp H
     obtain ⟨t246, A90, H⟩ := H
     replace H : ((laws_toInt64S.f kj5 l1).bind fun t249 => ((spec_Bottom.f kj5 t246 t249).bind fun t252 => ((laws_toEntryS.f kj5 l0).bind fun t255 => ((laws_toInt64S.f kj5 l1).bind fun t258 => ((impl_Bottom.f kj5 t255 t258).bind fun t261 => ((laws_eqEntryS.f kj5 t261 t252).bind fun t264 => (if t264 = true then (laws_FnExactBottom.j2 kj5 l0 l1 t252 t255 t258 t261) else (some false)))))))) = some r := H
     have A9 := Aside0.mk A90
     clear A90
     replace H := Option.bind_eq_some_iff.mp H
     obtain ⟨t249, A100, H⟩ := H
     replace H : ((spec_Bottom.f kj5 t246 t249).bind fun t252 => ((laws_toEntryS.f kj5 l0).bind fun t255 => ((laws_toInt64S.f kj5 l1).bind fun t258 => ((impl_Bottom.f kj5 t255 t258).bind fun t261 => ((laws_eqEntryS.f kj5 t261 t252).bind fun t264 => (if t264 = true then (laws_FnExactBottom.j2 kj5 l0 l1 t252 t255 t258 t261) else (some false))))))) = some r := H
     have A10 := Aside0.mk A100
     clear A100
     replace H := Option.bind_eq_some_iff.mp H
     obtain ⟨t252, A110, H⟩ := H
     replace H : ((laws_toEntryS.f kj5 l0).bind fun t255 => ((laws_toInt64S.f kj5 l1).bind fun t258 => ((impl_Bottom.f kj5 t255 t258).bind fun t261 => ((laws_eqEntryS.f kj5 t261 t252).bind fun t264 => (if t264 = true then (laws_FnExactBottom.j2 kj5 l0 l1 t252 t255 t258 t261) else (some false)))))) = some r := H
     have A11 := Aside0.mk A110
     clear A110
     replace H := Option.bind_eq_some_iff.mp H
     obtain ⟨t255, A120, H⟩ := H
     replace H : ((laws_toInt64S.f kj5 l1).bind fun t258 => ((impl_Bottom.f kj5 t255 t258).bind fun t261 => ((laws_eqEntryS.f kj5 t261 t252).bind fun t264 => (if t264 = true then (laws_FnExactBottom.j2 kj5 l0 l1 t252 t255 t258 t261) else (some false))))) = some r := H
     have A12 := Aside0.mk A120
     clear A120
     replace H := Option.bind_eq_some_iff.mp H
     obtain ⟨t258, A130, H⟩ := H
     replace H : ((impl_Bottom.f kj5 t255 t258).bind fun t261 => ((laws_eqEntryS.f kj5 t261 t252).bind fun t264 => (if t264 = true then (laws_FnExactBottom.j2 kj5 l0 l1 t252 t255 t258 t261) else (some false)))) = some r := H
     have A13 := Aside0.mk A130
     clear A130
     replace H := Option.bind_eq_some_iff.mp H
     obtain ⟨t261, A140, H⟩ := H
     replace H : ((laws_eqEntryS.f kj5 t261 t252).bind fun t264 => (if t264 = true then (laws_FnExactBottom.j2 kj5 l0 l1 t252 t255 t258 t261) else (some false))) = some r := H
     have A14 := Aside0.mk A140
     clear A140
     replace H := Option.bind_eq_some_iff.mp H
     obtain ⟨t264, A150, H⟩ := H
     replace H : (if t264 = true then (laws_FnExactBottom.j2 kj5 l0 l1 t252 t255 t258 t261) else (some false)) = some r := H
     have A15 := Aside0.mk A150
     clear A150
     have HC16 := Aside0.mk H
     clear H
     go_upto_if 37 with (first | ((with_reducible refine gate_callee (f := 31) rfl ?_); refine goesL_ (some 23) rfl rfl Try.func31 (by kernel_rfl) rfl #[.slice A0 l0.length c0] rfl z9b ?_; (with_reducible refine (laws_toEntryS.calls kj5 _ _ l0 t246 _ ?side1 ?side2 A9.out).mono ?_); (case side1 => repeat (first | exact (Kd.C_below HR0.out HB.out) | (with_reducible refine Kd.C_alloc ?_ _) | (with_reducible refine Kd.C_drewN ?_ _) | (with_reducible refine Kd.C_drew ?_))); (case side2 => exact HC0.out); rintro e w17 ⟨v247, rfl, ho0, hb⟩; refine ⟨_, rfl, ?_⟩; have n0_ := Aside0.mk (Kd.R_lower ho0 (below_size z9a)); have n1_ := Aside0.mk (below_step z9a hb); clear HB; have HO248 := n0_; have HB := n1_; clear n0_ n1_; (try clear hb); (try clear hb2); (try clear hk); (try clear hi); (try clear ho0)) | ((with_reducible refine gate_callee (f := 32) rfl ?_); refine goesL_ (some 25) rfl rfl Try.func32 (by kernel_rfl) rfl #[.slice A1 l1.length c1] rfl z9b ?_; (with_reducible refine (laws_toInt64S.calls kj5 _ _ l1 t249 _ ?side1 ?side2 A10.out).mono ?_); (case side1 => repeat (first | exact (Kd.C_below HR1.out HB.out) | (with_reducible refine Kd.C_alloc ?_ _) | (with_reducible refine Kd.C_drewN ?_ _) | (with_reducible refine Kd.C_drew ?_))); (case side2 => exact HC1.out); rintro e w18 ⟨v250, rfl, ho0, hb⟩; refine ⟨_, rfl, ?_⟩; have n0_ := Aside0.mk (Kd.R_below z9e hb); have n1_ := Aside0.mk (Kd.R_lower ho0 (below_size z9a)); have n2_ := Aside0.mk (below_step z9a hb); clear HO248; clear HB; have HO248 := n0_; have HO251 := n1_; have HB := n2_; clear n0_ n1_ n2_; (try clear hb); (try clear hb2); (try clear hk); (try clear hi); (try clear ho0); obtain ⟨Ao19, co19, eo19⟩ := Kd.R_slice HO248.out; subst eo19; obtain ⟨Ao20, co20, eo20⟩ := Kd.R_slice HO251.out; subst eo20) | ((with_reducible refine gate_callee (f := 39) rfl ?_); refine goesL_ (some 26) rfl rfl Try.func39 (by kernel_rfl) rfl #[.slice Ao19 t246.length co19, .slice Ao20 t249.length co20] rfl z9b ?_; (with_reducible refine (spec_Bottom.calls kj5 _ _ t246 _ _ t249 t252 _ ?side1 ?side2 ?side3 ?side4 A11.out).mono ?_); (case side1 => repeat (first | exact (Kd.R_reads' HO248.out).2.2 | (with_reducible refine Kd.C_alloc ?_ _) | (with_reducible refine Kd.C_drewN ?_ _) | (with_reducible refine Kd.C_drew ?_))); (case side2 => exact (Kd.R_reads' HO248.out).2.1); (case side3 => repeat (first | exact (Kd.R_reads' HO251.out).2.2 | (with_reducible refine Kd.C_alloc ?_ _) | (with_reducible refine Kd.C_drewN ?_ _) | (with_reducible refine Kd.C_drew ?_))); (case side4 => exact (Kd.R_reads' HO251.out).2.1); rintro e w21 ⟨v253, rfl, ho0, hb⟩; refine ⟨_, rfl, ?_⟩; have n0_ := Aside0.mk (Kd.R_elder' z9e (Kd.R_base ho0) hb); have n1_ := Aside0.mk (Kd.R_below z9f hb); have n2_ := Aside0.mk (Kd.R_lower (Kd.R_new' ho0 (Kd.R_lt z9e)) (below_size z9a)); have n3_ := Aside0.mk (below_step z9a hb); clear HO248; clear HO251; clear HB; have HO248 := n0_; have HO251 := n1_; have HO254 := n2_; have HB := n3_; clear n0_ n1_ n2_ n3_; (try clear hb); (try clear hb2); (try clear hk); (try clear hi); (try clear ho0)) | ((with_reducible refine gate_callee (f := 31) rfl ?_); refine goesL_ (some 28) rfl rfl Try.func31 (by kernel_rfl) rfl #[.slice A0 l0.length c0] rfl z9b ?_; (with_reducible refine (laws_toEntryS.calls kj5 _ _ l0 t255 _ ?side1 ?side2 A12.out).mono ?_); (case side1 => repeat (first | exact (Kd.C_below HR0.out HB.out) | (with_reducible refine Kd.C_alloc ?_ _) | (with_reducible refine Kd.C_drewN ?_ _) | (with_reducible refine Kd.C_drew ?_))); (case side2 => exact HC0.out); rintro e w22 ⟨v256, rfl, ho0, hb⟩; refine ⟨_, rfl, ?_⟩; have n0_ := Aside0.mk (Kd.R_elder' z9e (Kd.R_base ho0) hb); have n1_ := Aside0.mk (Kd.R_below z9f hb); have n2_ := Aside0.mk (Kd.R_elder' z9g (Kd.R_base ho0) hb); have n3_ := Aside0.mk (Kd.R_lower (Kd.R_new' (Kd.R_new' ho0 (Kd.R_lt z9e)) (Kd.R_lt z9g)) (below_size z9a)); have n4_ := Aside0.mk (below_step z9a hb); clear HO248; clear HO251; clear HO254; clear HB; have HO248 := n0_; have HO251 := n1_; have HO254 := n2_; have HO257 := n3_; have HB := n4_; clear n0_ n1_ n2_ n3_ n4_; (try clear hb); (try clear hb2); (try clear hk); (try clear hi); (try clear ho0)) | ((with_reducible refine gate_callee (f := 32) rfl ?_); refine goesL_ (some 30) rfl rfl Try.func32 (by kernel_rfl) rfl #[.slice A1 l1.length c1] rfl z9b ?_; (with_reducible refine (laws_toInt64S.calls kj5 _ _ l1 t258 _ ?side1 ?side2 A13.out).mono ?_); (case side1 => repeat (first | exact (Kd.C_below HR1.out HB.out) | (with_reducible refine Kd.C_alloc ?_ _) | (with_reducible refine Kd.C_drewN ?_ _) | (with_reducible refine Kd.C_drew ?_))); (case side2 => exact HC1.out); rintro e w23 ⟨v259, rfl, ho0, hb⟩; refine ⟨_, rfl, ?_⟩; have n0_ := Aside0.mk (Kd.R_below z9e hb); have n1_ := Aside0.mk (Kd.R_elder' z9f (Kd.R_base ho0) hb); have n2_ := Aside0.mk (Kd.R_below z9g hb); have n3_ := Aside0.mk (Kd.R_below (by (with_reducible repeat (first | apply Kd.R_alloc | apply Kd.R_drewN | apply Kd.R_drew)); exact HO257.out) hb); have n4_ := Aside0.mk (Kd.R_lower (Kd.R_new' ho0 (Kd.R_lt z9f)) (below_size z9a)); have n5_ := Aside0.mk (below_step z9a hb); clear HO248; clear HO251; clear HO254; clear HO257; clear HB; have HO248 := n0_; have HO251 := n1_; have HO254 := n2_; have HO257 := n3_; have HO260 := n4_; have HB := n5_; clear n0_ n1_ n2_ n3_ n4_ n5_; (try clear hb); (try clear hb2); (try clear hk); (try clear hi); (try clear ho0); obtain ⟨Ao24, co24, eo24⟩ := Kd.R_slice HO257.out; subst eo24; obtain ⟨Ao25, co25, eo25⟩ := Kd.R_slice HO260.out; subst eo25) | ((with_reducible refine gate_callee (f := 40) rfl ?_); refine goesL_ (some 33) rfl rfl Try.func40 (by kernel_rfl) rfl #[.slice Ao24 t255.length co24, .slice Ao25 t258.length co25] rfl z9b ?_; (with_reducible refine (impl_Bottom.calls kj5 _ _ t255 _ _ t258 t261 _ ?side1 ?side2 ?side3 ?side4 A14.out).mono ?_); (case side1 => repeat (first | exact (Kd.R_reads' HO257.out).2.2 | (with_reducible refine Kd.C_alloc ?_ _) | (with_reducible refine Kd.C_drewN ?_ _) | (with_reducible refine Kd.C_drew ?_))); (case side2 => exact (Kd.R_reads' HO257.out).2.1); (case side3 => repeat (first | exact (Kd.R_reads' HO260.out).2.2 | (with_reducible refine Kd.C_alloc ?_ _) | (with_reducible refine Kd.C_drewN ?_ _) | (with_reducible refine Kd.C_drew ?_))); (case side4 => exact (Kd.R_reads' HO260.out).2.1); rintro e w26 ⟨v262, rfl, ho0, hb⟩; refine ⟨_, rfl, ?_⟩; have n0_ := Aside0.mk (Kd.R_elder' z9e (Kd.R_base ho0) hb); have n1_ := Aside0.mk (Kd.R_below z9f hb); have n2_ := Aside0.mk (Kd.R_elder' z9g (Kd.R_base ho0) hb); have n3_ := Aside0.mk (Kd.R_elder' (by (with_reducible repeat (first | apply Kd.R_alloc | apply Kd.R_drewN | apply Kd.R_drew)); exact HO257.out) (Kd.R_base ho0) hb); have n4_ := Aside0.mk (Kd.R_below (by (with_reducible repeat (first | apply Kd.R_alloc | apply Kd.R_drewN | apply Kd.R_drew)); exact HO260.out) hb); have n5_ := Aside0.mk (Kd.R_lower (Kd.R_new' (Kd.R_new' (Kd.R_new' ho0 (Kd.R_lt z9e)) (Kd.R_lt z9g)) (Kd.R_lt (by (with_reducible repeat (first | apply Kd.R_alloc | apply Kd.R_drewN | apply Kd.R_drew)); exact HO257.out))) (below_size z9a)); have n6_ := Aside0.mk (below_step z9a hb); clear HO248; clear HO251; clear HO254; clear HO257; clear HO260; clear HB; have HO248 := n0_; have HO251 := n1_; have HO254 := n2_; have HO257 := n3_; have HO260 := n4_; have HO263 := n5_; have HB := n6_; clear n0_ n1_ n2_ n3_ n4_ n5_ n6_; (try clear hb); (try clear hb2); (try clear hk); (try clear hi); (try clear ho0); obtain ⟨Ao27, co27, eo27⟩ := Kd.R_slice HO263.out; subst eo27; obtain ⟨Ao28, co28, eo28⟩ := Kd.R_slice HO254.out; subst eo28) | ((with_reducible refine gate_callee (f := 34) rfl ?_); refine goesL_ (some 36) rfl rfl Try.func34 (by kernel_rfl) rfl #[.slice Ao27 t261.length co27, .slice Ao28 t252.length co28] rfl z9b ?_; (with_reducible refine (laws_eqEntryS.calls kj5 _ _ t261 _ _ t252 t264 _ ?side1 ?side2 ?side3 ?side4 A15.out).mono ?_); (case side1 => repeat (first | exact (Kd.R_reads' HO263.out).2.2 | (with_reducible refine Kd.C_alloc ?_ _) | (with_reducible refine Kd.C_drewN ?_ _) | (with_reducible refine Kd.C_drew ?_))); (case side2 => exact (Kd.R_reads' HO263.out).2.1); (case side3 => repeat (first | exact (Kd.R_reads' HO254.out).2.2 | (with_reducible refine Kd.C_alloc ?_ _) | (with_reducible refine Kd.C_drewN ?_ _) | (with_reducible refine Kd.C_drew ?_))); (case side4 => exact (Kd.R_reads' HO254.out).2.1); rintro e w29 ⟨rfl, hb⟩; refine ⟨_, rfl, ?_⟩; have n0_ := Aside0.mk (Kd.R_below z9e hb); have n1_ := Aside0.mk (Kd.R_below z9f hb); have n2_ := Aside0.mk (Kd.R_below z9g hb); have n3_ := Aside0.mk (Kd.R_below (by (with_reducible repeat (first | apply Kd.R_alloc | apply Kd.R_drewN | apply Kd.R_drew)); exact HO257.out) hb); have n4_ := Aside0.mk (Kd.R_below (by (with_reducible repeat (first | apply Kd.R_alloc | apply Kd.R_drewN | apply Kd.R_drew)); exact HO260.out) hb); have n5_ := Aside0.mk (Kd.R_below (by (with_reducible repeat (first | apply Kd.R_alloc | apply Kd.R_drewN | apply Kd.R_drew)); exact HO263.out) hb); have n6_ := Aside0.mk (below_step z9a hb); clear HO248; clear HO251; clear HO254; clear HO257; clear HO260; clear HO263; clear HB; have HO248 := n0_; have HO251 := n1_; have HO254 := n2_; have HO257 := n3_; have HO260 := n4_; have HO263 := n5_; have HB := n6_; clear n0_ n1_ n2_ n3_ n4_ n5_ n6_; (try clear hb); (try clear hb2); (try clear hk); (try clear hi)))
     (try simp only [Act.put, List.setIfInBounds_toArray, List.set_cons_zero, List.set_cons_succ])
     go_cut [] (fun wc => ∃ (kq : Nat), Aside0 (laws_FnExactBottom.j2 kq l0 l1 t252 t255 t258 t261 = some r) ∧ Aside0 (kq ≤ kj5) ∧ Aside0 (Kd.R k88 88 wc w.heap.size (fun k_ => some k_ ≠ ((.slice Ao24 t255.length co24) : Value).ownBlock ∧ some k_ ≠ ((.slice Ao27 t261.length co27) : Value).ownBlock) (.slice Ao28 t252.length co28) t252) ∧ Aside0 (Kd.R k88 88 wc w.heap.size (fun k_ => some k_ ≠ ((.slice Ao28 t252.length co28) : Value).ownBlock ∧ some k_ ≠ ((.slice Ao27 t261.length co27) : Value).ownBlock) (.slice Ao24 t255.length co24) t255) ∧ Aside0 (Kd.R (Kd.int .i64) 2 wc w.heap.size (fun _ => True) (.slice Ao25 t258.length co25) t258) ∧ Aside0 (Kd.R k88 88 wc w.heap.size (fun k_ => some k_ ≠ ((.slice Ao28 t252.length co28) : Value).ownBlock ∧ some k_ ≠ ((.slice Ao24 t255.length co24) : Value).ownBlock) (.slice Ao27 t261.length co27) t261) ∧ Aside0 (Below w.heap.size w wc))
     case first =>
      have H := HC16.out
      clear HC16
      by_cases c30 : t264 = true
      {
      subst c30
      have H1 : (laws_FnExactBottom.j2 kj5 l0 l1 t252 t255 t258 t261) = some r := by rw [if_pos rfl] at H; exact H
      clear H
      have H := H1
      clear H1
      have H' := Aside0.mk H
      clear H
      go_wp2
      go_meet
      case rel => exact ⟨_, H', ⟨by have := HJ2.out; have := HJ5.out; first | omega | exact Nat.le_refl _⟩, ⟨by (with_reducible repeat (first | apply Kd.R_alloc | apply Kd.R_drewN | apply Kd.R_drew)); exact Kd.R_mono HO254.out (fun _ hk => ⟨hk.1.2, hk.2⟩)⟩, ⟨by (with_reducible repeat (first | apply Kd.R_alloc | apply Kd.R_drewN | apply Kd.R_drew)); exact Kd.R_mono HO257.out (fun _ hk => ⟨hk.1.2, hk.2⟩)⟩, ⟨by (with_reducible repeat (first | apply Kd.R_alloc | apply Kd.R_drewN | apply Kd.R_drew)); exact Kd.R_mono HO260.out (fun _ hk => trivial)⟩, ⟨by (with_reducible repeat (first | apply Kd.R_alloc | apply Kd.R_drewN | apply Kd.R_drew)); exact Kd.R_mono HO263.out (fun _ hk => ⟨hk.1.2, hk.2⟩)⟩, ⟨by repeat (first | (with_reducible first | exact HB.out | apply below_alloc | apply pw_below_drewN | apply below_drew1) | exact HB.out)⟩⟩
      }
      {
      replace c30 := Bool.eq_false_iff.mpr c30
      subst c30
      have H1 : (some false) = some r := by rw [if_neg (show ¬ (false = true) by decide)] at H; exact H
      clear H
      have H := H1
      clear H1
      obtain rfl := Option.some.inj H
      go_wp2
      go_ret
      exact ⟨by first | rfl | (simp [errW_none, errW_some] <;> rfl) | (simp [*, errW_none, errW_some] <;> rfl), by repeat (first | (with_reducible first | exact HB.out | apply below_alloc | apply pw_below_drewN | apply below_drew1) | exact HB.out)⟩
      }
     case rest =>
      clear HC16
      try clear c1
      try clear c2
      try clear p2
      try clear c3
      try clear c4
      try clear c4b0
      try clear c4b1
      try clear c8
      try clear c8b0
      try clear c9
      try clear c29
      try clear c30
      try clear p2
      obtain ⟨kq, HA, HJ15, HO_6, HO_7, HO_8, HO_9, HB⟩ := hcut
      cases kq with
      | zero => exact absurd HA.out (by simp [laws_FnExactBottom.j2])
      | succ kj15 =>
       have H := HA.out
       clear HA
       simp only [laws_FnExactBottom.j2] at H
       replace H := Option.bind_eq_some_iff.mp H
       obtain ⟨t265, A310, H⟩ := H
       replace H : ((laws_eqEntryS.f kj15 t255 t265).bind fun t268 => (if t268 = true then (laws_FnExactBottom.j3 kj15 l0 l1 t252 t255 t258 t261) else (some false))) = some r := H
       have A31 := Aside0.mk A310
       clear A310
       replace H := Option.bind_eq_some_iff.mp H
       obtain ⟨t268, A320, H⟩ := H
       replace H : (if t268 = true then (laws_FnExactBottom.j3 kj15 l0 l1 t252 t255 t258 t261) else (some false)) = some r := H
       have A32 := Aside0.mk A320
       clear A320
       have HC33 := Aside0.mk H
       clear H
       go_upto_if 42 with (first | ((with_reducible refine gate_callee (f := 31) rfl ?_); refine goesL_ (some 40) rfl rfl Try.func31 (by kernel_rfl) rfl #[.slice A0 l0.length c0] rfl z9b ?_; (with_reducible refine (laws_toEntryS.calls kj15 _ _ l0 t265 _ ?side1 ?side2 A31.out).mono ?_); (case side1 => repeat (first | exact (Kd.C_below HR0.out HB.out) | (with_reducible refine Kd.C_alloc ?_ _) | (with_reducible refine Kd.C_drewN ?_ _) | (with_reducible refine Kd.C_drew ?_))); (case side2 => exact HC0.out); rintro e w34 ⟨v266, rfl, ho0, hb⟩; refine ⟨_, rfl, ?_⟩; have n0_ := Aside0.mk (Kd.R_elder' z9d (Kd.R_base ho0) hb); have n1_ := Aside0.mk (Kd.R_elder' z9h (Kd.R_base ho0) hb); have n2_ := Aside0.mk (Kd.R_below z9i hb); have n3_ := Aside0.mk (Kd.R_elder' z9c (Kd.R_base ho0) hb); have n4_ := Aside0.mk (Kd.R_lower (Kd.R_new' (Kd.R_new' (Kd.R_new' ho0 (Kd.R_lt z9d)) (Kd.R_lt z9h)) (Kd.R_lt z9c)) (below_size z9a)); have n5_ := Aside0.mk (below_step z9a hb); clear HO_6; clear HO_7; clear HO_8; clear HO_9; clear HB; have HO_6 := n0_; have HO_7 := n1_; have HO_8 := n2_; have HO_9 := n3_; have HO267 := n4_; have HB := n5_; clear n0_ n1_ n2_ n3_ n4_ n5_; (try clear hb); (try clear hb2); (try clear hk); (try clear hi); (try clear ho0); obtain ⟨Ao35, co35, eo35⟩ := Kd.R_slice HO267.out; subst eo35) | ((with_reducible refine gate_callee (f := 34) rfl ?_); refine goesL_ (some 41) rfl rfl Try.func34 (by kernel_rfl) rfl #[.slice Ao24 t255.length co24, .slice Ao35 t265.length co35] rfl z9b ?_; (with_reducible refine (laws_eqEntryS.calls kj15 _ _ t255 _ _ t265 t268 _ ?side1 ?side2 ?side3 ?side4 A32.out).mono ?_); (case side1 => repeat (first | exact (Kd.R_reads' HO_7.out).2.2 | (with_reducible refine Kd.C_alloc ?_ _) | (with_reducible refine Kd.C_drewN ?_ _) | (with_reducible refine Kd.C_drew ?_))); (case side2 => exact (Kd.R_reads' HO_7.out).2.1); (case side3 => repeat (first | exact (Kd.R_reads' HO267.out).2.2 | (with_reducible refine Kd.C_alloc ?_ _) | (with_reducible refine Kd.C_drewN ?_ _) | (with_reducible refine Kd.C_drew ?_))); (case side4 => exact (Kd.R_reads' HO267.out).2.1); rintro e w36 ⟨rfl, hb⟩; refine ⟨_, rfl, ?_⟩; have n0_ := Aside0.mk (Kd.R_below z9d hb); have n1_ := Aside0.mk (Kd.R_below z9h hb); have n2_ := Aside0.mk (Kd.R_below z9i hb); have n3_ := Aside0.mk (Kd.R_below z9c hb); have n4_ := Aside0.mk (Kd.R_below (by (with_reducible repeat (first | apply Kd.R_alloc | apply Kd.R_drewN | apply Kd.R_drew)); exact HO267.out) hb); have n5_ := Aside0.mk (below_step z9a hb); clear HO_6; clear HO_7; clear HO_8; clear HO_9; clear HO267; clear HB; have HO_6 := n0_; have HO_7 := n1_; have HO_8 := n2_; have HO_9 := n3_; have HO267 := n4_; have HB := n5_; clear n0_ n1_ n2_ n3_ n4_ n5_; (try clear hb); (try clear hb2); (try clear hk); (try clear hi)))
       (try simp only [Act.put, List.setIfInBounds_toArray, List.set_cons_zero, List.set_cons_succ])
       go_cut [] (fun wc => ∃ (kq : Nat), Aside0 (laws_FnExactBottom.j3 kq l0 l1 t252 t255 t258 t261 = some r) ∧ Aside0 (kq ≤ kj15) ∧ Aside0 (Kd.R k88 88 wc w.heap.size (fun k_ => some k_ ≠ ((.slice Ao24 t255.length co24) : Value).ownBlock ∧ some k_ ≠ ((.slice Ao27 t261.length co27) : Value).ownBlock) (.slice Ao28 t252.length co28) t252) ∧ Aside0 (Kd.R k88 88 wc w.heap.size (fun k_ => some k_ ≠ ((.slice Ao28 t252.length co28) : Value).ownBlock ∧ some k_ ≠ ((.slice Ao27 t261.length co27) : Value).ownBlock) (.slice Ao24 t255.length co24) t255) ∧ Aside0 (Kd.R (Kd.int .i64) 2 wc w.heap.size (fun _ => True) (.slice Ao25 t258.length co25) t258) ∧ Aside0 (Kd.R k88 88 wc w.heap.size (fun k_ => some k_ ≠ ((.slice Ao28 t252.length co28) : Value).ownBlock ∧ some k_ ≠ ((.slice Ao24 t255.length co24) : Value).ownBlock) (.slice Ao27 t261.length co27) t261) ∧ Aside0 (Below w.heap.size w wc))
       case first =>
        have H := HC33.out
        clear HC33
        by_cases c37 : t268 = true
        {
        subst c37
        have H1 : (laws_FnExactBottom.j3 kj15 l0 l1 t252 t255 t258 t261) = some r := by rw [if_pos rfl] at H; exact H
        clear H
        have H := H1
        clear H1
        have H' := Aside0.mk H
        clear H
        go_wp2
        go_meet
        case rel => exact ⟨_, H', ⟨by have := HJ2.out; have := HJ5.out; have := HJ15.out; first | omega | exact Nat.le_refl _⟩, ⟨by (with_reducible repeat (first | apply Kd.R_alloc | apply Kd.R_drewN | apply Kd.R_drew)); exact Kd.R_mono HO_6.out (fun _ hk => ⟨hk.1.1, hk.1.2⟩)⟩, ⟨by (with_reducible repeat (first | apply Kd.R_alloc | apply Kd.R_drewN | apply Kd.R_drew)); exact Kd.R_mono HO_7.out (fun _ hk => ⟨hk.1.1, hk.1.2⟩)⟩, ⟨by (with_reducible repeat (first | apply Kd.R_alloc | apply Kd.R_drewN | apply Kd.R_drew)); exact HO_8.out⟩, ⟨by (with_reducible repeat (first | apply Kd.R_alloc | apply Kd.R_drewN | apply Kd.R_drew)); exact Kd.R_mono HO_9.out (fun _ hk => ⟨hk.1.1, hk.1.2⟩)⟩, ⟨by repeat (first | (with_reducible first | exact HB.out | apply below_alloc | apply pw_below_drewN | apply below_drew1) | exact HB.out)⟩⟩
        }
        {
        replace c37 := Bool.eq_false_iff.mpr c37
        subst c37
        have H1 : (some false) = some r := by rw [if_neg (show ¬ (false = true) by decide)] at H; exact H
        clear H
        have H := H1
        clear H1
        obtain rfl := Option.some.inj H
        go_wp2
        go_ret
        exact ⟨by first | rfl | (simp [errW_none, errW_some] <;> rfl) | (simp [*, errW_none, errW_some] <;> rfl), by repeat (first | (with_reducible first | exact HB.out | apply below_alloc | apply pw_below_drewN | apply below_drew1) | exact HB.out)⟩
        }
       case rest =>
        clear HC33
        try clear c1
        try clear c2
        try clear p2
        try clear c3
        try clear c4
        try clear c4b0
        try clear c4b1
        try clear c8
        try clear c8b0
        try clear c9
        try clear c29
        try clear c30
        try clear c31
        try clear c32
        try clear c34
        try clear c37
        try clear p2
        obtain ⟨kq, HA, HJ32, HO_6, HO_7, HO_8, HO_9, HB⟩ := hcut
        cases kq with
        | zero => exact absurd HA.out (by simp [laws_FnExactBottom.j3])
        | succ kj32 =>
         have H := HA.out
         clear HA
         simp only [laws_FnExactBottom.j3] at H
         replace H := Option.bind_eq_some_iff.mp H
         obtain ⟨t269, A380, H⟩ := H
         replace H : ((laws_eqInt64S.f kj32 t258 t269).bind fun t272 => (if t272 = true then (laws_FnExactBottom.j4 kj32 l0 l1 t252 t255 t258 t261) else (some false))) = some r := H
         have A38 := Aside0.mk A380
         clear A380
         replace H := Option.bind_eq_some_iff.mp H
         obtain ⟨t272, A390, H⟩ := H
         replace H : (if t272 = true then (laws_FnExactBottom.j4 kj32 l0 l1 t252 t255 t258 t261) else (some false)) = some r := H
         have A39 := Aside0.mk A390
         clear A390
         have HC40 := Aside0.mk H
         clear H
         go_upto_if 47 with (first | ((with_reducible refine gate_callee (f := 32) rfl ?_); refine goesL_ (some 45) rfl rfl Try.func32 (by kernel_rfl) rfl #[.slice A1 l1.length c1] rfl z9b ?_; (with_reducible refine (laws_toInt64S.calls kj32 _ _ l1 t269 _ ?side1 ?side2 A38.out).mono ?_); (case side1 => repeat (first | exact (Kd.C_below HR1.out HB.out) | (with_reducible refine Kd.C_alloc ?_ _) | (with_reducible refine Kd.C_drewN ?_ _) | (with_reducible refine Kd.C_drew ?_))); (case side2 => exact HC1.out); rintro e w41 ⟨v270, rfl, ho0, hb⟩; refine ⟨_, rfl, ?_⟩; have n0_ := Aside0.mk (Kd.R_below z9d hb); have n1_ := Aside0.mk (Kd.R_below z9h hb); have n2_ := Aside0.mk (Kd.R_elder' z9i (Kd.R_base ho0) hb); have n3_ := Aside0.mk (Kd.R_below z9c hb); have n4_ := Aside0.mk (Kd.R_lower (Kd.R_new' ho0 (Kd.R_lt z9i)) (below_size z9a)); have n5_ := Aside0.mk (below_step z9a hb); clear HO_6; clear HO_7; clear HO_8; clear HO_9; clear HB; have HO_6 := n0_; have HO_7 := n1_; have HO_8 := n2_; have HO_9 := n3_; have HO271 := n4_; have HB := n5_; clear n0_ n1_ n2_ n3_ n4_ n5_; (try clear hb); (try clear hb2); (try clear hk); (try clear hi); (try clear ho0); obtain ⟨Ao42, co42, eo42⟩ := Kd.R_slice HO271.out; subst eo42) | ((with_reducible refine gate_callee (f := 35) rfl ?_); refine goesL_ (some 46) rfl rfl Try.func35 (by kernel_rfl) rfl #[.slice Ao25 t258.length co25, .slice Ao42 t269.length co42] rfl z9b ?_; (with_reducible refine (laws_eqInt64S.calls kj32 _ _ t258 _ _ t269 t272 _ ?side1 ?side2 ?side3 ?side4 A39.out).mono ?_); (case side1 => repeat (first | exact (Kd.R_reads' HO_8.out).2.2 | (with_reducible refine Kd.C_alloc ?_ _) | (with_reducible refine Kd.C_drewN ?_ _) | (with_reducible refine Kd.C_drew ?_))); (case side2 => exact (Kd.R_reads' HO_8.out).2.1); (case side3 => repeat (first | exact (Kd.R_reads' HO271.out).2.2 | (with_reducible refine Kd.C_alloc ?_ _) | (with_reducible refine Kd.C_drewN ?_ _) | (with_reducible refine Kd.C_drew ?_))); (case side4 => exact (Kd.R_reads' HO271.out).2.1); rintro e w' ⟨rfl, ⟨nd, rfl⟩⟩; refine ⟨_, rfl, ?_⟩))
         (try simp only [Act.put, List.setIfInBounds_toArray, List.set_cons_zero, List.set_cons_succ])
         go_cut [] (fun wc => ∃ (kq : Nat), Aside0 (laws_FnExactBottom.j4 kq l0 l1 t252 t255 t258 t261 = some r) ∧ Aside0 (kq ≤ kj32) ∧ Aside0 (Kd.R k88 88 wc w.heap.size (fun k_ => some k_ ≠ ((.slice Ao24 t255.length co24) : Value).ownBlock ∧ some k_ ≠ ((.slice Ao27 t261.length co27) : Value).ownBlock) (.slice Ao28 t252.length co28) t252) ∧ Aside0 (Kd.R k88 88 wc w.heap.size (fun k_ => some k_ ≠ ((.slice Ao28 t252.length co28) : Value).ownBlock ∧ some k_ ≠ ((.slice Ao27 t261.length co27) : Value).ownBlock) (.slice Ao24 t255.length co24) t255) ∧ Aside0 (Kd.R (Kd.int .i64) 2 wc w.heap.size (fun _ => True) (.slice Ao25 t258.length co25) t258) ∧ Aside0 (Kd.R k88 88 wc w.heap.size (fun k_ => some k_ ≠ ((.slice Ao28 t252.length co28) : Value).ownBlock ∧ some k_ ≠ ((.slice Ao24 t255.length co24) : Value).ownBlock) (.slice Ao27 t261.length co27) t261) ∧ Aside0 (Below w.heap.size w wc))
         case first =>
          have H := HC40.out
          clear HC40
          by_cases c43 : t272 = true
          {
          subst c43
          have H1 : (laws_FnExactBottom.j4 kj32 l0 l1 t252 t255 t258 t261) = some r := by rw [if_pos rfl] at H; exact H
          clear H
          have H := H1
          clear H1
          have H' := Aside0.mk H
          clear H
          go_wp2
          go_meet
          case rel => exact ⟨_, H', ⟨by have := HJ2.out; have := HJ5.out; have := HJ15.out; have := HJ32.out; first | omega | exact Nat.le_refl _⟩, ⟨by (with_reducible repeat (first | apply Kd.R_alloc | apply Kd.R_drewN | apply Kd.R_drew)); exact HO_6.out⟩, ⟨by (with_reducible repeat (first | apply Kd.R_alloc | apply Kd.R_drewN | apply Kd.R_drew)); exact HO_7.out⟩, ⟨by (with_reducible repeat (first | apply Kd.R_alloc | apply Kd.R_drewN | apply Kd.R_drew)); exact Kd.R_mono HO_8.out (fun _ hk => trivial)⟩, ⟨by (with_reducible repeat (first | apply Kd.R_alloc | apply Kd.R_drewN | apply Kd.R_drew)); exact HO_9.out⟩, ⟨by repeat (first | (with_reducible first | exact HB.out | apply below_alloc | apply pw_below_drewN | apply below_drew1) | exact HB.out)⟩⟩
          }
          {
          replace c43 := Bool.eq_false_iff.mpr c43
          subst c43
          have H1 : (some false) = some r := by rw [if_neg (show ¬ (false = true) by decide)] at H; exact H
          clear H
          have H := H1
          clear H1
          obtain rfl := Option.some.inj H
          go_wp2
          go_ret
          exact ⟨by first | rfl | (simp [errW_none, errW_some] <;> rfl) | (simp [*, errW_none, errW_some] <;> rfl), by repeat (first | (with_reducible first | exact HB.out | apply below_alloc | apply pw_below_drewN | apply below_drew1) | exact HB.out)⟩
          }
         case rest =>
          clear HC40
          try clear c1
          try clear c2
          try clear p2
          try clear c3
          try clear c4
          try clear c4b0
          try clear c4b1
          try clear c8
          try clear c8b0
          try clear c9
          try clear c29
          try clear c30
          try clear c31
          try clear c32
          try clear c34
          try clear c35
          try clear c37
          try clear c39
          try clear c40
          try clear c43
          try clear p2
          obtain ⟨kq, HA, HJ39, HO_6, HO_7, HO_8, HO_9, HB⟩ := hcut
          cases kq with
          | zero => exact absurd HA.out (by simp [laws_FnExactBottom.j4])
          | succ kj39 =>
           have H := HA.out
           clear HA
           simp only [laws_FnExactBottom.j4] at H
           replace H := Option.bind_eq_some_iff.mp H
           obtain ⟨⟨t273, t274⟩, A440, H⟩ := H
           replace H : ((laws_markInt64S.f kj39 t258 t273).bind fun bt275 => (if bt275.1 < 0 then (laws_FnExactBottom.j5 kj39 l0 l1 t252 t261 true) else ((laws_eqEntryS.f kj39 t261 t252).bind fun t277 => (laws_FnExactBottom.j5 kj39 l0 l1 t252 t261 (!t277))))) = some r := H
           have A44 := Aside0.mk A440
           clear A440
           replace H := Option.bind_eq_some_iff.mp H
           obtain ⟨⟨t275, t276⟩, A450, H⟩ := H
           replace H : (if t275 < 0 then (laws_FnExactBottom.j5 kj39 l0 l1 t252 t261 true) else ((laws_eqEntryS.f kj39 t261 t252).bind fun t277 => (laws_FnExactBottom.j5 kj39 l0 l1 t252 t261 (!t277)))) = some r := H
           have A45 := Aside0.mk A450
           clear A450
           have HC46 := Aside0.mk H
           clear H
           go_upto_region 20 with (first | ((with_reducible refine gate_callee (f := 36) rfl ?_); refine goesL_ (some 50) rfl rfl Try.func36 (by kernel_rfl) rfl #[.slice Ao24 t255.length co24, .int .i64 1] rfl z9b ?_; (with_reducible refine (laws_markEntryS.calls kj39 (fun k_ => some k_ = (.slice Ao24 t255.length co24 : Value).ownBlock) (.slice Ao24 t255.length co24) t255 1 t273 t274 w _ ?side1 ?side2 A44.out).mono ?_); (case side1 => repeat (first | (with_reducible first | exact HB.out | apply below_alloc | apply pw_below_drewN | apply below_drew1) | exact HB.out)); (case side2 => exact Kd.R_tight rfl HO_7.out); rintro e w47 ⟨rfl, hy0, hb, hkp⟩; refine ⟨_, rfl, ?_⟩; have n0_ := Aside0.mk (Kd.R_mono (ok' := fun k_ => some k_ ≠ (.slice Ao24 t255.length co24 : Value).ownBlock ∧ some k_ ≠ (.slice Ao27 t261.length co27 : Value).ownBlock) (Kd.R_keptB (HO_6.out) hkp (fun k_ hk_ hs_ => (hk_.1) hs_)) (fun k_ hk_ => ⟨hk_.1.1, hk_.1.2⟩)); have n1_ := Aside0.mk (Kd.R_reok rfl hy0 (fun k_ e_ => HO_7.out.1 k_ e_)); have n2_ := Aside0.mk (Kd.R_mono (ok' := fun k_ => True) (Kd.R_keptB ((Kd.R_apart' HO_8.out (Kd.R_typed HO_7.out) (by decide))) hkp (fun k_ hk_ hs_ => (hk_.2) hs_)) (fun k_ hk_ => trivial)); have n3_ := Aside0.mk (Kd.R_mono (ok' := fun k_ => some k_ ≠ (.slice Ao28 t252.length co28 : Value).ownBlock ∧ some k_ ≠ (.slice Ao24 t255.length co24 : Value).ownBlock) (Kd.R_keptB (HO_9.out) hkp (fun k_ hk_ hs_ => (hk_.2) hs_)) (fun k_ hk_ => ⟨hk_.1.1, hk_.1.2⟩)); have n4_ := Aside0.mk (hb); clear HO_6; clear HO_7; clear HO_8; clear HO_9; clear HB; have HO_6 := n0_; have HO_7 := n1_; have HO_8 := n2_; have HO_9 := n3_; have HB := n4_; clear n0_ n1_ n2_ n3_ n4_; (try clear hb); (try clear hkp); (try clear hy0)) | ((with_reducible refine gate_callee (f := 37) rfl ?_); refine goesL_ (some 53) rfl rfl Try.func37 (by kernel_rfl) rfl #[.slice Ao25 t258.length co25, .int .i64 t273] rfl z9b ?_; (with_reducible refine (laws_markInt64S.calls kj39 (fun k_ => some k_ = (.slice Ao25 t258.length co25 : Value).ownBlock) (.slice Ao25 t258.length co25) t258 t273 t275 t276 w _ ?side1 ?side2 A45.out).mono ?_); (case side1 => repeat (first | (with_reducible first | exact HB.out | apply below_alloc | apply pw_below_drewN | apply below_drew1) | exact HB.out)); (case side2 => exact Kd.R_tight rfl HO_8.out); rintro e w48 ⟨rfl, hy0, hb, hkp⟩; refine ⟨_, rfl, ?_⟩; have n0_ := Aside0.mk (Kd.R_mono (ok' := fun k_ => some k_ ≠ (.slice Ao24 t255.length co24 : Value).ownBlock ∧ some k_ ≠ (.slice Ao27 t261.length co27 : Value).ownBlock) (Kd.R_keptB ((Kd.R_apart' HO_6.out (Kd.R_typed HO_8.out) (by decide))) hkp (fun k_ hk_ hs_ => (hk_.2) hs_)) (fun k_ hk_ => ⟨hk_.1.1.1, hk_.1.1.2⟩)); have n1_ := Aside0.mk (Kd.R_mono (ok' := fun k_ => some k_ ≠ (.slice Ao28 t252.length co28 : Value).ownBlock ∧ some k_ ≠ (.slice Ao27 t261.length co27 : Value).ownBlock) (Kd.R_keptB ((Kd.R_apart' HO_7.out (Kd.R_typed HO_8.out) (by decide))) hkp (fun k_ hk_ hs_ => (hk_.2) hs_)) (fun k_ hk_ => ⟨hk_.1.1.1, hk_.1.1.2⟩)); have n2_ := Aside0.mk (Kd.R_reok rfl hy0 (fun k_ e_ => HO_8.out.1 k_ e_)); have n3_ := Aside0.mk (Kd.R_mono (ok' := fun k_ => some k_ ≠ (.slice Ao28 t252.length co28 : Value).ownBlock ∧ some k_ ≠ (.slice Ao24 t255.length co24 : Value).ownBlock) (Kd.R_keptB ((Kd.R_apart' HO_9.out (Kd.R_typed HO_8.out) (by decide))) hkp (fun k_ hk_ hs_ => (hk_.2) hs_)) (fun k_ hk_ => ⟨hk_.1.1.1, hk_.1.1.2⟩)); have n4_ := Aside0.mk (hb); clear HO_6; clear HO_7; clear HO_8; clear HO_9; clear HB; have HO_6 := n0_; have HO_7 := n1_; have HO_8 := n2_; have HO_9 := n3_; have HB := n4_; clear n0_ n1_ n2_ n3_ n4_; (try clear hb); (try clear hkp); (try clear hy0)))
           (try simp only [Act.put, List.setIfInBounds_toArray, List.set_cons_zero, List.set_cons_succ])
           go_cut [61] (fun v61 wc => ∃ (kq : Nat) (x61_45 : Bool), v61 = .bool x61_45 ∧ Aside0 (laws_FnExactBottom.j5 kq l0 l1 t252 t261 x61_45 = some r) ∧ Aside0 (kq ≤ kj39) ∧ Aside0 (Kd.R k88 88 wc w.heap.size (fun k_ => some k_ ≠ ((.slice Ao27 t261.length co27) : Value).ownBlock) (.slice Ao28 t252.length co28) t252) ∧ Aside0 (Kd.R k88 88 wc w.heap.size (fun k_ => some k_ ≠ ((.slice Ao28 t252.length co28) : Value).ownBlock) (.slice Ao27 t261.length co27) t261) ∧ Aside0 (Below w.heap.size w wc))
           case first =>
            have H := HC46.out
            clear HC46
            by_cases c49 : t275 < 0
            {
            rw [if_pos c49] at H
            have c49b0 : decide (t275 < 0) = true := decide_eq_true c49
            clear c49
            (first | rw [c49b0] | (simp only [i64_w, i32_w]; rw [c49b0]) | skip)
            have H' := Aside0.mk H
            clear H
            go_wp2
            go_meet
            case rel => exact ⟨_, (true), (by first | rfl | (simp; done) | (simp [*]; done)), H', ⟨by have := HJ2.out; have := HJ5.out; have := HJ15.out; have := HJ32.out; have := HJ39.out; first | omega | exact Nat.le_refl _⟩, ⟨by (with_reducible repeat (first | apply Kd.R_alloc | apply Kd.R_drewN | apply Kd.R_drew)); exact Kd.R_mono HO_6.out (fun _ hk => hk.2)⟩, ⟨by (with_reducible repeat (first | apply Kd.R_alloc | apply Kd.R_drewN | apply Kd.R_drew)); exact Kd.R_mono HO_9.out (fun _ hk => hk.1)⟩, ⟨by repeat (first | (with_reducible first | exact HB.out | apply below_alloc | apply pw_below_drewN | apply below_drew1) | exact HB.out)⟩⟩
            }
            {
            rw [if_neg c49] at H
            have c49b0 : decide (t275 < 0) = false := decide_eq_false c49
            clear c49
            (first | rw [c49b0] | (simp only [i64_w, i32_w]; rw [c49b0]) | skip)
            replace H := Option.bind_eq_some_iff.mp H
            obtain ⟨t277, A500, H⟩ := H
            replace H : (laws_FnExactBottom.j5 kj39 l0 l1 t252 t261 (!t277)) = some r := H
            have A50 := Aside0.mk A500
            clear A500
            have H' := Aside0.mk H
            clear H
            go_wp2_with (first | (go_at_call 34; (with_reducible refine (laws_eqEntryS.calls kj39 _ _ t261 _ _ t252 t277 _ ?side1 ?side2 ?side3 ?side4 A50.out).mono ?_); (case side1 => repeat (first | exact (Kd.R_reads' HO_9.out).2.2 | (with_reducible refine Kd.C_alloc ?_ _) | (with_reducible refine Kd.C_drewN ?_ _) | (with_reducible refine Kd.C_drew ?_))); (case side2 => exact (Kd.R_reads' HO_9.out).2.1); (case side3 => repeat (first | exact (Kd.R_reads' HO_6.out).2.2 | (with_reducible refine Kd.C_alloc ?_ _) | (with_reducible refine Kd.C_drewN ?_ _) | (with_reducible refine Kd.C_drew ?_))); (case side4 => exact (Kd.R_reads' HO_6.out).2.1); rintro e w51 ⟨rfl, hb⟩; have n0_ := Aside0.mk (Kd.R_below z9d hb); have n1_ := Aside0.mk (Kd.R_below z9h hb); have n2_ := Aside0.mk (Kd.R_below z9i hb); have n3_ := Aside0.mk (Kd.R_below z9c hb); have n4_ := Aside0.mk (below_step z9a hb); clear HO_6; clear HO_7; clear HO_8; clear HO_9; clear HB; have HO_6 := n0_; have HO_7 := n1_; have HO_8 := n2_; have HO_9 := n3_; have HB := n4_; clear n0_ n1_ n2_ n3_ n4_; (try clear hb); (try clear hb2); (try clear hk); (try clear hi)))
            go_meet
            case rel => exact ⟨_, (!t277), (by first | rfl | (simp; done) | (simp [*]; done)), H', ⟨by have := HJ2.out; have := HJ5.out; have := HJ15.out; have := HJ32.out; have := HJ39.out; first | omega | exact Nat.le_refl _⟩, ⟨by (with_reducible repeat (first | apply Kd.R_alloc | apply Kd.R_drewN | apply Kd.R_drew)); exact Kd.R_mono HO_6.out (fun _ hk => hk.2)⟩, ⟨by (with_reducible repeat (first | apply Kd.R_alloc | apply Kd.R_drewN | apply Kd.R_drew)); exact Kd.R_mono HO_9.out (fun _ hk => hk.1)⟩, ⟨by repeat (first | (with_reducible first | exact HB.out | apply below_alloc | apply pw_below_drewN | apply below_drew1) | exact HB.out)⟩⟩
            }
           case rest =>
            clear HC46
            try clear c1
            try clear c2
            try clear p2
            try clear c3
            try clear c4
            try clear c4b0
            try clear c4b1
            try clear c8
            try clear c8b0
            try clear c9
            try clear c29
            try clear c30
            try clear c31
            try clear c32
            try clear c34
            try clear c35
            try clear c36
            try clear c37
            try clear c39
            try clear c40
            try clear c43
            try clear c49
            try clear c49b0
            try clear p2
            obtain ⟨kq, x61_45, rfl, HA, HJ45, HO_6, HO_9, HB⟩ := hcut
            cases kq with
            | zero => exact absurd HA.out (by simp [laws_FnExactBottom.j5])
            | succ kj45 =>
             have H := HA.out
             clear HA
             simp only [laws_FnExactBottom.j5] at H
             have HC52 := Aside0.mk H
             clear H
             go_upto_if 61 with (fail)
             go_cut [] (fun wc => ∃ (kq : Nat), Aside0 (laws_FnExactBottom.j6 kq l0 l1 t252 t261 = some r) ∧ Aside0 (kq ≤ kj45) ∧ Aside0 (Kd.R k88 88 wc w.heap.size (fun k_ => some k_ ≠ ((.slice Ao27 t261.length co27) : Value).ownBlock) (.slice Ao28 t252.length co28) t252) ∧ Aside0 (Kd.R k88 88 wc w.heap.size (fun k_ => some k_ ≠ ((.slice Ao28 t252.length co28) : Value).ownBlock) (.slice Ao27 t261.length co27) t261) ∧ Aside0 (Below w.heap.size w wc))
             case first =>
              have H := HC52.out
              clear HC52
              by_cases c53 : x61_45 = true
              {
              subst c53
              have H1 : (some false) = some r := by rw [if_pos rfl] at H; exact H
              clear H
              have H := H1
              clear H1
              obtain rfl := Option.some.inj H
              go_wp2
              go_ret
              exact ⟨by first | rfl | (simp [errW_none, errW_some] <;> rfl) | (simp [*, errW_none, errW_some] <;> rfl), by repeat (first | (with_reducible first | exact HB.out | apply below_alloc | apply pw_below_drewN | apply below_drew1) | exact HB.out)⟩
              }
              {
              replace c53 := Bool.eq_false_iff.mpr c53
              subst c53
              have H1 : (laws_FnExactBottom.j6 kj45 l0 l1 t252 t261) = some r := by rw [if_neg (show ¬ (false = true) by decide)] at H; exact H
              clear H
              have H := H1
              clear H1
              have H' := Aside0.mk H
              clear H
              go_wp2
              go_meet
              case rel => exact ⟨_, H', ⟨by have := HJ2.out; have := HJ5.out; have := HJ15.out; have := HJ32.out; have := HJ39.out; have := HJ45.out; first | omega | exact Nat.le_refl _⟩, ⟨by (with_reducible repeat (first | apply Kd.R_alloc | apply Kd.R_drewN | apply Kd.R_drew)); exact HO_6.out⟩, ⟨by (with_reducible repeat (first | apply Kd.R_alloc | apply Kd.R_drewN | apply Kd.R_drew)); exact HO_9.out⟩, ⟨by repeat (first | (with_reducible first | exact HB.out | apply below_alloc | apply pw_below_drewN | apply below_drew1) | exact HB.out)⟩⟩
              }
             case rest =>
              clear HC52
              try clear c1
              try clear c2
              try clear p2
              try clear c3
              try clear c4
              try clear c4b0
              try clear c4b1
              try clear c5
              try clear c8
              try clear c8b0
              try clear c9
              try clear c29
              try clear c30
              try clear c31
              try clear c32
              try clear c34
              try clear c35
              try clear c36
              try clear c37
              try clear c39
              try clear c40
              try clear c43
              try clear c49
              try clear c49b0
              try clear c53
              try clear p2
              obtain ⟨kq, HA, HJ51, HO_6, HO_9, HB⟩ := hcut
              cases kq with
              | zero => exact absurd HA.out (by simp [laws_FnExactBottom.j6])
              | succ kj51 =>
               have H := HA.out
               clear HA
               simp only [laws_FnExactBottom.j6] at H
               replace H := Option.bind_eq_some_iff.mp H
               obtain ⟨⟨t278, t279⟩, A540, H⟩ := H
               replace H : ((laws_heldEntryS.f kj51 t279 1).bind fun t280 => (if t280 < 0 then (some false) else (laws_FnExactBottom.j7 kj51 l0 l1 t252 t279 t278 t280))) = some r := H
               have A54 := Aside0.mk A540
               clear A540
               replace H := Option.bind_eq_some_iff.mp H
               obtain ⟨t280, A550, H⟩ := H
               replace H : (if t280 < 0 then (some false) else (laws_FnExactBottom.j7 kj51 l0 l1 t252 t279 t278 t280)) = some r := H
               have A55 := Aside0.mk A550
               clear A550
               have HC56 := Aside0.mk H
               clear H
               go_upto_if 69 with (first | ((with_reducible refine gate_callee (f := 36) rfl ?_); refine goesL_ (some 64) rfl rfl Try.func36 (by kernel_rfl) rfl #[.slice Ao27 t261.length co27, .int .i64 1] rfl z9b ?_; (with_reducible refine (laws_markEntryS.calls kj51 (fun k_ => some k_ = (.slice Ao27 t261.length co27 : Value).ownBlock) (.slice Ao27 t261.length co27) t261 1 t278 t279 w _ ?side1 ?side2 A54.out).mono ?_); (case side1 => repeat (first | (with_reducible first | exact HB.out | apply below_alloc | apply pw_below_drewN | apply below_drew1) | exact HB.out)); (case side2 => exact Kd.R_tight rfl HO_9.out); rintro e w57 ⟨rfl, hy0, hb, hkp⟩; refine ⟨_, rfl, ?_⟩; have n0_ := Aside0.mk (Kd.R_mono (ok' := fun k_ => some k_ ≠ (.slice Ao27 t261.length co27 : Value).ownBlock) (Kd.R_keptB (HO_6.out) hkp (fun k_ hk_ hs_ => (hk_) hs_)) (fun k_ hk_ => hk_.1)); have n1_ := Aside0.mk (Kd.R_reok rfl hy0 (fun k_ e_ => HO_9.out.1 k_ e_)); have n2_ := Aside0.mk (hb); clear HO_6; clear HO_9; clear HB; have HO_6 := n0_; have HO_9 := n1_; have HB := n2_; clear n0_ n1_ n2_; (try clear hb); (try clear hkp); (try clear hy0)) | ((with_reducible refine gate_callee (f := 38) rfl ?_); refine goesL_ (some 67) rfl rfl Try.func38 (by kernel_rfl) rfl #[.slice Ao27 t279.length co27, .int .i64 1] rfl (by (try simp only [List.map_toArray, List.map_cons, List.map_nil]); first | done | (rw [show t279.length = t261.length from (Kd.R_reads' HO_9.out).1.symm] <;> rfl) | rfl | (simp only [List.length_drop, List.length_take]; rfl)) ?_; (with_reducible refine (laws_heldEntryS.calls kj51 _ _ t279 1 t280 _ ?side1 ?side2 A55.out).mono ?_); (case side1 => repeat (first | exact (Kd.R_reads' HO_9.out).2.2 | (with_reducible refine Kd.C_alloc ?_ _) | (with_reducible refine Kd.C_drewN ?_ _) | (with_reducible refine Kd.C_drew ?_))); (case side2 => rw [show t279.length = t261.length from (Kd.R_reads' HO_9.out).1.symm]; exact (Kd.R_reads' HO_9.out).2.1); rintro e w58 ⟨rfl, hb⟩; refine ⟨_, rfl, ?_⟩; have n0_ := Aside0.mk (Kd.R_below z9d hb); have n1_ := Aside0.mk (Kd.R_below z9c hb); have n2_ := Aside0.mk (below_step z9a hb); clear HO_6; clear HO_9; clear HB; have HO_6 := n0_; have HO_9 := n1_; have HB := n2_; clear n0_ n1_ n2_; (try clear hb); (try clear hb2); (try clear hk); (try clear hi)))
               (try simp only [Act.put, List.setIfInBounds_toArray, List.set_cons_zero, List.set_cons_succ])
               go_cut [] (fun wc => ∃ (kq : Nat), Aside0 (laws_FnExactBottom.j7 kq l0 l1 t252 t279 t278 t280 = some r) ∧ Aside0 (kq ≤ kj51) ∧ Aside0 (Kd.R k88 88 wc w.heap.size (fun k_ => some k_ ≠ ((.slice Ao27 t261.length co27) : Value).ownBlock) (.slice Ao28 t252.length co28) t252) ∧ Aside0 (Kd.R k88 88 wc w.heap.size (fun k_ => some k_ ≠ ((.slice Ao28 t252.length co28) : Value).ownBlock) (.slice Ao27 t261.length co27) t279) ∧ Aside0 (Below w.heap.size w wc))
               case first =>
                have H := HC56.out
                clear HC56
                by_cases c59 : t280 < 0
                {
                rw [if_pos c59] at H
                have c59b0 : decide (t280 < 0) = true := decide_eq_true c59
                clear c59
                (first | rw [c59b0] | (simp only [i64_w, i32_w]; rw [c59b0]) | skip)
                obtain rfl := Option.some.inj H
                go_wp2
                go_ret
                exact ⟨by first | rfl | (simp [errW_none, errW_some] <;> rfl) | (simp [*, errW_none, errW_some] <;> rfl), by repeat (first | (with_reducible first | exact HB.out | apply below_alloc | apply pw_below_drewN | apply below_drew1) | exact HB.out)⟩
                }
                {
                rw [if_neg c59] at H
                have c59b0 : decide (t280 < 0) = false := decide_eq_false c59
                clear c59
                (first | rw [c59b0] | (simp only [i64_w, i32_w]; rw [c59b0]) | skip)
                have H' := Aside0.mk H
                clear H
                go_wp2
                go_meet
                case rel => exact ⟨_, H', ⟨by have := HJ2.out; have := HJ5.out; have := HJ15.out; have := HJ32.out; have := HJ39.out; have := HJ45.out; have := HJ51.out; first | omega | exact Nat.le_refl _⟩, ⟨by (with_reducible repeat (first | apply Kd.R_alloc | apply Kd.R_drewN | apply Kd.R_drew)); exact HO_6.out⟩, ⟨by (with_reducible repeat (first | apply Kd.R_alloc | apply Kd.R_drewN | apply Kd.R_drew)); exact HO_9.out⟩, ⟨by repeat (first | (with_reducible first | exact HB.out | apply below_alloc | apply pw_below_drewN | apply below_drew1) | exact HB.out)⟩⟩
                }
               case rest =>
                clear HC56
                try clear c1
                try clear c2
                try clear p2
                try clear c3
                try clear c4
                try clear c4b0
                try clear c4b1
                try clear c5
                try clear c8
                try clear c8b0
                try clear c9
                try clear c29
                try clear c30
                try clear c31
                try clear c32
                try clear c34
                try clear c35
                try clear c36
                try clear c37
                try clear c38
                try clear c39
                try clear c40
                try clear c43
                try clear c49
                try clear c49b0
                try clear c53
                try clear c59
                try clear c59b0
                try clear p2
                obtain ⟨kq, HA, HJ55, HO_6, HO_9, HB⟩ := hcut
                have hl9_55 := (Kd.R_reads' HO_9.out).1
                rw [hl9_55] at HO_9
                (try simp only [hl9_55])
                (try simp only [hl9_55] at HO_6)
                cases kq with
                | zero => exact absurd HA.out (by simp [laws_FnExactBottom.j7])
                | succ kj55 =>
                 have H := HA.out
                 clear HA
                 simp only [laws_FnExactBottom.j7] at H
                 have HC60 := Aside0.mk H
                 clear H
                 go_upto_if 72 with (fail)
                 go_cut [] (fun wc => ∃ (kq : Nat), Aside0 (laws_FnExactBottom.j8 kq l0 l1 t252 t279 t278 = some r) ∧ Aside0 (kq ≤ kj55) ∧ Aside0 (Kd.R k88 88 wc w.heap.size (fun k_ => some k_ ≠ ((.slice Ao27 t279.length co27) : Value).ownBlock) (.slice Ao28 t252.length co28) t252) ∧ Aside0 (Kd.R k88 88 wc w.heap.size (fun k_ => some k_ ≠ ((.slice Ao28 t252.length co28) : Value).ownBlock) (.slice Ao27 t279.length co27) t279) ∧ Aside0 (Below w.heap.size w wc))
                 case first =>
                  have H := HC60.out
                  clear HC60
                  by_cases c61 : t280 = t278
                  {
                  rw [if_pos c61] at H
                  have c61b0 : (t280 == t278) = true := beq_iff_eq.mpr c61
                  have c61b1 : (t280 != t278) = false := bne_eq_false_iff_eq.mpr c61
                  clear c61
                  (first | rw [c61b0] | (simp only [i64_w, i32_w]; rw [c61b0]) | skip)
                  have H' := Aside0.mk H
                  clear H
                  go_wp2
                  go_meet
                  case rel => exact ⟨_, H', ⟨by have := HJ2.out; have := HJ5.out; have := HJ15.out; have := HJ32.out; have := HJ39.out; have := HJ45.out; have := HJ51.out; have := HJ55.out; first | omega | exact Nat.le_refl _⟩, ⟨by (try simp only [hl9_55]); (with_reducible repeat (first | apply Kd.R_alloc | apply Kd.R_drewN | apply Kd.R_drew)); exact HO_6.out⟩, ⟨by (try simp only [hl9_55]); (with_reducible repeat (first | apply Kd.R_alloc | apply Kd.R_drewN | apply Kd.R_drew)); exact HO_9.out⟩, ⟨by repeat (first | (with_reducible first | exact HB.out | apply below_alloc | apply pw_below_drewN | apply below_drew1) | exact HB.out)⟩⟩
                  }
                  {
                  rw [if_neg c61] at H
                  have c61b0 : (t280 == t278) = false := beq_eq_false_iff_ne.mpr c61
                  have c61b1 : (t280 != t278) = true := bne_iff_ne.mpr c61
                  (first | rw [c61b0] | (simp only [i64_w, i32_w]; rw [c61b0]) | skip)
                  obtain rfl := Option.some.inj H
                  go_wp2
                  go_ret
                  exact ⟨by first | rfl | (simp [errW_none, errW_some] <;> rfl) | (simp [*, errW_none, errW_some] <;> rfl), by repeat (first | (with_reducible first | exact HB.out | apply below_alloc | apply pw_below_drewN | apply below_drew1) | exact HB.out)⟩
                  }
                 case rest =>
                  clear HC60
                  try clear c1
                  try clear c2
                  try clear p2
                  try clear c3
                  try clear c4
                  try clear c4b0
                  try clear c4b1
                  try clear c5
                  try clear c6
                  try clear c8
                  try clear c8b0
                  try clear c9
                  try clear c29
                  try clear c30
                  try clear c31
                  try clear c32
                  try clear c34
                  try clear c35
                  try clear c36
                  try clear c37
                  try clear c38
                  try clear c39
                  try clear c40
                  try clear c43
                  try clear c49
                  try clear c49b0
                  try clear c53
                  try clear c59
                  try clear c59b0
                  try clear c61
                  try clear c61b0
                  try clear c61b1
                  try clear p2
                  obtain ⟨kq, HA, HJ59, HO_6, HO_9, HB⟩ := hcut
                  cases kq with
                  | zero => exact absurd HA.out (by simp [laws_FnExactBottom.j8])
                  | succ kj59 =>
                   have H := HA.out
                   clear HA
                   simp only [laws_FnExactBottom.j8] at H
                   replace H := Option.bind_eq_some_iff.mp H
                   obtain ⟨t281, A620, H⟩ := H
                   replace H : ((laws_toInt64S.f kj59 l1).bind fun t284 => ((impl_Bottom.f kj59 t281 t284).bind fun t287 => ((laws_eqEntryS.f kj59 t287 t252).bind fun t290 => (if t290 = true then (laws_FnExactBottom.j9 kj59 t279 t278) else (some false))))) = some r := H
                   have A62 := Aside0.mk A620
                   clear A620
                   replace H := Option.bind_eq_some_iff.mp H
                   obtain ⟨t284, A630, H⟩ := H
                   replace H : ((impl_Bottom.f kj59 t281 t284).bind fun t287 => ((laws_eqEntryS.f kj59 t287 t252).bind fun t290 => (if t290 = true then (laws_FnExactBottom.j9 kj59 t279 t278) else (some false)))) = some r := H
                   have A63 := Aside0.mk A630
                   clear A630
                   replace H := Option.bind_eq_some_iff.mp H
                   obtain ⟨t287, A640, H⟩ := H
                   replace H : ((laws_eqEntryS.f kj59 t287 t252).bind fun t290 => (if t290 = true then (laws_FnExactBottom.j9 kj59 t279 t278) else (some false))) = some r := H
                   have A64 := Aside0.mk A640
                   clear A640
                   replace H := Option.bind_eq_some_iff.mp H
                   obtain ⟨t290, A650, H⟩ := H
                   replace H : (if t290 = true then (laws_FnExactBottom.j9 kj59 t279 t278) else (some false)) = some r := H
                   have A65 := Aside0.mk A650
                   clear A650
                   have HC66 := Aside0.mk H
                   clear H
                   go_upto_if 81 with (first | ((with_reducible refine gate_callee (f := 31) rfl ?_); refine goesL_ (some 74) rfl rfl Try.func31 (by kernel_rfl) rfl #[.slice A0 l0.length c0] rfl z9b ?_; (with_reducible refine (laws_toEntryS.calls kj59 _ _ l0 t281 _ ?side1 ?side2 A62.out).mono ?_); (case side1 => repeat (first | exact (Kd.C_below HR0.out HB.out) | (with_reducible refine Kd.C_alloc ?_ _) | (with_reducible refine Kd.C_drewN ?_ _) | (with_reducible refine Kd.C_drew ?_))); (case side2 => exact HC0.out); rintro e w67 ⟨v282, rfl, ho0, hb⟩; refine ⟨_, rfl, ?_⟩; have n0_ := Aside0.mk (Kd.R_elder' z9d (Kd.R_base ho0) hb); have n1_ := Aside0.mk (Kd.R_elder' z9c (Kd.R_base ho0) hb); have n2_ := Aside0.mk (Kd.R_lower (Kd.R_new' (Kd.R_new' ho0 (Kd.R_lt z9d)) (Kd.R_lt z9c)) (below_size z9a)); have n3_ := Aside0.mk (below_step z9a hb); clear HO_6; clear HO_9; clear HB; have HO_6 := n0_; have HO_9 := n1_; have HO283 := n2_; have HB := n3_; clear n0_ n1_ n2_ n3_; (try clear hb); (try clear hb2); (try clear hk); (try clear hi); (try clear ho0)) | ((with_reducible refine gate_callee (f := 32) rfl ?_); refine goesL_ (some 76) rfl rfl Try.func32 (by kernel_rfl) rfl #[.slice A1 l1.length c1] rfl z9b ?_; (with_reducible refine (laws_toInt64S.calls kj59 _ _ l1 t284 _ ?side1 ?side2 A63.out).mono ?_); (case side1 => repeat (first | exact (Kd.C_below HR1.out HB.out) | (with_reducible refine Kd.C_alloc ?_ _) | (with_reducible refine Kd.C_drewN ?_ _) | (with_reducible refine Kd.C_drew ?_))); (case side2 => exact HC1.out); rintro e w68 ⟨v285, rfl, ho0, hb⟩; refine ⟨_, rfl, ?_⟩; have n0_ := Aside0.mk (Kd.R_below z9d hb); have n1_ := Aside0.mk (Kd.R_below z9c hb); have n2_ := Aside0.mk (Kd.R_below (by (with_reducible repeat (first | apply Kd.R_alloc | apply Kd.R_drewN | apply Kd.R_drew)); exact HO283.out) hb); have n3_ := Aside0.mk (Kd.R_lower ho0 (below_size z9a)); have n4_ := Aside0.mk (below_step z9a hb); clear HO_6; clear HO_9; clear HO283; clear HB; have HO_6 := n0_; have HO_9 := n1_; have HO283 := n2_; have HO286 := n3_; have HB := n4_; clear n0_ n1_ n2_ n3_ n4_; (try clear hb); (try clear hb2); (try clear hk); (try clear hi); (try clear ho0); obtain ⟨Ao69, co69, eo69⟩ := Kd.R_slice HO283.out; subst eo69; obtain ⟨Ao70, co70, eo70⟩ := Kd.R_slice HO286.out; subst eo70) | ((with_reducible refine gate_callee (f := 40) rfl ?_); refine goesL_ (some 77) rfl rfl Try.func40 (by kernel_rfl) rfl #[.slice Ao69 t281.length co69, .slice Ao70 t284.length co70] rfl z9b ?_; (with_reducible refine (impl_Bottom.calls kj59 _ _ t281 _ _ t284 t287 _ ?side1 ?side2 ?side3 ?side4 A64.out).mono ?_); (case side1 => repeat (first | exact (Kd.R_reads' HO283.out).2.2 | (with_reducible refine Kd.C_alloc ?_ _) | (with_reducible refine Kd.C_drewN ?_ _) | (with_reducible refine Kd.C_drew ?_))); (case side2 => exact (Kd.R_reads' HO283.out).2.1); (case side3 => repeat (first | exact (Kd.R_reads' HO286.out).2.2 | (with_reducible refine Kd.C_alloc ?_ _) | (with_reducible refine Kd.C_drewN ?_ _) | (with_reducible refine Kd.C_drew ?_))); (case side4 => exact (Kd.R_reads' HO286.out).2.1); rintro e w71 ⟨v288, rfl, ho0, hb⟩; refine ⟨_, rfl, ?_⟩; have n0_ := Aside0.mk (Kd.R_elder' z9d (Kd.R_base ho0) hb); have n1_ := Aside0.mk (Kd.R_elder' z9c (Kd.R_base ho0) hb); have n2_ := Aside0.mk (Kd.R_elder' (by (with_reducible repeat (first | apply Kd.R_alloc | apply Kd.R_drewN | apply Kd.R_drew)); exact HO283.out) (Kd.R_base ho0) hb); have n3_ := Aside0.mk (Kd.R_below (by (with_reducible repeat (first | apply Kd.R_alloc | apply Kd.R_drewN | apply Kd.R_drew)); exact HO286.out) hb); have n4_ := Aside0.mk (Kd.R_lower (Kd.R_new' (Kd.R_new' (Kd.R_new' ho0 (Kd.R_lt z9d)) (Kd.R_lt z9c)) (Kd.R_lt (by (with_reducible repeat (first | apply Kd.R_alloc | apply Kd.R_drewN | apply Kd.R_drew)); exact HO283.out))) (below_size z9a)); have n5_ := Aside0.mk (below_step z9a hb); clear HO_6; clear HO_9; clear HO283; clear HO286; clear HB; have HO_6 := n0_; have HO_9 := n1_; have HO283 := n2_; have HO286 := n3_; have HO289 := n4_; have HB := n5_; clear n0_ n1_ n2_ n3_ n4_ n5_; (try clear hb); (try clear hb2); (try clear hk); (try clear hi); (try clear ho0); obtain ⟨Ao72, co72, eo72⟩ := Kd.R_slice HO289.out; subst eo72) | ((with_reducible refine gate_callee (f := 34) rfl ?_); refine goesL_ (some 80) rfl rfl Try.func34 (by kernel_rfl) rfl #[.slice Ao72 t287.length co72, .slice Ao28 t252.length co28] rfl z9b ?_; (with_reducible refine (laws_eqEntryS.calls kj59 _ _ t287 _ _ t252 t290 _ ?side1 ?side2 ?side3 ?side4 A65.out).mono ?_); (case side1 => repeat (first | exact (Kd.R_reads' HO289.out).2.2 | (with_reducible refine Kd.C_alloc ?_ _) | (with_reducible refine Kd.C_drewN ?_ _) | (with_reducible refine Kd.C_drew ?_))); (case side2 => exact (Kd.R_reads' HO289.out).2.1); (case side3 => repeat (first | exact (Kd.R_reads' HO_6.out).2.2 | (with_reducible refine Kd.C_alloc ?_ _) | (with_reducible refine Kd.C_drewN ?_ _) | (with_reducible refine Kd.C_drew ?_))); (case side4 => exact (Kd.R_reads' HO_6.out).2.1); rintro e w73 ⟨rfl, hb⟩; refine ⟨_, rfl, ?_⟩; have n0_ := Aside0.mk (Kd.R_below z9d hb); have n1_ := Aside0.mk (Kd.R_below z9c hb); have n2_ := Aside0.mk (Kd.R_below (by (with_reducible repeat (first | apply Kd.R_alloc | apply Kd.R_drewN | apply Kd.R_drew)); exact HO283.out) hb); have n3_ := Aside0.mk (Kd.R_below (by (with_reducible repeat (first | apply Kd.R_alloc | apply Kd.R_drewN | apply Kd.R_drew)); exact HO286.out) hb); have n4_ := Aside0.mk (Kd.R_below (by (with_reducible repeat (first | apply Kd.R_alloc | apply Kd.R_drewN | apply Kd.R_drew)); exact HO289.out) hb); have n5_ := Aside0.mk (below_step z9a hb); clear HO_6; clear HO_9; clear HO283; clear HO286; clear HO289; clear HB; have HO_6 := n0_; have HO_9 := n1_; have HO283 := n2_; have HO286 := n3_; have HO289 := n4_; have HB := n5_; clear n0_ n1_ n2_ n3_ n4_ n5_; (try clear hb); (try clear hb2); (try clear hk); (try clear hi)))
                   (try simp only [Act.put, List.setIfInBounds_toArray, List.set_cons_zero, List.set_cons_succ])
                   go_cut [] (fun wc => ∃ (kq : Nat), Aside0 (laws_FnExactBottom.j9 kq t279 t278 = some r) ∧ Aside0 (kq ≤ kj59) ∧ Aside0 (Kd.R k88 88 wc w.heap.size (fun _ => True) (.slice Ao27 t279.length co27) t279) ∧ Aside0 (Below w.heap.size w wc))
                   case first =>
                    have H := HC66.out
                    clear HC66
                    by_cases c74 : t290 = true
                    {
                    subst c74
                    have H1 : (laws_FnExactBottom.j9 kj59 t279 t278) = some r := by rw [if_pos rfl] at H; exact H
                    clear H
                    have H := H1
                    clear H1
                    have H' := Aside0.mk H
                    clear H
                    go_wp2
                    go_meet
                    case rel => exact ⟨_, H', ⟨by have := HJ2.out; have := HJ5.out; have := HJ15.out; have := HJ32.out; have := HJ39.out; have := HJ45.out; have := HJ51.out; have := HJ55.out; have := HJ59.out; first | omega | exact Nat.le_refl _⟩, ⟨by (try simp only [hl9_55]); (with_reducible repeat (first | apply Kd.R_alloc | apply Kd.R_drewN | apply Kd.R_drew)); exact Kd.R_mono HO_9.out (fun _ hk => trivial)⟩, ⟨by repeat (first | (with_reducible first | exact HB.out | apply below_alloc | apply pw_below_drewN | apply below_drew1) | exact HB.out)⟩⟩
                    }
                    {
                    replace c74 := Bool.eq_false_iff.mpr c74
                    subst c74
                    have H1 : (some false) = some r := by rw [if_neg (show ¬ (false = true) by decide)] at H; exact H
                    clear H
                    have H := H1
                    clear H1
                    obtain rfl := Option.some.inj H
                    go_wp2
                    go_ret
                    exact ⟨by first | rfl | (simp [errW_none, errW_some] <;> rfl) | (simp [*, errW_none, errW_some] <;> rfl), by repeat (first | (with_reducible first | exact HB.out | apply below_alloc | apply pw_below_drewN | apply below_drew1) | exact HB.out)⟩
                    }
                   case rest =>
                    clear HC66
                    try clear c1
                    try clear c2
                    try clear p2
                    try clear c3
                    try clear c4
                    try clear c4b0
                    try clear c4b1
                    try clear c5
                    try clear c6
                    try clear c7
                    try clear c8
                    try clear c8b0
                    try clear c9
                    try clear c29
                    try clear c30
                    try clear c31
                    try clear c32
                    try clear c34
                    try clear c35
                    try clear c36
                    try clear c37
                    try clear c38
                    try clear c39
                    try clear c40
                    try clear c43
                    try clear c49
                    try clear c49b0
                    try clear c53
                    try clear c59
                    try clear c59b0
                    try clear c61
                    try clear c61b0
                    try clear c61b1
                    try clear c74
                    try clear p2
                    obtain ⟨kq, HA, HJ65, HO_9, HB⟩ := hcut
                    cases kq with
                    | zero => exact absurd HA.out (by simp [laws_FnExactBottom.j9])
                    | succ kj65 =>
                     have H := HA.out
                     clear HA
                     simp only [laws_FnExactBottom.j9] at H
                     replace H := Option.bind_eq_some_iff.mp H
                     obtain ⟨t291, A750, H⟩ := H
                     replace H : (if t291 < 0 then (some false) else (if t291 = t278 then (some true) else (some false))) = some r := H
                     have A75 := Aside0.mk A750
                     clear A750
                     by_cases c76 : t291 < 0
                     {
                     rw [if_pos c76] at H
                     have c76b0 : decide (t291 < 0) = true := decide_eq_true c76
                     clear c76
                     obtain rfl := Option.some.inj H
                     go_wp2_with (first | ((with_reducible refine gate_callee (f := 38) rfl ?_); refine goesL_ (some 84) rfl rfl Try.func38 (by kernel_rfl) rfl #[.slice Ao27 t279.length co27, .int .i64 1] rfl z9b ?_; (with_reducible refine (laws_heldEntryS.calls kj65 _ _ t279 1 t291 _ ?side1 ?side2 A75.out).mono ?_); (case side1 => repeat (first | exact (Kd.R_reads' HO_9.out).2.2 | (with_reducible refine Kd.C_alloc ?_ _) | (with_reducible refine Kd.C_drewN ?_ _) | (with_reducible refine Kd.C_drew ?_))); (case side2 => exact (Kd.R_reads' HO_9.out).2.1); rintro e w77 ⟨rfl, hb⟩; refine ⟨_, rfl, ?_⟩; have n0_ := Aside0.mk (Kd.R_below z9c hb); have n1_ := Aside0.mk (below_step z9a hb); clear HO_9; clear HB; have HO_9 := n0_; have HB := n1_; clear n0_ n1_; (try clear hb); (try clear hb2); (try clear hk); (try clear hi)))
                     go_ret
                     exact ⟨by first | rfl | (simp [errW_none, errW_some] <;> rfl) | (simp [*, errW_none, errW_some] <;> rfl), by repeat (first | (with_reducible first | exact HB.out | apply below_alloc | apply pw_below_drewN | apply below_drew1) | exact HB.out)⟩
                     }
                     {
                     rw [if_neg c76] at H
                     have c76b0 : decide (t291 < 0) = false := decide_eq_false c76
                     clear c76
                     by_cases c78 : t291 = t278
                     {
                     rw [if_pos c78] at H
                     have c78b0 : (t291 == t278) = true := beq_iff_eq.mpr c78
                     have c78b1 : (t291 != t278) = false := bne_eq_false_iff_eq.mpr c78
                     clear c78
                     obtain rfl := Option.some.inj H
                     go_wp2_with (first | ((with_reducible refine gate_callee (f := 38) rfl ?_); refine goesL_ (some 84) rfl rfl Try.func38 (by kernel_rfl) rfl #[.slice Ao27 t279.length co27, .int .i64 1] rfl z9b ?_; (with_reducible refine (laws_heldEntryS.calls kj65 _ _ t279 1 t291 _ ?side1 ?side2 A75.out).mono ?_); (case side1 => repeat (first | exact (Kd.R_reads' HO_9.out).2.2 | (with_reducible refine Kd.C_alloc ?_ _) | (with_reducible refine Kd.C_drewN ?_ _) | (with_reducible refine Kd.C_drew ?_))); (case side2 => exact (Kd.R_reads' HO_9.out).2.1); rintro e w79 ⟨rfl, hb⟩; refine ⟨_, rfl, ?_⟩; have n0_ := Aside0.mk (Kd.R_below z9c hb); have n1_ := Aside0.mk (below_step z9a hb); clear HO_9; clear HB; have HO_9 := n0_; have HB := n1_; clear n0_ n1_; (try clear hb); (try clear hb2); (try clear hk); (try clear hi)))
                     go_ret
                     exact ⟨by first | rfl | (simp [errW_none, errW_some] <;> rfl) | (simp [*, errW_none, errW_some] <;> rfl), by repeat (first | (with_reducible first | exact HB.out | apply below_alloc | apply pw_below_drewN | apply below_drew1) | exact HB.out)⟩
                     }
                     {
                     rw [if_neg c78] at H
                     have c78b0 : (t291 == t278) = false := beq_eq_false_iff_ne.mpr c78
                     have c78b1 : (t291 != t278) = true := bne_iff_ne.mpr c78
                     obtain rfl := Option.some.inj H
                     go_wp2_with (first | ((with_reducible refine gate_callee (f := 38) rfl ?_); refine goesL_ (some 84) rfl rfl Try.func38 (by kernel_rfl) rfl #[.slice Ao27 t279.length co27, .int .i64 1] rfl z9b ?_; (with_reducible refine (laws_heldEntryS.calls kj65 _ _ t279 1 t291 _ ?side1 ?side2 A75.out).mono ?_); (case side1 => repeat (first | exact (Kd.R_reads' HO_9.out).2.2 | (with_reducible refine Kd.C_alloc ?_ _) | (with_reducible refine Kd.C_drewN ?_ _) | (with_reducible refine Kd.C_drew ?_))); (case side2 => exact (Kd.R_reads' HO_9.out).2.1); rintro e w80 ⟨rfl, hb⟩; refine ⟨_, rfl, ?_⟩; have n0_ := Aside0.mk (Kd.R_below z9c hb); have n1_ := Aside0.mk (below_step z9a hb); clear HO_9; clear HB; have HO_9 := n0_; have HB := n1_; clear n0_ n1_; (try clear hb); (try clear hb2); (try clear hk); (try clear hi)))
                     go_ret
                     exact ⟨by first | rfl | (simp [errW_none, errW_some] <;> rfl) | (simp [*, errW_none, errW_some] <;> rfl), by repeat (first | (with_reducible first | exact HB.out | apply below_alloc | apply pw_below_drewN | apply below_drew1) | exact HB.out)⟩
                     
                     }
                     }
end Go.Proofs.Ytajidjlbgpaaoaa.PFnExactBottom

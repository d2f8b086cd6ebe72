-- by a program of this session (wip/print/run.py) for this claim
import Derived.Test.YtajidjlbgpaaoaaPFnExactCutx0
import Derived.Test.YtajidjlbgpaaoaaPFnExactCutx1
import Derived.Test.YtajidjlbgpaaoaaPFnExactCutx2
import Derived.Test.YtajidjlbgpaaoaaPFnExactCutx3
import Derived.Test.YtajidjlbgpaaoaaPFnExactCutx5
import Derived.Test.YtajidjlbgpaaoaaPFnExactCutx6
namespace Go.Proofs.Ytajidjlbgpaaoaa.PFnExactCut
open Go.RowKit Go.Proofs.YtajidjlbgpaaoaaW.PrintWords Go.Proofs.YtajidjlbgpaaoaaW.PrintLast Go.Proofs.YtajidjlbgpaaoaaW.PrintMore
attribute [local go_sem] max2_int min2_int max_two min_two max_three min_three max_four min_four   -- for this text's walks alone
set_option linter.unusedVariables false
set_option linter.unusedSimpArgs false

/-! ### laws_FnExactCut: function 7 -/
mutual
def laws_FnExactCut.j0 : Nat → List Bool → List ByteArray → List (S100) → Option (Bool)
 | 0, _, _, _ => none
 | k + 1, x1, x198000, x198001 => (laws_szDevice.f k x198000 x198001 1048576).bind fun t198 => (if t198 < 0 then (some true) else (laws_FnExactCut.j1 k x1 x198000 x198001))
def laws_FnExactCut.j1 : Nat → List Bool → List ByteArray → List (S100) → Option (Bool)
 | 0, _, _, _ => none
 | k + 1, x1, x198000, x198001 => (laws_toDevice.f k x198000 x198001).bind fun bt199 => ((laws_toBoolS.f k x1).bind fun t205 => ((spec_Cut.f k bt199.1 bt199.2 t205).bind fun bt208 => ((laws_toDevice.f k x198000 x198001).bind fun bt215 => ((laws_toBoolS.f k x1).bind fun t222 => ((impl_Cut.f k bt215.1 bt215.2 t222).bind fun bt225 => ((laws_eqDevice.f k bt225.1 bt225.2 bt208.1 bt208.2).bind fun t232 => (if t232 = true then (laws_FnExactCut.j2 k x1 t222 x198000 x198001 bt208.1 bt208.2 bt215.1 bt215.2 bt225.1 bt225.2) else (some false))))))))
def laws_FnExactCut.j2 : Nat → List Bool → List Bool → List ByteArray → List (S100) → List ByteArray → List (S72) → List ByteArray → List (S72) → List ByteArray → List (S72) → Option (Bool)
 | 0, _, _, _, _, _, _, _, _, _, _ => none
 | k + 1, x1, x8, x198000, x198001, x215000, x215001, x222000, x222001, x232000, x232001 => (laws_toDevice.f k x198000 x198001).bind fun bt233 => ((laws_eqDevice.f k x222000 x222001 bt233.1 bt233.2).bind fun t239 => (if t239 = true then (laws_FnExactCut.j3 k x1 x8 x198000 x198001 x215000 x215001 x222000 x222001 x232000 x232001) else (some false)))
def laws_FnExactCut.j3 : Nat → List Bool → List Bool → List ByteArray → List (S100) → List ByteArray → List (S72) → List ByteArray → List (S72) → List ByteArray → List (S72) → Option (Bool)
 | 0, _, _, _, _, _, _, _, _, _, _ => none
 | k + 1, x1, x8, x198000, x198001, x215000, x215001, x222000, x222001, x232000, x232001 => (laws_toBoolS.f k x1).bind fun t240 => ((laws_eqBoolS.f k x8 t240).bind fun t243 => (if t243 = true then (laws_FnExactCut.j4 k x1 x8 x198000 x198001 x215000 x215001 x222000 x222001 x232000 x232001) else (some false)))
def laws_FnExactCut.j4 : Nat → List Bool → List Bool → List ByteArray → List (S100) → List ByteArray → List (S72) → List ByteArray → List (S72) → List ByteArray → List (S72) → Option (Bool)
 | 0, _, _, _, _, _, _, _, _, _, _ => none
 | k + 1, x1, x8, x198000, x198001, x215000, x215001, x222000, x222001, x232000, x232001 => (laws_markDevice.f k x222000 x222001 1).bind fun bt244 => ((laws_markBoolS.f k x8 bt244.1).bind fun bt247 => (if bt247.1 < 0 then (laws_FnExactCut.j5 k x1 true x198000 x198001 x215000 x215001 x232000 x232001) else ((laws_eqDevice.f k x232000 x232001 x215000 x215001).bind fun t249 => (laws_FnExactCut.j5 k x1 (!t249) x198000 x198001 x215000 x215001 x232000 x232001))))
def laws_FnExactCut.j5 : Nat → List Bool → Bool → List ByteArray → List (S100) → List ByteArray → List (S72) → List ByteArray → List (S72) → Option (Bool)
 | 0, _, _, _, _, _, _, _, _ => none
 | k + 1, x1, x61, x198000, x198001, x215000, x215001, x232000, x232001 => if x61 = true then (some false) else (laws_FnExactCut.j6 k x1 x198000 x198001 x215000 x215001 x232000 x232001)
def laws_FnExactCut.j6 : Nat → List Bool → List ByteArray → List (S100) → List ByteArray → List (S72) → List ByteArray → List (S72) → Option (Bool)
 | 0, _, _, _, _, _, _, _ => none
 | k + 1, x1, x198000, x198001, x215000, x215001, x232000, x232001 => (laws_markDevice.f k x232000 x232001 1).bind fun bt250 => ((laws_heldDevice.f k bt250.2.1 bt250.2.2 1).bind fun t253 => (if t253 < 0 then (some false) else (laws_FnExactCut.j7 k x1 bt250.1 t253 x198000 x198001 x215000 x215001 bt250.2.1 bt250.2.2)))
def laws_FnExactCut.j7 : Nat → List Bool → Int → Int → List ByteArray → List (S100) → List ByteArray → List (S72) → List ByteArray → List (S72) → Option (Bool)
 | 0, _, _, _, _, _, _, _, _, _ => none
 | k + 1, x1, x11, x12, x198000, x198001, x215000, x215001, x232000, x232001 => if x12 = x11 then (laws_FnExactCut.j8 k x1 x11 x198000 x198001 x215000 x215001 x232000 x232001) else (some false)
def laws_FnExactCut.j8 : Nat → List Bool → Int → List ByteArray → List (S100) → List ByteArray → List (S72) → List ByteArray → List (S72) → Option (Bool)
 | 0, _, _, _, _, _, _, _, _ => none
 | k + 1, x1, x11, x198000, x198001, x215000, x215001, x232000, x232001 => (laws_toDevice.f k x198000 x198001).bind fun bt254 => ((laws_toBoolS.f k x1).bind fun t260 => ((impl_Cut.f k bt254.1 bt254.2 t260).bind fun bt263 => ((laws_eqDevice.f k bt263.1 bt263.2 x215000 x215001).bind fun t270 => (if t270 = true then (laws_FnExactCut.j9 k x11 x232000 x232001) else (some false)))))
def laws_FnExactCut.j9 : Nat → Int → List ByteArray → List (S72) → Option (Bool)
 | 0, _, _, _ => none
 | k + 1, x11, x232000, x232001 => (laws_heldDevice.f k x232000 x232001 1).bind fun t271 => (if t271 < 0 then (some false) else (if t271 = x11 then (some true) else (some false)))
end
def laws_FnExactCut.f (k : Nat) (l0_0 : List ByteArray) (l0_1 : List (S100)) (l1 : List Bool) : Option (Bool) := if (l1.length : Int) > 1048576 then (some true) else (laws_FnExactCut.j0 k l1 l0_0 l0_1)
theorem laws_FnExactCut.mono_l : ∀ k, (∀ y0 y1 y2, LeO (laws_FnExactCut.j0 k y0 y1 y2) (laws_FnExactCut.j0 (k + 1) y0 y1 y2)) ∧ (∀ y0 y1 y2, LeO (laws_FnExactCut.j1 k y0 y1 y2) (laws_FnExactCut.j1 (k + 1) y0 y1 y2)) ∧ (∀ y0 y1 y2 y3 y4 y5 y6 y7 y8 y9, LeO (laws_FnExactCut.j2 k y0 y1 y2 y3 y4 y5 y6 y7 y8 y9) (laws_FnExactCut.j2 (k + 1) y0 y1 y2 y3 y4 y5 y6 y7 y8 y9)) ∧ (∀ y0 y1 y2 y3 y4 y5 y6 y7 y8 y9, LeO (laws_FnExactCut.j3 k y0 y1 y2 y3 y4 y5 y6 y7 y8 y9) (laws_FnExactCut.j3 (k + 1) y0 y1 y2 y3 y4 y5 y6 y7 y8 y9)) ∧ (∀ y0 y1 y2 y3 y4 y5 y6 y7 y8 y9, LeO (laws_FnExactCut.j4 k y0 y1 y2 y3 y4 y5 y6 y7 y8 y9) (laws_FnExactCut.j4 (k + 1) y0 y1 y2 y3 y4 y5 y6 y7 y8 y9)) ∧ (∀ y0 y1 y2 y3 y4 y5 y6 y7, LeO (laws_FnExactCut.j5 k y0 y1 y2 y3 y4 y5 y6 y7) (laws_FnExactCut.j5 (k + 1) y0 y1 y2 y3 y4 y5 y6 y7)) ∧ (∀ y0 y1 y2 y3 y4 y5 y6, LeO (laws_FnExactCut.j6 k y0 y1 y2 y3 y4 y5 y6) (laws_FnExactCut.j6 (k + 1) y0 y1 y2 y3 y4 y5 y6)) ∧ (∀ y0 y1 y2 y3 y4 y5 y6 y7 y8, LeO (laws_FnExactCut.j7 k y0 y1 y2 y3 y4 y5 y6 y7 y8) (laws_FnExactCut.j7 (k + 1) y0 y1 y2 y3 y4 y5 y6 y7 y8)) ∧ (∀ y0 y1 y2 y3 y4 y5 y6 y7, LeO (laws_FnExactCut.j8 k y0 y1 y2 y3 y4 y5 y6 y7) (laws_FnExactCut.j8 (k + 1) y0 y1 y2 y3 y4 y5 y6 y7)) ∧ (∀ y0 y1 y2, LeO (laws_FnExactCut.j9 k y0 y1 y2) (laws_FnExactCut.j9 (k + 1) y0 y1 y2))
 | 0 => ⟨fun _ _ _ r h => by simp [laws_FnExactCut.j0] at h, fun _ _ _ r h => by simp [laws_FnExactCut.j1] at h, fun _ _ _ _ _ _ _ _ _ _ r h => by simp [laws_FnExactCut.j2] at h, fun _ _ _ _ _ _ _ _ _ _ r h => by simp [laws_FnExactCut.j3] at h, fun _ _ _ _ _ _ _ _ _ _ r h => by simp [laws_FnExactCut.j4] at h, fun _ _ _ _ _ _ _ _ r h => by simp [laws_FnExactCut.j5] at h, fun _ _ _ _ _ _ _ r h => by simp [laws_FnExactCut.j6] at h, fun _ _ _ _ _ _ _ _ _ r h => by simp [laws_FnExactCut.j7] at h, fun _ _ _ _ _ _ _ _ r h => by simp [laws_FnExactCut.j8] at h, fun _ _ _ r h => by simp [laws_FnExactCut.j9] at h⟩
 | k + 1 => by
  obtain ⟨ih0, ih1, ih2, ih3, ih4, ih5, ih6, ih7, ih8, ih9⟩ := laws_FnExactCut.mono_l k
  refine ⟨?_, ?_, ?_, ?_, ?_, ?_, ?_, ?_, ?_, ?_⟩
  ·intro y0 y1 y2
   unfold laws_FnExactCut.j0
   repeat' first
   | (with_reducible exact ih0 _ _ _)
   | (with_reducible exact ih1 _ _ _)
   | (with_reducible exact ih2 _ _ _ _ _ _ _ _ _ _)
   | (with_reducible exact ih3 _ _ _ _ _ _ _ _ _ _)
   | (with_reducible exact ih4 _ _ _ _ _ _ _ _ _ _)
   | (with_reducible exact ih5 _ _ _ _ _ _ _ _)
   | (with_reducible exact ih6 _ _ _ _ _ _ _)
   | (with_reducible exact ih7 _ _ _ _ _ _ _ _ _)
   | (with_reducible exact ih8 _ _ _ _ _ _ _ _)
   | (with_reducible exact ih9 _ _ _)
   | (with_reducible exact impl_Cut.mono _ _ _ _)
   | (with_reducible exact laws_eqBoolS.mono _ _ _)
   | (with_reducible exact laws_eqDevice.mono _ _ _ _ _)
   | (with_reducible exact laws_heldDevice.mono _ _ _ _)
   | (with_reducible exact laws_markBoolS.mono _ _ _)
   | (with_reducible exact laws_markDevice.mono _ _ _ _)
   | (with_reducible exact laws_szDevice.mono _ _ _ _)
   | (with_reducible exact laws_toBoolS.mono _ _)
   | (with_reducible exact laws_toDevice.mono _ _ _)
   | (with_reducible exact spec_Cut.mono _ _ _ _)
   | (with_reducible exact LeO.refl _)
   | (with_reducible exact LeO.none _)
   | (with_reducible refine LeO.ite ?_ ?_)
   | (with_reducible refine LeO.bind ?_ (fun _ => ?_))
   | exact ih0 _ _ _
   | exact ih1 _ _ _
   | exact ih2 _ _ _ _ _ _ _ _ _ _
   | exact ih3 _ _ _ _ _ _ _ _ _ _
   | exact ih4 _ _ _ _ _ _ _ _ _ _
   | exact ih5 _ _ _ _ _ _ _ _
   | exact ih6 _ _ _ _ _ _ _
   | exact ih7 _ _ _ _ _ _ _ _ _
   | exact ih8 _ _ _ _ _ _ _ _
   | exact ih9 _ _ _
   | exact impl_Cut.mono _ _ _ _
   | exact laws_eqBoolS.mono _ _ _
   | exact laws_eqDevice.mono _ _ _ _ _
   | exact laws_heldDevice.mono _ _ _ _
   | exact laws_markBoolS.mono _ _ _
   | exact laws_markDevice.mono _ _ _ _
   | exact laws_szDevice.mono _ _ _ _
   | exact laws_toBoolS.mono _ _
   | exact laws_toDevice.mono _ _ _
   | exact spec_Cut.mono _ _ _ _
   | exact LeO.none _
   | refine LeO.ite ?_ ?_
   | refine LeO.bind ?_ (fun _ => ?_)
  ·intro y0 y1 y2
   unfold laws_FnExactCut.j1
   repeat' first
   | (with_reducible exact ih0 _ _ _)
   | (with_reducible exact ih1 _ _ _)
   | (with_reducible exact ih2 _ _ _ _ _ _ _ _ _ _)
   | (with_reducible exact ih3 _ _ _ _ _ _ _ _ _ _)
   | (with_reducible exact ih4 _ _ _ _ _ _ _ _ _ _)
   | (with_reducible exact ih5 _ _ _ _ _ _ _ _)
   | (with_reducible exact ih6 _ _ _ _ _ _ _)
   | (with_reducible exact ih7 _ _ _ _ _ _ _ _ _)
   | (with_reducible exact ih8 _ _ _ _ _ _ _ _)
   | (with_reducible exact ih9 _ _ _)
   | (with_reducible exact impl_Cut.mono _ _ _ _)
   | (with_reducible exact laws_eqBoolS.mono _ _ _)
   | (with_reducible exact laws_eqDevice.mono _ _ _ _ _)
   | (with_reducible exact laws_heldDevice.mono _ _ _ _)
   | (with_reducible exact laws_markBoolS.mono _ _ _)
   | (with_reducible exact laws_markDevice.mono _ _ _ _)
   | (with_reducible exact laws_szDevice.mono _ _ _ _)
   | (with_reducible exact laws_toBoolS.mono _ _)
   | (with_reducible exact laws_toDevice.mono _ _ _)
   | (with_reducible exact spec_Cut.mono _ _ _ _)
   | (with_reducible exact LeO.refl _)
   | (with_reducible exact LeO.none _)
   | (with_reducible refine LeO.ite ?_ ?_)
   | (with_reducible refine LeO.bind ?_ (fun _ => ?_))
   | exact ih0 _ _ _
   | exact ih1 _ _ _
   | exact ih2 _ _ _ _ _ _ _ _ _ _
   | exact ih3 _ _ _ _ _ _ _ _ _ _
   | exact ih4 _ _ _ _ _ _ _ _ _ _
   | exact ih5 _ _ _ _ _ _ _ _
   | exact ih6 _ _ _ _ _ _ _
   | exact ih7 _ _ _ _ _ _ _ _ _
   | exact ih8 _ _ _ _ _ _ _ _
   | exact ih9 _ _ _
   | exact impl_Cut.mono _ _ _ _
   | exact laws_eqBoolS.mono _ _ _
   | exact laws_eqDevice.mono _ _ _ _ _
   | exact laws_heldDevice.mono _ _ _ _
   | exact laws_markBoolS.mono _ _ _
   | exact laws_markDevice.mono _ _ _ _
   | exact laws_szDevice.mono _ _ _ _
   | exact laws_toBoolS.mono _ _
   | exact laws_toDevice.mono _ _ _
   | exact spec_Cut.mono _ _ _ _
   | exact LeO.none _
   | refine LeO.ite ?_ ?_
   | refine LeO.bind ?_ (fun _ => ?_)
  ·intro y0 y1 y2 y3 y4 y5 y6 y7 y8 y9
   unfold laws_FnExactCut.j2
   repeat' first
   | (with_reducible exact ih0 _ _ _)
   | (with_reducible exact ih1 _ _ _)
   | (with_reducible exact ih2 _ _ _ _ _ _ _ _ _ _)
   | (with_reducible exact ih3 _ _ _ _ _ _ _ _ _ _)
   | (with_reducible exact ih4 _ _ _ _ _ _ _ _ _ _)
   | (with_reducible exact ih5 _ _ _ _ _ _ _ _)
   | (with_reducible exact ih6 _ _ _ _ _ _ _)
   | (with_reducible exact ih7 _ _ _ _ _ _ _ _ _)
   | (with_reducible exact ih8 _ _ _ _ _ _ _ _)
   | (with_reducible exact ih9 _ _ _)
   | (with_reducible exact impl_Cut.mono _ _ _ _)
   | (with_reducible exact laws_eqBoolS.mono _ _ _)
   | (with_reducible exact laws_eqDevice.mono _ _ _ _ _)
   | (with_reducible exact laws_heldDevice.mono _ _ _ _)
   | (with_reducible exact laws_markBoolS.mono _ _ _)
   | (with_reducible exact laws_markDevice.mono _ _ _ _)
   | (with_reducible exact laws_szDevice.mono _ _ _ _)
   | (with_reducible exact laws_toBoolS.mono _ _)
   | (with_reducible exact laws_toDevice.mono _ _ _)
   | (with_reducible exact spec_Cut.mono _ _ _ _)
   | (with_reducible exact LeO.refl _)
   | (with_reducible exact LeO.none _)
   | (with_reducible refine LeO.ite ?_ ?_)
   | (with_reducible refine LeO.bind ?_ (fun _ => ?_))
   | exact ih0 _ _ _
   | exact ih1 _ _ _
   | exact ih2 _ _ _ _ _ _ _ _ _ _
   | exact ih3 _ _ _ _ _ _ _ _ _ _
   | exact ih4 _ _ _ _ _ _ _ _ _ _
   | exact ih5 _ _ _ _ _ _ _ _
   | exact ih6 _ _ _ _ _ _ _
   | exact ih7 _ _ _ _ _ _ _ _ _
   | exact ih8 _ _ _ _ _ _ _ _
   | exact ih9 _ _ _
   | exact impl_Cut.mono _ _ _ _
   | exact laws_eqBoolS.mono _ _ _
   | exact laws_eqDevice.mono _ _ _ _ _
   | exact laws_heldDevice.mono _ _ _ _
   | exact laws_markBoolS.mono _ _ _
   | exact laws_markDevice.mono _ _ _ _
   | exact laws_szDevice.mono _ _ _ _
   | exact laws_toBoolS.mono _ _
   | exact laws_toDevice.mono _ _ _
   | exact spec_Cut.mono _ _ _ _
   | exact LeO.none _
   | refine LeO.ite ?_ ?_
   | refine LeO.bind ?_ (fun _ => ?_)
  ·intro y0 y1 y2 y3 y4 y5 y6 y7 y8 y9
   unfold laws_FnExactCut.j3
   repeat' first
   | (with_reducible exact ih0 _ _ _)
   | (with_reducible exact ih1 _ _ _)
   | (with_reducible exact ih2 _ _ _ _ _ _ _ _ _ _)
   | (with_reducible exact ih3 _ _ _ _ _ _ _ _ _ _)
   | (with_reducible exact ih4 _ _ _ _ _ _ _ _ _ _)
   | (with_reducible exact ih5 _ _ _ _ _ _ _ _)
   | (with_reducible exact ih6 _ _ _ _ _ _ _)
   | (with_reducible exact ih7 _ _ _ _ _ _ _ _ _)
   | (with_reducible exact ih8 _ _ _ _ _ _ _ _)
   | (with_reducible exact ih9 _ _ _)
   | (with_reducible exact impl_Cut.mono _ _ _ _)
   | (with_reducible exact laws_eqBoolS.mono _ _ _)
   | (with_reducible exact laws_eqDevice.mono _ _ _ _ _)
   | (with_reducible exact laws_heldDevice.mono _ _ _ _)
   | (with_reducible exact laws_markBoolS.mono _ _ _)
   | (with_reducible exact laws_markDevice.mono _ _ _ _)
   | (with_reducible exact laws_szDevice.mono _ _ _ _)
   | (with_reducible exact laws_toBoolS.mono _ _)
   | (with_reducible exact laws_toDevice.mono _ _ _)
   | (with_reducible exact spec_Cut.mono _ _ _ _)
   | (with_reducible exact LeO.refl _)
   | (with_reducible exact LeO.none _)
   | (with_reducible refine LeO.ite ?_ ?_)
   | (with_reducible refine LeO.bind ?_ (fun _ => ?_))
   | exact ih0 _ _ _
   | exact ih1 _ _ _
   | exact ih2 _ _ _ _ _ _ _ _ _ _
   | exact ih3 _ _ _ _ _ _ _ _ _ _
   | exact ih4 _ _ _ _ _ _ _ _ _ _
   | exact ih5 _ _ _ _ _ _ _ _
   | exact ih6 _ _ _ _ _ _ _
   | exact ih7 _ _ _ _ _ _ _ _ _
   | exact ih8 _ _ _ _ _ _ _ _
   | exact ih9 _ _ _
   | exact impl_Cut.mono _ _ _ _
   | exact laws_eqBoolS.mono _ _ _
   | exact laws_eqDevice.mono _ _ _ _ _
   | exact laws_heldDevice.mono _ _ _ _
   | exact laws_markBoolS.mono _ _ _
   | exact laws_markDevice.mono _ _ _ _
   | exact laws_szDevice.mono _ _ _ _
   | exact laws_toBoolS.mono _ _
   | exact laws_toDevice.mono _ _ _
   | exact spec_Cut.mono _ _ _ _
   | exact LeO.none _
   | refine LeO.ite ?_ ?_
   | refine LeO.bind ?_ (fun _ => ?_)
  ·intro y0 y1 y2 y3 y4 y5 y6 y7 y8 y9
   unfold laws_FnExactCut.j4
   repeat' first
   | (with_reducible exact ih0 _ _ _)
   | (with_reducible exact ih1 _ _ _)
   | (with_reducible exact ih2 _ _ _ _ _ _ _ _ _ _)
   | (with_reducible exact ih3 _ _ _ _ _ _ _ _ _ _)
   | (with_reducible exact ih4 _ _ _ _ _ _ _ _ _ _)
   | (with_reducible exact ih5 _ _ _ _ _ _ _ _)
   | (with_reducible exact ih6 _ _ _ _ _ _ _)
   | (with_reducible exact ih7 _ _ _ _ _ _ _ _ _)
   | (with_reducible exact ih8 _ _ _ _ _ _ _ _)
   | (with_reducible exact ih9 _ _ _)
   | (with_reducible exact impl_Cut.mono _ _ _ _)
   | (with_reducible exact laws_eqBoolS.mono _ _ _)
   | (with_reducible exact laws_eqDevice.mono _ _ _ _ _)
   | (with_reducible exact laws_heldDevice.mono _ _ _ _)
   | (with_reducible exact laws_markBoolS.mono _ _ _)
   | (with_reducible exact laws_markDevice.mono _ _ _ _)
   | (with_reducible exact laws_szDevice.mono _ _ _ _)
   | (with_reducible exact laws_toBoolS.mono _ _)
   | (with_reducible exact laws_toDevice.mono _ _ _)
   | (with_reducible exact spec_Cut.mono _ _ _ _)
   | (with_reducible exact LeO.refl _)
   | (with_reducible exact LeO.none _)
   | (with_reducible refine LeO.ite ?_ ?_)
   | (with_reducible refine LeO.bind ?_ (fun _ => ?_))
   | exact ih0 _ _ _
   | exact ih1 _ _ _
   | exact ih2 _ _ _ _ _ _ _ _ _ _
   | exact ih3 _ _ _ _ _ _ _ _ _ _
   | exact ih4 _ _ _ _ _ _ _ _ _ _
   | exact ih5 _ _ _ _ _ _ _ _
   | exact ih6 _ _ _ _ _ _ _
   | exact ih7 _ _ _ _ _ _ _ _ _
   | exact ih8 _ _ _ _ _ _ _ _
   | exact ih9 _ _ _
   | exact impl_Cut.mono _ _ _ _
   | exact laws_eqBoolS.mono _ _ _
   | exact laws_eqDevice.mono _ _ _ _ _
   | exact laws_heldDevice.mono _ _ _ _
   | exact laws_markBoolS.mono _ _ _
   | exact laws_markDevice.mono _ _ _ _
   | exact laws_szDevice.mono _ _ _ _
   | exact laws_toBoolS.mono _ _
   | exact laws_toDevice.mono _ _ _
   | exact spec_Cut.mono _ _ _ _
   | exact LeO.none _
   | refine LeO.ite ?_ ?_
   | refine LeO.bind ?_ (fun _ => ?_)
  ·intro y0 y1 y2 y3 y4 y5 y6 y7
   unfold laws_FnExactCut.j5
   repeat' first
   | (with_reducible exact ih0 _ _ _)
   | (with_reducible exact ih1 _ _ _)
   | (with_reducible exact ih2 _ _ _ _ _ _ _ _ _ _)
   | (with_reducible exact ih3 _ _ _ _ _ _ _ _ _ _)
   | (with_reducible exact ih4 _ _ _ _ _ _ _ _ _ _)
   | (with_reducible exact ih5 _ _ _ _ _ _ _ _)
   | (with_reducible exact ih6 _ _ _ _ _ _ _)
   | (with_reducible exact ih7 _ _ _ _ _ _ _ _ _)
   | (with_reducible exact ih8 _ _ _ _ _ _ _ _)
   | (with_reducible exact ih9 _ _ _)
   | (with_reducible exact impl_Cut.mono _ _ _ _)
   | (with_reducible exact laws_eqBoolS.mono _ _ _)
   | (with_reducible exact laws_eqDevice.mono _ _ _ _ _)
   | (with_reducible exact laws_heldDevice.mono _ _ _ _)
   | (with_reducible exact laws_markBoolS.mono _ _ _)
   | (with_reducible exact laws_markDevice.mono _ _ _ _)
   | (with_reducible exact laws_szDevice.mono _ _ _ _)
   | (with_reducible exact laws_toBoolS.mono _ _)
   | (with_reducible exact laws_toDevice.mono _ _ _)
   | (with_reducible exact spec_Cut.mono _ _ _ _)
   | (with_reducible exact LeO.refl _)
   | (with_reducible exact LeO.none _)
   | (with_reducible refine LeO.ite ?_ ?_)
   | (with_reducible refine LeO.bind ?_ (fun _ => ?_))
   | exact ih0 _ _ _
   | exact ih1 _ _ _
   | exact ih2 _ _ _ _ _ _ _ _ _ _
   | exact ih3 _ _ _ _ _ _ _ _ _ _
   | exact ih4 _ _ _ _ _ _ _ _ _ _
   | exact ih5 _ _ _ _ _ _ _ _
   | exact ih6 _ _ _ _ _ _ _
   | exact ih7 _ _ _ _ _ _ _ _ _
   | exact ih8 _ _ _ _ _ _ _ _
   | exact ih9 _ _ _
   | exact impl_Cut.mono _ _ _ _
   | exact laws_eqBoolS.mono _ _ _
   | exact laws_eqDevice.mono _ _ _ _ _
   | exact laws_heldDevice.mono _ _ _ _
   | exact laws_markBoolS.mono _ _ _
   | exact laws_markDevice.mono _ _ _ _
   | exact laws_szDevice.mono _ _ _ _
   | exact laws_toBoolS.mono _ _
   | exact laws_toDevice.mono _ _ _
   | exact spec_Cut.mono _ _ _ _
   | exact LeO.none _
   | refine LeO.ite ?_ ?_
   | refine LeO.bind ?_ (fun _ => ?_)
  ·intro y0 y1 y2 y3 y4 y5 y6
   unfold laws_FnExactCut.j6
   repeat' first
   | (with_reducible exact ih0 _ _ _)
   | (with_reducible exact ih1 _ _ _)
   | (with_reducible exact ih2 _ _ _ _ _ _ _ _ _ _)
   | (with_reducible exact ih3 _ _ _ _ _ _ _ _ _ _)
   | (with_reducible exact ih4 _ _ _ _ _ _ _ _ _ _)
   | (with_reducible exact ih5 _ _ _ _ _ _ _ _)
   | (with_reducible exact ih6 _ _ _ _ _ _ _)
   | (with_reducible exact ih7 _ _ _ _ _ _ _ _ _)
   | (with_reducible exact ih8 _ _ _ _ _ _ _ _)
   | (with_reducible exact ih9 _ _ _)
   | (with_reducible exact impl_Cut.mono _ _ _ _)
   | (with_reducible exact laws_eqBoolS.mono _ _ _)
   | (with_reducible exact laws_eqDevice.mono _ _ _ _ _)
   | (with_reducible exact laws_heldDevice.mono _ _ _ _)
   | (with_reducible exact laws_markBoolS.mono _ _ _)
   | (with_reducible exact laws_markDevice.mono _ _ _ _)
   | (with_reducible exact laws_szDevice.mono _ _ _ _)
   | (with_reducible exact laws_toBoolS.mono _ _)
   | (with_reducible exact laws_toDevice.mono _ _ _)
   | (with_reducible exact spec_Cut.mono _ _ _ _)
   | (with_reducible exact LeO.refl _)
   | (with_reducible exact LeO.none _)
   | (with_reducible refine LeO.ite ?_ ?_)
   | (with_reducible refine LeO.bind ?_ (fun _ => ?_))
   | exact ih0 _ _ _
   | exact ih1 _ _ _
   | exact ih2 _ _ _ _ _ _ _ _ _ _
   | exact ih3 _ _ _ _ _ _ _ _ _ _
   | exact ih4 _ _ _ _ _ _ _ _ _ _
   | exact ih5 _ _ _ _ _ _ _ _
   | exact ih6 _ _ _ _ _ _ _
   | exact ih7 _ _ _ _ _ _ _ _ _
   | exact ih8 _ _ _ _ _ _ _ _
   | exact ih9 _ _ _
   | exact impl_Cut.mono _ _ _ _
   | exact laws_eqBoolS.mono _ _ _
   | exact laws_eqDevice.mono _ _ _ _ _
   | exact laws_heldDevice.mono _ _ _ _
   | exact laws_markBoolS.mono _ _ _
   | exact laws_markDevice.mono _ _ _ _
   | exact laws_szDevice.mono _ _ _ _
   | exact laws_toBoolS.mono _ _
   | exact laws_toDevice.mono _ _ _
   | exact spec_Cut.mono _ _ _ _
   | exact LeO.none _
   | refine LeO.ite ?_ ?_
   | refine LeO.bind ?_ (fun _ => ?_)
  ·intro y0 y1 y2 y3 y4 y5 y6 y7 y8
   unfold laws_FnExactCut.j7
   repeat' first
   | (with_reducible exact ih0 _ _ _)
   | (with_reducible exact ih1 _ _ _)
   | (with_reducible exact ih2 _ _ _ _ _ _ _ _ _ _)
   | (with_reducible exact ih3 _ _ _ _ _ _ _ _ _ _)
   | (with_reducible exact ih4 _ _ _ _ _ _ _ _ _ _)
   | (with_reducible exact ih5 _ _ _ _ _ _ _ _)
   | (with_reducible exact ih6 _ _ _ _ _ _ _)
   | (with_reducible exact ih7 _ _ _ _ _ _ _ _ _)
   | (with_reducible exact ih8 _ _ _ _ _ _ _ _)
   | (with_reducible exact ih9 _ _ _)
   | (with_reducible exact impl_Cut.mono _ _ _ _)
   | (with_reducible exact laws_eqBoolS.mono _ _ _)
   | (with_reducible exact laws_eqDevice.mono _ _ _ _ _)
   | (with_reducible exact laws_heldDevice.mono _ _ _ _)
   | (with_reducible exact laws_markBoolS.mono _ _ _)
   | (with_reducible exact laws_markDevice.mono _ _ _ _)
   | (with_reducible exact laws_szDevice.mono _ _ _ _)
   | (with_reducible exact laws_toBoolS.mono _ _)
   | (with_reducible exact laws_toDevice.mono _ _ _)
   | (with_reducible exact spec_Cut.mono _ _ _ _)
   | (with_reducible exact LeO.refl _)
   | (with_reducible exact LeO.none _)
   | (with_reducible refine LeO.ite ?_ ?_)
   | (with_reducible refine LeO.bind ?_ (fun _ => ?_))
   | exact ih0 _ _ _
   | exact ih1 _ _ _
   | exact ih2 _ _ _ _ _ _ _ _ _ _
   | exact ih3 _ _ _ _ _ _ _ _ _ _
   | exact ih4 _ _ _ _ _ _ _ _ _ _
   | exact ih5 _ _ _ _ _ _ _ _
   | exact ih6 _ _ _ _ _ _ _
   | exact ih7 _ _ _ _ _ _ _ _ _
   | exact ih8 _ _ _ _ _ _ _ _
   | exact ih9 _ _ _
   | exact impl_Cut.mono _ _ _ _
   | exact laws_eqBoolS.mono _ _ _
   | exact laws_eqDevice.mono _ _ _ _ _
   | exact laws_heldDevice.mono _ _ _ _
   | exact laws_markBoolS.mono _ _ _
   | exact laws_markDevice.mono _ _ _ _
   | exact laws_szDevice.mono _ _ _ _
   | exact laws_toBoolS.mono _ _
   | exact laws_toDevice.mono _ _ _
   | exact spec_Cut.mono _ _ _ _
   | exact LeO.none _
   | refine LeO.ite ?_ ?_
   | refine LeO.bind ?_ (fun _ => ?_)
  ·intro y0 y1 y2 y3 y4 y5 y6 y7
   unfold laws_FnExactCut.j8
   repeat' first
   | (with_reducible exact ih0 _ _ _)
   | (with_reducible exact ih1 _ _ _)
   | (with_reducible exact ih2 _ _ _ _ _ _ _ _ _ _)
   | (with_reducible exact ih3 _ _ _ _ _ _ _ _ _ _)
   | (with_reducible exact ih4 _ _ _ _ _ _ _ _ _ _)
   | (with_reducible exact ih5 _ _ _ _ _ _ _ _)
   | (with_reducible exact ih6 _ _ _ _ _ _ _)
   | (with_reducible exact ih7 _ _ _ _ _ _ _ _ _)
   | (with_reducible exact ih8 _ _ _ _ _ _ _ _)
   | (with_reducible exact ih9 _ _ _)
   | (with_reducible exact impl_Cut.mono _ _ _ _)
   | (with_reducible exact laws_eqBoolS.mono _ _ _)
   | (with_reducible exact laws_eqDevice.mono _ _ _ _ _)
   | (with_reducible exact laws_heldDevice.mono _ _ _ _)
   | (with_reducible exact laws_markBoolS.mono _ _ _)
   | (with_reducible exact laws_markDevice.mono _ _ _ _)
   | (with_reducible exact laws_szDevice.mono _ _ _ _)
   | (with_reducible exact laws_toBoolS.mono _ _)
   | (with_reducible exact laws_toDevice.mono _ _ _)
   | (with_reducible exact spec_Cut.mono _ _ _ _)
   | (with_reducible exact LeO.refl _)
   | (with_reducible exact LeO.none _)
   | (with_reducible refine LeO.ite ?_ ?_)
   | (with_reducible refine LeO.bind ?_ (fun _ => ?_))
   | exact ih0 _ _ _
   | exact ih1 _ _ _
   | exact ih2 _ _ _ _ _ _ _ _ _ _
   | exact ih3 _ _ _ _ _ _ _ _ _ _
   | exact ih4 _ _ _ _ _ _ _ _ _ _
   | exact ih5 _ _ _ _ _ _ _ _
   | exact ih6 _ _ _ _ _ _ _
   | exact ih7 _ _ _ _ _ _ _ _ _
   | exact ih8 _ _ _ _ _ _ _ _
   | exact ih9 _ _ _
   | exact impl_Cut.mono _ _ _ _
   | exact laws_eqBoolS.mono _ _ _
   | exact laws_eqDevice.mono _ _ _ _ _
   | exact laws_heldDevice.mono _ _ _ _
   | exact laws_markBoolS.mono _ _ _
   | exact laws_markDevice.mono _ _ _ _
   | exact laws_szDevice.mono _ _ _ _
   | exact laws_toBoolS.mono _ _
   | exact laws_toDevice.mono _ _ _
   | exact spec_Cut.mono _ _ _ _
   | exact LeO.none _
   | refine LeO.ite ?_ ?_
   | refine LeO.bind ?_ (fun _ => ?_)
  ·intro y0 y1 y2
   unfold laws_FnExactCut.j9
   repeat' first
   | (with_reducible exact ih0 _ _ _)
   | (with_reducible exact ih1 _ _ _)
   | (with_reducible exact ih2 _ _ _ _ _ _ _ _ _ _)
   | (with_reducible exact ih3 _ _ _ _ _ _ _ _ _ _)
   | (with_reducible exact ih4 _ _ _ _ _ _ _ _ _ _)
   | (with_reducible exact ih5 _ _ _ _ _ _ _ _)
   | (with_reducible exact ih6 _ _ _ _ _ _ _)
   | (with_reducible exact ih7 _ _ _ _ _ _ _ _ _)
   | (with_reducible exact ih8 _ _ _ _ _ _ _ _)
   | (with_reducible exact ih9 _ _ _)
   | (with_reducible exact impl_Cut.mono _ _ _ _)
   | (with_reducible exact laws_eqBoolS.mono _ _ _)
   | (with_reducible exact laws_eqDevice.mono _ _ _ _ _)
   | (with_reducible exact laws_heldDevice.mono _ _ _ _)
   | (with_reducible exact laws_markBoolS.mono _ _ _)
   | (with_reducible exact laws_markDevice.mono _ _ _ _)
   | (with_reducible exact laws_szDevice.mono _ _ _ _)
   | (with_reducible exact laws_toBoolS.mono _ _)
   | (with_reducible exact laws_toDevice.mono _ _ _)
   | (with_reducible exact spec_Cut.mono _ _ _ _)
   | (with_reducible exact LeO.refl _)
   | (with_reducible exact LeO.none _)
   | (with_reducible refine LeO.ite ?_ ?_)
   | (with_reducible refine LeO.bind ?_ (fun _ => ?_))
   | exact ih0 _ _ _
   | exact ih1 _ _ _
   | exact ih2 _ _ _ _ _ _ _ _ _ _
   | exact ih3 _ _ _ _ _ _ _ _ _ _
   | exact ih4 _ _ _ _ _ _ _ _ _ _
   | exact ih5 _ _ _ _ _ _ _ _
   | exact ih6 _ _ _ _ _ _ _
   | exact ih7 _ _ _ _ _ _ _ _ _
   | exact ih8 _ _ _ _ _ _ _ _
   | exact ih9 _ _ _
   | exact impl_Cut.mono _ _ _ _
   | exact laws_eqBoolS.mono _ _ _
   | exact laws_eqDevice.mono _ _ _ _ _
   | exact laws_heldDevice.mono _ _ _ _
   | exact laws_markBoolS.mono _ _ _
   | exact laws_markDevice.mono _ _ _ _
   | exact laws_szDevice.mono _ _ _ _
   | exact laws_toBoolS.mono _ _
   | exact laws_toDevice.mono _ _ _
   | exact spec_Cut.mono _ _ _ _
   | exact LeO.none _
   | refine LeO.ite ?_ ?_
   | refine LeO.bind ?_ (fun _ => ?_)
theorem laws_FnExactCut.mono : ∀ a0 a1 a2 k, LeO (laws_FnExactCut.f k a0 a1 a2) (laws_FnExactCut.f (k + 1) a0 a1 a2) := by
 intro a0 a1 a2 k
 obtain ⟨ih0, ih1, ih2, ih3, ih4, ih5, ih6, ih7, ih8, ih9⟩ := laws_FnExactCut.mono_l k
 unfold laws_FnExactCut.f
 repeat' first
   | (with_reducible exact ih0 _ _ _)
   | (with_reducible exact ih1 _ _ _)
   | (with_reducible exact ih2 _ _ _ _ _ _ _ _ _ _)
   | (with_reducible exact ih3 _ _ _ _ _ _ _ _ _ _)
   | (with_reducible exact ih4 _ _ _ _ _ _ _ _ _ _)
   | (with_reducible exact ih5 _ _ _ _ _ _ _ _)
   | (with_reducible exact ih6 _ _ _ _ _ _ _)
   | (with_reducible exact ih7 _ _ _ _ _ _ _ _ _)
   | (with_reducible exact ih8 _ _ _ _ _ _ _ _)
   | (with_reducible exact ih9 _ _ _)
   | (with_reducible exact impl_Cut.mono _ _ _ _)
   | (with_reducible exact laws_eqBoolS.mono _ _ _)
   | (with_reducible exact laws_eqDevice.mono _ _ _ _ _)
   | (with_reducible exact laws_heldDevice.mono _ _ _ _)
   | (with_reducible exact laws_markBoolS.mono _ _ _)
   | (with_reducible exact laws_markDevice.mono _ _ _ _)
   | (with_reducible exact laws_szDevice.mono _ _ _ _)
   | (with_reducible exact laws_toBoolS.mono _ _)
   | (with_reducible exact laws_toDevice.mono _ _ _)
   | (with_reducible exact spec_Cut.mono _ _ _ _)
   | (with_reducible exact LeO.refl _)
   | (with_reducible exact LeO.none _)
   | (with_reducible refine LeO.ite ?_ ?_)
   | (with_reducible refine LeO.bind ?_ (fun _ => ?_))
   | exact ih0 _ _ _
   | exact ih1 _ _ _
   | exact ih2 _ _ _ _ _ _ _ _ _ _
   | exact ih3 _ _ _ _ _ _ _ _ _ _
   | exact ih4 _ _ _ _ _ _ _ _ _ _
   | exact ih5 _ _ _ _ _ _ _ _
   | exact ih6 _ _ _ _ _ _ _
   | exact ih7 _ _ _ _ _ _ _ _ _
   | exact ih8 _ _ _ _ _ _ _ _
   | exact ih9 _ _ _
   | exact impl_Cut.mono _ _ _ _
   | exact laws_eqBoolS.mono _ _ _
   | exact laws_eqDevice.mono _ _ _ _ _
   | exact laws_heldDevice.mono _ _ _ _
   | exact laws_markBoolS.mono _ _ _
   | exact laws_markDevice.mono _ _ _ _
   | exact laws_szDevice.mono _ _ _ _
   | exact laws_toBoolS.mono _ _
   | exact laws_toDevice.mono _ _ _
   | exact spec_Cut.mono _ _ _ _
   | exact LeO.none _
   | refine LeO.ite ?_ ?_
   | refine LeO.bind ?_ (fun _ => ?_)
set_option maxHeartbeats 8000000 in
set_option maxRecDepth 100000 in
theorem laws_FnExactCut.calls (k : Nat) (A0_0 : Option Addr) (c0_0 : Nat) (l0_0 : List ByteArray) (A0_1 : Option Addr) (c0_1 : Nat) (l0_1 : List (S100)) (A1 : Option Addr) (c1 : Nat) (l1 : List Bool) (r : Bool) (w : World) (hr0_0 : Kd.C Kd.string w A0_0 l0_0.length l0_0) (hc0_0 : l0_0.length ≤ c0_0) (hr0_1 : Kd.C k100 w A0_1 l0_1.length l0_1) (hc0_1 : l0_1.length ≤ c0_1) (hr1 : Kd.C Kd.bool w A1 l1.length l1) (hc1 : l1.length ≤ c1) (h : laws_FnExactCut.f k l0_0 l0_1 l1 = some r) :
  Calls Try.prog 7 #[.agg #[.slice A0_0 l0_0.length c0_0, .slice A0_1 l0_1.length c0_1], .slice A1 l1.length c1] w fun e w' => e = .returned (.bool r) ∧ Below w.heap.size w w' := by
 have hu33 := Try.underlying33
 have hu25 := Try.underlying25
 have HR0_0 := Aside0.mk hr0_0
 have HC0_0 := Aside0.mk hc0_0
 clear hr0_0 hc0_0
 have HR0_1 := Aside0.mk hr0_1
 have HC0_1 := Aside0.mk hc0_1
 clear hr0_1 hc0_1
 have HR1 := Aside0.mk hr1
 have HC1 := Aside0.mk hc1
 clear hr1 hc1
 have HB := Aside0.mk (Below.refl w.heap.size w)
 have H : (if (l1.length : Int) > 1048576 then (some true) else (laws_FnExactCut.j0 k l1 l0_0 l0_1)) = some r := h
 clear h
 have HC3 := Aside0.mk H
 clear H
 go_enter Try.func7, Try.ntmps7
 go_upto_if 16 with (first | ((with_reducible refine gate_dst (N := 2) rfl ?_); refine box_event ?hg (N := 2) ?hd (cs := #[.slice A0_0 l0_0.length c0_0, .slice A0_1 l0_1.length c0_1]) (t := 33) ?hr ?_; (case hd => rfl); (case hg => rfl); (case hr => first | (go_simp; done) | (go_simp; rfl)); intro gb197 hg w4 hbox hb; have n0_ := Aside0.mk (below_step (by repeat (first | (with_reducible first | exact HB.out | apply below_alloc | apply pw_below_drewN | apply below_drew1) | exact HB.out)) hb); have n1_ := Aside0.mk (hbox); have n2_ := Aside0.mk ((by rw [hg]; exact (below_size (by repeat (first | (with_reducible first | exact HB.out | apply below_alloc | apply pw_below_drewN | apply below_drew1) | exact HB.out))) : w.heap.size ≤ gb197)); have n3_ := Aside0.mk ((by rw [hg]; exact (below_size (by repeat (first | (with_reducible first | exact HB.out | apply below_alloc | apply pw_below_drewN | apply below_drew1) | exact HB.out))) : w.heap.size ≤ gb197)); clear HB; have HB := n0_; have BK197 := n1_; have GW197 := n2_; have GE197 := n3_; clear n0_ n1_ n2_ n3_; clear hb hbox hg))
 (try simp only [Act.put, List.setIfInBounds_toArray, List.set_cons_zero, List.set_cons_succ])
 go_cut [] (fun wc => ∃ (kq : Nat), Aside0 (laws_FnExactCut.j0 kq l1 l0_0 l0_1 = some r) ∧ Aside0 (kq ≤ k) ∧ Aside0 (wc.heap[gb197]? = some (.cells #[(.slice A0_0 l0_0.length c0_0), (.slice A0_1 l0_1.length c0_1)] 33 (0, 0))) ∧ Aside0 (Below w.heap.size w wc))
 case first =>
  have H := HC3.out
  clear HC3
  by_cases c5 : (l1.length : Int) > 1048576
  ·rw [if_pos c5] at H
   have c5b0 : decide (1048576 < (l1.length : Int)) = true := decide_eq_true c5
   have c5b1 : decide (1048576 < l1.length) = true := decide_eq_true (by omega)
   clear c5
   (first | rw [c5b0] | (simp only [i64_w, i32_w]; rw [c5b0]) | skip)
   obtain rfl := Option.some.inj H
   go_wp2
   go_ret
   exact ⟨by first | rfl | (simp [errW_none, errW_some] <;> rfl) | (simp [*, errW_none, errW_some] <;> rfl), by repeat (first | (with_reducible first | exact HB.out | apply below_alloc | apply pw_below_drewN | apply below_drew1 | refine below_set ?_ GE197.out) | exact HB.out)⟩
  ·rw [if_neg c5] at H
   have c5b0 : decide (1048576 < (l1.length : Int)) = false := decide_eq_false c5
   have c5b1 : decide (1048576 < l1.length) = false := decide_eq_false (by omega)
   clear c5
   (first | rw [c5b0] | (simp only [i64_w, i32_w]; rw [c5b0]) | skip)
   have H' := Aside0.mk H
   clear H
   go_wp2
   go_meet
   case rel => exact ⟨_, H', ⟨by first | omega | exact Nat.le_refl _⟩, ⟨by (with_reducible repeat (first | refine blk_drewN ?_ _ | refine blk_drew ?_ | refine blk_alloc ?_ _)); exact BK197.out⟩, ⟨by repeat (first | (with_reducible first | exact HB.out | apply below_alloc | apply pw_below_drewN | apply below_drew1 | refine below_set ?_ GE197.out) | exact HB.out)⟩⟩
 case rest =>
  clear HC3
  try clear c1
  try clear p2
  try clear c5
  try clear c5b0
  try clear c5b1
  obtain ⟨kq, HA, HJ2, BK197, HB⟩ := hcut
  cases kq with
  | zero => exact absurd HA.out (by simp [laws_FnExactCut.j0])
  | succ kj2 =>
   have H := HA.out
   clear HA
   simp only [laws_FnExactCut.j0] at H
   replace H := Option.bind_eq_some_iff.mp H
   obtain ⟨t198, A60, H⟩ := H
   replace H : (if t198 < 0 then (some true) else (laws_FnExactCut.j1 kj2 l1 l0_0 l0_1)) = some r := H
   have A6 := Aside0.mk A60
   clear A60
   have HC7 := Aside0.mk H
   clear H
   have hcz8_0 : wc.cell? ⟨gb197, 0, none⟩ = some (.slice A0_0 l0_0.length c0_0) := (blk_cell BK197.out 0).trans rfl
   have hcz8_1 : wc.cell? ⟨gb197, 1, none⟩ = some (.slice A0_1 l0_1.length c0_1) := (blk_cell BK197.out 1).trans rfl
   have hfz8_0 := blk_frozen BK197.out 0
   have hfz8_1 := blk_frozen BK197.out 1
   go_upto_if 21 with (first | ((with_reducible refine gate_callee (f := 16) rfl ?_); refine goesL_ (some 19) rfl rfl Try.func16 (by kernel_rfl) rfl #[.agg #[.slice A0_0 l0_0.length c0_0, .slice A0_1 l0_1.length c0_1], .int .i64 1048576] rfl (by (try simp only [List.map_toArray, List.map_cons, List.map_nil]); first | done | rfl | (simp only [List.length_drop, List.length_take]; rfl)) ?_; (with_reducible refine (laws_szDevice.calls kj2 _ _ l0_0 _ _ l0_1 1048576 t198 _ ?side1 ?side2 ?side3 ?side4 A6.out).mono ?_); (case side1 => repeat (first | exact (Kd.C_below HR0_0.out HB.out) | (with_reducible refine Kd.C_alloc ?_ _) | (with_reducible refine Kd.C_drewN ?_ _) | (with_reducible refine Kd.C_drew ?_))); (case side2 => exact HC0_0.out); (case side3 => repeat (first | exact (Kd.C_below HR0_1.out HB.out) | (with_reducible refine Kd.C_alloc ?_ _) | (with_reducible refine Kd.C_drewN ?_ _) | (with_reducible refine Kd.C_drew ?_))); (case side4 => exact HC0_1.out); rintro e w9 ⟨rfl, hb⟩; refine ⟨_, rfl, ?_⟩; have n0_ := Aside0.mk (blk_below (g := gb197) (o := .cells #[.slice A0_0 l0_0.length c0_0, .slice A0_1 l0_1.length c0_1] 33 (0, 0)) (by (with_reducible repeat (first | refine blk_drewN ?_ _ | refine blk_drew ?_ | refine blk_alloc ?_ _)); exact BK197.out) hb); have n1_ := Aside0.mk (below_step (by repeat (first | (with_reducible first | exact HB.out | apply below_alloc | apply pw_below_drewN | apply below_drew1 | refine below_set ?_ GE197.out) | exact HB.out)) hb); clear BK197; clear HB; have BK197 := n0_; have HB := n1_; clear n0_ n1_; (try clear hb); (try clear hb2); (try clear hk); (try clear hi)))
   (try simp only [Act.put, List.setIfInBounds_toArray, List.set_cons_zero, List.set_cons_succ])
   go_cut [] (fun wc => ∃ (kq : Nat), Aside0 (laws_FnExactCut.j1 kq l1 l0_0 l0_1 = some r) ∧ Aside0 (kq ≤ kj2) ∧ Aside0 (wc.heap[gb197]? = some (.cells #[(.slice A0_0 l0_0.length c0_0), (.slice A0_1 l0_1.length c0_1)] 33 (0, 0))) ∧ Aside0 (Below w.heap.size w wc))
   case first =>
    have H := HC7.out
    clear HC7
    by_cases c10 : t198 < 0
    ·rw [if_pos c10] at H
     have c10b0 : decide (t198 < 0) = true := decide_eq_true c10
     clear c10
     (first | rw [c10b0] | (simp only [i64_w, i32_w]; rw [c10b0]) | skip)
     obtain rfl := Option.some.inj H
     go_wp2
     go_ret
     exact ⟨by first | rfl | (simp [errW_none, errW_some] <;> rfl) | (simp [*, errW_none, errW_some] <;> rfl), by repeat (first | (with_reducible first | exact HB.out | apply below_alloc | apply pw_below_drewN | apply below_drew1 | refine below_set ?_ GE197.out) | exact HB.out)⟩
    ·rw [if_neg c10] at H
     have c10b0 : decide (t198 < 0) = false := decide_eq_false c10
     clear c10
     (first | rw [c10b0] | (simp only [i64_w, i32_w]; rw [c10b0]) | skip)
     have H' := Aside0.mk H
     clear H
     go_wp2
     go_meet
     case rel => exact ⟨_, H', ⟨by have := HJ2.out; first | omega | exact Nat.le_refl _⟩, ⟨by (with_reducible repeat (first | refine blk_drewN ?_ _ | refine blk_drew ?_ | refine blk_alloc ?_ _)); exact BK197.out⟩, ⟨by repeat (first | (with_reducible first | exact HB.out | apply below_alloc | apply pw_below_drewN | apply below_drew1 | refine below_set ?_ GE197.out) | exact HB.out)⟩⟩
   case rest =>
    clear HC7
    try clear c1
    try clear p2
    try clear c5
    try clear c5b0
    try clear c5b1
    try clear c7
    try clear c10
    try clear c10b0
    try clear hcz8_0
    try clear hcz8_1
    try clear hfz8_0
    try clear hfz8_1
    try clear p2
    obtain ⟨kq, HA, HJ6, BK197, HB⟩ := hcut
    cases kq with
    | zero => exact absurd HA.out (by simp [laws_FnExactCut.j1])
    | succ kj6 =>
     have H := HA.out
     clear HA
     simp only [laws_FnExactCut.j1] at H
     replace H := Option.bind_eq_some_iff.mp H
     obtain ⟨⟨t199, t202⟩, A110, H⟩ := H
     replace H : ((laws_toBoolS.f kj6 l1).bind fun t205 => ((spec_Cut.f kj6 t199 t202 t205).bind fun bt208 => ((laws_toDevice.f kj6 l0_0 l0_1).bind fun bt215 => ((laws_toBoolS.f kj6 l1).bind fun t222 => ((impl_Cut.f kj6 bt215.1 bt215.2 t222).bind fun bt225 => ((laws_eqDevice.f kj6 bt225.1 bt225.2 bt208.1 bt208.2).bind fun t232 => (if t232 = true then (laws_FnExactCut.j2 kj6 l1 t222 l0_0 l0_1 bt208.1 bt208.2 bt215.1 bt215.2 bt225.1 bt225.2) else (some false)))))))) = some r := H
     have A11 := Aside0.mk A110
     clear A110
     replace H := Option.bind_eq_some_iff.mp H
     obtain ⟨t205, A120, H⟩ := H
     replace H : ((spec_Cut.f kj6 t199 t202 t205).bind fun bt208 => ((laws_toDevice.f kj6 l0_0 l0_1).bind fun bt215 => ((laws_toBoolS.f kj6 l1).bind fun t222 => ((impl_Cut.f kj6 bt215.1 bt215.2 t222).bind fun bt225 => ((laws_eqDevice.f kj6 bt225.1 bt225.2 bt208.1 bt208.2).bind fun t232 => (if t232 = true then (laws_FnExactCut.j2 kj6 l1 t222 l0_0 l0_1 bt208.1 bt208.2 bt215.1 bt215.2 bt225.1 bt225.2) else (some false))))))) = some r := H
     have A12 := Aside0.mk A120
     clear A120
     replace H := Option.bind_eq_some_iff.mp H
     obtain ⟨⟨t208, t211⟩, A130, H⟩ := H
     replace H : ((laws_toDevice.f kj6 l0_0 l0_1).bind fun bt215 => ((laws_toBoolS.f kj6 l1).bind fun t222 => ((impl_Cut.f kj6 bt215.1 bt215.2 t222).bind fun bt225 => ((laws_eqDevice.f kj6 bt225.1 bt225.2 t208 t211).bind fun t232 => (if t232 = true then (laws_FnExactCut.j2 kj6 l1 t222 l0_0 l0_1 t208 t211 bt215.1 bt215.2 bt225.1 bt225.2) else (some false)))))) = some r := H
     have A13 := Aside0.mk A130
     clear A130
     replace H := Option.bind_eq_some_iff.mp H
     obtain ⟨⟨t215, t218⟩, A140, H⟩ := H
     replace H : ((laws_toBoolS.f kj6 l1).bind fun t222 => ((impl_Cut.f kj6 t215 t218 t222).bind fun bt225 => ((laws_eqDevice.f kj6 bt225.1 bt225.2 t208 t211).bind fun t232 => (if t232 = true then (laws_FnExactCut.j2 kj6 l1 t222 l0_0 l0_1 t208 t211 t215 t218 bt225.1 bt225.2) else (some false))))) = some r := H
     have A14 := Aside0.mk A140
     clear A140
     replace H := Option.bind_eq_some_iff.mp H
     obtain ⟨t222, A150, H⟩ := H
     replace H : ((impl_Cut.f kj6 t215 t218 t222).bind fun bt225 => ((laws_eqDevice.f kj6 bt225.1 bt225.2 t208 t211).bind fun t232 => (if t232 = true then (laws_FnExactCut.j2 kj6 l1 t222 l0_0 l0_1 t208 t211 t215 t218 bt225.1 bt225.2) else (some false)))) = some r := H
     have A15 := Aside0.mk A150
     clear A150
     replace H := Option.bind_eq_some_iff.mp H
     obtain ⟨⟨t225, t228⟩, A160, H⟩ := H
     replace H : ((laws_eqDevice.f kj6 t225 t228 t208 t211).bind fun t232 => (if t232 = true then (laws_FnExactCut.j2 kj6 l1 t222 l0_0 l0_1 t208 t211 t215 t218 t225 t228) else (some false))) = some r := H
     have A16 := Aside0.mk A160
     clear A160
     replace H := Option.bind_eq_some_iff.mp H
     obtain ⟨t232, A170, H⟩ := H
     replace H : (if t232 = true then (laws_FnExactCut.j2 kj6 l1 t222 l0_0 l0_1 t208 t211 t215 t218 t225 t228) else (some false)) = some r := H
     have A17 := Aside0.mk A170
     clear A170
     have HC18 := Aside0.mk H
     clear H
     have hcz19_0 : wc.cell? ⟨gb197, 0, none⟩ = some (.slice A0_0 l0_0.length c0_0) := (blk_cell BK197.out 0).trans rfl
     have hcz19_1 : wc.cell? ⟨gb197, 1, none⟩ = some (.slice A0_1 l0_1.length c0_1) := (blk_cell BK197.out 1).trans rfl
     have hfz19_0 := blk_frozen BK197.out 0
     have hfz19_1 := blk_frozen BK197.out 1
     go_upto_if 37 with (first | ((with_reducible refine gate_callee (f := 18) rfl ?_); refine goesL_ (some 23) rfl rfl Try.func18 (by kernel_rfl) rfl #[.agg #[.slice A0_0 l0_0.length c0_0, .slice A0_1 l0_1.length c0_1]] rfl (by (try simp only [List.map_toArray, List.map_cons, List.map_nil]); first | done | rfl | (simp only [List.length_drop, List.length_take]; rfl)) ?_; (with_reducible refine (laws_toDevice.calls kj6 _ _ l0_0 _ _ l0_1 t199 t202 _ ?side1 ?side2 ?side3 ?side4 A11.out).mono ?_); (case side1 => repeat (first | exact (Kd.C_below HR0_0.out HB.out) | (with_reducible refine Kd.C_alloc ?_ _) | (with_reducible refine Kd.C_drewN ?_ _) | (with_reducible refine Kd.C_drew ?_))); (case side2 => exact HC0_0.out); (case side3 => repeat (first | exact (Kd.C_below HR0_1.out HB.out) | (with_reducible refine Kd.C_alloc ?_ _) | (with_reducible refine Kd.C_drewN ?_ _) | (with_reducible refine Kd.C_drew ?_))); (case side4 => exact HC0_1.out); rintro e w20 ⟨v200, v203, rfl, ho0, ho1, hb⟩; refine ⟨_, rfl, ?_⟩; have n0_ := Aside0.mk (Kd.R_lower ho0 (below_size (by repeat (first | (with_reducible first | exact HB.out | apply below_alloc | apply pw_below_drewN | apply below_drew1 | refine below_set ?_ GE197.out) | exact HB.out)))); have n1_ := Aside0.mk (Kd.R_lower ho1 (below_size (by repeat (first | (with_reducible first | exact HB.out | apply below_alloc | apply pw_below_drewN | apply below_drew1 | refine below_set ?_ GE197.out) | exact HB.out)))); have n2_ := Aside0.mk (blk_below (g := gb197) (o := .cells #[.slice A0_0 l0_0.length c0_0, .slice A0_1 l0_1.length c0_1] 33 (0, 0)) (by (with_reducible repeat (first | refine blk_drewN ?_ _ | refine blk_drew ?_ | refine blk_alloc ?_ _)); exact BK197.out) hb); have n3_ := Aside0.mk (below_step (by repeat (first | (with_reducible first | exact HB.out | apply below_alloc | apply pw_below_drewN | apply below_drew1 | refine below_set ?_ GE197.out) | exact HB.out)) hb); clear BK197; clear HB; have HO201 := n0_; have HO204 := n1_; have BK197 := n2_; have HB := n3_; clear n0_ n1_ n2_ n3_; (try clear hb); (try clear hb2); (try clear hk); (try clear hi); (try clear ho0); (try clear ho1)) | ((with_reducible refine gate_callee (f := 25) rfl ?_); refine goesL_ (some 25) rfl rfl Try.func25 (by kernel_rfl) rfl #[.slice A1 l1.length c1] rfl (by (try simp only [List.map_toArray, List.map_cons, List.map_nil]); first | done | rfl | (simp only [List.length_drop, List.length_take]; rfl)) ?_; (with_reducible refine (laws_toBoolS.calls kj6 _ _ l1 t205 _ ?side1 ?side2 A12.out).mono ?_); (case side1 => repeat (first | exact (Kd.C_below HR1.out HB.out) | (with_reducible refine Kd.C_alloc ?_ _) | (with_reducible refine Kd.C_drewN ?_ _) | (with_reducible refine Kd.C_drew ?_))); (case side2 => exact HC1.out); rintro e w21 ⟨v206, rfl, ho0, hb⟩; refine ⟨_, rfl, ?_⟩; have n0_ := Aside0.mk (Kd.R_below (by (with_reducible repeat (first | apply Kd.R_alloc | apply Kd.R_drewN | apply Kd.R_drew)); exact HO201.out) hb); have n1_ := Aside0.mk (Kd.R_below (by (with_reducible repeat (first | apply Kd.R_alloc | apply Kd.R_drewN | apply Kd.R_drew)); exact HO204.out) hb); have n2_ := Aside0.mk (Kd.R_lower ho0 (below_size (by repeat (first | (with_reducible first | exact HB.out | apply below_alloc | apply pw_below_drewN | apply below_drew1 | refine below_set ?_ GE197.out) | exact HB.out)))); have n3_ := Aside0.mk (blk_below (g := gb197) (o := .cells #[.slice A0_0 l0_0.length c0_0, .slice A0_1 l0_1.length c0_1] 33 (0, 0)) (by (with_reducible repeat (first | refine blk_drewN ?_ _ | refine blk_drew ?_ | refine blk_alloc ?_ _)); exact BK197.out) hb); have n4_ := Aside0.mk (below_step (by repeat (first | (with_reducible first | exact HB.out | apply below_alloc | apply pw_below_drewN | apply below_drew1 | refine below_set ?_ GE197.out) | exact HB.out)) hb); clear HO201; clear HO204; clear BK197; clear HB; have HO201 := n0_; have HO204 := n1_; have HO207 := n2_; have BK197 := n3_; have HB := n4_; clear n0_ n1_ n2_ n3_ n4_; (try clear hb); (try clear hb2); (try clear hk); (try clear hi); (try clear ho0); obtain ⟨Ao22, co22, eo22⟩ := Kd.R_slice HO201.out; subst eo22; obtain ⟨Ao23, co23, eo23⟩ := Kd.R_slice HO204.out; subst eo23; obtain ⟨Ao24, co24, eo24⟩ := Kd.R_slice HO207.out; subst eo24) | ((with_reducible refine gate_callee (f := 24) rfl ?_); refine goesL_ (some 26) rfl rfl Try.func24 (by kernel_rfl) rfl #[.agg #[.slice Ao22 t199.length co22, .slice Ao23 t202.length co23], .slice Ao24 t205.length co24] rfl (by (try simp only [List.map_toArray, List.map_cons, List.map_nil]); first | done | rfl | (simp only [List.length_drop, List.length_take]; rfl)) ?_; (with_reducible refine (spec_Cut.calls kj6 _ _ t199 _ _ t202 _ _ t205 t208 t211 _ ?side1 ?side2 ?side3 ?side4 ?side5 ?side6 A13.out).mono ?_); (case side1 => repeat (first | exact (Kd.R_reads' HO201.out).2.2 | (with_reducible refine Kd.C_alloc ?_ _) | (with_reducible refine Kd.C_drewN ?_ _) | (with_reducible refine Kd.C_drew ?_))); (case side2 => exact (Kd.R_reads' HO201.out).2.1); (case side3 => repeat (first | exact (Kd.R_reads' HO204.out).2.2 | (with_reducible refine Kd.C_alloc ?_ _) | (with_reducible refine Kd.C_drewN ?_ _) | (with_reducible refine Kd.C_drew ?_))); (case side4 => exact (Kd.R_reads' HO204.out).2.1); (case side5 => repeat (first | exact (Kd.R_reads' HO207.out).2.2 | (with_reducible refine Kd.C_alloc ?_ _) | (with_reducible refine Kd.C_drewN ?_ _) | (with_reducible refine Kd.C_drew ?_))); (case side6 => exact (Kd.R_reads' HO207.out).2.1); rintro e w25 ⟨v209, v212, rfl, ho0, ho1, hb⟩; refine ⟨_, rfl, ?_⟩; have n0_ := Aside0.mk (Kd.R_elder' (by (with_reducible repeat (first | apply Kd.R_alloc | apply Kd.R_drewN | apply Kd.R_drew)); exact HO201.out) (Kd.R_base ho0) hb); have n1_ := Aside0.mk (Kd.R_elder' (by (with_reducible repeat (first | apply Kd.R_alloc | apply Kd.R_drewN | apply Kd.R_drew)); exact HO204.out) (Kd.R_base ho1) hb); have n2_ := Aside0.mk (Kd.R_below (by (with_reducible repeat (first | apply Kd.R_alloc | apply Kd.R_drewN | apply Kd.R_drew)); exact HO207.out) hb); have n3_ := Aside0.mk (Kd.R_lower (Kd.R_new' ho0 (Kd.R_lt (by (with_reducible repeat (first | apply Kd.R_alloc | apply Kd.R_drewN | apply Kd.R_drew)); exact HO201.out))) (below_size (by repeat (first | (with_reducible first | exact HB.out | apply below_alloc | apply pw_below_drewN | apply below_drew1 | refine below_set ?_ GE197.out) | exact HB.out)))); have n4_ := Aside0.mk (Kd.R_lower (Kd.R_new' ho1 (Kd.R_lt (by (with_reducible repeat (first | apply Kd.R_alloc | apply Kd.R_drewN | apply Kd.R_drew)); exact HO204.out))) (below_size (by repeat (first | (with_reducible first | exact HB.out | apply below_alloc | apply pw_below_drewN | apply below_drew1 | refine below_set ?_ GE197.out) | exact HB.out)))); have n5_ := Aside0.mk (blk_below (g := gb197) (o := .cells #[.slice A0_0 l0_0.length c0_0, .slice A0_1 l0_1.length c0_1] 33 (0, 0)) (by (with_reducible repeat (first | refine blk_drewN ?_ _ | refine blk_drew ?_ | refine blk_alloc ?_ _)); exact BK197.out) hb); have n6_ := Aside0.mk (below_step (by repeat (first | (with_reducible first | exact HB.out | apply below_alloc | apply pw_below_drewN | apply below_drew1 | refine below_set ?_ GE197.out) | exact HB.out)) hb); clear HO201; clear HO204; clear HO207; clear BK197; clear HB; have HO201 := n0_; have HO204 := n1_; have HO207 := n2_; have HO210 := n3_; have HO213 := n4_; have BK197 := n5_; have HB := n6_; clear n0_ n1_ n2_ n3_ n4_ n5_ n6_; (try clear hb); (try clear hb2); (try clear hk); (try clear hi); (try clear ho0); (try clear ho1)) | ((with_reducible refine gate_dst (N := 6) rfl ?_); refine box_event ?hg (N := 6) ?hd (cs := #[.slice none 0 0, .slice none 0 0]) (t := 25) ?hr ?_; (case hd => rfl); (case hg => rfl); (case hr => first | (go_simp; done) | (go_simp; rfl)); intro gb214 hg w26 hbox hb; have n0_ := Aside0.mk (Kd.R_below (by (with_reducible repeat (first | apply Kd.R_alloc | apply Kd.R_drewN | apply Kd.R_drew)); exact HO201.out) hb); have n1_ := Aside0.mk (Kd.R_below (by (with_reducible repeat (first | apply Kd.R_alloc | apply Kd.R_drewN | apply Kd.R_drew)); exact HO204.out) hb); have n2_ := Aside0.mk (Kd.R_below (by (with_reducible repeat (first | apply Kd.R_alloc | apply Kd.R_drewN | apply Kd.R_drew)); exact HO207.out) hb); have n3_ := Aside0.mk (Kd.R_below (by (with_reducible repeat (first | apply Kd.R_alloc | apply Kd.R_drewN | apply Kd.R_drew)); exact HO210.out) hb); have n4_ := Aside0.mk (Kd.R_below (by (with_reducible repeat (first | apply Kd.R_alloc | apply Kd.R_drewN | apply Kd.R_drew)); exact HO213.out) hb); have n5_ := Aside0.mk (blk_below (g := gb197) (o := .cells #[.slice A0_0 l0_0.length c0_0, .slice A0_1 l0_1.length c0_1] 33 (0, 0)) (by (with_reducible repeat (first | refine blk_drewN ?_ _ | refine blk_drew ?_ | refine blk_alloc ?_ _)); exact BK197.out) hb); have n6_ := Aside0.mk (below_step (by repeat (first | (with_reducible first | exact HB.out | apply below_alloc | apply pw_below_drewN | apply below_drew1 | refine below_set ?_ GE197.out) | exact HB.out)) hb); have n7_ := Aside0.mk (hbox); have n8_ := Aside0.mk ((by rw [hg]; exact (below_size (by repeat (first | (with_reducible first | exact HB.out | apply below_alloc | apply pw_below_drewN | apply below_drew1 | refine below_set ?_ GE197.out) | exact HB.out))) : w.heap.size ≤ gb214)); have n9_ := Aside0.mk ((by rw [hg]; exact (below_size (by repeat (first | (with_reducible first | exact HB.out | apply below_alloc | apply pw_below_drewN | apply below_drew1 | refine below_set ?_ GE197.out) | exact HB.out))) : w.heap.size ≤ gb214)); have n10_ := Aside0.mk ((by rw [hg]; exact Nat.ne_of_lt (blk_lt (g := gb197) (o := .cells #[.slice A0_0 l0_0.length c0_0, .slice A0_1 l0_1.length c0_1] 33 (0, 0)) (by (with_reducible repeat (first | refine blk_drewN ?_ _ | refine blk_drew ?_ | refine blk_alloc ?_ _)); exact BK197.out)) : gb197 ≠ gb214)); have n11_ := Aside0.mk ((by rw [hg]; exact Nat.ne_of_gt (blk_lt (g := gb197) (o := .cells #[.slice A0_0 l0_0.length c0_0, .slice A0_1 l0_1.length c0_1] 33 (0, 0)) (by (with_reducible repeat (first | refine blk_drewN ?_ _ | refine blk_drew ?_ | refine blk_alloc ?_ _)); exact BK197.out)) : gb214 ≠ gb197)); clear HO201; clear HO204; clear HO207; clear HO210; clear HO213; clear BK197; clear HB; have HO201 := n0_; have HO204 := n1_; have HO207 := n2_; have HO210 := n3_; have HO213 := n4_; have BK197 := n5_; have HB := n6_; have BK214 := n7_; have GW214 := n8_; have GE214 := n9_; have NB197_214 := n10_; have NB214_197 := n11_; clear n0_ n1_ n2_ n3_ n4_ n5_ n6_ n7_ n8_ n9_ n10_ n11_; clear hb hbox hg; obtain ⟨Ao27, co27, eo27⟩ := Kd.R_slice HO210.out; subst eo27; have hnb28 := NB214_197.out; have hnc28 := NB197_214.out; have hcz29_0 : w26.cell? ⟨gb214, 0, none⟩ = some (.slice none 0 0) := (blk_cell BK214.out 0).trans rfl; have hcz29_1 : w26.cell? ⟨gb214, 1, none⟩ = some (.slice none 0 0) := (blk_cell BK214.out 1).trans rfl; have hfz29_0 := blk_frozen BK214.out 0; have hfz29_1 := blk_frozen BK214.out 1; obtain ⟨Ao30, co30, eo30⟩ := Kd.R_slice HO213.out; subst eo30; have hcz31_0 : w26.cell? ⟨gb197, 0, none⟩ = some (.slice A0_0 l0_0.length c0_0) := (blk_cell BK197.out 0).trans rfl; have hcz31_1 : w26.cell? ⟨gb197, 1, none⟩ = some (.slice A0_1 l0_1.length c0_1) := (blk_cell BK197.out 1).trans rfl; have hfz31_0 := blk_frozen BK197.out 0; have hfz31_1 := blk_frozen BK197.out 1) | ((with_reducible refine gate_callee (f := 18) rfl ?_); refine goesL_ (some 28) rfl rfl Try.func18 (by kernel_rfl) rfl #[.agg #[.slice A0_0 l0_0.length c0_0, .slice A0_1 l0_1.length c0_1]] rfl (by (try simp only [List.map_toArray, List.map_cons, List.map_nil]); first | done | rfl | (simp only [List.length_drop, List.length_take]; rfl)) ?_; (with_reducible refine (laws_toDevice.calls kj6 _ _ l0_0 _ _ l0_1 t215 t218 _ ?side1 ?side2 ?side3 ?side4 A14.out).mono ?_); (case side1 => exact Kd.C_below HR0_0.out (by repeat (first | (with_reducible first | exact HB.out | apply below_alloc | apply pw_below_drewN | apply below_drew1 | refine below_set ?_ GE197.out | refine below_set ?_ GE214.out) | exact HB.out))); (case side2 => exact HC0_0.out); (case side3 => exact Kd.C_below HR0_1.out (by repeat (first | (with_reducible first | exact HB.out | apply below_alloc | apply pw_below_drewN | apply below_drew1 | refine below_set ?_ GE197.out | refine below_set ?_ GE214.out) | exact HB.out))); (case side4 => exact HC0_1.out); rintro e w32 ⟨v216, v219, rfl, ho0, ho1, hb⟩; refine ⟨_, rfl, ?_⟩; have n0_ := Aside0.mk (Kd.R_elder' (by (with_reducible repeat (first | apply Kd.R_alloc | apply Kd.R_drewN | apply Kd.R_drew)); exact (Kd.R_mono (Kd.R_far (p := ⟨gb214, 1, none⟩) (Kd.R_far (p := ⟨gb214, 0, none⟩) (Kd.R_types HO201.out BK214.out (by decide)) (fun _ hk => hk.2) (.slice Ao27 t208.length co27)) (fun _ hk => hk.2) (.slice Ao30 t211.length co30)) (fun _ h_ => h_.1))) (Kd.R_base ho0) hb); have n1_ := Aside0.mk (Kd.R_elder' (by (with_reducible repeat (first | apply Kd.R_alloc | apply Kd.R_drewN | apply Kd.R_drew)); exact (Kd.R_mono (Kd.R_far (p := ⟨gb214, 1, none⟩) (Kd.R_far (p := ⟨gb214, 0, none⟩) (Kd.R_types HO204.out BK214.out (by decide)) (fun _ hk => hk.2) (.slice Ao27 t208.length co27)) (fun _ hk => hk.2) (.slice Ao30 t211.length co30)) (fun _ h_ => h_.1))) (Kd.R_base ho1) hb); have n2_ := Aside0.mk (Kd.R_below (by (with_reducible repeat (first | apply Kd.R_alloc | apply Kd.R_drewN | apply Kd.R_drew)); exact (Kd.R_mono (Kd.R_far (p := ⟨gb214, 1, none⟩) (Kd.R_far (p := ⟨gb214, 0, none⟩) (Kd.R_types HO207.out BK214.out (by decide)) (fun _ hk => hk.2) (.slice Ao27 t208.length co27)) (fun _ hk => hk.2) (.slice Ao30 t211.length co30)) (fun _ h_ => h_.1))) hb); have n3_ := Aside0.mk (Kd.R_elder' (by (with_reducible repeat (first | apply Kd.R_alloc | apply Kd.R_drewN | apply Kd.R_drew)); exact (Kd.R_mono (Kd.R_far (p := ⟨gb214, 1, none⟩) (Kd.R_far (p := ⟨gb214, 0, none⟩) (Kd.R_types HO210.out BK214.out (by decide)) (fun _ hk => hk.2) (.slice Ao27 t208.length co27)) (fun _ hk => hk.2) (.slice Ao30 t211.length co30)) (fun _ h_ => h_.1))) (Kd.R_base ho0) hb); have n4_ := Aside0.mk (Kd.R_elder' (by (with_reducible repeat (first | apply Kd.R_alloc | apply Kd.R_drewN | apply Kd.R_drew)); exact (Kd.R_mono (Kd.R_far (p := ⟨gb214, 1, none⟩) (Kd.R_far (p := ⟨gb214, 0, none⟩) (Kd.R_types HO213.out BK214.out (by decide)) (fun _ hk => hk.2) (.slice Ao27 t208.length co27)) (fun _ hk => hk.2) (.slice Ao30 t211.length co30)) (fun _ h_ => h_.1))) (Kd.R_base ho1) hb); have n5_ := Aside0.mk (Kd.R_lower (Kd.R_new' (Kd.R_new' ho0 (Kd.R_lt (by (with_reducible repeat (first | apply Kd.R_alloc | apply Kd.R_drewN | apply Kd.R_drew)); exact (Kd.R_mono (Kd.R_far (p := ⟨gb214, 1, none⟩) (Kd.R_far (p := ⟨gb214, 0, none⟩) (Kd.R_types HO201.out BK214.out (by decide)) (fun _ hk => hk.2) (.slice Ao27 t208.length co27)) (fun _ hk => hk.2) (.slice Ao30 t211.length co30)) (fun _ h_ => h_.1))))) (Kd.R_lt (by (with_reducible repeat (first | apply Kd.R_alloc | apply Kd.R_drewN | apply Kd.R_drew)); exact (Kd.R_mono (Kd.R_far (p := ⟨gb214, 1, none⟩) (Kd.R_far (p := ⟨gb214, 0, none⟩) (Kd.R_types HO210.out BK214.out (by decide)) (fun _ hk => hk.2) (.slice Ao27 t208.length co27)) (fun _ hk => hk.2) (.slice Ao30 t211.length co30)) (fun _ h_ => h_.1))))) (below_size (by repeat (first | (with_reducible first | exact HB.out | apply below_alloc | apply pw_below_drewN | apply below_drew1 | refine below_set ?_ GE197.out | refine below_set ?_ GE214.out) | exact HB.out)))); have n6_ := Aside0.mk (Kd.R_lower (Kd.R_new' (Kd.R_new' ho1 (Kd.R_lt (by (with_reducible repeat (first | apply Kd.R_alloc | apply Kd.R_drewN | apply Kd.R_drew)); exact (Kd.R_mono (Kd.R_far (p := ⟨gb214, 1, none⟩) (Kd.R_far (p := ⟨gb214, 0, none⟩) (Kd.R_types HO204.out BK214.out (by decide)) (fun _ hk => hk.2) (.slice Ao27 t208.length co27)) (fun _ hk => hk.2) (.slice Ao30 t211.length co30)) (fun _ h_ => h_.1))))) (Kd.R_lt (by (with_reducible repeat (first | apply Kd.R_alloc | apply Kd.R_drewN | apply Kd.R_drew)); exact (Kd.R_mono (Kd.R_far (p := ⟨gb214, 1, none⟩) (Kd.R_far (p := ⟨gb214, 0, none⟩) (Kd.R_types HO213.out BK214.out (by decide)) (fun _ hk => hk.2) (.slice Ao27 t208.length co27)) (fun _ hk => hk.2) (.slice Ao30 t211.length co30)) (fun _ h_ => h_.1))))) (below_size (by repeat (first | (with_reducible first | exact HB.out | apply below_alloc | apply pw_below_drewN | apply below_drew1 | refine below_set ?_ GE197.out | refine below_set ?_ GE214.out) | exact HB.out)))); have n7_ := Aside0.mk (blk_below (g := gb197) (o := .cells #[.slice A0_0 l0_0.length c0_0, .slice A0_1 l0_1.length c0_1] 33 (0, 0)) (by (with_reducible repeat (first | refine blk_drewN ?_ _ | refine blk_drew ?_ | refine blk_alloc ?_ _)); refine blk_far ?_ NB197_214.out _; (with_reducible repeat (first | refine blk_drewN ?_ _ | refine blk_drew ?_ | refine blk_alloc ?_ _)); refine blk_far ?_ NB197_214.out _; (with_reducible repeat (first | refine blk_drewN ?_ _ | refine blk_drew ?_ | refine blk_alloc ?_ _)); exact BK197.out) hb); have n8_ := Aside0.mk (blk_below (g := gb214) (o := .cells #[.slice Ao27 t208.length co27, .slice Ao30 t211.length co30] 25 (0, 0)) (by (with_reducible repeat (first | refine blk_drewN ?_ _ | refine blk_drew ?_ | refine blk_alloc ?_ _)); refine blk_put (cs := #[.slice Ao27 t208.length co27, .slice none 0 0]) ?_ 1 _ rfl; (with_reducible repeat (first | refine blk_drewN ?_ _ | refine blk_drew ?_ | refine blk_alloc ?_ _)); refine blk_put (cs := #[.slice none 0 0, .slice none 0 0]) ?_ 0 _ rfl; (with_reducible repeat (first | refine blk_drewN ?_ _ | refine blk_drew ?_ | refine blk_alloc ?_ _)); exact BK214.out) hb); have n9_ := Aside0.mk (below_step (by repeat (first | (with_reducible first | exact HB.out | apply below_alloc | apply pw_below_drewN | apply below_drew1 | refine below_set ?_ GE197.out | refine below_set ?_ GE214.out) | exact HB.out)) hb); clear HO201; clear HO204; clear HO207; clear HO210; clear HO213; clear BK197; clear BK214; clear HB; have HO201 := n0_; have HO204 := n1_; have HO207 := n2_; have HO210 := n3_; have HO213 := n4_; have HO217 := n5_; have HO220 := n6_; have BK197 := n7_; have BK214 := n8_; have HB := n9_; clear n0_ n1_ n2_ n3_ n4_ n5_ n6_ n7_ n8_ n9_; (try clear hb); (try clear hb2); (try clear hk); (try clear hi); (try clear ho0); (try clear ho1)) | ((with_reducible refine gate_dst (N := 7) rfl ?_); refine box_event ?hg (N := 7) ?hd (cs := #[.slice none 0 0, .slice none 0 0]) (t := 25) ?hr ?_; (case hd => rfl); (case hg => rfl); (case hr => first | (go_simp; done) | (go_simp; rfl)); intro gb221 hg w33 hbox hb; have n0_ := Aside0.mk (Kd.R_below (by (with_reducible repeat (first | apply Kd.R_alloc | apply Kd.R_drewN | apply Kd.R_drew)); exact HO201.out) hb); have n1_ := Aside0.mk (Kd.R_below (by (with_reducible repeat (first | apply Kd.R_alloc | apply Kd.R_drewN | apply Kd.R_drew)); exact HO204.out) hb); have n2_ := Aside0.mk (Kd.R_below (by (with_reducible repeat (first | apply Kd.R_alloc | apply Kd.R_drewN | apply Kd.R_drew)); exact HO207.out) hb); have n3_ := Aside0.mk (Kd.R_below (by (with_reducible repeat (first | apply Kd.R_alloc | apply Kd.R_drewN | apply Kd.R_drew)); exact HO210.out) hb); have n4_ := Aside0.mk (Kd.R_below (by (with_reducible repeat (first | apply Kd.R_alloc | apply Kd.R_drewN | apply Kd.R_drew)); exact HO213.out) hb); have n5_ := Aside0.mk (Kd.R_below (by (with_reducible repeat (first | apply Kd.R_alloc | apply Kd.R_drewN | apply Kd.R_drew)); exact HO217.out) hb); have n6_ := Aside0.mk (Kd.R_below (by (with_reducible repeat (first | apply Kd.R_alloc | apply Kd.R_drewN | apply Kd.R_drew)); exact HO220.out) hb); have n7_ := Aside0.mk (blk_below (g := gb197) (o := .cells #[.slice A0_0 l0_0.length c0_0, .slice A0_1 l0_1.length c0_1] 33 (0, 0)) (by (with_reducible repeat (first | refine blk_drewN ?_ _ | refine blk_drew ?_ | refine blk_alloc ?_ _)); exact BK197.out) hb); have n8_ := Aside0.mk (blk_below (g := gb214) (o := .cells #[.slice Ao27 t208.length co27, .slice Ao30 t211.length co30] 25 (0, 0)) (by (with_reducible repeat (first | refine blk_drewN ?_ _ | refine blk_drew ?_ | refine blk_alloc ?_ _)); exact BK214.out) hb); have n9_ := Aside0.mk (below_step (by repeat (first | (with_reducible first | exact HB.out | apply below_alloc | apply pw_below_drewN | apply below_drew1 | refine below_set ?_ GE197.out | refine below_set ?_ GE214.out) | exact HB.out)) hb); have n10_ := Aside0.mk (hbox); have n11_ := Aside0.mk ((by rw [hg]; exact (below_size (by repeat (first | (with_reducible first | exact HB.out | apply below_alloc | apply pw_below_drewN | apply below_drew1 | refine below_set ?_ GE197.out | refine below_set ?_ GE214.out) | exact HB.out))) : w.heap.size ≤ gb221)); have n12_ := Aside0.mk ((by rw [hg]; exact (below_size (by repeat (first | (with_reducible first | exact HB.out | apply below_alloc | apply pw_below_drewN | apply below_drew1 | refine below_set ?_ GE197.out | refine below_set ?_ GE214.out) | exact HB.out))) : w.heap.size ≤ gb221)); have n13_ := Aside0.mk ((by rw [hg]; exact Nat.ne_of_lt (blk_lt (g := gb197) (o := .cells #[.slice A0_0 l0_0.length c0_0, .slice A0_1 l0_1.length c0_1] 33 (0, 0)) (by (with_reducible repeat (first | refine blk_drewN ?_ _ | refine blk_drew ?_ | refine blk_alloc ?_ _)); exact BK197.out)) : gb197 ≠ gb221)); have n14_ := Aside0.mk ((by rw [hg]; exact Nat.ne_of_gt (blk_lt (g := gb197) (o := .cells #[.slice A0_0 l0_0.length c0_0, .slice A0_1 l0_1.length c0_1] 33 (0, 0)) (by (with_reducible repeat (first | refine blk_drewN ?_ _ | refine blk_drew ?_ | refine blk_alloc ?_ _)); exact BK197.out)) : gb221 ≠ gb197)); have n15_ := Aside0.mk ((by rw [hg]; exact Nat.ne_of_lt (blk_lt (g := gb214) (o := .cells #[.slice Ao27 t208.length co27, .slice Ao30 t211.length co30] 25 (0, 0)) (by (with_reducible repeat (first | refine blk_drewN ?_ _ | refine blk_drew ?_ | refine blk_alloc ?_ _)); exact BK214.out)) : gb214 ≠ gb221)); have n16_ := Aside0.mk ((by rw [hg]; exact Nat.ne_of_gt (blk_lt (g := gb214) (o := .cells #[.slice Ao27 t208.length co27, .slice Ao30 t211.length co30] 25 (0, 0)) (by (with_reducible repeat (first | refine blk_drewN ?_ _ | refine blk_drew ?_ | refine blk_alloc ?_ _)); exact BK214.out)) : gb221 ≠ gb214)); clear HO201; clear HO204; clear HO207; clear HO210; clear HO213; clear HO217; clear HO220; clear BK197; clear BK214; clear HB; have HO201 := n0_; have HO204 := n1_; have HO207 := n2_; have HO210 := n3_; have HO213 := n4_; have HO217 := n5_; have HO220 := n6_; have BK197 := n7_; have BK214 := n8_; have HB := n9_; have BK221 := n10_; have GW221 := n11_; have GE221 := n12_; have NB197_221 := n13_; have NB221_197 := n14_; have NB214_221 := n15_; have NB221_214 := n16_; clear n0_ n1_ n2_ n3_ n4_ n5_ n6_ n7_ n8_ n9_ n10_ n11_ n12_ n13_ n14_ n15_ n16_; clear hb hbox hg; obtain ⟨Ao34, co34, eo34⟩ := Kd.R_slice HO217.out; subst eo34; have hnb35 := NB221_197.out; have hnc35 := NB197_221.out; have hnb36 := NB221_214.out; have hnc36 := NB214_221.out; have hcz37_0 : w33.cell? ⟨gb221, 0, none⟩ = some (.slice none 0 0) := (blk_cell BK221.out 0).trans rfl; have hcz37_1 : w33.cell? ⟨gb221, 1, none⟩ = some (.slice none 0 0) := (blk_cell BK221.out 1).trans rfl; have hfz37_0 := blk_frozen BK221.out 0; have hfz37_1 := blk_frozen BK221.out 1; obtain ⟨Ao38, co38, eo38⟩ := Kd.R_slice HO220.out; subst eo38) | ((with_reducible refine gate_callee (f := 25) rfl ?_); refine goesL_ (some 30) rfl rfl Try.func25 (by kernel_rfl) rfl #[.slice A1 l1.length c1] rfl (by (try simp only [List.map_toArray, List.map_cons, List.map_nil]); first | done | rfl | (simp only [List.length_drop, List.length_take]; rfl)) ?_; (with_reducible refine (laws_toBoolS.calls kj6 _ _ l1 t222 _ ?side1 ?side2 A15.out).mono ?_); (case side1 => exact Kd.C_below HR1.out (by repeat (first | (with_reducible first | exact HB.out | apply below_alloc | apply pw_below_drewN | apply below_drew1 | refine below_set ?_ GE197.out | refine below_set ?_ GE214.out | refine below_set ?_ GE221.out) | exact HB.out))); (case side2 => exact HC1.out); rintro e w39 ⟨v223, rfl, ho0, hb⟩; refine ⟨_, rfl, ?_⟩; have n0_ := Aside0.mk (Kd.R_below (by (with_reducible repeat (first | apply Kd.R_alloc | apply Kd.R_drewN | apply Kd.R_drew)); exact (Kd.R_mono (Kd.R_far (p := ⟨gb221, 1, none⟩) (Kd.R_far (p := ⟨gb221, 0, none⟩) (Kd.R_types HO201.out BK221.out (by decide)) (fun _ hk => hk.2) (.slice Ao34 t215.length co34)) (fun _ hk => hk.2) (.slice Ao38 t218.length co38)) (fun _ h_ => h_.1))) hb); have n1_ := Aside0.mk (Kd.R_below (by (with_reducible repeat (first | apply Kd.R_alloc | apply Kd.R_drewN | apply Kd.R_drew)); exact (Kd.R_mono (Kd.R_far (p := ⟨gb221, 1, none⟩) (Kd.R_far (p := ⟨gb221, 0, none⟩) (Kd.R_types HO204.out BK221.out (by decide)) (fun _ hk => hk.2) (.slice Ao34 t215.length co34)) (fun _ hk => hk.2) (.slice Ao38 t218.length co38)) (fun _ h_ => h_.1))) hb); have n2_ := Aside0.mk (Kd.R_elder' (by (with_reducible repeat (first | apply Kd.R_alloc | apply Kd.R_drewN | apply Kd.R_drew)); exact (Kd.R_mono (Kd.R_far (p := ⟨gb221, 1, none⟩) (Kd.R_far (p := ⟨gb221, 0, none⟩) (Kd.R_types HO207.out BK221.out (by decide)) (fun _ hk => hk.2) (.slice Ao34 t215.length co34)) (fun _ hk => hk.2) (.slice Ao38 t218.length co38)) (fun _ h_ => h_.1))) (Kd.R_base ho0) hb); have n3_ := Aside0.mk (Kd.R_below (by (with_reducible repeat (first | apply Kd.R_alloc | apply Kd.R_drewN | apply Kd.R_drew)); exact (Kd.R_mono (Kd.R_far (p := ⟨gb221, 1, none⟩) (Kd.R_far (p := ⟨gb221, 0, none⟩) (Kd.R_types HO210.out BK221.out (by decide)) (fun _ hk => hk.2) (.slice Ao34 t215.length co34)) (fun _ hk => hk.2) (.slice Ao38 t218.length co38)) (fun _ h_ => h_.1))) hb); have n4_ := Aside0.mk (Kd.R_below (by (with_reducible repeat (first | apply Kd.R_alloc | apply Kd.R_drewN | apply Kd.R_drew)); exact (Kd.R_mono (Kd.R_far (p := ⟨gb221, 1, none⟩) (Kd.R_far (p := ⟨gb221, 0, none⟩) (Kd.R_types HO213.out BK221.out (by decide)) (fun _ hk => hk.2) (.slice Ao34 t215.length co34)) (fun _ hk => hk.2) (.slice Ao38 t218.length co38)) (fun _ h_ => h_.1))) hb); have n5_ := Aside0.mk (Kd.R_below (by (with_reducible repeat (first | apply Kd.R_alloc | apply Kd.R_drewN | apply Kd.R_drew)); exact (Kd.R_mono (Kd.R_far (p := ⟨gb221, 1, none⟩) (Kd.R_far (p := ⟨gb221, 0, none⟩) (Kd.R_types HO217.out BK221.out (by decide)) (fun _ hk => hk.2) (.slice Ao34 t215.length co34)) (fun _ hk => hk.2) (.slice Ao38 t218.length co38)) (fun _ h_ => h_.1))) hb); have n6_ := Aside0.mk (Kd.R_below (by (with_reducible repeat (first | apply Kd.R_alloc | apply Kd.R_drewN | apply Kd.R_drew)); exact (Kd.R_mono (Kd.R_far (p := ⟨gb221, 1, none⟩) (Kd.R_far (p := ⟨gb221, 0, none⟩) (Kd.R_types HO220.out BK221.out (by decide)) (fun _ hk => hk.2) (.slice Ao34 t215.length co34)) (fun _ hk => hk.2) (.slice Ao38 t218.length co38)) (fun _ h_ => h_.1))) hb); have n7_ := Aside0.mk (Kd.R_lower (Kd.R_new' ho0 (Kd.R_lt (by (with_reducible repeat (first | apply Kd.R_alloc | apply Kd.R_drewN | apply Kd.R_drew)); exact (Kd.R_mono (Kd.R_far (p := ⟨gb221, 1, none⟩) (Kd.R_far (p := ⟨gb221, 0, none⟩) (Kd.R_types HO207.out BK221.out (by decide)) (fun _ hk => hk.2) (.slice Ao34 t215.length co34)) (fun _ hk => hk.2) (.slice Ao38 t218.length co38)) (fun _ h_ => h_.1))))) (below_size (by repeat (first | (with_reducible first | exact HB.out | apply below_alloc | apply pw_below_drewN | apply below_drew1 | refine below_set ?_ GE197.out | refine below_set ?_ GE214.out | refine below_set ?_ GE221.out) | exact HB.out)))); have n8_ := Aside0.mk (blk_below (g := gb197) (o := .cells #[.slice A0_0 l0_0.length c0_0, .slice A0_1 l0_1.length c0_1] 33 (0, 0)) (by (with_reducible repeat (first | refine blk_drewN ?_ _ | refine blk_drew ?_ | refine blk_alloc ?_ _)); refine blk_far ?_ NB197_221.out _; (with_reducible repeat (first | refine blk_drewN ?_ _ | refine blk_drew ?_ | refine blk_alloc ?_ _)); refine blk_far ?_ NB197_221.out _; (with_reducible repeat (first | refine blk_drewN ?_ _ | refine blk_drew ?_ | refine blk_alloc ?_ _)); exact BK197.out) hb); have n9_ := Aside0.mk (blk_below (g := gb214) (o := .cells #[.slice Ao27 t208.length co27, .slice Ao30 t211.length co30] 25 (0, 0)) (by (with_reducible repeat (first | refine blk_drewN ?_ _ | refine blk_drew ?_ | refine blk_alloc ?_ _)); refine blk_far ?_ NB214_221.out _; (with_reducible repeat (first | refine blk_drewN ?_ _ | refine blk_drew ?_ | refine blk_alloc ?_ _)); refine blk_far ?_ NB214_221.out _; (with_reducible repeat (first | refine blk_drewN ?_ _ | refine blk_drew ?_ | refine blk_alloc ?_ _)); exact BK214.out) hb); have n10_ := Aside0.mk (blk_below (g := gb221) (o := .cells #[.slice Ao34 t215.length co34, .slice Ao38 t218.length co38] 25 (0, 0)) (by (with_reducible repeat (first | refine blk_drewN ?_ _ | refine blk_drew ?_ | refine blk_alloc ?_ _)); refine blk_put (cs := #[.slice Ao34 t215.length co34, .slice none 0 0]) ?_ 1 _ rfl; (with_reducible repeat (first | refine blk_drewN ?_ _ | refine blk_drew ?_ | refine blk_alloc ?_ _)); refine blk_put (cs := #[.slice none 0 0, .slice none 0 0]) ?_ 0 _ rfl; (with_reducible repeat (first | refine blk_drewN ?_ _ | refine blk_drew ?_ | refine blk_alloc ?_ _)); exact BK221.out) hb); have n11_ := Aside0.mk (below_step (by repeat (first | (with_reducible first | exact HB.out | apply below_alloc | apply pw_below_drewN | apply below_drew1 | refine below_set ?_ GE197.out | refine below_set ?_ GE214.out | refine below_set ?_ GE221.out) | exact HB.out)) hb); clear HO201; clear HO204; clear HO207; clear HO210; clear HO213; clear HO217; clear HO220; clear BK197; clear BK214; clear BK221; clear HB; have HO201 := n0_; have HO204 := n1_; have HO207 := n2_; have HO210 := n3_; have HO213 := n4_; have HO217 := n5_; have HO220 := n6_; have HO224 := n7_; have BK197 := n8_; have BK214 := n9_; have BK221 := n10_; have HB := n11_; clear n0_ n1_ n2_ n3_ n4_ n5_ n6_ n7_ n8_ n9_ n10_ n11_; (try clear hb); (try clear hb2); (try clear hk); (try clear hi); (try clear ho0); have hcz40_0 : w39.cell? ⟨gb221, 0, none⟩ = some (.slice Ao34 t215.length co34) := (blk_cell BK221.out 0).trans rfl; have hcz40_1 : w39.cell? ⟨gb221, 1, none⟩ = some (.slice Ao38 t218.length co38) := (blk_cell BK221.out 1).trans rfl; have hfz40_0 := blk_frozen BK221.out 0; have hfz40_1 := blk_frozen BK221.out 1; obtain ⟨Ao41, co41, eo41⟩ := Kd.R_slice HO224.out; subst eo41) | ((with_reducible refine gate_callee (f := 26) rfl ?_); refine goesL_ (some 33) rfl rfl Try.func26 (by kernel_rfl) rfl #[.agg #[.slice Ao34 t215.length co34, .slice Ao38 t218.length co38], .slice Ao41 t222.length co41] rfl (by (try simp only [List.map_toArray, List.map_cons, List.map_nil]); first | done | rfl | (simp only [List.length_drop, List.length_take]; rfl)) ?_; (with_reducible refine (impl_Cut.calls kj6 _ _ t215 _ _ t218 _ _ t222 t225 t228 _ ?side1 ?side2 ?side3 ?side4 ?side5 ?side6 A16.out).mono ?_); (case side1 => repeat (first | exact (Kd.R_reads' HO217.out).2.2 | (with_reducible refine Kd.C_alloc ?_ _) | (with_reducible refine Kd.C_drewN ?_ _) | (with_reducible refine Kd.C_drew ?_))); (case side2 => exact (Kd.R_reads' HO217.out).2.1); (case side3 => repeat (first | exact (Kd.R_reads' HO220.out).2.2 | (with_reducible refine Kd.C_alloc ?_ _) | (with_reducible refine Kd.C_drewN ?_ _) | (with_reducible refine Kd.C_drew ?_))); (case side4 => exact (Kd.R_reads' HO220.out).2.1); (case side5 => repeat (first | exact (Kd.R_reads' HO224.out).2.2 | (with_reducible refine Kd.C_alloc ?_ _) | (with_reducible refine Kd.C_drewN ?_ _) | (with_reducible refine Kd.C_drew ?_))); (case side6 => exact (Kd.R_reads' HO224.out).2.1); rintro e w42 ⟨v226, v229, rfl, ho0, ho1, hb⟩; refine ⟨_, rfl, ?_⟩; have n0_ := Aside0.mk (Kd.R_elder' (by (with_reducible repeat (first | apply Kd.R_alloc | apply Kd.R_drewN | apply Kd.R_drew)); exact HO201.out) (Kd.R_base ho0) hb); have n1_ := Aside0.mk (Kd.R_elder' (by (with_reducible repeat (first | apply Kd.R_alloc | apply Kd.R_drewN | apply Kd.R_drew)); exact HO204.out) (Kd.R_base ho1) hb); have n2_ := Aside0.mk (Kd.R_below (by (with_reducible repeat (first | apply Kd.R_alloc | apply Kd.R_drewN | apply Kd.R_drew)); exact HO207.out) hb); have n3_ := Aside0.mk (Kd.R_elder' (by (with_reducible repeat (first | apply Kd.R_alloc | apply Kd.R_drewN | apply Kd.R_drew)); exact HO210.out) (Kd.R_base ho0) hb); have n4_ := Aside0.mk (Kd.R_elder' (by (with_reducible repeat (first | apply Kd.R_alloc | apply Kd.R_drewN | apply Kd.R_drew)); exact HO213.out) (Kd.R_base ho1) hb); have n5_ := Aside0.mk (Kd.R_elder' (by (with_reducible repeat (first | apply Kd.R_alloc | apply Kd.R_drewN | apply Kd.R_drew)); exact HO217.out) (Kd.R_base ho0) hb); have n6_ := Aside0.mk (Kd.R_elder' (by (with_reducible repeat (first | apply Kd.R_alloc | apply Kd.R_drewN | apply Kd.R_drew)); exact HO220.out) (Kd.R_base ho1) hb); have n7_ := Aside0.mk (Kd.R_below (by (with_reducible repeat (first | apply Kd.R_alloc | apply Kd.R_drewN | apply Kd.R_drew)); exact HO224.out) hb); have n8_ := Aside0.mk (Kd.R_lower (Kd.R_new' (Kd.R_new' (Kd.R_new' ho0 (Kd.R_lt (by (with_reducible repeat (first | apply Kd.R_alloc | apply Kd.R_drewN | apply Kd.R_drew)); exact HO201.out))) (Kd.R_lt (by (with_reducible repeat (first | apply Kd.R_alloc | apply Kd.R_drewN | apply Kd.R_drew)); exact HO210.out))) (Kd.R_lt (by (with_reducible repeat (first | apply Kd.R_alloc | apply Kd.R_drewN | apply Kd.R_drew)); exact HO217.out))) (below_size (by repeat (first | (with_reducible first | exact HB.out | apply below_alloc | apply pw_below_drewN | apply below_drew1 | refine below_set ?_ GE197.out | refine below_set ?_ GE214.out | refine below_set ?_ GE221.out) | exact HB.out)))); have n9_ := Aside0.mk (Kd.R_lower (Kd.R_new' (Kd.R_new' (Kd.R_new' ho1 (Kd.R_lt (by (with_reducible repeat (first | apply Kd.R_alloc | apply Kd.R_drewN | apply Kd.R_drew)); exact HO204.out))) (Kd.R_lt (by (with_reducible repeat (first | apply Kd.R_alloc | apply Kd.R_drewN | apply Kd.R_drew)); exact HO213.out))) (Kd.R_lt (by (with_reducible repeat (first | apply Kd.R_alloc | apply Kd.R_drewN | apply Kd.R_drew)); exact HO220.out))) (below_size (by repeat (first | (with_reducible first | exact HB.out | apply below_alloc | apply pw_below_drewN | apply below_drew1 | refine below_set ?_ GE197.out | refine below_set ?_ GE214.out | refine below_set ?_ GE221.out) | exact HB.out)))); have n10_ := Aside0.mk (blk_below (g := gb197) (o := .cells #[.slice A0_0 l0_0.length c0_0, .slice A0_1 l0_1.length c0_1] 33 (0, 0)) (by (with_reducible repeat (first | refine blk_drewN ?_ _ | refine blk_drew ?_ | refine blk_alloc ?_ _)); exact BK197.out) hb); have n11_ := Aside0.mk (blk_below (g := gb214) (o := .cells #[.slice Ao27 t208.length co27, .slice Ao30 t211.length co30] 25 (0, 0)) (by (with_reducible repeat (first | refine blk_drewN ?_ _ | refine blk_drew ?_ | refine blk_alloc ?_ _)); exact BK214.out) hb); have n12_ := Aside0.mk (blk_below (g := gb221) (o := .cells #[.slice Ao34 t215.length co34, .slice Ao38 t218.length co38] 25 (0, 0)) (by (with_reducible repeat (first | refine blk_drewN ?_ _ | refine blk_drew ?_ | refine blk_alloc ?_ _)); exact BK221.out) hb); have n13_ := Aside0.mk (below_step (by repeat (first | (with_reducible first | exact HB.out | apply below_alloc | apply pw_below_drewN | apply below_drew1 | refine below_set ?_ GE197.out | refine below_set ?_ GE214.out | refine below_set ?_ GE221.out) | exact HB.out)) hb); clear HO201; clear HO204; clear HO207; clear HO210; clear HO213; clear HO217; clear HO220; clear HO224; clear BK197; clear BK214; clear BK221; clear HB; have HO201 := n0_; have HO204 := n1_; have HO207 := n2_; have HO210 := n3_; have HO213 := n4_; have HO217 := n5_; have HO220 := n6_; have HO224 := n7_; have HO227 := n8_; have HO230 := n9_; have BK197 := n10_; have BK214 := n11_; have BK221 := n12_; have HB := n13_; clear n0_ n1_ n2_ n3_ n4_ n5_ n6_ n7_ n8_ n9_ n10_ n11_ n12_ n13_; (try clear hb); (try clear hb2); (try clear hk); (try clear hi); (try clear ho0); (try clear ho1)) | ((with_reducible refine gate_dst (N := 9) rfl ?_); refine box_event ?hg (N := 9) ?hd (cs := #[.slice none 0 0, .slice none 0 0]) (t := 25) ?hr ?_; (case hd => rfl); (case hg => rfl); (case hr => first | (go_simp; done) | (go_simp; rfl)); intro gb231 hg w43 hbox hb; have n0_ := Aside0.mk (Kd.R_below (by (with_reducible repeat (first | apply Kd.R_alloc | apply Kd.R_drewN | apply Kd.R_drew)); exact HO201.out) hb); have n1_ := Aside0.mk (Kd.R_below (by (with_reducible repeat (first | apply Kd.R_alloc | apply Kd.R_drewN | apply Kd.R_drew)); exact HO204.out) hb); have n2_ := Aside0.mk (Kd.R_below (by (with_reducible repeat (first | apply Kd.R_alloc | apply Kd.R_drewN | apply Kd.R_drew)); exact HO207.out) hb); have n3_ := Aside0.mk (Kd.R_below (by (with_reducible repeat (first | apply Kd.R_alloc | apply Kd.R_drewN | apply Kd.R_drew)); exact HO210.out) hb); have n4_ := Aside0.mk (Kd.R_below (by (with_reducible repeat (first | apply Kd.R_alloc | apply Kd.R_drewN | apply Kd.R_drew)); exact HO213.out) hb); have n5_ := Aside0.mk (Kd.R_below (by (with_reducible repeat (first | apply Kd.R_alloc | apply Kd.R_drewN | apply Kd.R_drew)); exact HO217.out) hb); have n6_ := Aside0.mk (Kd.R_below (by (with_reducible repeat (first | apply Kd.R_alloc | apply Kd.R_drewN | apply Kd.R_drew)); exact HO220.out) hb); have n7_ := Aside0.mk (Kd.R_below (by (with_reducible repeat (first | apply Kd.R_alloc | apply Kd.R_drewN | apply Kd.R_drew)); exact HO224.out) hb); have n8_ := Aside0.mk (Kd.R_below (by (with_reducible repeat (first | apply Kd.R_alloc | apply Kd.R_drewN | apply Kd.R_drew)); exact HO227.out) hb); have n9_ := Aside0.mk (Kd.R_below (by (with_reducible repeat (first | apply Kd.R_alloc | apply Kd.R_drewN | apply Kd.R_drew)); exact HO230.out) hb); have n10_ := Aside0.mk (blk_below (g := gb197) (o := .cells #[.slice A0_0 l0_0.length c0_0, .slice A0_1 l0_1.length c0_1] 33 (0, 0)) (by (with_reducible repeat (first | refine blk_drewN ?_ _ | refine blk_drew ?_ | refine blk_alloc ?_ _)); exact BK197.out) hb); have n11_ := Aside0.mk (blk_below (g := gb214) (o := .cells #[.slice Ao27 t208.length co27, .slice Ao30 t211.length co30] 25 (0, 0)) (by (with_reducible repeat (first | refine blk_drewN ?_ _ | refine blk_drew ?_ | refine blk_alloc ?_ _)); exact BK214.out) hb); have n12_ := Aside0.mk (blk_below (g := gb221) (o := .cells #[.slice Ao34 t215.length co34, .slice Ao38 t218.length co38] 25 (0, 0)) (by (with_reducible repeat (first | refine blk_drewN ?_ _ | refine blk_drew ?_ | refine blk_alloc ?_ _)); exact BK221.out) hb); have n13_ := Aside0.mk (below_step (by repeat (first | (with_reducible first | exact HB.out | apply below_alloc | apply pw_below_drewN | apply below_drew1 | refine below_set ?_ GE197.out | refine below_set ?_ GE214.out | refine below_set ?_ GE221.out) | exact HB.out)) hb); have n14_ := Aside0.mk (hbox); have n15_ := Aside0.mk ((by rw [hg]; exact (below_size (by repeat (first | (with_reducible first | exact HB.out | apply below_alloc | apply pw_below_drewN | apply below_drew1 | refine below_set ?_ GE197.out | refine below_set ?_ GE214.out | refine below_set ?_ GE221.out) | exact HB.out))) : w.heap.size ≤ gb231)); have n16_ := Aside0.mk ((by rw [hg]; exact (below_size (by repeat (first | (with_reducible first | exact HB.out | apply below_alloc | apply pw_below_drewN | apply below_drew1 | refine below_set ?_ GE197.out | refine below_set ?_ GE214.out | refine below_set ?_ GE221.out) | exact HB.out))) : w.heap.size ≤ gb231)); have n17_ := Aside0.mk ((by rw [hg]; exact Nat.ne_of_lt (blk_lt (g := gb197) (o := .cells #[.slice A0_0 l0_0.length c0_0, .slice A0_1 l0_1.length c0_1] 33 (0, 0)) (by (with_reducible repeat (first | refine blk_drewN ?_ _ | refine blk_drew ?_ | refine blk_alloc ?_ _)); exact BK197.out)) : gb197 ≠ gb231)); have n18_ := Aside0.mk ((by rw [hg]; exact Nat.ne_of_gt (blk_lt (g := gb197) (o := .cells #[.slice A0_0 l0_0.length c0_0, .slice A0_1 l0_1.length c0_1] 33 (0, 0)) (by (with_reducible repeat (first | refine blk_drewN ?_ _ | refine blk_drew ?_ | refine blk_alloc ?_ _)); exact BK197.out)) : gb231 ≠ gb197)); have n19_ := Aside0.mk ((by rw [hg]; exact Nat.ne_of_lt (blk_lt (g := gb214) (o := .cells #[.slice Ao27 t208.length co27, .slice Ao30 t211.length co30] 25 (0, 0)) (by (with_reducible repeat (first | refine blk_drewN ?_ _ | refine blk_drew ?_ | refine blk_alloc ?_ _)); exact BK214.out)) : gb214 ≠ gb231)); have n20_ := Aside0.mk ((by rw [hg]; exact Nat.ne_of_gt (blk_lt (g := gb214) (o := .cells #[.slice Ao27 t208.length co27, .slice Ao30 t211.length co30] 25 (0, 0)) (by (with_reducible repeat (first | refine blk_drewN ?_ _ | refine blk_drew ?_ | refine blk_alloc ?_ _)); exact BK214.out)) : gb231 ≠ gb214)); have n21_ := Aside0.mk ((by rw [hg]; exact Nat.ne_of_lt (blk_lt (g := gb221) (o := .cells #[.slice Ao34 t215.length co34, .slice Ao38 t218.length co38] 25 (0, 0)) (by (with_reducible repeat (first | refine blk_drewN ?_ _ | refine blk_drew ?_ | refine blk_alloc ?_ _)); exact BK221.out)) : gb221 ≠ gb231)); have n22_ := Aside0.mk ((by rw [hg]; exact Nat.ne_of_gt (blk_lt (g := gb221) (o := .cells #[.slice Ao34 t215.length co34, .slice Ao38 t218.length co38] 25 (0, 0)) (by (with_reducible repeat (first | refine blk_drewN ?_ _ | refine blk_drew ?_ | refine blk_alloc ?_ _)); exact BK221.out)) : gb231 ≠ gb221)); clear HO201; clear HO204; clear HO207; clear HO210; clear HO213; clear HO217; clear HO220; clear HO224; clear HO227; clear HO230; clear BK197; clear BK214; clear BK221; clear HB; have HO201 := n0_; have HO204 := n1_; have HO207 := n2_; have HO210 := n3_; have HO213 := n4_; have HO217 := n5_; have HO220 := n6_; have HO224 := n7_; have HO227 := n8_; have HO230 := n9_; have BK197 := n10_; have BK214 := n11_; have BK221 := n12_; have HB := n13_; have BK231 := n14_; have GW231 := n15_; have GE231 := n16_; have NB197_231 := n17_; have NB231_197 := n18_; have NB214_231 := n19_; have NB231_214 := n20_; have NB221_231 := n21_; have NB231_221 := n22_; clear n0_ n1_ n2_ n3_ n4_ n5_ n6_ n7_ n8_ n9_ n10_ n11_ n12_ n13_ n14_ n15_ n16_ n17_ n18_ n19_ n20_ n21_ n22_; clear hb hbox hg; obtain ⟨Ao44, co44, eo44⟩ := Kd.R_slice HO227.out; subst eo44; have hnb45 := NB231_197.out; have hnc45 := NB197_231.out; have hnb46 := NB231_214.out; have hnc46 := NB214_231.out; have hnb47 := NB231_221.out; have hnc47 := NB221_231.out; have hcz48_0 : w43.cell? ⟨gb231, 0, none⟩ = some (.slice none 0 0) := (blk_cell BK231.out 0).trans rfl; have hcz48_1 : w43.cell? ⟨gb231, 1, none⟩ = some (.slice none 0 0) := (blk_cell BK231.out 1).trans rfl; have hfz48_0 := blk_frozen BK231.out 0; have hfz48_1 := blk_frozen BK231.out 1; obtain ⟨Ao49, co49, eo49⟩ := Kd.R_slice HO230.out; subst eo49; have hcz50_0 : w43.cell? ⟨gb214, 0, none⟩ = some (.slice Ao27 t208.length co27) := (blk_cell BK214.out 0).trans rfl; have hcz50_1 : w43.cell? ⟨gb214, 1, none⟩ = some (.slice Ao30 t211.length co30) := (blk_cell BK214.out 1).trans rfl; have hfz50_0 := blk_frozen BK214.out 0; have hfz50_1 := blk_frozen BK214.out 1) | ((with_reducible refine gate_callee (f := 13) rfl ?_); refine goesL_ (some 36) rfl rfl Try.func13 (by kernel_rfl) rfl #[.agg #[.slice Ao44 t225.length co44, .slice Ao49 t228.length co49], .agg #[.slice Ao27 t208.length co27, .slice Ao30 t211.length co30]] rfl (by (try simp only [List.map_toArray, List.map_cons, List.map_nil]); first | done | rfl | (simp only [List.length_drop, List.length_take]; rfl)) ?_; (with_reducible refine (laws_eqDevice.calls kj6 _ _ t225 _ _ t228 _ _ t208 _ _ t211 t232 _ ?side1 ?side2 ?side3 ?side4 ?side5 ?side6 ?side7 ?side8 A17.out).mono ?_); (case side1 => refine (Kd.R_reads' (e := 9) (base := w.heap.size) (ok := fun k_ => (((True ∧ some k_ ≠ (.slice Ao22 t199.length co22 : Value).ownBlock) ∧ some k_ ≠ (.slice Ao27 t208.length co27 : Value).ownBlock) ∧ some k_ ≠ (.slice Ao34 t215.length co34 : Value).ownBlock)) (n := t225.length) (c := co44) ?_).2.2; exact (by (with_reducible repeat (first | apply Kd.R_alloc | apply Kd.R_drewN | apply Kd.R_drew)); exact (Kd.R_mono (Kd.R_far (p := ⟨gb231, 1, none⟩) (Kd.R_far (p := ⟨gb231, 0, none⟩) (Kd.R_types HO227.out BK231.out (by decide)) (fun _ hk => hk.2) (.slice Ao44 t225.length co44)) (fun _ hk => hk.2) (.slice Ao49 t228.length co49)) (fun _ h_ => h_.1)))); (case side2 => exact (Kd.R_reads' HO227.out).2.1); (case side3 => refine (Kd.R_reads' (e := 72) (base := w.heap.size) (ok := fun k_ => (((True ∧ some k_ ≠ (.slice Ao23 t202.length co23 : Value).ownBlock) ∧ some k_ ≠ (.slice Ao30 t211.length co30 : Value).ownBlock) ∧ some k_ ≠ (.slice Ao38 t218.length co38 : Value).ownBlock)) (n := t228.length) (c := co49) ?_).2.2; exact (by (with_reducible repeat (first | apply Kd.R_alloc | apply Kd.R_drewN | apply Kd.R_drew)); exact (Kd.R_mono (Kd.R_far (p := ⟨gb231, 1, none⟩) (Kd.R_far (p := ⟨gb231, 0, none⟩) (Kd.R_types HO230.out BK231.out (by decide)) (fun _ hk => hk.2) (.slice Ao44 t225.length co44)) (fun _ hk => hk.2) (.slice Ao49 t228.length co49)) (fun _ h_ => h_.1)))); (case side4 => exact (Kd.R_reads' HO230.out).2.1); (case side5 => refine (Kd.R_reads' (e := 9) (base := w.heap.size) (ok := fun k_ => (((True ∧ some k_ ≠ (.slice Ao22 t199.length co22 : Value).ownBlock) ∧ some k_ ≠ (.slice Ao34 t215.length co34 : Value).ownBlock) ∧ some k_ ≠ (.slice Ao44 t225.length co44 : Value).ownBlock)) (n := t208.length) (c := co27) ?_).2.2; exact (by (with_reducible repeat (first | apply Kd.R_alloc | apply Kd.R_drewN | apply Kd.R_drew)); exact (Kd.R_mono (Kd.R_far (p := ⟨gb231, 1, none⟩) (Kd.R_far (p := ⟨gb231, 0, none⟩) (Kd.R_types HO210.out BK231.out (by decide)) (fun _ hk => hk.2) (.slice Ao44 t225.length co44)) (fun _ hk => hk.2) (.slice Ao49 t228.length co49)) (fun _ h_ => h_.1)))); (case side6 => exact (Kd.R_reads' HO210.out).2.1); (case side7 => refine (Kd.R_reads' (e := 72) (base := w.heap.size) (ok := fun k_ => (((True ∧ some k_ ≠ (.slice Ao23 t202.length co23 : Value).ownBlock) ∧ some k_ ≠ (.slice Ao38 t218.length co38 : Value).ownBlock) ∧ some k_ ≠ (.slice Ao49 t228.length co49 : Value).ownBlock)) (n := t211.length) (c := co30) ?_).2.2; exact (by (with_reducible repeat (first | apply Kd.R_alloc | apply Kd.R_drewN | apply Kd.R_drew)); exact (Kd.R_mono (Kd.R_far (p := ⟨gb231, 1, none⟩) (Kd.R_far (p := ⟨gb231, 0, none⟩) (Kd.R_types HO213.out BK231.out (by decide)) (fun _ hk => hk.2) (.slice Ao44 t225.length co44)) (fun _ hk => hk.2) (.slice Ao49 t228.length co49)) (fun _ h_ => h_.1)))); (case side8 => exact (Kd.R_reads' HO213.out).2.1); rintro e w51 ⟨rfl, hb⟩; refine ⟨_, rfl, ?_⟩; have n0_ := Aside0.mk (Kd.R_below (by (with_reducible repeat (first | apply Kd.R_alloc | apply Kd.R_drewN | apply Kd.R_drew)); exact (Kd.R_mono (Kd.R_far (p := ⟨gb231, 1, none⟩) (Kd.R_far (p := ⟨gb231, 0, none⟩) (Kd.R_types HO201.out BK231.out (by decide)) (fun _ hk => hk.2) (.slice Ao44 t225.length co44)) (fun _ hk => hk.2) (.slice Ao49 t228.length co49)) (fun _ h_ => h_.1))) hb); have n1_ := Aside0.mk (Kd.R_below (by (with_reducible repeat (first | apply Kd.R_alloc | apply Kd.R_drewN | apply Kd.R_drew)); exact (Kd.R_mono (Kd.R_far (p := ⟨gb231, 1, none⟩) (Kd.R_far (p := ⟨gb231, 0, none⟩) (Kd.R_types HO204.out BK231.out (by decide)) (fun _ hk => hk.2) (.slice Ao44 t225.length co44)) (fun _ hk => hk.2) (.slice Ao49 t228.length co49)) (fun _ h_ => h_.1))) hb); have n2_ := Aside0.mk (Kd.R_below (by (with_reducible repeat (first | apply Kd.R_alloc | apply Kd.R_drewN | apply Kd.R_drew)); exact (Kd.R_mono (Kd.R_far (p := ⟨gb231, 1, none⟩) (Kd.R_far (p := ⟨gb231, 0, none⟩) (Kd.R_types HO207.out BK231.out (by decide)) (fun _ hk => hk.2) (.slice Ao44 t225.length co44)) (fun _ hk => hk.2) (.slice Ao49 t228.length co49)) (fun _ h_ => h_.1))) hb); have n3_ := Aside0.mk (Kd.R_below (by (with_reducible repeat (first | apply Kd.R_alloc | apply Kd.R_drewN | apply Kd.R_drew)); exact (Kd.R_mono (Kd.R_far (p := ⟨gb231, 1, none⟩) (Kd.R_far (p := ⟨gb231, 0, none⟩) (Kd.R_types HO210.out BK231.out (by decide)) (fun _ hk => hk.2) (.slice Ao44 t225.length co44)) (fun _ hk => hk.2) (.slice Ao49 t228.length co49)) (fun _ h_ => h_.1))) hb); have n4_ := Aside0.mk (Kd.R_below (by (with_reducible repeat (first | apply Kd.R_alloc | apply Kd.R_drewN | apply Kd.R_drew)); exact (Kd.R_mono (Kd.R_far (p := ⟨gb231, 1, none⟩) (Kd.R_far (p := ⟨gb231, 0, none⟩) (Kd.R_types HO213.out BK231.out (by decide)) (fun _ hk => hk.2) (.slice Ao44 t225.length co44)) (fun _ hk => hk.2) (.slice Ao49 t228.length co49)) (fun _ h_ => h_.1))) hb); have n5_ := Aside0.mk (Kd.R_below (by (with_reducible repeat (first | apply Kd.R_alloc | apply Kd.R_drewN | apply Kd.R_drew)); exact (Kd.R_mono (Kd.R_far (p := ⟨gb231, 1, none⟩) (Kd.R_far (p := ⟨gb231, 0, none⟩) (Kd.R_types HO217.out BK231.out (by decide)) (fun _ hk => hk.2) (.slice Ao44 t225.length co44)) (fun _ hk => hk.2) (.slice Ao49 t228.length co49)) (fun _ h_ => h_.1))) hb); have n6_ := Aside0.mk (Kd.R_below (by (with_reducible repeat (first | apply Kd.R_alloc | apply Kd.R_drewN | apply Kd.R_drew)); exact (Kd.R_mono (Kd.R_far (p := ⟨gb231, 1, none⟩) (Kd.R_far (p := ⟨gb231, 0, none⟩) (Kd.R_types HO220.out BK231.out (by decide)) (fun _ hk => hk.2) (.slice Ao44 t225.length co44)) (fun _ hk => hk.2) (.slice Ao49 t228.length co49)) (fun _ h_ => h_.1))) hb); have n7_ := Aside0.mk (Kd.R_below (by (with_reducible repeat (first | apply Kd.R_alloc | apply Kd.R_drewN | apply Kd.R_drew)); exact (Kd.R_mono (Kd.R_far (p := ⟨gb231, 1, none⟩) (Kd.R_far (p := ⟨gb231, 0, none⟩) (Kd.R_types HO224.out BK231.out (by decide)) (fun _ hk => hk.2) (.slice Ao44 t225.length co44)) (fun _ hk => hk.2) (.slice Ao49 t228.length co49)) (fun _ h_ => h_.1))) hb); have n8_ := Aside0.mk (Kd.R_below (by (with_reducible repeat (first | apply Kd.R_alloc | apply Kd.R_drewN | apply Kd.R_drew)); exact (Kd.R_mono (Kd.R_far (p := ⟨gb231, 1, none⟩) (Kd.R_far (p := ⟨gb231, 0, none⟩) (Kd.R_types HO227.out BK231.out (by decide)) (fun _ hk => hk.2) (.slice Ao44 t225.length co44)) (fun _ hk => hk.2) (.slice Ao49 t228.length co49)) (fun _ h_ => h_.1))) hb); have n9_ := Aside0.mk (Kd.R_below (by (with_reducible repeat (first | apply Kd.R_alloc | apply Kd.R_drewN | apply Kd.R_drew)); exact (Kd.R_mono (Kd.R_far (p := ⟨gb231, 1, none⟩) (Kd.R_far (p := ⟨gb231, 0, none⟩) (Kd.R_types HO230.out BK231.out (by decide)) (fun _ hk => hk.2) (.slice Ao44 t225.length co44)) (fun _ hk => hk.2) (.slice Ao49 t228.length co49)) (fun _ h_ => h_.1))) hb); have n10_ := Aside0.mk (blk_below (g := gb197) (o := .cells #[.slice A0_0 l0_0.length c0_0, .slice A0_1 l0_1.length c0_1] 33 (0, 0)) (by (with_reducible repeat (first | refine blk_drewN ?_ _ | refine blk_drew ?_ | refine blk_alloc ?_ _)); refine blk_far ?_ NB197_231.out _; (with_reducible repeat (first | refine blk_drewN ?_ _ | refine blk_drew ?_ | refine blk_alloc ?_ _)); refine blk_far ?_ NB197_231.out _; (with_reducible repeat (first | refine blk_drewN ?_ _ | refine blk_drew ?_ | refine blk_alloc ?_ _)); exact BK197.out) hb); have n11_ := Aside0.mk (blk_below (g := gb214) (o := .cells #[.slice Ao27 t208.length co27, .slice Ao30 t211.length co30] 25 (0, 0)) (by (with_reducible repeat (first | refine blk_drewN ?_ _ | refine blk_drew ?_ | refine blk_alloc ?_ _)); refine blk_far ?_ NB214_231.out _; (with_reducible repeat (first | refine blk_drewN ?_ _ | refine blk_drew ?_ | refine blk_alloc ?_ _)); refine blk_far ?_ NB214_231.out _; (with_reducible repeat (first | refine blk_drewN ?_ _ | refine blk_drew ?_ | refine blk_alloc ?_ _)); exact BK214.out) hb); have n12_ := Aside0.mk (blk_below (g := gb221) (o := .cells #[.slice Ao34 t215.length co34, .slice Ao38 t218.length co38] 25 (0, 0)) (by (with_reducible repeat (first | refine blk_drewN ?_ _ | refine blk_drew ?_ | refine blk_alloc ?_ _)); refine blk_far ?_ NB221_231.out _; (with_reducible repeat (first | refine blk_drewN ?_ _ | refine blk_drew ?_ | refine blk_alloc ?_ _)); refine blk_far ?_ NB221_231.out _; (with_reducible repeat (first | refine blk_drewN ?_ _ | refine blk_drew ?_ | refine blk_alloc ?_ _)); exact BK221.out) hb); have n13_ := Aside0.mk (blk_below (g := gb231) (o := .cells #[.slice Ao44 t225.length co44, .slice Ao49 t228.length co49] 25 (0, 0)) (by (with_reducible repeat (first | refine blk_drewN ?_ _ | refine blk_drew ?_ | refine blk_alloc ?_ _)); refine blk_put (cs := #[.slice Ao44 t225.length co44, .slice none 0 0]) ?_ 1 _ rfl; (with_reducible repeat (first | refine blk_drewN ?_ _ | refine blk_drew ?_ | refine blk_alloc ?_ _)); refine blk_put (cs := #[.slice none 0 0, .slice none 0 0]) ?_ 0 _ rfl; (with_reducible repeat (first | refine blk_drewN ?_ _ | refine blk_drew ?_ | refine blk_alloc ?_ _)); exact BK231.out) hb); have n14_ := Aside0.mk (below_step (by repeat (first | (with_reducible first | exact HB.out | apply below_alloc | apply pw_below_drewN | apply below_drew1 | refine below_set ?_ GE197.out | refine below_set ?_ GE214.out | refine below_set ?_ GE221.out | refine below_set ?_ GE231.out) | exact HB.out)) hb); clear HO201; clear HO204; clear HO207; clear HO210; clear HO213; clear HO217; clear HO220; clear HO224; clear HO227; clear HO230; clear BK197; clear BK214; clear BK221; clear BK231; clear HB; have HO201 := n0_; have HO204 := n1_; have HO207 := n2_; have HO210 := n3_; have HO213 := n4_; have HO217 := n5_; have HO220 := n6_; have HO224 := n7_; have HO227 := n8_; have HO230 := n9_; have BK197 := n10_; have BK214 := n11_; have BK221 := n12_; have BK231 := n13_; have HB := n14_; clear n0_ n1_ n2_ n3_ n4_ n5_ n6_ n7_ n8_ n9_ n10_ n11_ n12_ n13_ n14_; (try clear hb); (try clear hb2); (try clear hk); (try clear hi)))
     (try simp only [Act.put, List.setIfInBounds_toArray, List.set_cons_zero, List.set_cons_succ])
     go_cut [] (fun wc => ∃ (kq : Nat), Aside0 (laws_FnExactCut.j2 kq l1 t222 l0_0 l0_1 t208 t211 t215 t218 t225 t228 = some r) ∧ Aside0 (kq ≤ kj6) ∧ Aside0 (Kd.R Kd.bool 4 wc w.heap.size (fun _ => True) (.slice Ao41 t222.length co41) t222) ∧ Aside0 (Kd.R Kd.string 9 wc w.heap.size (fun k_ => some k_ ≠ ((.slice Ao34 t215.length co34) : Value).ownBlock ∧ some k_ ≠ ((.slice Ao44 t225.length co44) : Value).ownBlock) (.slice Ao27 t208.length co27) t208) ∧ Aside0 (Kd.R k72 72 wc w.heap.size (fun k_ => some k_ ≠ ((.slice Ao38 t218.length co38) : Value).ownBlock ∧ some k_ ≠ ((.slice Ao49 t228.length co49) : Value).ownBlock) (.slice Ao30 t211.length co30) t211) ∧ Aside0 (Kd.R Kd.string 9 wc w.heap.size (fun k_ => some k_ ≠ ((.slice Ao27 t208.length co27) : Value).ownBlock ∧ some k_ ≠ ((.slice Ao44 t225.length co44) : Value).ownBlock) (.slice Ao34 t215.length co34) t215) ∧ Aside0 (Kd.R k72 72 wc w.heap.size (fun k_ => some k_ ≠ ((.slice Ao30 t211.length co30) : Value).ownBlock ∧ some k_ ≠ ((.slice Ao49 t228.length co49) : Value).ownBlock) (.slice Ao38 t218.length co38) t218) ∧ Aside0 (Kd.R Kd.string 9 wc w.heap.size (fun k_ => some k_ ≠ ((.slice Ao27 t208.length co27) : Value).ownBlock ∧ some k_ ≠ ((.slice Ao34 t215.length co34) : Value).ownBlock) (.slice Ao44 t225.length co44) t225) ∧ Aside0 (Kd.R k72 72 wc w.heap.size (fun k_ => some k_ ≠ ((.slice Ao30 t211.length co30) : Value).ownBlock ∧ some k_ ≠ ((.slice Ao38 t218.length co38) : Value).ownBlock) (.slice Ao49 t228.length co49) t228) ∧ Aside0 (wc.heap[gb197]? = some (.cells #[(.slice A0_0 l0_0.length c0_0), (.slice A0_1 l0_1.length c0_1)] 33 (0, 0))) ∧ Aside0 (wc.heap[gb214]? = some (.cells #[(.slice Ao27 t208.length co27), (.slice Ao30 t211.length co30)] 25 (0, 0))) ∧ Aside0 (wc.heap[gb221]? = some (.cells #[(.slice Ao34 t215.length co34), (.slice Ao38 t218.length co38)] 25 (0, 0))) ∧ Aside0 (wc.heap[gb231]? = some (.cells #[(.slice Ao44 t225.length co44), (.slice Ao49 t228.length co49)] 25 (0, 0))) ∧ Aside0 (Below w.heap.size w wc))
     case first =>
      have H := HC18.out
      clear HC18
      by_cases c52 : t232 = true
      ·subst c52
       have H1 : (laws_FnExactCut.j2 kj6 l1 t222 l0_0 l0_1 t208 t211 t215 t218 t225 t228) = some r := by rw [if_pos rfl] at H; exact H
       clear H
       have H := H1
       clear H1
       have H' := Aside0.mk H
       clear H
       go_wp2
       go_meet
       case rel => exact ⟨_, H', ⟨by have := HJ2.out; have := HJ6.out; first | omega | exact Nat.le_refl _⟩, ⟨by (with_reducible repeat (first | apply Kd.R_alloc | apply Kd.R_drewN | apply Kd.R_drew)); exact Kd.R_mono HO224.out (fun _ hk => trivial)⟩, ⟨by (with_reducible repeat (first | apply Kd.R_alloc | apply Kd.R_drewN | apply Kd.R_drew)); exact Kd.R_mono HO210.out (fun _ hk => ⟨hk.1.2, hk.2⟩)⟩, ⟨by (with_reducible repeat (first | apply Kd.R_alloc | apply Kd.R_drewN | apply Kd.R_drew)); exact Kd.R_mono HO213.out (fun _ hk => ⟨hk.1.2, hk.2⟩)⟩, ⟨by (with_reducible repeat (first | apply Kd.R_alloc | apply Kd.R_drewN | apply Kd.R_drew)); exact Kd.R_mono HO217.out (fun _ hk => ⟨hk.1.2, hk.2⟩)⟩, ⟨by (with_reducible repeat (first | apply Kd.R_alloc | apply Kd.R_drewN | apply Kd.R_drew)); exact Kd.R_mono HO220.out (fun _ hk => ⟨hk.1.2, hk.2⟩)⟩, ⟨by (with_reducible repeat (first | apply Kd.R_alloc | apply Kd.R_drewN | apply Kd.R_drew)); exact Kd.R_mono HO227.out (fun _ hk => ⟨hk.1.2, hk.2⟩)⟩, ⟨by (with_reducible repeat (first | apply Kd.R_alloc | apply Kd.R_drewN | apply Kd.R_drew)); exact Kd.R_mono HO230.out (fun _ hk => ⟨hk.1.2, hk.2⟩)⟩, ⟨by (with_reducible repeat (first | refine blk_drewN ?_ _ | refine blk_drew ?_ | refine blk_alloc ?_ _)); exact BK197.out⟩, ⟨by (with_reducible repeat (first | refine blk_drewN ?_ _ | refine blk_drew ?_ | refine blk_alloc ?_ _)); exact BK214.out⟩, ⟨by (with_reducible repeat (first | refine blk_drewN ?_ _ | refine blk_drew ?_ | refine blk_alloc ?_ _)); exact BK221.out⟩, ⟨by (with_reducible repeat (first | refine blk_drewN ?_ _ | refine blk_drew ?_ | refine blk_alloc ?_ _)); exact BK231.out⟩, ⟨by repeat (first | (with_reducible first | exact HB.out | apply below_alloc | apply pw_below_drewN | apply below_drew1 | refine below_set ?_ GE197.out | refine below_set ?_ GE214.out | refine below_set ?_ GE221.out | refine below_set ?_ GE231.out) | exact HB.out)⟩⟩
      ·replace c52 := Bool.eq_false_iff.mpr c52
       subst c52
       have H1 : (some false) = some r := by rw [if_neg (show ¬ (false = true) by decide)] at H; exact H
       clear H
       have H := H1
       clear H1
       obtain rfl := Option.some.inj H
       go_wp2
       go_ret
       exact ⟨by first | rfl | (simp [errW_none, errW_some] <;> rfl) | (simp [*, errW_none, errW_some] <;> rfl), by repeat (first | (with_reducible first | exact HB.out | apply below_alloc | apply pw_below_drewN | apply below_drew1 | refine below_set ?_ GE197.out | refine below_set ?_ GE214.out | refine below_set ?_ GE221.out | refine below_set ?_ GE231.out) | exact HB.out)⟩
     case rest =>
      clear HC18
      try clear c1
      try clear c2
      try clear p2
      try clear c3
      try clear c4
      try clear c5
      try clear c5b0
      try clear c5b1
      try clear c7
      try clear c10
      try clear c10b0
      try clear c13
      try clear c16
      try clear c18
      try clear c24
      try clear c25
      try clear c26
      try clear c28
      try clear c35
      try clear c36
      try clear c45
      try clear c46
      try clear c47
      try clear c52
      try clear hcz19_0
      try clear hcz19_1
      try clear hcz29_0
      try clear hcz29_1
      try clear hcz31_0
      try clear hcz31_1
      try clear hcz37_0
      try clear hcz37_1
      try clear hcz40_0
      try clear hcz40_1
      try clear hcz48_0
      try clear hcz48_1
      try clear hcz50_0
      try clear hcz50_1
      try clear hcz8_0
      try clear hcz8_1
      try clear hfz19_0
      try clear hfz19_1
      try clear hfz29_0
      try clear hfz29_1
      try clear hfz31_0
      try clear hfz31_1
      try clear hfz37_0
      try clear hfz37_1
      try clear hfz40_0
      try clear hfz40_1
      try clear hfz48_0
      try clear hfz48_1
      try clear hfz50_0
      try clear hfz50_1
      try clear hfz8_0
      try clear hfz8_1
      try clear p2
      obtain ⟨kq, HA, HJ17, HO_8, HO_215000, HO_215001, HO_222000, HO_222001, HO_232000, HO_232001, BK197, BK214, BK221, BK231, HB⟩ := hcut
      cases kq with
      | zero => exact absurd HA.out (by simp [laws_FnExactCut.j2])
      | succ kj17 =>
       have H := HA.out
       clear HA
       simp only [laws_FnExactCut.j2] at H
       replace H := Option.bind_eq_some_iff.mp H
       obtain ⟨⟨t233, t236⟩, A530, H⟩ := H
       replace H : ((laws_eqDevice.f kj17 t215 t218 t233 t236).bind fun t239 => (if t239 = true then (laws_FnExactCut.j3 kj17 l1 t222 l0_0 l0_1 t208 t211 t215 t218 t225 t228) else (some false))) = some r := H
       have A53 := Aside0.mk A530
       clear A530
       replace H := Option.bind_eq_some_iff.mp H
       obtain ⟨t239, A540, H⟩ := H
       replace H : (if t239 = true then (laws_FnExactCut.j3 kj17 l1 t222 l0_0 l0_1 t208 t211 t215 t218 t225 t228) else (some false)) = some r := H
       have A54 := Aside0.mk A540
       clear A540
       have HC55 := Aside0.mk H
       clear H
       try go_wp2
       have n0_ := Aside0.mk (Kd.R_drew HO_8.out)
       have n1_ := Aside0.mk (Kd.R_drew HO_215000.out)
       have n2_ := Aside0.mk (Kd.R_drew HO_215001.out)
       have n3_ := Aside0.mk (Kd.R_drew HO_222000.out)
       have n4_ := Aside0.mk (Kd.R_drew HO_222001.out)
       have n5_ := Aside0.mk (Kd.R_drew HO_232000.out)
       have n6_ := Aside0.mk (Kd.R_drew HO_232001.out)
       have n7_ := Aside0.mk (blk_drew BK197.out)
       have n8_ := Aside0.mk (blk_drew BK214.out)
       have n9_ := Aside0.mk (blk_drew BK221.out)
       have n10_ := Aside0.mk (blk_drew BK231.out)
       have n11_ := Aside0.mk (below_drew1 HB.out)
       clear HO_8
       clear HO_215000
       clear HO_215001
       clear HO_222000
       clear HO_222001
       clear HO_232000
       clear HO_232001
       clear BK197
       clear BK214
       clear BK221
       clear BK231
       clear HB
       have HO_8 := n0_
       have HO_215000 := n1_
       have HO_215001 := n2_
       have HO_222000 := n3_
       have HO_222001 := n4_
       have HO_232000 := n5_
       have HO_232001 := n6_
       have BK197 := n7_
       have BK214 := n8_
       have BK221 := n9_
       have BK231 := n10_
       have HB := n11_
       clear n0_ n1_ n2_ n3_ n4_ n5_ n6_ n7_ n8_ n9_ n10_ n11_
       refine start_ (n := 5) (S := fun w' => w'.cell? ⟨gb221, 0, none⟩ = some (.slice Ao34 t215.length co34) ∧ w'.cell? ⟨gb221, 1, none⟩ = some (.slice Ao38 t218.length co38) ∧ w'.cell? ⟨gb197, 0, none⟩ = some (.slice A0_0 l0_0.length c0_0) ∧ w'.cell? ⟨gb197, 1, none⟩ = some (.slice A0_1 l0_1.length c0_1)) (ds := []) #[false, false, false, false, false] (by kernel_rfl) rfl rfl ⟨(blk_cell BK221.out 0).trans rfl, (blk_cell BK221.out 1).trans rfl, (blk_cell BK197.out 0).trans rfl, (blk_cell BK197.out 1).trans rfl⟩ (fun hHeld => ?_)
       generalize wc.drew = w56 at HO_8 HO_215000 HO_215001 HO_222000 HO_222001 HO_232000 HO_232001 BK197 BK214 BK221 BK231 HB hHeld ⊢
       refine take_ (i := 0) (N := some 38) (v := ?_) (a' := ?_) #[true, false, false, false, false] rfl rfl (by kernel_rfl) (fun _ _ _ h => h) (Or.inl ⟨by rfl, ?_⟩) hHeld ?_ ?_
       rotate_left
       ·rintro w' ⟨s0, s1, s2, s3⟩
        go_simp
        with_reducible rfl
       rotate_left
       ·simp only [Act.put, List.setIfInBounds_toArray, List.set_cons_zero, List.set_cons_succ, i64_w, i32_w]
        rfl
       refine take_ (i := 1) (N := some 39) (v := ?_) (a' := ?_) #[true, true, false, false, false] rfl rfl (by kernel_rfl) (fun _ _ _ h => h) (Or.inl ⟨by rfl, ?_⟩) hHeld ?_ ?_
       rotate_left
       ·rintro w' ⟨s0, s1, s2, s3⟩
        go_simp
        with_reducible rfl
       rotate_left
       ·simp only [Act.put, List.setIfInBounds_toArray, List.set_cons_zero, List.set_cons_succ, i64_w, i32_w]
        rfl
       refine one_ (i := 2) (N := some 40) #[true, true, true, false, false] rfl rfl (by kernel_rfl) (by decide) (fun K hK => ?_)
       refine goes_ Try.func18 (by kernel_rfl) rfl #[.agg #[.slice A0_0 l0_0.length c0_0, .slice A0_1 l0_1.length c0_1]] (by rfl) rfl rfl (by (try simp only [List.map_toArray, List.map_cons, List.map_nil]); first | done | rfl | (simp only [List.length_drop, List.length_take]; rfl)) ?_
       with_reducible refine (laws_toDevice.calls kj17 _ _ l0_0 _ _ l0_1 t233 t236 _ ?side1 ?side2 ?side3 ?side4 A53.out).mono ?_
       (case side1 => repeat (first | exact (Kd.C_below HR0_0.out HB.out) | (with_reducible refine Kd.C_alloc ?_ _) | (with_reducible refine Kd.C_drewN ?_ _) | (with_reducible refine Kd.C_drew ?_)))
       (case side2 => exact HC0_0.out)
       (case side3 => repeat (first | exact (Kd.C_below HR0_1.out HB.out) | (with_reducible refine Kd.C_alloc ?_ _) | (with_reducible refine Kd.C_drewN ?_ _) | (with_reducible refine Kd.C_drew ?_)))
       (case side4 => exact HC0_1.out)
       rintro e w57 ⟨v234, v237, rfl, ho0, ho1, hb⟩
       refine ⟨_, rfl, ?_⟩
       have n0_ := Aside0.mk (Kd.R_below (by (with_reducible repeat (first | apply Kd.R_alloc | apply Kd.R_drewN | apply Kd.R_drew)); exact HO_8.out) hb)
       have n1_ := Aside0.mk (Kd.R_elder' (by (with_reducible repeat (first | apply Kd.R_alloc | apply Kd.R_drewN | apply Kd.R_drew)); exact HO_215000.out) (Kd.R_base ho0) hb)
       have n2_ := Aside0.mk (Kd.R_elder' (by (with_reducible repeat (first | apply Kd.R_alloc | apply Kd.R_drewN | apply Kd.R_drew)); exact HO_215001.out) (Kd.R_base ho1) hb)
       have n3_ := Aside0.mk (Kd.R_elder' (by (with_reducible repeat (first | apply Kd.R_alloc | apply Kd.R_drewN | apply Kd.R_drew)); exact HO_222000.out) (Kd.R_base ho0) hb)
       have n4_ := Aside0.mk (Kd.R_elder' (by (with_reducible repeat (first | apply Kd.R_alloc | apply Kd.R_drewN | apply Kd.R_drew)); exact HO_222001.out) (Kd.R_base ho1) hb)
       have n5_ := Aside0.mk (Kd.R_elder' (by (with_reducible repeat (first | apply Kd.R_alloc | apply Kd.R_drewN | apply Kd.R_drew)); exact HO_232000.out) (Kd.R_base ho0) hb)
       have n6_ := Aside0.mk (Kd.R_elder' (by (with_reducible repeat (first | apply Kd.R_alloc | apply Kd.R_drewN | apply Kd.R_drew)); exact HO_232001.out) (Kd.R_base ho1) hb)
       have n7_ := Aside0.mk (Kd.R_lower (Kd.R_new' (Kd.R_new' (Kd.R_new' ho0 (Kd.R_lt (by (with_reducible repeat (first | apply Kd.R_alloc | apply Kd.R_drewN | apply Kd.R_drew)); exact HO_215000.out))) (Kd.R_lt (by (with_reducible repeat (first | apply Kd.R_alloc | apply Kd.R_drewN | apply Kd.R_drew)); exact HO_222000.out))) (Kd.R_lt (by (with_reducible repeat (first | apply Kd.R_alloc | apply Kd.R_drewN | apply Kd.R_drew)); exact HO_232000.out))) (below_size (by repeat (first | (with_reducible first | exact HB.out | apply below_alloc | apply pw_below_drewN | apply below_drew1 | refine below_set ?_ GE197.out | refine below_set ?_ GE214.out | refine below_set ?_ GE221.out | refine below_set ?_ GE231.out) | exact HB.out))))
       have n8_ := Aside0.mk (Kd.R_lower (Kd.R_new' (Kd.R_new' (Kd.R_new' ho1 (Kd.R_lt (by (with_reducible repeat (first | apply Kd.R_alloc | apply Kd.R_drewN | apply Kd.R_drew)); exact HO_215001.out))) (Kd.R_lt (by (with_reducible repeat (first | apply Kd.R_alloc | apply Kd.R_drewN | apply Kd.R_drew)); exact HO_222001.out))) (Kd.R_lt (by (with_reducible repeat (first | apply Kd.R_alloc | apply Kd.R_drewN | apply Kd.R_drew)); exact HO_232001.out))) (below_size (by repeat (first | (with_reducible first | exact HB.out | apply below_alloc | apply pw_below_drewN | apply below_drew1 | refine below_set ?_ GE197.out | refine below_set ?_ GE214.out | refine below_set ?_ GE221.out | refine below_set ?_ GE231.out) | exact HB.out))))
       have n9_ := Aside0.mk (blk_below (g := gb197) (o := .cells #[.slice A0_0 l0_0.length c0_0, .slice A0_1 l0_1.length c0_1] 33 (0, 0)) (by (with_reducible repeat (first | refine blk_drewN ?_ _ | refine blk_drew ?_ | refine blk_alloc ?_ _)); exact BK197.out) hb)
       have n10_ := Aside0.mk (blk_below (g := gb214) (o := .cells #[.slice Ao27 t208.length co27, .slice Ao30 t211.length co30] 25 (0, 0)) (by (with_reducible repeat (first | refine blk_drewN ?_ _ | refine blk_drew ?_ | refine blk_alloc ?_ _)); exact BK214.out) hb)
       have n11_ := Aside0.mk (blk_below (g := gb221) (o := .cells #[.slice Ao34 t215.length co34, .slice Ao38 t218.length co38] 25 (0, 0)) (by (with_reducible repeat (first | refine blk_drewN ?_ _ | refine blk_drew ?_ | refine blk_alloc ?_ _)); exact BK221.out) hb)
       have n12_ := Aside0.mk (blk_below (g := gb231) (o := .cells #[.slice Ao44 t225.length co44, .slice Ao49 t228.length co49] 25 (0, 0)) (by (with_reducible repeat (first | refine blk_drewN ?_ _ | refine blk_drew ?_ | refine blk_alloc ?_ _)); exact BK231.out) hb)
       have n13_ := Aside0.mk (below_step (by repeat (first | (with_reducible first | exact HB.out | apply below_alloc | apply pw_below_drewN | apply below_drew1 | refine below_set ?_ GE197.out | refine below_set ?_ GE214.out | refine below_set ?_ GE221.out | refine below_set ?_ GE231.out) | exact HB.out)) hb)
       clear HO_8
       clear HO_215000
       clear HO_215001
       clear HO_222000
       clear HO_222001
       clear HO_232000
       clear HO_232001
       clear BK197
       clear BK214
       clear BK221
       clear BK231
       clear HB
       have HO_8 := n0_
       have HO_215000 := n1_
       have HO_215001 := n2_
       have HO_222000 := n3_
       have HO_222001 := n4_
       have HO_232000 := n5_
       have HO_232001 := n6_
       have HO235 := n7_
       have HO238 := n8_
       have BK197 := n9_
       have BK214 := n10_
       have BK221 := n11_
       have BK231 := n12_
       have HB := n13_
       clear n0_ n1_ n2_ n3_ n4_ n5_ n6_ n7_ n8_ n9_ n10_ n11_ n12_ n13_
       (try clear hb)
       (try clear hb2)
       (try clear hk)
       (try clear hi)
       (try clear ho0)
       (try clear ho1)
       obtain ⟨Ao58, co58, eo58⟩ := Kd.R_slice HO235.out
       (first | subst eo58 | (injection eo58 with f1_ f2_ f3_; have f4_ := f1_.symm; have f5_ := f3_.symm; clear f1_ f2_ f3_; subst f4_; subst f5_))
       obtain ⟨Ao59, co59, eo59⟩ := Kd.R_slice HO238.out
       (first | subst eo59 | (injection eo59 with f1_ f2_ f3_; have f4_ := f1_.symm; have f5_ := f3_.symm; clear f1_ f2_ f3_; subst f4_; subst f5_))
       refine hK.out _ _ ⟨(blk_cell BK221.out 0).trans rfl, (blk_cell BK221.out 1).trans rfl, (blk_cell BK197.out 0).trans rfl, (blk_cell BK197.out 1).trans rfl⟩ (fun hHeld => ?_)
       clear hK K
       refine norm_ (a' := ?_) ?_ ?_
       rotate_left
       ·show Act.put _ (some 40) _ = _
        simp only [Act.put, List.setIfInBounds_toArray, List.set_cons_zero, List.set_cons_succ, i64_w, i32_w]
        rfl
       refine one_ (i := 3) (N := some 41) #[true, true, true, true, false] rfl rfl (by kernel_rfl) (by decide) (fun K hK => ?_)
       refine goes_ Try.func13 (by kernel_rfl) rfl #[.agg #[.slice Ao34 t215.length co34, .slice Ao38 t218.length co38], .agg #[.slice Ao58 t233.length co58, .slice Ao59 t236.length co59]] (by rfl) rfl rfl (by (try simp only [List.map_toArray, List.map_cons, List.map_nil]); first | done | rfl | (simp only [List.length_drop, List.length_take]; rfl)) ?_
       with_reducible refine (laws_eqDevice.calls kj17 _ _ t215 _ _ t218 _ _ t233 _ _ t236 t239 _ ?side1 ?side2 ?side3 ?side4 ?side5 ?side6 ?side7 ?side8 A54.out).mono ?_
       (case side1 => repeat (first | exact (Kd.R_reads' HO_222000.out).2.2 | (with_reducible refine Kd.C_alloc ?_ _) | (with_reducible refine Kd.C_drewN ?_ _) | (with_reducible refine Kd.C_drew ?_)))
       (case side2 => exact (Kd.R_reads' HO_222000.out).2.1)
       (case side3 => repeat (first | exact (Kd.R_reads' HO_222001.out).2.2 | (with_reducible refine Kd.C_alloc ?_ _) | (with_reducible refine Kd.C_drewN ?_ _) | (with_reducible refine Kd.C_drew ?_)))
       (case side4 => exact (Kd.R_reads' HO_222001.out).2.1)
       (case side5 => repeat (first | exact (Kd.R_reads' HO235.out).2.2 | (with_reducible refine Kd.C_alloc ?_ _) | (with_reducible refine Kd.C_drewN ?_ _) | (with_reducible refine Kd.C_drew ?_)))
       (case side6 => exact (Kd.R_reads' HO235.out).2.1)
       (case side7 => repeat (first | exact (Kd.R_reads' HO238.out).2.2 | (with_reducible refine Kd.C_alloc ?_ _) | (with_reducible refine Kd.C_drewN ?_ _) | (with_reducible refine Kd.C_drew ?_)))
       (case side8 => exact (Kd.R_reads' HO238.out).2.1)
       rintro e w60 ⟨rfl, hb⟩
       refine ⟨_, rfl, ?_⟩
       have n0_ := Aside0.mk (Kd.R_below (by (with_reducible repeat (first | apply Kd.R_alloc | apply Kd.R_drewN | apply Kd.R_drew)); exact HO_8.out) hb)
       have n1_ := Aside0.mk (Kd.R_below (by (with_reducible repeat (first | apply Kd.R_alloc | apply Kd.R_drewN | apply Kd.R_drew)); exact HO_215000.out) hb)
       have n2_ := Aside0.mk (Kd.R_below (by (with_reducible repeat (first | apply Kd.R_alloc | apply Kd.R_drewN | apply Kd.R_drew)); exact HO_215001.out) hb)
       have n3_ := Aside0.mk (Kd.R_below (by (with_reducible repeat (first | apply Kd.R_alloc | apply Kd.R_drewN | apply Kd.R_drew)); exact HO_222000.out) hb)
       have n4_ := Aside0.mk (Kd.R_below (by (with_reducible repeat (first | apply Kd.R_alloc | apply Kd.R_drewN | apply Kd.R_drew)); exact HO_222001.out) hb)
       have n5_ := Aside0.mk (Kd.R_below (by (with_reducible repeat (first | apply Kd.R_alloc | apply Kd.R_drewN | apply Kd.R_drew)); exact HO_232000.out) hb)
       have n6_ := Aside0.mk (Kd.R_below (by (with_reducible repeat (first | apply Kd.R_alloc | apply Kd.R_drewN | apply Kd.R_drew)); exact HO_232001.out) hb)
       have n7_ := Aside0.mk (Kd.R_below (by (with_reducible repeat (first | apply Kd.R_alloc | apply Kd.R_drewN | apply Kd.R_drew)); exact HO235.out) hb)
       have n8_ := Aside0.mk (Kd.R_below (by (with_reducible repeat (first | apply Kd.R_alloc | apply Kd.R_drewN | apply Kd.R_drew)); exact HO238.out) hb)
       have n9_ := Aside0.mk (blk_below (g := gb197) (o := .cells #[.slice A0_0 l0_0.length c0_0, .slice A0_1 l0_1.length c0_1] 33 (0, 0)) (by (with_reducible repeat (first | refine blk_drewN ?_ _ | refine blk_drew ?_ | refine blk_alloc ?_ _)); exact BK197.out) hb)
       have n10_ := Aside0.mk (blk_below (g := gb214) (o := .cells #[.slice Ao27 t208.length co27, .slice Ao30 t211.length co30] 25 (0, 0)) (by (with_reducible repeat (first | refine blk_drewN ?_ _ | refine blk_drew ?_ | refine blk_alloc ?_ _)); exact BK214.out) hb)
       have n11_ := Aside0.mk (blk_below (g := gb221) (o := .cells #[.slice Ao34 t215.length co34, .slice Ao38 t218.length co38] 25 (0, 0)) (by (with_reducible repeat (first | refine blk_drewN ?_ _ | refine blk_drew ?_ | refine blk_alloc ?_ _)); exact BK221.out) hb)
       have n12_ := Aside0.mk (blk_below (g := gb231) (o := .cells #[.slice Ao44 t225.length co44, .slice Ao49 t228.length co49] 25 (0, 0)) (by (with_reducible repeat (first | refine blk_drewN ?_ _ | refine blk_drew ?_ | refine blk_alloc ?_ _)); exact BK231.out) hb)
       have n13_ := Aside0.mk (below_step (by repeat (first | (with_reducible first | exact HB.out | apply below_alloc | apply pw_below_drewN | apply below_drew1 | refine below_set ?_ GE197.out | refine below_set ?_ GE214.out | refine below_set ?_ GE221.out | refine below_set ?_ GE231.out) | exact HB.out)) hb)
       clear HO_8
       clear HO_215000
       clear HO_215001
       clear HO_222000
       clear HO_222001
       clear HO_232000
       clear HO_232001
       clear HO235
       clear HO238
       clear BK197
       clear BK214
       clear BK221
       clear BK231
       clear HB
       have HO_8 := n0_
       have HO_215000 := n1_
       have HO_215001 := n2_
       have HO_222000 := n3_
       have HO_222001 := n4_
       have HO_232000 := n5_
       have HO_232001 := n6_
       have HO235 := n7_
       have HO238 := n8_
       have BK197 := n9_
       have BK214 := n10_
       have BK221 := n11_
       have BK231 := n12_
       have HB := n13_
       clear n0_ n1_ n2_ n3_ n4_ n5_ n6_ n7_ n8_ n9_ n10_ n11_ n12_ n13_
       (try clear hb)
       (try clear hb2)
       (try clear hk)
       (try clear hi)
       refine hK.out _ _ ⟨(blk_cell BK221.out 0).trans rfl, (blk_cell BK221.out 1).trans rfl, (blk_cell BK197.out 0).trans rfl, (blk_cell BK197.out 1).trans rfl⟩ (fun hHeld => ?_)
       clear hK K
       refine norm_ (a' := ?_) ?_ ?_
       rotate_left
       ·show Act.put _ (some 41) _ = _
        simp only [Act.put, List.setIfInBounds_toArray, List.set_cons_zero, List.set_cons_succ, i64_w, i32_w]
        rfl
       refine pure_ (i := 4) (N := some 42) (v := ?_) (a' := ?_) #[true, true, true, true, true] rfl rfl (by kernel_rfl) (fun _ _ _ h => h) (Or.inl ⟨by rfl, ?_⟩) ?_ ?_
       rotate_left
       ·intro w'
        go_simp
        with_reducible rfl
       rotate_left
       ·simp only [Act.put, List.setIfInBounds_toArray, List.set_cons_zero, List.set_cons_succ, i64_w, i32_w]
        rfl
       refine done_ (by kernel_rfl) ?_
       go_upto_if 42 with (fail)
       go_cut [] (fun wc => ∃ (kq : Nat), Aside0 (laws_FnExactCut.j3 kq l1 t222 l0_0 l0_1 t208 t211 t215 t218 t225 t228 = some r) ∧ Aside0 (kq ≤ kj17) ∧ Aside0 (Kd.R Kd.bool 4 wc w.heap.size (fun _ => True) (.slice Ao41 t222.length co41) t222) ∧ Aside0 (Kd.R Kd.string 9 wc w.heap.size (fun k_ => some k_ ≠ ((.slice Ao34 t215.length co34) : Value).ownBlock ∧ some k_ ≠ ((.slice Ao44 t225.length co44) : Value).ownBlock) (.slice Ao27 t208.length co27) t208) ∧ Aside0 (Kd.R k72 72 wc w.heap.size (fun k_ => some k_ ≠ ((.slice Ao38 t218.length co38) : Value).ownBlock ∧ some k_ ≠ ((.slice Ao49 t228.length co49) : Value).ownBlock) (.slice Ao30 t211.length co30) t211) ∧ Aside0 (Kd.R Kd.string 9 wc w.heap.size (fun k_ => some k_ ≠ ((.slice Ao27 t208.length co27) : Value).ownBlock ∧ some k_ ≠ ((.slice Ao44 t225.length co44) : Value).ownBlock) (.slice Ao34 t215.length co34) t215) ∧ Aside0 (Kd.R k72 72 wc w.heap.size (fun k_ => some k_ ≠ ((.slice Ao30 t211.length co30) : Value).ownBlock ∧ some k_ ≠ ((.slice Ao49 t228.length co49) : Value).ownBlock) (.slice Ao38 t218.length co38) t218) ∧ Aside0 (Kd.R Kd.string 9 wc w.heap.size (fun k_ => some k_ ≠ ((.slice Ao27 t208.length co27) : Value).ownBlock ∧ some k_ ≠ ((.slice Ao34 t215.length co34) : Value).ownBlock) (.slice Ao44 t225.length co44) t225) ∧ Aside0 (Kd.R k72 72 wc w.heap.size (fun k_ => some k_ ≠ ((.slice Ao30 t211.length co30) : Value).ownBlock ∧ some k_ ≠ ((.slice Ao38 t218.length co38) : Value).ownBlock) (.slice Ao49 t228.length co49) t228) ∧ Aside0 (wc.heap[gb197]? = some (.cells #[(.slice A0_0 l0_0.length c0_0), (.slice A0_1 l0_1.length c0_1)] 33 (0, 0))) ∧ Aside0 (wc.heap[gb214]? = some (.cells #[(.slice Ao27 t208.length co27), (.slice Ao30 t211.length co30)] 25 (0, 0))) ∧ Aside0 (wc.heap[gb221]? = some (.cells #[(.slice Ao34 t215.length co34), (.slice Ao38 t218.length co38)] 25 (0, 0))) ∧ Aside0 (wc.heap[gb231]? = some (.cells #[(.slice Ao44 t225.length co44), (.slice Ao49 t228.length co49)] 25 (0, 0))) ∧ Aside0 (Below w.heap.size w wc))
       case first =>
        have H := HC55.out
        clear HC55
        by_cases c61 : t239 = true
        ·subst c61
         have H1 : (laws_FnExactCut.j3 kj17 l1 t222 l0_0 l0_1 t208 t211 t215 t218 t225 t228) = some r := by rw [if_pos rfl] at H; exact H
         clear H
         have H := H1
         clear H1
         have H' := Aside0.mk H
         clear H
         go_wp2
         go_meet
         case rel => exact ⟨_, H', ⟨by have := HJ2.out; have := HJ6.out; have := HJ17.out; first | omega | exact Nat.le_refl _⟩, ⟨by (with_reducible repeat (first | apply Kd.R_alloc | apply Kd.R_drewN | apply Kd.R_drew)); exact HO_8.out⟩, ⟨by (with_reducible repeat (first | apply Kd.R_alloc | apply Kd.R_drewN | apply Kd.R_drew)); exact Kd.R_mono HO_215000.out (fun _ hk => ⟨hk.1.1, hk.1.2⟩)⟩, ⟨by (with_reducible repeat (first | apply Kd.R_alloc | apply Kd.R_drewN | apply Kd.R_drew)); exact Kd.R_mono HO_215001.out (fun _ hk => ⟨hk.1.1, hk.1.2⟩)⟩, ⟨by (with_reducible repeat (first | apply Kd.R_alloc | apply Kd.R_drewN | apply Kd.R_drew)); exact Kd.R_mono HO_222000.out (fun _ hk => ⟨hk.1.1, hk.1.2⟩)⟩, ⟨by (with_reducible repeat (first | apply Kd.R_alloc | apply Kd.R_drewN | apply Kd.R_drew)); exact Kd.R_mono HO_222001.out (fun _ hk => ⟨hk.1.1, hk.1.2⟩)⟩, ⟨by (with_reducible repeat (first | apply Kd.R_alloc | apply Kd.R_drewN | apply Kd.R_drew)); exact Kd.R_mono HO_232000.out (fun _ hk => ⟨hk.1.1, hk.1.2⟩)⟩, ⟨by (with_reducible repeat (first | apply Kd.R_alloc | apply Kd.R_drewN | apply Kd.R_drew)); exact Kd.R_mono HO_232001.out (fun _ hk => ⟨hk.1.1, hk.1.2⟩)⟩, ⟨by (with_reducible repeat (first | refine blk_drewN ?_ _ | refine blk_drew ?_ | refine blk_alloc ?_ _)); exact BK197.out⟩, ⟨by (with_reducible repeat (first | refine blk_drewN ?_ _ | refine blk_drew ?_ | refine blk_alloc ?_ _)); exact BK214.out⟩, ⟨by (with_reducible repeat (first | refine blk_drewN ?_ _ | refine blk_drew ?_ | refine blk_alloc ?_ _)); exact BK221.out⟩, ⟨by (with_reducible repeat (first | refine blk_drewN ?_ _ | refine blk_drew ?_ | refine blk_alloc ?_ _)); exact BK231.out⟩, ⟨by repeat (first | (with_reducible first | exact HB.out | apply below_alloc | apply pw_below_drewN | apply below_drew1 | refine below_set ?_ GE197.out | refine below_set ?_ GE214.out | refine below_set ?_ GE221.out | refine below_set ?_ GE231.out) | exact HB.out)⟩⟩
        ·replace c61 := Bool.eq_false_iff.mpr c61
         subst c61
         have H1 : (some false) = some r := by rw [if_neg (show ¬ (false = true) by decide)] at H; exact H
         clear H
         have H := H1
         clear H1
         obtain rfl := Option.some.inj H
         go_wp2
         go_ret
         exact ⟨by first | rfl | (simp [errW_none, errW_some] <;> rfl) | (simp [*, errW_none, errW_some] <;> rfl), by repeat (first | (with_reducible first | exact HB.out | apply below_alloc | apply pw_below_drewN | apply below_drew1 | refine below_set ?_ GE197.out | refine below_set ?_ GE214.out | refine below_set ?_ GE221.out | refine below_set ?_ GE231.out) | exact HB.out)⟩
       case rest =>
        clear HC55
        try clear c1
        try clear c2
        try clear p2
        try clear c3
        try clear c4
        try clear c5
        try clear c5b0
        try clear c5b1
        try clear c6
        try clear c7
        try clear c10
        try clear c10b0
        try clear c13
        try clear c16
        try clear c18
        try clear c24
        try clear c25
        try clear c26
        try clear c28
        try clear c35
        try clear c36
        try clear c45
        try clear c46
        try clear c47
        try clear c52
        try clear c61
        try clear hcz19_0
        try clear hcz19_1
        try clear hcz29_0
        try clear hcz29_1
        try clear hcz31_0
        try clear hcz31_1
        try clear hcz37_0
        try clear hcz37_1
        try clear hcz40_0
        try clear hcz40_1
        try clear hcz48_0
        try clear hcz48_1
        try clear hcz50_0
        try clear hcz50_1
        try clear hcz8_0
        try clear hcz8_1
        try clear hfz19_0
        try clear hfz19_1
        try clear hfz29_0
        try clear hfz29_1
        try clear hfz31_0
        try clear hfz31_1
        try clear hfz37_0
        try clear hfz37_1
        try clear hfz40_0
        try clear hfz40_1
        try clear hfz48_0
        try clear hfz48_1
        try clear hfz50_0
        try clear hfz50_1
        try clear hfz8_0
        try clear hfz8_1
        try clear p2
        obtain ⟨kq, HA, HJ54, HO_8, HO_215000, HO_215001, HO_222000, HO_222001, HO_232000, HO_232001, BK197, BK214, BK221, BK231, HB⟩ := hcut
        cases kq with
        | zero => exact absurd HA.out (by simp [laws_FnExactCut.j3])
        | succ kj54 =>
         have H := HA.out
         clear HA
         simp only [laws_FnExactCut.j3] at H
         replace H := Option.bind_eq_some_iff.mp H
         obtain ⟨t240, A620, H⟩ := H
         replace H : ((laws_eqBoolS.f kj54 t222 t240).bind fun t243 => (if t243 = true then (laws_FnExactCut.j4 kj54 l1 t222 l0_0 l0_1 t208 t211 t215 t218 t225 t228) else (some false))) = some r := H
         have A62 := Aside0.mk A620
         clear A620
         replace H := Option.bind_eq_some_iff.mp H
         obtain ⟨t243, A630, H⟩ := H
         replace H : (if t243 = true then (laws_FnExactCut.j4 kj54 l1 t222 l0_0 l0_1 t208 t211 t215 t218 t225 t228) else (some false)) = some r := H
         have A63 := Aside0.mk A630
         clear A630
         have HC64 := Aside0.mk H
         clear H
         go_upto_if 47 with (first | ((with_reducible refine gate_callee (f := 25) rfl ?_); refine goesL_ (some 45) rfl rfl Try.func25 (by kernel_rfl) rfl #[.slice A1 l1.length c1] rfl (by (try simp only [List.map_toArray, List.map_cons, List.map_nil]); first | done | rfl | (simp only [List.length_drop, List.length_take]; rfl)) ?_; (with_reducible refine (laws_toBoolS.calls kj54 _ _ l1 t240 _ ?side1 ?side2 A62.out).mono ?_); (case side1 => repeat (first | exact (Kd.C_below HR1.out HB.out) | (with_reducible refine Kd.C_alloc ?_ _) | (with_reducible refine Kd.C_drewN ?_ _) | (with_reducible refine Kd.C_drew ?_))); (case side2 => exact HC1.out); rintro e w65 ⟨v241, rfl, ho0, hb⟩; refine ⟨_, rfl, ?_⟩; have n0_ := Aside0.mk (Kd.R_elder' (by (with_reducible repeat (first | apply Kd.R_alloc | apply Kd.R_drewN | apply Kd.R_drew)); exact HO_8.out) (Kd.R_base ho0) hb); have n1_ := Aside0.mk (Kd.R_below (by (with_reducible repeat (first | apply Kd.R_alloc | apply Kd.R_drewN | apply Kd.R_drew)); exact HO_215000.out) hb); have n2_ := Aside0.mk (Kd.R_below (by (with_reducible repeat (first | apply Kd.R_alloc | apply Kd.R_drewN | apply Kd.R_drew)); exact HO_215001.out) hb); have n3_ := Aside0.mk (Kd.R_below (by (with_reducible repeat (first | apply Kd.R_alloc | apply Kd.R_drewN | apply Kd.R_drew)); exact HO_222000.out) hb); have n4_ := Aside0.mk (Kd.R_below (by (with_reducible repeat (first | apply Kd.R_alloc | apply Kd.R_drewN | apply Kd.R_drew)); exact HO_222001.out) hb); have n5_ := Aside0.mk (Kd.R_below (by (with_reducible repeat (first | apply Kd.R_alloc | apply Kd.R_drewN | apply Kd.R_drew)); exact HO_232000.out) hb); have n6_ := Aside0.mk (Kd.R_below (by (with_reducible repeat (first | apply Kd.R_alloc | apply Kd.R_drewN | apply Kd.R_drew)); exact HO_232001.out) hb); have n7_ := Aside0.mk (Kd.R_lower (Kd.R_new' ho0 (Kd.R_lt (by (with_reducible repeat (first | apply Kd.R_alloc | apply Kd.R_drewN | apply Kd.R_drew)); exact HO_8.out))) (below_size (by repeat (first | (with_reducible first | exact HB.out | apply below_alloc | apply pw_below_drewN | apply below_drew1 | refine below_set ?_ GE197.out | refine below_set ?_ GE214.out | refine below_set ?_ GE221.out | refine below_set ?_ GE231.out) | exact HB.out)))); have n8_ := Aside0.mk (blk_below (g := gb197) (o := .cells #[.slice A0_0 l0_0.length c0_0, .slice A0_1 l0_1.length c0_1] 33 (0, 0)) (by (with_reducible repeat (first | refine blk_drewN ?_ _ | refine blk_drew ?_ | refine blk_alloc ?_ _)); exact BK197.out) hb); have n9_ := Aside0.mk (blk_below (g := gb214) (o := .cells #[.slice Ao27 t208.length co27, .slice Ao30 t211.length co30] 25 (0, 0)) (by (with_reducible repeat (first | refine blk_drewN ?_ _ | refine blk_drew ?_ | refine blk_alloc ?_ _)); exact BK214.out) hb); have n10_ := Aside0.mk (blk_below (g := gb221) (o := .cells #[.slice Ao34 t215.length co34, .slice Ao38 t218.length co38] 25 (0, 0)) (by (with_reducible repeat (first | refine blk_drewN ?_ _ | refine blk_drew ?_ | refine blk_alloc ?_ _)); exact BK221.out) hb); have n11_ := Aside0.mk (blk_below (g := gb231) (o := .cells #[.slice Ao44 t225.length co44, .slice Ao49 t228.length co49] 25 (0, 0)) (by (with_reducible repeat (first | refine blk_drewN ?_ _ | refine blk_drew ?_ | refine blk_alloc ?_ _)); exact BK231.out) hb); have n12_ := Aside0.mk (below_step (by repeat (first | (with_reducible first | exact HB.out | apply below_alloc | apply pw_below_drewN | apply below_drew1 | refine below_set ?_ GE197.out | refine below_set ?_ GE214.out | refine below_set ?_ GE221.out | refine below_set ?_ GE231.out) | exact HB.out)) hb); clear HO_8; clear HO_215000; clear HO_215001; clear HO_222000; clear HO_222001; clear HO_232000; clear HO_232001; clear BK197; clear BK214; clear BK221; clear BK231; clear HB; have HO_8 := n0_; have HO_215000 := n1_; have HO_215001 := n2_; have HO_222000 := n3_; have HO_222001 := n4_; have HO_232000 := n5_; have HO_232001 := n6_; have HO242 := n7_; have BK197 := n8_; have BK214 := n9_; have BK221 := n10_; have BK231 := n11_; have HB := n12_; clear n0_ n1_ n2_ n3_ n4_ n5_ n6_ n7_ n8_ n9_ n10_ n11_ n12_; (try clear hb); (try clear hb2); (try clear hk); (try clear hi); (try clear ho0); obtain ⟨Ao66, co66, eo66⟩ := Kd.R_slice HO242.out; subst eo66) | ((with_reducible refine gate_callee (f := 27) rfl ?_); refine goesL_ (some 46) rfl rfl Try.func27 (by kernel_rfl) rfl #[.slice Ao41 t222.length co41, .slice Ao66 t240.length co66] rfl (by (try simp only [List.map_toArray, List.map_cons, List.map_nil]); first | done | rfl | (simp only [List.length_drop, List.length_take]; rfl)) ?_; (with_reducible refine (laws_eqBoolS.calls kj54 _ _ t222 _ _ t240 t243 _ ?side1 ?side2 ?side3 ?side4 A63.out).mono ?_); (case side1 => repeat (first | exact (Kd.R_reads' HO_8.out).2.2 | (with_reducible refine Kd.C_alloc ?_ _) | (with_reducible refine Kd.C_drewN ?_ _) | (with_reducible refine Kd.C_drew ?_))); (case side2 => exact (Kd.R_reads' HO_8.out).2.1); (case side3 => repeat (first | exact (Kd.R_reads' HO242.out).2.2 | (with_reducible refine Kd.C_alloc ?_ _) | (with_reducible refine Kd.C_drewN ?_ _) | (with_reducible refine Kd.C_drew ?_))); (case side4 => exact (Kd.R_reads' HO242.out).2.1); rintro e w' ⟨rfl, ⟨nd, rfl⟩⟩; refine ⟨_, rfl, ?_⟩))
         (try simp only [Act.put, List.setIfInBounds_toArray, List.set_cons_zero, List.set_cons_succ])
         go_cut [] (fun wc => ∃ (kq : Nat), Aside0 (laws_FnExactCut.j4 kq l1 t222 l0_0 l0_1 t208 t211 t215 t218 t225 t228 = some r) ∧ Aside0 (kq ≤ kj54) ∧ Aside0 (Kd.R Kd.bool 4 wc w.heap.size (fun _ => True) (.slice Ao41 t222.length co41) t222) ∧ Aside0 (Kd.R Kd.string 9 wc w.heap.size (fun k_ => some k_ ≠ ((.slice Ao34 t215.length co34) : Value).ownBlock ∧ some k_ ≠ ((.slice Ao44 t225.length co44) : Value).ownBlock) (.slice Ao27 t208.length co27) t208) ∧ Aside0 (Kd.R k72 72 wc w.heap.size (fun k_ => some k_ ≠ ((.slice Ao38 t218.length co38) : Value).ownBlock ∧ some k_ ≠ ((.slice Ao49 t228.length co49) : Value).ownBlock) (.slice Ao30 t211.length co30) t211) ∧ Aside0 (Kd.R Kd.string 9 wc w.heap.size (fun k_ => some k_ ≠ ((.slice Ao27 t208.length co27) : Value).ownBlock ∧ some k_ ≠ ((.slice Ao44 t225.length co44) : Value).ownBlock) (.slice Ao34 t215.length co34) t215) ∧ Aside0 (Kd.R k72 72 wc w.heap.size (fun k_ => some k_ ≠ ((.slice Ao30 t211.length co30) : Value).ownBlock ∧ some k_ ≠ ((.slice Ao49 t228.length co49) : Value).ownBlock) (.slice Ao38 t218.length co38) t218) ∧ Aside0 (Kd.R Kd.string 9 wc w.heap.size (fun k_ => some k_ ≠ ((.slice Ao27 t208.length co27) : Value).ownBlock ∧ some k_ ≠ ((.slice Ao34 t215.length co34) : Value).ownBlock) (.slice Ao44 t225.length co44) t225) ∧ Aside0 (Kd.R k72 72 wc w.heap.size (fun k_ => some k_ ≠ ((.slice Ao30 t211.length co30) : Value).ownBlock ∧ some k_ ≠ ((.slice Ao38 t218.length co38) : Value).ownBlock) (.slice Ao49 t228.length co49) t228) ∧ Aside0 (wc.heap[gb197]? = some (.cells #[(.slice A0_0 l0_0.length c0_0), (.slice A0_1 l0_1.length c0_1)] 33 (0, 0))) ∧ Aside0 (wc.heap[gb214]? = some (.cells #[(.slice Ao27 t208.length co27), (.slice Ao30 t211.length co30)] 25 (0, 0))) ∧ Aside0 (wc.heap[gb221]? = some (.cells #[(.slice Ao34 t215.length co34), (.slice Ao38 t218.length co38)] 25 (0, 0))) ∧ Aside0 (wc.heap[gb231]? = some (.cells #[(.slice Ao44 t225.length co44), (.slice Ao49 t228.length co49)] 25 (0, 0))) ∧ Aside0 (Below w.heap.size w wc))
         case first =>
          have H := HC64.out
          clear HC64
          by_cases c67 : t243 = true
          ·subst c67
           have H1 : (laws_FnExactCut.j4 kj54 l1 t222 l0_0 l0_1 t208 t211 t215 t218 t225 t228) = some r := by rw [if_pos rfl] at H; exact H
           clear H
           have H := H1
           clear H1
           have H' := Aside0.mk H
           clear H
           go_wp2
           go_meet
           case rel => exact ⟨_, H', ⟨by have := HJ2.out; have := HJ6.out; have := HJ17.out; have := HJ54.out; first | omega | exact Nat.le_refl _⟩, ⟨by (with_reducible repeat (first | apply Kd.R_alloc | apply Kd.R_drewN | apply Kd.R_drew)); exact Kd.R_mono HO_8.out (fun _ hk => trivial)⟩, ⟨by (with_reducible repeat (first | apply Kd.R_alloc | apply Kd.R_drewN | apply Kd.R_drew)); exact HO_215000.out⟩, ⟨by (with_reducible repeat (first | apply Kd.R_alloc | apply Kd.R_drewN | apply Kd.R_drew)); exact HO_215001.out⟩, ⟨by (with_reducible repeat (first | apply Kd.R_alloc | apply Kd.R_drewN | apply Kd.R_drew)); exact HO_222000.out⟩, ⟨by (with_reducible repeat (first | apply Kd.R_alloc | apply Kd.R_drewN | apply Kd.R_drew)); exact HO_222001.out⟩, ⟨by (with_reducible repeat (first | apply Kd.R_alloc | apply Kd.R_drewN | apply Kd.R_drew)); exact HO_232000.out⟩, ⟨by (with_reducible repeat (first | apply Kd.R_alloc | apply Kd.R_drewN | apply Kd.R_drew)); exact HO_232001.out⟩, ⟨by (with_reducible repeat (first | refine blk_drewN ?_ _ | refine blk_drew ?_ | refine blk_alloc ?_ _)); exact BK197.out⟩, ⟨by (with_reducible repeat (first | refine blk_drewN ?_ _ | refine blk_drew ?_ | refine blk_alloc ?_ _)); exact BK214.out⟩, ⟨by (with_reducible repeat (first | refine blk_drewN ?_ _ | refine blk_drew ?_ | refine blk_alloc ?_ _)); exact BK221.out⟩, ⟨by (with_reducible repeat (first | refine blk_drewN ?_ _ | refine blk_drew ?_ | refine blk_alloc ?_ _)); exact BK231.out⟩, ⟨by repeat (first | (with_reducible first | exact HB.out | apply below_alloc | apply pw_below_drewN | apply below_drew1 | refine below_set ?_ GE197.out | refine below_set ?_ GE214.out | refine below_set ?_ GE221.out | refine below_set ?_ GE231.out) | exact HB.out)⟩⟩
          ·replace c67 := Bool.eq_false_iff.mpr c67
           subst c67
           have H1 : (some false) = some r := by rw [if_neg (show ¬ (false = true) by decide)] at H; exact H
           clear H
           have H := H1
           clear H1
           obtain rfl := Option.some.inj H
           go_wp2
           go_ret
           exact ⟨by first | rfl | (simp [errW_none, errW_some] <;> rfl) | (simp [*, errW_none, errW_some] <;> rfl), by repeat (first | (with_reducible first | exact HB.out | apply below_alloc | apply pw_below_drewN | apply below_drew1 | refine below_set ?_ GE197.out | refine below_set ?_ GE214.out | refine below_set ?_ GE221.out | refine below_set ?_ GE231.out) | exact HB.out)⟩
         case rest =>
          clear HC64
          try clear c1
          try clear c2
          try clear p2
          try clear c3
          try clear c4
          try clear c5
          try clear c5b0
          try clear c5b1
          try clear c6
          try clear c7
          try clear c10
          try clear c10b0
          try clear c13
          try clear c16
          try clear c18
          try clear c24
          try clear c25
          try clear c26
          try clear c27
          try clear c28
          try clear c35
          try clear c36
          try clear c45
          try clear c46
          try clear c47
          try clear c52
          try clear c61
          try clear c67
          try clear hcz19_0
          try clear hcz19_1
          try clear hcz29_0
          try clear hcz29_1
          try clear hcz31_0
          try clear hcz31_1
          try clear hcz37_0
          try clear hcz37_1
          try clear hcz40_0
          try clear hcz40_1
          try clear hcz48_0
          try clear hcz48_1
          try clear hcz50_0
          try clear hcz50_1
          try clear hcz8_0
          try clear hcz8_1
          try clear hfz19_0
          try clear hfz19_1
          try clear hfz29_0
          try clear hfz29_1
          try clear hfz31_0
          try clear hfz31_1
          try clear hfz37_0
          try clear hfz37_1
          try clear hfz40_0
          try clear hfz40_1
          try clear hfz48_0
          try clear hfz48_1
          try clear hfz50_0
          try clear hfz50_1
          try clear hfz8_0
          try clear hfz8_1
          try clear p2
          obtain ⟨kq, HA, HJ63, HO_8, HO_215000, HO_215001, HO_222000, HO_222001, HO_232000, HO_232001, BK197, BK214, BK221, BK231, HB⟩ := hcut
          cases kq with
          | zero => exact absurd HA.out (by simp [laws_FnExactCut.j4])
          | succ kj63 =>
           have H := HA.out
           clear HA
           simp only [laws_FnExactCut.j4] at H
           replace H := Option.bind_eq_some_iff.mp H
           obtain ⟨⟨t244, t245, t246⟩, A680, H⟩ := H
           replace H : ((laws_markBoolS.f kj63 t222 t244).bind fun bt247 => (if bt247.1 < 0 then (laws_FnExactCut.j5 kj63 l1 true l0_0 l0_1 t208 t211 t225 t228) else ((laws_eqDevice.f kj63 t225 t228 t208 t211).bind fun t249 => (laws_FnExactCut.j5 kj63 l1 (!t249) l0_0 l0_1 t208 t211 t225 t228)))) = some r := H
           have A68 := Aside0.mk A680
           clear A680
           replace H := Option.bind_eq_some_iff.mp H
           obtain ⟨⟨t247, t248⟩, A690, H⟩ := H
           replace H : (if t247 < 0 then (laws_FnExactCut.j5 kj63 l1 true l0_0 l0_1 t208 t211 t225 t228) else ((laws_eqDevice.f kj63 t225 t228 t208 t211).bind fun t249 => (laws_FnExactCut.j5 kj63 l1 (!t249) l0_0 l0_1 t208 t211 t225 t228))) = some r := H
           have A69 := Aside0.mk A690
           clear A690
           have HC70 := Aside0.mk H
           clear H
           have hnb71 := NB221_197.out
           have hnc71 := NB197_221.out
           have hnb72 := NB221_214.out
           have hnc72 := NB214_221.out
           have hnb73 := NB221_231.out
           have hnc73 := NB231_221.out
           have hcz74_0 : wc.cell? ⟨gb221, 0, none⟩ = some (.slice Ao34 t215.length co34) := (blk_cell BK221.out 0).trans rfl
           have hcz74_1 : wc.cell? ⟨gb221, 1, none⟩ = some (.slice Ao38 t218.length co38) := (blk_cell BK221.out 1).trans rfl
           have hfz74_0 := blk_frozen BK221.out 0
           have hfz74_1 := blk_frozen BK221.out 1
           go_upto_region 20 with (first | ((with_reducible refine gate_callee (f := 14) rfl ?_); refine goesL_ (some 50) rfl rfl Try.func14 (by kernel_rfl) rfl #[.agg #[.slice Ao34 t215.length co34, .slice Ao38 t218.length co38], .int .i64 1] rfl (by (try simp only [List.map_toArray, List.map_cons, List.map_nil]); first | done | rfl | (simp only [List.length_drop, List.length_take]; rfl)) ?_; (with_reducible refine (laws_markDevice.calls kj63 (fun k_ => some k_ = (.slice Ao34 t215.length co34 : Value).ownBlock) (.slice Ao34 t215.length co34) t215 (fun k_ => some k_ = (.slice Ao38 t218.length co38 : Value).ownBlock) (.slice Ao38 t218.length co38) t218 1 t244 t245 t246 w _ ?side1 ?side2 ?side3 A68.out).mono ?_); (case side1 => repeat (first | (with_reducible first | exact HB.out | apply below_alloc | apply pw_below_drewN | apply below_drew1 | refine below_set ?_ GE197.out | refine below_set ?_ GE214.out | refine below_set ?_ GE221.out | refine below_set ?_ GE231.out) | exact HB.out)); (case side2 => exact Kd.R_tight rfl HO_222000.out); (case side3 => exact Kd.R_tight rfl HO_222001.out); rintro e w75 ⟨rfl, hy0, hy1, hb, hkp⟩; refine ⟨_, rfl, ?_⟩; have n0_ := Aside0.mk (Kd.R_mono (ok' := fun k_ => True) (Kd.R_keptB ((Kd.R_apart' (Kd.R_apart' HO_8.out (Kd.R_typed HO_222000.out) (by decide)) (Kd.R_typed HO_222001.out) (by decide))) hkp (fun k_ hk_ hs_ => Or.elim hs_ (fun e_ => (hk_.1.2) e_) (fun e_ => (hk_.2) e_))) (fun k_ hk_ => trivial)); have n1_ := Aside0.mk (Kd.R_mono (ok' := fun k_ => some k_ ≠ (.slice Ao34 t215.length co34 : Value).ownBlock ∧ some k_ ≠ (.slice Ao44 t225.length co44 : Value).ownBlock) (Kd.R_keptB ((Kd.R_apart' HO_215000.out (Kd.R_typed HO_222001.out) (by decide))) hkp (fun k_ hk_ hs_ => Or.elim hs_ (fun e_ => (hk_.1.1) e_) (fun e_ => (hk_.2) e_))) (fun k_ hk_ => ⟨hk_.1.1.1, hk_.1.1.2⟩)); have n2_ := Aside0.mk (Kd.R_mono (ok' := fun k_ => some k_ ≠ (.slice Ao38 t218.length co38 : Value).ownBlock ∧ some k_ ≠ (.slice Ao49 t228.length co49 : Value).ownBlock) (Kd.R_keptB ((Kd.R_apart' HO_215001.out (Kd.R_typed HO_222000.out) (by decide))) hkp (fun k_ hk_ hs_ => Or.elim hs_ (fun e_ => (hk_.2) e_) (fun e_ => (hk_.1.1) e_))) (fun k_ hk_ => ⟨hk_.1.1.1, hk_.1.1.2⟩)); have n3_ := Aside0.mk (Kd.R_reok rfl hy0 (fun k_ e_ => HO_222000.out.1 k_ e_)); have n4_ := Aside0.mk (Kd.R_reok rfl hy1 (fun k_ e_ => HO_222001.out.1 k_ e_)); have n5_ := Aside0.mk (Kd.R_mono (ok' := fun k_ => some k_ ≠ (.slice Ao27 t208.length co27 : Value).ownBlock ∧ some k_ ≠ (.slice Ao34 t215.length co34 : Value).ownBlock) (Kd.R_keptB ((Kd.R_apart' HO_232000.out (Kd.R_typed HO_222001.out) (by decide))) hkp (fun k_ hk_ hs_ => Or.elim hs_ (fun e_ => (hk_.1.2) e_) (fun e_ => (hk_.2) e_))) (fun k_ hk_ => ⟨hk_.1.1.1, hk_.1.1.2⟩)); have n6_ := Aside0.mk (Kd.R_mono (ok' := fun k_ => some k_ ≠ (.slice Ao30 t211.length co30 : Value).ownBlock ∧ some k_ ≠ (.slice Ao38 t218.length co38 : Value).ownBlock) (Kd.R_keptB ((Kd.R_apart' HO_232001.out (Kd.R_typed HO_222000.out) (by decide))) hkp (fun k_ hk_ hs_ => Or.elim hs_ (fun e_ => (hk_.2) e_) (fun e_ => (hk_.1.2) e_))) (fun k_ hk_ => ⟨hk_.1.1.1, hk_.1.1.2⟩)); have n7_ := Aside0.mk (blk_kept (by (with_reducible repeat (first | refine blk_drewN ?_ _ | refine blk_drew ?_ | refine blk_alloc ?_ _)); exact BK197.out) hkp (fun hs_ => Or.elim hs_ (fun e_ => (fun e_ => (Kd.R_ne HO_222000.out BK197.out (by decide)) e_) e_) (fun e_ => (fun e_ => (Kd.R_ne HO_222001.out BK197.out (by decide)) e_) e_))); have n8_ := Aside0.mk (blk_kept (by (with_reducible repeat (first | refine blk_drewN ?_ _ | refine blk_drew ?_ | refine blk_alloc ?_ _)); exact BK214.out) hkp (fun hs_ => Or.elim hs_ (fun e_ => (fun e_ => (Kd.R_ne HO_222000.out BK214.out (by decide)) e_) e_) (fun e_ => (fun e_ => (Kd.R_ne HO_222001.out BK214.out (by decide)) e_) e_))); have n9_ := Aside0.mk (blk_kept (by (with_reducible repeat (first | refine blk_drewN ?_ _ | refine blk_drew ?_ | refine blk_alloc ?_ _)); exact BK221.out) hkp (fun hs_ => Or.elim hs_ (fun e_ => (fun e_ => (Kd.R_ne HO_222000.out BK221.out (by decide)) e_) e_) (fun e_ => (fun e_ => (Kd.R_ne HO_222001.out BK221.out (by decide)) e_) e_))); have n10_ := Aside0.mk (blk_kept (by (with_reducible repeat (first | refine blk_drewN ?_ _ | refine blk_drew ?_ | refine blk_alloc ?_ _)); exact BK231.out) hkp (fun hs_ => Or.elim hs_ (fun e_ => (fun e_ => (Kd.R_ne HO_222000.out BK231.out (by decide)) e_) e_) (fun e_ => (fun e_ => (Kd.R_ne HO_222001.out BK231.out (by decide)) e_) e_))); have n11_ := Aside0.mk (hb); clear HO_8; clear HO_215000; clear HO_215001; clear HO_222000; clear HO_222001; clear HO_232000; clear HO_232001; clear BK197; clear BK214; clear BK221; clear BK231; clear HB; have HO_8 := n0_; have HO_215000 := n1_; have HO_215001 := n2_; have HO_222000 := n3_; have HO_222001 := n4_; have HO_232000 := n5_; have HO_232001 := n6_; have BK197 := n7_; have BK214 := n8_; have BK221 := n9_; have BK231 := n10_; have HB := n11_; clear n0_ n1_ n2_ n3_ n4_ n5_ n6_ n7_ n8_ n9_ n10_ n11_; (try clear hb); (try clear hkp); (try clear hy0); (try clear hy1)) | ((with_reducible refine gate_callee (f := 28) rfl ?_); refine goesL_ (some 53) rfl rfl Try.func28 (by kernel_rfl) rfl #[.slice Ao41 t222.length co41, .int .i64 t244] rfl (by (try simp only [List.map_toArray, List.map_cons, List.map_nil]); first | done | rfl | (simp only [List.length_drop, List.length_take]; rfl)) ?_; (with_reducible refine (laws_markBoolS.calls kj63 (fun k_ => some k_ = (.slice Ao41 t222.length co41 : Value).ownBlock) (.slice Ao41 t222.length co41) t222 t244 t247 t248 w _ ?side1 ?side2 A69.out).mono ?_); (case side1 => repeat (first | (with_reducible first | exact HB.out | apply below_alloc | apply pw_below_drewN | apply below_drew1 | refine below_set ?_ GE197.out | refine below_set ?_ GE214.out | refine below_set ?_ GE221.out | refine below_set ?_ GE231.out) | exact HB.out)); (case side2 => exact Kd.R_tight rfl HO_8.out); rintro e w76 ⟨rfl, hy0, hb, hkp⟩; refine ⟨_, rfl, ?_⟩; have n0_ := Aside0.mk (Kd.R_reok rfl hy0 (fun k_ e_ => HO_8.out.1 k_ e_)); have n1_ := Aside0.mk (Kd.R_mono (ok' := fun k_ => some k_ ≠ (.slice Ao34 t215.length co34 : Value).ownBlock ∧ some k_ ≠ (.slice Ao44 t225.length co44 : Value).ownBlock) (Kd.R_keptB ((Kd.R_apart' HO_215000.out (Kd.R_typed HO_8.out) (by decide))) hkp (fun k_ hk_ hs_ => (hk_.2) hs_)) (fun k_ hk_ => ⟨hk_.1.1.1, hk_.1.1.2⟩)); have n2_ := Aside0.mk (Kd.R_mono (ok' := fun k_ => some k_ ≠ (.slice Ao38 t218.length co38 : Value).ownBlock ∧ some k_ ≠ (.slice Ao49 t228.length co49 : Value).ownBlock) (Kd.R_keptB ((Kd.R_apart' HO_215001.out (Kd.R_typed HO_8.out) (by decide))) hkp (fun k_ hk_ hs_ => (hk_.2) hs_)) (fun k_ hk_ => ⟨hk_.1.1.1, hk_.1.1.2⟩)); have n3_ := Aside0.mk (Kd.R_mono (ok' := fun k_ => some k_ ≠ (.slice Ao27 t208.length co27 : Value).ownBlock ∧ some k_ ≠ (.slice Ao44 t225.length co44 : Value).ownBlock) (Kd.R_keptB ((Kd.R_apart' HO_222000.out (Kd.R_typed HO_8.out) (by decide))) hkp (fun k_ hk_ hs_ => (hk_.2) hs_)) (fun k_ hk_ => ⟨hk_.1.1.1, hk_.1.1.2⟩)); have n4_ := Aside0.mk (Kd.R_mono (ok' := fun k_ => some k_ ≠ (.slice Ao30 t211.length co30 : Value).ownBlock ∧ some k_ ≠ (.slice Ao49 t228.length co49 : Value).ownBlock) (Kd.R_keptB ((Kd.R_apart' HO_222001.out (Kd.R_typed HO_8.out) (by decide))) hkp (fun k_ hk_ hs_ => (hk_.2) hs_)) (fun k_ hk_ => ⟨hk_.1.1.1, hk_.1.1.2⟩)); have n5_ := Aside0.mk (Kd.R_mono (ok' := fun k_ => some k_ ≠ (.slice Ao27 t208.length co27 : Value).ownBlock ∧ some k_ ≠ (.slice Ao34 t215.length co34 : Value).ownBlock) (Kd.R_keptB ((Kd.R_apart' HO_232000.out (Kd.R_typed HO_8.out) (by decide))) hkp (fun k_ hk_ hs_ => (hk_.2) hs_)) (fun k_ hk_ => ⟨hk_.1.1.1, hk_.1.1.2⟩)); have n6_ := Aside0.mk (Kd.R_mono (ok' := fun k_ => some k_ ≠ (.slice Ao30 t211.length co30 : Value).ownBlock ∧ some k_ ≠ (.slice Ao38 t218.length co38 : Value).ownBlock) (Kd.R_keptB ((Kd.R_apart' HO_232001.out (Kd.R_typed HO_8.out) (by decide))) hkp (fun k_ hk_ hs_ => (hk_.2) hs_)) (fun k_ hk_ => ⟨hk_.1.1.1, hk_.1.1.2⟩)); have n7_ := Aside0.mk (blk_kept (by (with_reducible repeat (first | refine blk_drewN ?_ _ | refine blk_drew ?_ | refine blk_alloc ?_ _)); exact BK197.out) hkp (fun hs_ => (fun e_ => (Kd.R_ne HO_8.out BK197.out (by decide)) e_) hs_)); have n8_ := Aside0.mk (blk_kept (by (with_reducible repeat (first | refine blk_drewN ?_ _ | refine blk_drew ?_ | refine blk_alloc ?_ _)); exact BK214.out) hkp (fun hs_ => (fun e_ => (Kd.R_ne HO_8.out BK214.out (by decide)) e_) hs_)); have n9_ := Aside0.mk (blk_kept (by (with_reducible repeat (first | refine blk_drewN ?_ _ | refine blk_drew ?_ | refine blk_alloc ?_ _)); exact BK221.out) hkp (fun hs_ => (fun e_ => (Kd.R_ne HO_8.out BK221.out (by decide)) e_) hs_)); have n10_ := Aside0.mk (blk_kept (by (with_reducible repeat (first | refine blk_drewN ?_ _ | refine blk_drew ?_ | refine blk_alloc ?_ _)); exact BK231.out) hkp (fun hs_ => (fun e_ => (Kd.R_ne HO_8.out BK231.out (by decide)) e_) hs_)); have n11_ := Aside0.mk (hb); clear HO_8; clear HO_215000; clear HO_215001; clear HO_222000; clear HO_222001; clear HO_232000; clear HO_232001; clear BK197; clear BK214; clear BK221; clear BK231; clear HB; have HO_8 := n0_; have HO_215000 := n1_; have HO_215001 := n2_; have HO_222000 := n3_; have HO_222001 := n4_; have HO_232000 := n5_; have HO_232001 := n6_; have BK197 := n7_; have BK214 := n8_; have BK221 := n9_; have BK231 := n10_; have HB := n11_; clear n0_ n1_ n2_ n3_ n4_ n5_ n6_ n7_ n8_ n9_ n10_ n11_; (try clear hb); (try clear hkp); (try clear hy0)))
           (try simp only [Act.put, List.setIfInBounds_toArray, List.set_cons_zero, List.set_cons_succ])
           go_cut [61] (fun v61 wc => ∃ (kq : Nat) (x61_69 : Bool), v61 = .bool x61_69 ∧ Aside0 (laws_FnExactCut.j5 kq l1 x61_69 l0_0 l0_1 t208 t211 t225 t228 = some r) ∧ Aside0 (kq ≤ kj63) ∧ Aside0 (Kd.R Kd.string 9 wc w.heap.size (fun k_ => some k_ ≠ ((.slice Ao34 t215.length co34) : Value).ownBlock ∧ some k_ ≠ ((.slice Ao44 t225.length co44) : Value).ownBlock) (.slice Ao27 t208.length co27) t208) ∧ Aside0 (Kd.R k72 72 wc w.heap.size (fun k_ => some k_ ≠ ((.slice Ao38 t218.length co38) : Value).ownBlock ∧ some k_ ≠ ((.slice Ao49 t228.length co49) : Value).ownBlock) (.slice Ao30 t211.length co30) t211) ∧ Aside0 (Kd.R Kd.string 9 wc w.heap.size (fun k_ => some k_ ≠ ((.slice Ao27 t208.length co27) : Value).ownBlock ∧ some k_ ≠ ((.slice Ao44 t225.length co44) : Value).ownBlock) (.slice Ao34 t215.length co34) t245) ∧ Aside0 (Kd.R k72 72 wc w.heap.size (fun k_ => some k_ ≠ ((.slice Ao30 t211.length co30) : Value).ownBlock ∧ some k_ ≠ ((.slice Ao49 t228.length co49) : Value).ownBlock) (.slice Ao38 t218.length co38) t246) ∧ Aside0 (Kd.R Kd.string 9 wc w.heap.size (fun k_ => some k_ ≠ ((.slice Ao27 t208.length co27) : Value).ownBlock ∧ some k_ ≠ ((.slice Ao34 t215.length co34) : Value).ownBlock) (.slice Ao44 t225.length co44) t225) ∧ Aside0 (Kd.R k72 72 wc w.heap.size (fun k_ => some k_ ≠ ((.slice Ao30 t211.length co30) : Value).ownBlock ∧ some k_ ≠ ((.slice Ao38 t218.length co38) : Value).ownBlock) (.slice Ao49 t228.length co49) t228) ∧ Aside0 (wc.heap[gb197]? = some (.cells #[(.slice A0_0 l0_0.length c0_0), (.slice A0_1 l0_1.length c0_1)] 33 (0, 0))) ∧ Aside0 (wc.heap[gb214]? = some (.cells #[(.slice Ao27 t208.length co27), (.slice Ao30 t211.length co30)] 25 (0, 0))) ∧ Aside0 (wc.heap[gb221]? = some (.cells #[(.slice Ao34 t215.length co34), (.slice Ao38 t218.length co38)] 25 (0, 0))) ∧ Aside0 (wc.heap[gb231]? = some (.cells #[(.slice Ao44 t225.length co44), (.slice Ao49 t228.length co49)] 25 (0, 0))) ∧ Aside0 (Below w.heap.size w wc))
           case first =>
            have H := HC70.out
            clear HC70
            by_cases c77 : t247 < 0
            ·rw [if_pos c77] at H
             have c77b0 : decide (t247 < 0) = true := decide_eq_true c77
             clear c77
             (first | rw [c77b0] | (simp only [i64_w, i32_w]; rw [c77b0]) | skip)
             have H' := Aside0.mk H
             clear H
             go_wp2
             go_meet
             case rel => exact ⟨_, (true), (by first | rfl | (simp; done) | (simp [*]; done)), H', ⟨by have := HJ2.out; have := HJ6.out; have := HJ17.out; have := HJ54.out; have := HJ63.out; first | omega | exact Nat.le_refl _⟩, ⟨by (with_reducible repeat (first | apply Kd.R_alloc | apply Kd.R_drewN | apply Kd.R_drew)); exact HO_215000.out⟩, ⟨by (with_reducible repeat (first | apply Kd.R_alloc | apply Kd.R_drewN | apply Kd.R_drew)); exact HO_215001.out⟩, ⟨by (with_reducible repeat (first | apply Kd.R_alloc | apply Kd.R_drewN | apply Kd.R_drew)); exact HO_222000.out⟩, ⟨by (with_reducible repeat (first | apply Kd.R_alloc | apply Kd.R_drewN | apply Kd.R_drew)); exact HO_222001.out⟩, ⟨by (with_reducible repeat (first | apply Kd.R_alloc | apply Kd.R_drewN | apply Kd.R_drew)); exact HO_232000.out⟩, ⟨by (with_reducible repeat (first | apply Kd.R_alloc | apply Kd.R_drewN | apply Kd.R_drew)); exact HO_232001.out⟩, ⟨by (with_reducible repeat (first | refine blk_drewN ?_ _ | refine blk_drew ?_ | refine blk_alloc ?_ _)); exact BK197.out⟩, ⟨by (with_reducible repeat (first | refine blk_drewN ?_ _ | refine blk_drew ?_ | refine blk_alloc ?_ _)); exact BK214.out⟩, ⟨by (with_reducible repeat (first | refine blk_drewN ?_ _ | refine blk_drew ?_ | refine blk_alloc ?_ _)); exact BK221.out⟩, ⟨by (with_reducible repeat (first | refine blk_drewN ?_ _ | refine blk_drew ?_ | refine blk_alloc ?_ _)); exact BK231.out⟩, ⟨by repeat (first | (with_reducible first | exact HB.out | apply below_alloc | apply pw_below_drewN | apply below_drew1 | refine below_set ?_ GE197.out | refine below_set ?_ GE214.out | refine below_set ?_ GE221.out | refine below_set ?_ GE231.out) | exact HB.out)⟩⟩
            ·rw [if_neg c77] at H
             have c77b0 : decide (t247 < 0) = false := decide_eq_false c77
             clear c77
             (first | rw [c77b0] | (simp only [i64_w, i32_w]; rw [c77b0]) | skip)
             replace H := Option.bind_eq_some_iff.mp H
             obtain ⟨t249, A780, H⟩ := H
             replace H : (laws_FnExactCut.j5 kj63 l1 (!t249) l0_0 l0_1 t208 t211 t225 t228) = some r := H
             have A78 := Aside0.mk A780
             clear A780
             have H' := Aside0.mk H
             clear H
             have hnb79 := NB231_197.out
             have hnc79 := NB197_231.out
             have hnb80 := NB231_214.out
             have hnc80 := NB214_231.out
             have hnb81 := NB231_221.out
             have hnc81 := NB221_231.out
             have hcz82_0 : w76.cell? ⟨gb231, 0, none⟩ = some (.slice Ao44 t225.length co44) := (blk_cell BK231.out 0).trans rfl
             have hcz82_1 : w76.cell? ⟨gb231, 1, none⟩ = some (.slice Ao49 t228.length co49) := (blk_cell BK231.out 1).trans rfl
             have hfz82_0 := blk_frozen BK231.out 0
             have hfz82_1 := blk_frozen BK231.out 1
             have hnb83 := NB214_197.out
             have hnc83 := NB197_214.out
             have hnb84 := NB214_221.out
             have hnc84 := NB221_214.out
             have hcz85_0 : w76.cell? ⟨gb214, 0, none⟩ = some (.slice Ao27 t208.length co27) := (blk_cell BK214.out 0).trans rfl
             have hcz85_1 : w76.cell? ⟨gb214, 1, none⟩ = some (.slice Ao30 t211.length co30) := (blk_cell BK214.out 1).trans rfl
             have hfz85_0 := blk_frozen BK214.out 0
             have hfz85_1 := blk_frozen BK214.out 1
             go_wp2_with (first | (go_at_call 13; (with_reducible refine (laws_eqDevice.calls kj63 _ _ t225 _ _ t228 _ _ t208 _ _ t211 t249 _ ?side1 ?side2 ?side3 ?side4 ?side5 ?side6 ?side7 ?side8 A78.out).mono ?_); (case side1 => repeat (first | exact (Kd.R_reads' HO_232000.out).2.2 | (with_reducible refine Kd.C_alloc ?_ _) | (with_reducible refine Kd.C_drewN ?_ _) | (with_reducible refine Kd.C_drew ?_))); (case side2 => exact (Kd.R_reads' HO_232000.out).2.1); (case side3 => repeat (first | exact (Kd.R_reads' HO_232001.out).2.2 | (with_reducible refine Kd.C_alloc ?_ _) | (with_reducible refine Kd.C_drewN ?_ _) | (with_reducible refine Kd.C_drew ?_))); (case side4 => exact (Kd.R_reads' HO_232001.out).2.1); (case side5 => repeat (first | exact (Kd.R_reads' HO_215000.out).2.2 | (with_reducible refine Kd.C_alloc ?_ _) | (with_reducible refine Kd.C_drewN ?_ _) | (with_reducible refine Kd.C_drew ?_))); (case side6 => exact (Kd.R_reads' HO_215000.out).2.1); (case side7 => repeat (first | exact (Kd.R_reads' HO_215001.out).2.2 | (with_reducible refine Kd.C_alloc ?_ _) | (with_reducible refine Kd.C_drewN ?_ _) | (with_reducible refine Kd.C_drew ?_))); (case side8 => exact (Kd.R_reads' HO_215001.out).2.1); rintro e w86 ⟨rfl, hb⟩; have n0_ := Aside0.mk (Kd.R_below (by (with_reducible repeat (first | apply Kd.R_alloc | apply Kd.R_drewN | apply Kd.R_drew)); exact HO_8.out) hb); have n1_ := Aside0.mk (Kd.R_below (by (with_reducible repeat (first | apply Kd.R_alloc | apply Kd.R_drewN | apply Kd.R_drew)); exact HO_215000.out) hb); have n2_ := Aside0.mk (Kd.R_below (by (with_reducible repeat (first | apply Kd.R_alloc | apply Kd.R_drewN | apply Kd.R_drew)); exact HO_215001.out) hb); have n3_ := Aside0.mk (Kd.R_below (by (with_reducible repeat (first | apply Kd.R_alloc | apply Kd.R_drewN | apply Kd.R_drew)); exact HO_222000.out) hb); have n4_ := Aside0.mk (Kd.R_below (by (with_reducible repeat (first | apply Kd.R_alloc | apply Kd.R_drewN | apply Kd.R_drew)); exact HO_222001.out) hb); have n5_ := Aside0.mk (Kd.R_below (by (with_reducible repeat (first | apply Kd.R_alloc | apply Kd.R_drewN | apply Kd.R_drew)); exact HO_232000.out) hb); have n6_ := Aside0.mk (Kd.R_below (by (with_reducible repeat (first | apply Kd.R_alloc | apply Kd.R_drewN | apply Kd.R_drew)); exact HO_232001.out) hb); have n7_ := Aside0.mk (blk_below (g := gb197) (o := .cells #[.slice A0_0 l0_0.length c0_0, .slice A0_1 l0_1.length c0_1] 33 (0, 0)) (by (with_reducible repeat (first | refine blk_drewN ?_ _ | refine blk_drew ?_ | refine blk_alloc ?_ _)); exact BK197.out) hb); have n8_ := Aside0.mk (blk_below (g := gb214) (o := .cells #[.slice Ao27 t208.length co27, .slice Ao30 t211.length co30] 25 (0, 0)) (by (with_reducible repeat (first | refine blk_drewN ?_ _ | refine blk_drew ?_ | refine blk_alloc ?_ _)); exact BK214.out) hb); have n9_ := Aside0.mk (blk_below (g := gb221) (o := .cells #[.slice Ao34 t215.length co34, .slice Ao38 t218.length co38] 25 (0, 0)) (by (with_reducible repeat (first | refine blk_drewN ?_ _ | refine blk_drew ?_ | refine blk_alloc ?_ _)); exact BK221.out) hb); have n10_ := Aside0.mk (blk_below (g := gb231) (o := .cells #[.slice Ao44 t225.length co44, .slice Ao49 t228.length co49] 25 (0, 0)) (by (with_reducible repeat (first | refine blk_drewN ?_ _ | refine blk_drew ?_ | refine blk_alloc ?_ _)); exact BK231.out) hb); have n11_ := Aside0.mk (below_step (by repeat (first | (with_reducible first | exact HB.out | apply below_alloc | apply pw_below_drewN | apply below_drew1 | refine below_set ?_ GE197.out | refine below_set ?_ GE214.out | refine below_set ?_ GE221.out | refine below_set ?_ GE231.out) | exact HB.out)) hb); clear HO_8; clear HO_215000; clear HO_215001; clear HO_222000; clear HO_222001; clear HO_232000; clear HO_232001; clear BK197; clear BK214; clear BK221; clear BK231; clear HB; have HO_8 := n0_; have HO_215000 := n1_; have HO_215001 := n2_; have HO_222000 := n3_; have HO_222001 := n4_; have HO_232000 := n5_; have HO_232001 := n6_; have BK197 := n7_; have BK214 := n8_; have BK221 := n9_; have BK231 := n10_; have HB := n11_; clear n0_ n1_ n2_ n3_ n4_ n5_ n6_ n7_ n8_ n9_ n10_ n11_; (try clear hb); (try clear hb2); (try clear hk); (try clear hi)))
             go_meet
             case rel => exact ⟨_, (!t249), (by first | rfl | (simp; done) | (simp [*]; done)), H', ⟨by have := HJ2.out; have := HJ6.out; have := HJ17.out; have := HJ54.out; have := HJ63.out; first | omega | exact Nat.le_refl _⟩, ⟨by (with_reducible repeat (first | apply Kd.R_alloc | apply Kd.R_drewN | apply Kd.R_drew)); exact HO_215000.out⟩, ⟨by (with_reducible repeat (first | apply Kd.R_alloc | apply Kd.R_drewN | apply Kd.R_drew)); exact HO_215001.out⟩, ⟨by (with_reducible repeat (first | apply Kd.R_alloc | apply Kd.R_drewN | apply Kd.R_drew)); exact HO_222000.out⟩, ⟨by (with_reducible repeat (first | apply Kd.R_alloc | apply Kd.R_drewN | apply Kd.R_drew)); exact HO_222001.out⟩, ⟨by (with_reducible repeat (first | apply Kd.R_alloc | apply Kd.R_drewN | apply Kd.R_drew)); exact HO_232000.out⟩, ⟨by (with_reducible repeat (first | apply Kd.R_alloc | apply Kd.R_drewN | apply Kd.R_drew)); exact HO_232001.out⟩, ⟨by (with_reducible repeat (first | refine blk_drewN ?_ _ | refine blk_drew ?_ | refine blk_alloc ?_ _)); exact BK197.out⟩, ⟨by (with_reducible repeat (first | refine blk_drewN ?_ _ | refine blk_drew ?_ | refine blk_alloc ?_ _)); exact BK214.out⟩, ⟨by (with_reducible repeat (first | refine blk_drewN ?_ _ | refine blk_drew ?_ | refine blk_alloc ?_ _)); exact BK221.out⟩, ⟨by (with_reducible repeat (first | refine blk_drewN ?_ _ | refine blk_drew ?_ | refine blk_alloc ?_ _)); exact BK231.out⟩, ⟨by repeat (first | (with_reducible first | exact HB.out | apply below_alloc | apply pw_below_drewN | apply below_drew1 | refine below_set ?_ GE197.out | refine below_set ?_ GE214.out | refine below_set ?_ GE221.out | refine below_set ?_ GE231.out) | exact HB.out)⟩⟩
           case rest =>
            clear HC70
            try clear c1
            try clear c2
            try clear p2
            try clear c3
            try clear c4
            try clear c5
            try clear c5b0
            try clear c5b1
            try clear c6
            try clear c7
            try clear c8
            try clear c10
            try clear c10b0
            try clear c13
            try clear c14
            try clear c16
            try clear c18
            try clear c24
            try clear c25
            try clear c26
            try clear c27
            try clear c28
            try clear c35
            try clear c36
            try clear c45
            try clear c46
            try clear c47
            try clear c52
            try clear c61
            try clear c67
            try clear c71
            try clear c72
            try clear c73
            try clear c77
            try clear c77b0
            try clear c79
            try clear c80
            try clear c81
            try clear c83
            try clear c84
            try clear hcz19_0
            try clear hcz19_1
            try clear hcz29_0
            try clear hcz29_1
            try clear hcz31_0
            try clear hcz31_1
            try clear hcz37_0
            try clear hcz37_1
            try clear hcz40_0
            try clear hcz40_1
            try clear hcz48_0
            try clear hcz48_1
            try clear hcz50_0
            try clear hcz50_1
            try clear hcz74_0
            try clear hcz74_1
            try clear hcz82_0
            try clear hcz82_1
            try clear hcz85_0
            try clear hcz85_1
            try clear hcz8_0
            try clear hcz8_1
            try clear hfz19_0
            try clear hfz19_1
            try clear hfz29_0
            try clear hfz29_1
            try clear hfz31_0
            try clear hfz31_1
            try clear hfz37_0
            try clear hfz37_1
            try clear hfz40_0
            try clear hfz40_1
            try clear hfz48_0
            try clear hfz48_1
            try clear hfz50_0
            try clear hfz50_1
            try clear hfz74_0
            try clear hfz74_1
            try clear hfz82_0
            try clear hfz82_1
            try clear hfz85_0
            try clear hfz85_1
            try clear hfz8_0
            try clear hfz8_1
            try clear p2
            obtain ⟨kq, x61_69, rfl, HA, HJ69, HO_215000, HO_215001, HO_222000, HO_222001, HO_232000, HO_232001, BK197, BK214, BK221, BK231, HB⟩ := hcut
            have hl222000_69 := (Kd.R_reads' HO_222000.out).1
            rw [hl222000_69] at HO_222000
            (try simp only [hl222000_69])
            (try simp only [hl222000_69] at BK197)
            (try simp only [hl222000_69] at BK214)
            (try simp only [hl222000_69] at BK221)
            (try simp only [hl222000_69] at BK231)
            (try simp only [hl222000_69] at HO_215000)
            (try simp only [hl222000_69] at HO_215001)
            (try simp only [hl222000_69] at HO_222001)
            (try simp only [hl222000_69] at HO_232000)
            (try simp only [hl222000_69] at HO_232001)
            have hl222001_69 := (Kd.R_reads' HO_222001.out).1
            rw [hl222001_69] at HO_222001
            (try simp only [hl222001_69])
            (try simp only [hl222001_69] at BK197)
            (try simp only [hl222001_69] at BK214)
            (try simp only [hl222001_69] at BK221)
            (try simp only [hl222001_69] at BK231)
            (try simp only [hl222001_69] at HO_215000)
            (try simp only [hl222001_69] at HO_215001)
            (try simp only [hl222001_69] at HO_222000)
            (try simp only [hl222001_69] at HO_232000)
            (try simp only [hl222001_69] at HO_232001)
            cases kq with
            | zero => exact absurd HA.out (by simp [laws_FnExactCut.j5])
            | succ kj69 =>
             have H := HA.out
             clear HA
             simp only [laws_FnExactCut.j5] at H
             have HC87 := Aside0.mk H
             clear H
             go_upto_if 61 with (fail)
             go_cut [] (fun wc => ∃ (kq : Nat), Aside0 (laws_FnExactCut.j6 kq l1 l0_0 l0_1 t208 t211 t225 t228 = some r) ∧ Aside0 (kq ≤ kj69) ∧ Aside0 (Kd.R Kd.string 9 wc w.heap.size (fun k_ => some k_ ≠ ((.slice Ao34 t245.length co34) : Value).ownBlock ∧ some k_ ≠ ((.slice Ao44 t225.length co44) : Value).ownBlock) (.slice Ao27 t208.length co27) t208) ∧ Aside0 (Kd.R k72 72 wc w.heap.size (fun k_ => some k_ ≠ ((.slice Ao38 t246.length co38) : Value).ownBlock ∧ some k_ ≠ ((.slice Ao49 t228.length co49) : Value).ownBlock) (.slice Ao30 t211.length co30) t211) ∧ Aside0 (Kd.R Kd.string 9 wc w.heap.size (fun k_ => some k_ ≠ ((.slice Ao27 t208.length co27) : Value).ownBlock ∧ some k_ ≠ ((.slice Ao44 t225.length co44) : Value).ownBlock) (.slice Ao34 t245.length co34) t245) ∧ Aside0 (Kd.R k72 72 wc w.heap.size (fun k_ => some k_ ≠ ((.slice Ao30 t211.length co30) : Value).ownBlock ∧ some k_ ≠ ((.slice Ao49 t228.length co49) : Value).ownBlock) (.slice Ao38 t246.length co38) t246) ∧ Aside0 (Kd.R Kd.string 9 wc w.heap.size (fun k_ => some k_ ≠ ((.slice Ao27 t208.length co27) : Value).ownBlock ∧ some k_ ≠ ((.slice Ao34 t245.length co34) : Value).ownBlock) (.slice Ao44 t225.length co44) t225) ∧ Aside0 (Kd.R k72 72 wc w.heap.size (fun k_ => some k_ ≠ ((.slice Ao30 t211.length co30) : Value).ownBlock ∧ some k_ ≠ ((.slice Ao38 t246.length co38) : Value).ownBlock) (.slice Ao49 t228.length co49) t228) ∧ Aside0 (wc.heap[gb197]? = some (.cells #[(.slice A0_0 l0_0.length c0_0), (.slice A0_1 l0_1.length c0_1)] 33 (0, 0))) ∧ Aside0 (wc.heap[gb214]? = some (.cells #[(.slice Ao27 t208.length co27), (.slice Ao30 t211.length co30)] 25 (0, 0))) ∧ Aside0 (wc.heap[gb221]? = some (.cells #[(.slice Ao34 t245.length co34), (.slice Ao38 t246.length co38)] 25 (0, 0))) ∧ Aside0 (wc.heap[gb231]? = some (.cells #[(.slice Ao44 t225.length co44), (.slice Ao49 t228.length co49)] 25 (0, 0))) ∧ Aside0 (Below w.heap.size w wc))
             case first =>
              have H := HC87.out
              clear HC87
              by_cases c88 : x61_69 = true
              ·subst c88
               have H1 : (some false) = some r := by rw [if_pos rfl] at H; exact H
               clear H
               have H := H1
               clear H1
               obtain rfl := Option.some.inj H
               go_wp2
               go_ret
               exact ⟨by first | rfl | (simp [errW_none, errW_some] <;> rfl) | (simp [*, errW_none, errW_some] <;> rfl), by repeat (first | (with_reducible first | exact HB.out | apply below_alloc | apply pw_below_drewN | apply below_drew1 | refine below_set ?_ GE197.out | refine below_set ?_ GE214.out | refine below_set ?_ GE221.out | refine below_set ?_ GE231.out) | exact HB.out)⟩
              ·replace c88 := Bool.eq_false_iff.mpr c88
               subst c88
               have H1 : (laws_FnExactCut.j6 kj69 l1 l0_0 l0_1 t208 t211 t225 t228) = some r := by rw [if_neg (show ¬ (false = true) by decide)] at H; exact H
               clear H
               have H := H1
               clear H1
               have H' := Aside0.mk H
               clear H
               go_wp2
               go_meet
               case rel => exact ⟨_, H', ⟨by have := HJ2.out; have := HJ6.out; have := HJ17.out; have := HJ54.out; have := HJ63.out; have := HJ69.out; first | omega | exact Nat.le_refl _⟩, ⟨by (try simp only [hl222000_69]); (try simp only [hl222001_69]); (with_reducible repeat (first | apply Kd.R_alloc | apply Kd.R_drewN | apply Kd.R_drew)); exact HO_215000.out⟩, ⟨by (try simp only [hl222000_69]); (try simp only [hl222001_69]); (with_reducible repeat (first | apply Kd.R_alloc | apply Kd.R_drewN | apply Kd.R_drew)); exact HO_215001.out⟩, ⟨by (try simp only [hl222000_69]); (try simp only [hl222001_69]); (with_reducible repeat (first | apply Kd.R_alloc | apply Kd.R_drewN | apply Kd.R_drew)); exact HO_222000.out⟩, ⟨by (try simp only [hl222000_69]); (try simp only [hl222001_69]); (with_reducible repeat (first | apply Kd.R_alloc | apply Kd.R_drewN | apply Kd.R_drew)); exact HO_222001.out⟩, ⟨by (try simp only [hl222000_69]); (try simp only [hl222001_69]); (with_reducible repeat (first | apply Kd.R_alloc | apply Kd.R_drewN | apply Kd.R_drew)); exact HO_232000.out⟩, ⟨by (try simp only [hl222000_69]); (try simp only [hl222001_69]); (with_reducible repeat (first | apply Kd.R_alloc | apply Kd.R_drewN | apply Kd.R_drew)); exact HO_232001.out⟩, ⟨by (try simp only [hl222000_69]); (try simp only [hl222001_69]); (with_reducible repeat (first | refine blk_drewN ?_ _ | refine blk_drew ?_ | refine blk_alloc ?_ _)); exact BK197.out⟩, ⟨by (try simp only [hl222000_69]); (try simp only [hl222001_69]); (with_reducible repeat (first | refine blk_drewN ?_ _ | refine blk_drew ?_ | refine blk_alloc ?_ _)); exact BK214.out⟩, ⟨by (try simp only [hl222000_69]); (try simp only [hl222001_69]); (with_reducible repeat (first | refine blk_drewN ?_ _ | refine blk_drew ?_ | refine blk_alloc ?_ _)); exact BK221.out⟩, ⟨by (try simp only [hl222000_69]); (try simp only [hl222001_69]); (with_reducible repeat (first | refine blk_drewN ?_ _ | refine blk_drew ?_ | refine blk_alloc ?_ _)); exact BK231.out⟩, ⟨by repeat (first | (with_reducible first | exact HB.out | apply below_alloc | apply pw_below_drewN | apply below_drew1 | refine below_set ?_ GE197.out | refine below_set ?_ GE214.out | refine below_set ?_ GE221.out | refine below_set ?_ GE231.out) | exact HB.out)⟩⟩
             case rest =>
              clear HC87
              try clear c1
              try clear c2
              try clear p2
              try clear c3
              try clear c4
              try clear c5
              try clear c5b0
              try clear c5b1
              try clear c6
              try clear c7
              try clear c8
              try clear c10
              try clear c10b0
              try clear c13
              try clear c14
              try clear c16
              try clear c18
              try clear c24
              try clear c25
              try clear c26
              try clear c27
              try clear c28
              try clear c35
              try clear c36
              try clear c45
              try clear c46
              try clear c47
              try clear c52
              try clear c61
              try clear c67
              try clear c71
              try clear c72
              try clear c73
              try clear c77
              try clear c77b0
              try clear c79
              try clear c80
              try clear c81
              try clear c83
              try clear c84
              try clear c88
              try clear hcz19_0
              try clear hcz19_1
              try clear hcz29_0
              try clear hcz29_1
              try clear hcz31_0
              try clear hcz31_1
              try clear hcz37_0
              try clear hcz37_1
              try clear hcz40_0
              try clear hcz40_1
              try clear hcz48_0
              try clear hcz48_1
              try clear hcz50_0
              try clear hcz50_1
              try clear hcz74_0
              try clear hcz74_1
              try clear hcz82_0
              try clear hcz82_1
              try clear hcz85_0
              try clear hcz85_1
              try clear hcz8_0
              try clear hcz8_1
              try clear hfz19_0
              try clear hfz19_1
              try clear hfz29_0
              try clear hfz29_1
              try clear hfz31_0
              try clear hfz31_1
              try clear hfz37_0
              try clear hfz37_1
              try clear hfz40_0
              try clear hfz40_1
              try clear hfz48_0
              try clear hfz48_1
              try clear hfz50_0
              try clear hfz50_1
              try clear hfz74_0
              try clear hfz74_1
              try clear hfz82_0
              try clear hfz82_1
              try clear hfz85_0
              try clear hfz85_1
              try clear hfz8_0
              try clear hfz8_1
              try clear p2
              obtain ⟨kq, HA, HJ86, HO_215000, HO_215001, HO_222000, HO_222001, HO_232000, HO_232001, BK197, BK214, BK221, BK231, HB⟩ := hcut
              cases kq with
              | zero => exact absurd HA.out (by simp [laws_FnExactCut.j6])
              | succ kj86 =>
               have H := HA.out
               clear HA
               simp only [laws_FnExactCut.j6] at H
               replace H := Option.bind_eq_some_iff.mp H
               obtain ⟨⟨t250, t251, t252⟩, A890, H⟩ := H
               replace H : ((laws_heldDevice.f kj86 t251 t252 1).bind fun t253 => (if t253 < 0 then (some false) else (laws_FnExactCut.j7 kj86 l1 t250 t253 l0_0 l0_1 t208 t211 t251 t252))) = some r := H
               have A89 := Aside0.mk A890
               clear A890
               replace H := Option.bind_eq_some_iff.mp H
               obtain ⟨t253, A900, H⟩ := H
               replace H : (if t253 < 0 then (some false) else (laws_FnExactCut.j7 kj86 l1 t250 t253 l0_0 l0_1 t208 t211 t251 t252)) = some r := H
               have A90 := Aside0.mk A900
               clear A900
               have HC91 := Aside0.mk H
               clear H
               have hnb92 := NB231_197.out
               have hnc92 := NB197_231.out
               have hnb93 := NB231_214.out
               have hnc93 := NB214_231.out
               have hnb94 := NB231_221.out
               have hnc94 := NB221_231.out
               have hcz95_0 : wc.cell? ⟨gb231, 0, none⟩ = some (.slice Ao44 t225.length co44) := (blk_cell BK231.out 0).trans rfl
               have hcz95_1 : wc.cell? ⟨gb231, 1, none⟩ = some (.slice Ao49 t228.length co49) := (blk_cell BK231.out 1).trans rfl
               have hfz95_0 := blk_frozen BK231.out 0
               have hfz95_1 := blk_frozen BK231.out 1
               go_upto_if 69 with (first | ((with_reducible refine gate_callee (f := 14) rfl ?_); refine goesL_ (some 64) rfl rfl Try.func14 (by kernel_rfl) rfl #[.agg #[.slice Ao44 t225.length co44, .slice Ao49 t228.length co49], .int .i64 1] rfl (by (try simp only [List.map_toArray, List.map_cons, List.map_nil]); first | done | rfl | (simp only [List.length_drop, List.length_take]; rfl)) ?_; (with_reducible refine (laws_markDevice.calls kj86 (fun k_ => some k_ = (.slice Ao44 t225.length co44 : Value).ownBlock) (.slice Ao44 t225.length co44) t225 (fun k_ => some k_ = (.slice Ao49 t228.length co49 : Value).ownBlock) (.slice Ao49 t228.length co49) t228 1 t250 t251 t252 w _ ?side1 ?side2 ?side3 A89.out).mono ?_); (case side1 => repeat (first | (with_reducible first | exact HB.out | apply below_alloc | apply pw_below_drewN | apply below_drew1 | refine below_set ?_ GE197.out | refine below_set ?_ GE214.out | refine below_set ?_ GE221.out | refine below_set ?_ GE231.out) | exact HB.out)); (case side2 => exact Kd.R_tight rfl HO_232000.out); (case side3 => exact Kd.R_tight rfl HO_232001.out); rintro e w96 ⟨rfl, hy0, hy1, hb, hkp⟩; refine ⟨_, rfl, ?_⟩; have n0_ := Aside0.mk (Kd.R_mono (ok' := fun k_ => some k_ ≠ (.slice Ao34 t245.length co34 : Value).ownBlock ∧ some k_ ≠ (.slice Ao44 t225.length co44 : Value).ownBlock) (Kd.R_keptB ((Kd.R_apart' HO_215000.out (Kd.R_typed HO_232001.out) (by decide))) hkp (fun k_ hk_ hs_ => Or.elim hs_ (fun e_ => (hk_.1.2) e_) (fun e_ => (hk_.2) e_))) (fun k_ hk_ => ⟨hk_.1.1.1, hk_.1.1.2⟩)); have n1_ := Aside0.mk (Kd.R_mono (ok' := fun k_ => some k_ ≠ (.slice Ao38 t246.length co38 : Value).ownBlock ∧ some k_ ≠ (.slice Ao49 t228.length co49 : Value).ownBlock) (Kd.R_keptB ((Kd.R_apart' HO_215001.out (Kd.R_typed HO_232000.out) (by decide))) hkp (fun k_ hk_ hs_ => Or.elim hs_ (fun e_ => (hk_.2) e_) (fun e_ => (hk_.1.2) e_))) (fun k_ hk_ => ⟨hk_.1.1.1, hk_.1.1.2⟩)); have n2_ := Aside0.mk (Kd.R_mono (ok' := fun k_ => some k_ ≠ (.slice Ao27 t208.length co27 : Value).ownBlock ∧ some k_ ≠ (.slice Ao44 t225.length co44 : Value).ownBlock) (Kd.R_keptB ((Kd.R_apart' HO_222000.out (Kd.R_typed HO_232001.out) (by decide))) hkp (fun k_ hk_ hs_ => Or.elim hs_ (fun e_ => (hk_.1.2) e_) (fun e_ => (hk_.2) e_))) (fun k_ hk_ => ⟨hk_.1.1.1, hk_.1.1.2⟩)); have n3_ := Aside0.mk (Kd.R_mono (ok' := fun k_ => some k_ ≠ (.slice Ao30 t211.length co30 : Value).ownBlock ∧ some k_ ≠ (.slice Ao49 t228.length co49 : Value).ownBlock) (Kd.R_keptB ((Kd.R_apart' HO_222001.out (Kd.R_typed HO_232000.out) (by decide))) hkp (fun k_ hk_ hs_ => Or.elim hs_ (fun e_ => (hk_.2) e_) (fun e_ => (hk_.1.2) e_))) (fun k_ hk_ => ⟨hk_.1.1.1, hk_.1.1.2⟩)); have n4_ := Aside0.mk (Kd.R_reok rfl hy0 (fun k_ e_ => HO_232000.out.1 k_ e_)); have n5_ := Aside0.mk (Kd.R_reok rfl hy1 (fun k_ e_ => HO_232001.out.1 k_ e_)); have n6_ := Aside0.mk (blk_kept (by (with_reducible repeat (first | refine blk_drewN ?_ _ | refine blk_drew ?_ | refine blk_alloc ?_ _)); exact BK197.out) hkp (fun hs_ => Or.elim hs_ (fun e_ => (fun e_ => (Kd.R_ne HO_232000.out BK197.out (by decide)) e_) e_) (fun e_ => (fun e_ => (Kd.R_ne HO_232001.out BK197.out (by decide)) e_) e_))); have n7_ := Aside0.mk (blk_kept (by (with_reducible repeat (first | refine blk_drewN ?_ _ | refine blk_drew ?_ | refine blk_alloc ?_ _)); exact BK214.out) hkp (fun hs_ => Or.elim hs_ (fun e_ => (fun e_ => (Kd.R_ne HO_232000.out BK214.out (by decide)) e_) e_) (fun e_ => (fun e_ => (Kd.R_ne HO_232001.out BK214.out (by decide)) e_) e_))); have n8_ := Aside0.mk (blk_kept (by (with_reducible repeat (first | refine blk_drewN ?_ _ | refine blk_drew ?_ | refine blk_alloc ?_ _)); exact BK221.out) hkp (fun hs_ => Or.elim hs_ (fun e_ => (fun e_ => (Kd.R_ne HO_232000.out BK221.out (by decide)) e_) e_) (fun e_ => (fun e_ => (Kd.R_ne HO_232001.out BK221.out (by decide)) e_) e_))); have n9_ := Aside0.mk (blk_kept (by (with_reducible repeat (first | refine blk_drewN ?_ _ | refine blk_drew ?_ | refine blk_alloc ?_ _)); exact BK231.out) hkp (fun hs_ => Or.elim hs_ (fun e_ => (fun e_ => (Kd.R_ne HO_232000.out BK231.out (by decide)) e_) e_) (fun e_ => (fun e_ => (Kd.R_ne HO_232001.out BK231.out (by decide)) e_) e_))); have n10_ := Aside0.mk (hb); clear HO_215000; clear HO_215001; clear HO_222000; clear HO_222001; clear HO_232000; clear HO_232001; clear BK197; clear BK214; clear BK221; clear BK231; clear HB; have HO_215000 := n0_; have HO_215001 := n1_; have HO_222000 := n2_; have HO_222001 := n3_; have HO_232000 := n4_; have HO_232001 := n5_; have BK197 := n6_; have BK214 := n7_; have BK221 := n8_; have BK231 := n9_; have HB := n10_; clear n0_ n1_ n2_ n3_ n4_ n5_ n6_ n7_ n8_ n9_ n10_; (try clear hb); (try clear hkp); (try clear hy0); (try clear hy1); have hcz97_0 : w96.cell? ⟨gb231, 0, none⟩ = some (.slice Ao44 t225.length co44) := (blk_cell BK231.out 0).trans rfl; have hcz97_1 : w96.cell? ⟨gb231, 1, none⟩ = some (.slice Ao49 t228.length co49) := (blk_cell BK231.out 1).trans rfl; have hfz97_0 := blk_frozen BK231.out 0; have hfz97_1 := blk_frozen BK231.out 1) | ((with_reducible refine gate_callee (f := 15) rfl ?_); refine goesL_ (some 67) rfl rfl Try.func15 (by kernel_rfl) rfl #[.agg #[.slice Ao44 t251.length co44, .slice Ao49 t252.length co49], .int .i64 1] rfl (by (try simp only [List.map_toArray, List.map_cons, List.map_nil]); first | done | (rw [show t251.length = t225.length from (Kd.R_reads' HO_232000.out).1.symm, show t252.length = t228.length from (Kd.R_reads' HO_232001.out).1.symm] <;> rfl) | rfl | (simp only [List.length_drop, List.length_take]; rfl)) ?_; (with_reducible refine (laws_heldDevice.calls kj86 _ _ t251 _ _ t252 1 t253 _ ?side1 ?side2 ?side3 ?side4 A90.out).mono ?_); (case side1 => repeat (first | exact (Kd.R_reads' HO_232000.out).2.2 | (with_reducible refine Kd.C_alloc ?_ _) | (with_reducible refine Kd.C_drewN ?_ _) | (with_reducible refine Kd.C_drew ?_))); (case side2 => rw [show t251.length = t225.length from (Kd.R_reads' HO_232000.out).1.symm]; exact (Kd.R_reads' HO_232000.out).2.1); (case side3 => repeat (first | exact (Kd.R_reads' HO_232001.out).2.2 | (with_reducible refine Kd.C_alloc ?_ _) | (with_reducible refine Kd.C_drewN ?_ _) | (with_reducible refine Kd.C_drew ?_))); (case side4 => rw [show t252.length = t228.length from (Kd.R_reads' HO_232001.out).1.symm]; exact (Kd.R_reads' HO_232001.out).2.1); rintro e w98 ⟨rfl, hb⟩; refine ⟨_, rfl, ?_⟩; have n0_ := Aside0.mk (Kd.R_below (by (with_reducible repeat (first | apply Kd.R_alloc | apply Kd.R_drewN | apply Kd.R_drew)); exact HO_215000.out) hb); have n1_ := Aside0.mk (Kd.R_below (by (with_reducible repeat (first | apply Kd.R_alloc | apply Kd.R_drewN | apply Kd.R_drew)); exact HO_215001.out) hb); have n2_ := Aside0.mk (Kd.R_below (by (with_reducible repeat (first | apply Kd.R_alloc | apply Kd.R_drewN | apply Kd.R_drew)); exact HO_222000.out) hb); have n3_ := Aside0.mk (Kd.R_below (by (with_reducible repeat (first | apply Kd.R_alloc | apply Kd.R_drewN | apply Kd.R_drew)); exact HO_222001.out) hb); have n4_ := Aside0.mk (Kd.R_below (by (with_reducible repeat (first | apply Kd.R_alloc | apply Kd.R_drewN | apply Kd.R_drew)); exact HO_232000.out) hb); have n5_ := Aside0.mk (Kd.R_below (by (with_reducible repeat (first | apply Kd.R_alloc | apply Kd.R_drewN | apply Kd.R_drew)); exact HO_232001.out) hb); have n6_ := Aside0.mk (blk_below (g := gb197) (o := .cells #[.slice A0_0 l0_0.length c0_0, .slice A0_1 l0_1.length c0_1] 33 (0, 0)) (by (with_reducible repeat (first | refine blk_drewN ?_ _ | refine blk_drew ?_ | refine blk_alloc ?_ _)); exact BK197.out) hb); have n7_ := Aside0.mk (blk_below (g := gb214) (o := .cells #[.slice Ao27 t208.length co27, .slice Ao30 t211.length co30] 25 (0, 0)) (by (with_reducible repeat (first | refine blk_drewN ?_ _ | refine blk_drew ?_ | refine blk_alloc ?_ _)); exact BK214.out) hb); have n8_ := Aside0.mk (blk_below (g := gb221) (o := .cells #[.slice Ao34 t245.length co34, .slice Ao38 t246.length co38] 25 (0, 0)) (by (with_reducible repeat (first | refine blk_drewN ?_ _ | refine blk_drew ?_ | refine blk_alloc ?_ _)); exact BK221.out) hb); have n9_ := Aside0.mk (blk_below (g := gb231) (o := .cells #[.slice Ao44 t225.length co44, .slice Ao49 t228.length co49] 25 (0, 0)) (by (with_reducible repeat (first | refine blk_drewN ?_ _ | refine blk_drew ?_ | refine blk_alloc ?_ _)); exact BK231.out) hb); have n10_ := Aside0.mk (below_step (by repeat (first | (with_reducible first | exact HB.out | apply below_alloc | apply pw_below_drewN | apply below_drew1 | refine below_set ?_ GE197.out | refine below_set ?_ GE214.out | refine below_set ?_ GE221.out | refine below_set ?_ GE231.out) | exact HB.out)) hb); clear HO_215000; clear HO_215001; clear HO_222000; clear HO_222001; clear HO_232000; clear HO_232001; clear BK197; clear BK214; clear BK221; clear BK231; clear HB; have HO_215000 := n0_; have HO_215001 := n1_; have HO_222000 := n2_; have HO_222001 := n3_; have HO_232000 := n4_; have HO_232001 := n5_; have BK197 := n6_; have BK214 := n7_; have BK221 := n8_; have BK231 := n9_; have HB := n10_; clear n0_ n1_ n2_ n3_ n4_ n5_ n6_ n7_ n8_ n9_ n10_; (try clear hb); (try clear hb2); (try clear hk); (try clear hi)))
               (try simp only [Act.put, List.setIfInBounds_toArray, List.set_cons_zero, List.set_cons_succ])
               go_cut [] (fun wc => ∃ (kq : Nat), Aside0 (laws_FnExactCut.j7 kq l1 t250 t253 l0_0 l0_1 t208 t211 t251 t252 = some r) ∧ Aside0 (kq ≤ kj86) ∧ Aside0 (Kd.R Kd.string 9 wc w.heap.size (fun k_ => some k_ ≠ ((.slice Ao34 t245.length co34) : Value).ownBlock ∧ some k_ ≠ ((.slice Ao44 t225.length co44) : Value).ownBlock) (.slice Ao27 t208.length co27) t208) ∧ Aside0 (Kd.R k72 72 wc w.heap.size (fun k_ => some k_ ≠ ((.slice Ao38 t246.length co38) : Value).ownBlock ∧ some k_ ≠ ((.slice Ao49 t228.length co49) : Value).ownBlock) (.slice Ao30 t211.length co30) t211) ∧ Aside0 (Kd.R Kd.string 9 wc w.heap.size (fun k_ => some k_ ≠ ((.slice Ao27 t208.length co27) : Value).ownBlock ∧ some k_ ≠ ((.slice Ao44 t225.length co44) : Value).ownBlock) (.slice Ao34 t245.length co34) t245) ∧ Aside0 (Kd.R k72 72 wc w.heap.size (fun k_ => some k_ ≠ ((.slice Ao30 t211.length co30) : Value).ownBlock ∧ some k_ ≠ ((.slice Ao49 t228.length co49) : Value).ownBlock) (.slice Ao38 t246.length co38) t246) ∧ Aside0 (Kd.R Kd.string 9 wc w.heap.size (fun k_ => some k_ ≠ ((.slice Ao27 t208.length co27) : Value).ownBlock ∧ some k_ ≠ ((.slice Ao34 t245.length co34) : Value).ownBlock) (.slice Ao44 t225.length co44) t251) ∧ Aside0 (Kd.R k72 72 wc w.heap.size (fun k_ => some k_ ≠ ((.slice Ao30 t211.length co30) : Value).ownBlock ∧ some k_ ≠ ((.slice Ao38 t246.length co38) : Value).ownBlock) (.slice Ao49 t228.length co49) t252) ∧ Aside0 (wc.heap[gb197]? = some (.cells #[(.slice A0_0 l0_0.length c0_0), (.slice A0_1 l0_1.length c0_1)] 33 (0, 0))) ∧ Aside0 (wc.heap[gb214]? = some (.cells #[(.slice Ao27 t208.length co27), (.slice Ao30 t211.length co30)] 25 (0, 0))) ∧ Aside0 (wc.heap[gb221]? = some (.cells #[(.slice Ao34 t245.length co34), (.slice Ao38 t246.length co38)] 25 (0, 0))) ∧ Aside0 (wc.heap[gb231]? = some (.cells #[(.slice Ao44 t225.length co44), (.slice Ao49 t228.length co49)] 25 (0, 0))) ∧ Aside0 (Below w.heap.size w wc))
               case first =>
                have H := HC91.out
                clear HC91
                by_cases c99 : t253 < 0
                ·rw [if_pos c99] at H
                 have c99b0 : decide (t253 < 0) = true := decide_eq_true c99
                 clear c99
                 (first | rw [c99b0] | (simp only [i64_w, i32_w]; rw [c99b0]) | skip)
                 obtain rfl := Option.some.inj H
                 go_wp2
                 go_ret
                 exact ⟨by first | rfl | (simp [errW_none, errW_some] <;> rfl) | (simp [*, errW_none, errW_some] <;> rfl), by repeat (first | (with_reducible first | exact HB.out | apply below_alloc | apply pw_below_drewN | apply below_drew1 | refine below_set ?_ GE197.out | refine below_set ?_ GE214.out | refine below_set ?_ GE221.out | refine below_set ?_ GE231.out) | exact HB.out)⟩
                ·rw [if_neg c99] at H
                 have c99b0 : decide (t253 < 0) = false := decide_eq_false c99
                 clear c99
                 (first | rw [c99b0] | (simp only [i64_w, i32_w]; rw [c99b0]) | skip)
                 have H' := Aside0.mk H
                 clear H
                 go_wp2
                 go_meet
                 case rel => exact ⟨_, H', ⟨by have := HJ2.out; have := HJ6.out; have := HJ17.out; have := HJ54.out; have := HJ63.out; have := HJ69.out; have := HJ86.out; first | omega | exact Nat.le_refl _⟩, ⟨by (try simp only [hl222000_69]); (try simp only [hl222001_69]); (with_reducible repeat (first | apply Kd.R_alloc | apply Kd.R_drewN | apply Kd.R_drew)); exact HO_215000.out⟩, ⟨by (try simp only [hl222000_69]); (try simp only [hl222001_69]); (with_reducible repeat (first | apply Kd.R_alloc | apply Kd.R_drewN | apply Kd.R_drew)); exact HO_215001.out⟩, ⟨by (try simp only [hl222000_69]); (try simp only [hl222001_69]); (with_reducible repeat (first | apply Kd.R_alloc | apply Kd.R_drewN | apply Kd.R_drew)); exact HO_222000.out⟩, ⟨by (try simp only [hl222000_69]); (try simp only [hl222001_69]); (with_reducible repeat (first | apply Kd.R_alloc | apply Kd.R_drewN | apply Kd.R_drew)); exact HO_222001.out⟩, ⟨by (try simp only [hl222000_69]); (try simp only [hl222001_69]); (with_reducible repeat (first | apply Kd.R_alloc | apply Kd.R_drewN | apply Kd.R_drew)); exact HO_232000.out⟩, ⟨by (try simp only [hl222000_69]); (try simp only [hl222001_69]); (with_reducible repeat (first | apply Kd.R_alloc | apply Kd.R_drewN | apply Kd.R_drew)); exact HO_232001.out⟩, ⟨by (try simp only [hl222000_69]); (try simp only [hl222001_69]); (with_reducible repeat (first | refine blk_drewN ?_ _ | refine blk_drew ?_ | refine blk_alloc ?_ _)); exact BK197.out⟩, ⟨by (try simp only [hl222000_69]); (try simp only [hl222001_69]); (with_reducible repeat (first | refine blk_drewN ?_ _ | refine blk_drew ?_ | refine blk_alloc ?_ _)); exact BK214.out⟩, ⟨by (try simp only [hl222000_69]); (try simp only [hl222001_69]); (with_reducible repeat (first | refine blk_drewN ?_ _ | refine blk_drew ?_ | refine blk_alloc ?_ _)); exact BK221.out⟩, ⟨by (try simp only [hl222000_69]); (try simp only [hl222001_69]); (with_reducible repeat (first | refine blk_drewN ?_ _ | refine blk_drew ?_ | refine blk_alloc ?_ _)); exact BK231.out⟩, ⟨by repeat (first | (with_reducible first | exact HB.out | apply below_alloc | apply pw_below_drewN | apply below_drew1 | refine below_set ?_ GE197.out | refine below_set ?_ GE214.out | refine below_set ?_ GE221.out | refine below_set ?_ GE231.out) | exact HB.out)⟩⟩
               case rest =>
                clear HC91
                try clear c1
                try clear c2
                try clear p2
                try clear c3
                try clear c4
                try clear c5
                try clear c5b0
                try clear c5b1
                try clear c6
                try clear c7
                try clear c8
                try clear c9
                try clear c10
                try clear c10b0
                try clear c13
                try clear c14
                try clear c15
                try clear c16
                try clear c18
                try clear c24
                try clear c25
                try clear c26
                try clear c27
                try clear c28
                try clear c35
                try clear c36
                try clear c45
                try clear c46
                try clear c47
                try clear c52
                try clear c61
                try clear c67
                try clear c71
                try clear c72
                try clear c73
                try clear c77
                try clear c77b0
                try clear c79
                try clear c80
                try clear c81
                try clear c83
                try clear c84
                try clear c88
                try clear c92
                try clear c93
                try clear c94
                try clear c99
                try clear c99b0
                try clear hcz19_0
                try clear hcz19_1
                try clear hcz29_0
                try clear hcz29_1
                try clear hcz31_0
                try clear hcz31_1
                try clear hcz37_0
                try clear hcz37_1
                try clear hcz40_0
                try clear hcz40_1
                try clear hcz48_0
                try clear hcz48_1
                try clear hcz50_0
                try clear hcz50_1
                try clear hcz74_0
                try clear hcz74_1
                try clear hcz82_0
                try clear hcz82_1
                try clear hcz85_0
                try clear hcz85_1
                try clear hcz8_0
                try clear hcz8_1
                try clear hcz95_0
                try clear hcz95_1
                try clear hcz97_0
                try clear hcz97_1
                try clear hfz19_0
                try clear hfz19_1
                try clear hfz29_0
                try clear hfz29_1
                try clear hfz31_0
                try clear hfz31_1
                try clear hfz37_0
                try clear hfz37_1
                try clear hfz40_0
                try clear hfz40_1
                try clear hfz48_0
                try clear hfz48_1
                try clear hfz50_0
                try clear hfz50_1
                try clear hfz74_0
                try clear hfz74_1
                try clear hfz82_0
                try clear hfz82_1
                try clear hfz85_0
                try clear hfz85_1
                try clear hfz8_0
                try clear hfz8_1
                try clear hfz95_0
                try clear hfz95_1
                try clear hfz97_0
                try clear hfz97_1
                try clear p2
                obtain ⟨kq, HA, HJ90, HO_215000, HO_215001, HO_222000, HO_222001, HO_232000, HO_232001, BK197, BK214, BK221, BK231, HB⟩ := hcut
                have hl232000_90 := (Kd.R_reads' HO_232000.out).1
                rw [hl232000_90] at HO_232000
                (try simp only [hl232000_90])
                (try simp only [hl232000_90] at BK197)
                (try simp only [hl232000_90] at BK214)
                (try simp only [hl232000_90] at BK221)
                (try simp only [hl232000_90] at BK231)
                (try simp only [hl232000_90] at HO_215000)
                (try simp only [hl232000_90] at HO_215001)
                (try simp only [hl232000_90] at HO_222000)
                (try simp only [hl232000_90] at HO_222001)
                (try simp only [hl232000_90] at HO_232001)
                have hl232001_90 := (Kd.R_reads' HO_232001.out).1
                rw [hl232001_90] at HO_232001
                (try simp only [hl232001_90])
                (try simp only [hl232001_90] at BK197)
                (try simp only [hl232001_90] at BK214)
                (try simp only [hl232001_90] at BK221)
                (try simp only [hl232001_90] at BK231)
                (try simp only [hl232001_90] at HO_215000)
                (try simp only [hl232001_90] at HO_215001)
                (try simp only [hl232001_90] at HO_222000)
                (try simp only [hl232001_90] at HO_222001)
                (try simp only [hl232001_90] at HO_232000)
                cases kq with
                | zero => exact absurd HA.out (by simp [laws_FnExactCut.j7])
                | succ kj90 =>
                 have H := HA.out
                 clear HA
                 simp only [laws_FnExactCut.j7] at H
                 have HC100 := Aside0.mk H
                 clear H
                 go_upto_if 72 with (fail)
                 go_cut [] (fun wc => ∃ (kq : Nat), Aside0 (laws_FnExactCut.j8 kq l1 t250 l0_0 l0_1 t208 t211 t251 t252 = some r) ∧ Aside0 (kq ≤ kj90) ∧ Aside0 (Kd.R Kd.string 9 wc w.heap.size (fun k_ => some k_ ≠ ((.slice Ao34 t245.length co34) : Value).ownBlock ∧ some k_ ≠ ((.slice Ao44 t251.length co44) : Value).ownBlock) (.slice Ao27 t208.length co27) t208) ∧ Aside0 (Kd.R k72 72 wc w.heap.size (fun k_ => some k_ ≠ ((.slice Ao38 t246.length co38) : Value).ownBlock ∧ some k_ ≠ ((.slice Ao49 t252.length co49) : Value).ownBlock) (.slice Ao30 t211.length co30) t211) ∧ Aside0 (Kd.R Kd.string 9 wc w.heap.size (fun k_ => some k_ ≠ ((.slice Ao27 t208.length co27) : Value).ownBlock ∧ some k_ ≠ ((.slice Ao44 t251.length co44) : Value).ownBlock) (.slice Ao34 t245.length co34) t245) ∧ Aside0 (Kd.R k72 72 wc w.heap.size (fun k_ => some k_ ≠ ((.slice Ao30 t211.length co30) : Value).ownBlock ∧ some k_ ≠ ((.slice Ao49 t252.length co49) : Value).ownBlock) (.slice Ao38 t246.length co38) t246) ∧ Aside0 (Kd.R Kd.string 9 wc w.heap.size (fun k_ => some k_ ≠ ((.slice Ao27 t208.length co27) : Value).ownBlock ∧ some k_ ≠ ((.slice Ao34 t245.length co34) : Value).ownBlock) (.slice Ao44 t251.length co44) t251) ∧ Aside0 (Kd.R k72 72 wc w.heap.size (fun k_ => some k_ ≠ ((.slice Ao30 t211.length co30) : Value).ownBlock ∧ some k_ ≠ ((.slice Ao38 t246.length co38) : Value).ownBlock) (.slice Ao49 t252.length co49) t252) ∧ Aside0 (wc.heap[gb197]? = some (.cells #[(.slice A0_0 l0_0.length c0_0), (.slice A0_1 l0_1.length c0_1)] 33 (0, 0))) ∧ Aside0 (wc.heap[gb214]? = some (.cells #[(.slice Ao27 t208.length co27), (.slice Ao30 t211.length co30)] 25 (0, 0))) ∧ Aside0 (wc.heap[gb221]? = some (.cells #[(.slice Ao34 t245.length co34), (.slice Ao38 t246.length co38)] 25 (0, 0))) ∧ Aside0 (wc.heap[gb231]? = some (.cells #[(.slice Ao44 t251.length co44), (.slice Ao49 t252.length co49)] 25 (0, 0))) ∧ Aside0 (Below w.heap.size w wc))
                 case first =>
                  have H := HC100.out
                  clear HC100
                  by_cases c101 : t253 = t250
                  ·rw [if_pos c101] at H
                   have c101b0 : (t253 == t250) = true := beq_iff_eq.mpr c101
                   have c101b1 : (t253 != t250) = false := bne_eq_false_iff_eq.mpr c101
                   clear c101
                   (first | rw [c101b0] | (simp only [i64_w, i32_w]; rw [c101b0]) | skip)
                   have H' := Aside0.mk H
                   clear H
                   go_wp2
                   go_meet
                   case rel => exact ⟨_, H', ⟨by have := HJ2.out; have := HJ6.out; have := HJ17.out; have := HJ54.out; have := HJ63.out; have := HJ69.out; have := HJ86.out; have := HJ90.out; first | omega | exact Nat.le_refl _⟩, ⟨by (try simp only [hl222000_69]); (try simp only [hl222001_69]); (try simp only [hl232000_90]); (try simp only [hl232001_90]); (with_reducible repeat (first | apply Kd.R_alloc | apply Kd.R_drewN | apply Kd.R_drew)); exact HO_215000.out⟩, ⟨by (try simp only [hl222000_69]); (try simp only [hl222001_69]); (try simp only [hl232000_90]); (try simp only [hl232001_90]); (with_reducible repeat (first | apply Kd.R_alloc | apply Kd.R_drewN | apply Kd.R_drew)); exact HO_215001.out⟩, ⟨by (try simp only [hl222000_69]); (try simp only [hl222001_69]); (try simp only [hl232000_90]); (try simp only [hl232001_90]); (with_reducible repeat (first | apply Kd.R_alloc | apply Kd.R_drewN | apply Kd.R_drew)); exact HO_222000.out⟩, ⟨by (try simp only [hl222000_69]); (try simp only [hl222001_69]); (try simp only [hl232000_90]); (try simp only [hl232001_90]); (with_reducible repeat (first | apply Kd.R_alloc | apply Kd.R_drewN | apply Kd.R_drew)); exact HO_222001.out⟩, ⟨by (try simp only [hl222000_69]); (try simp only [hl222001_69]); (try simp only [hl232000_90]); (try simp only [hl232001_90]); (with_reducible repeat (first | apply Kd.R_alloc | apply Kd.R_drewN | apply Kd.R_drew)); exact HO_232000.out⟩, ⟨by (try simp only [hl222000_69]); (try simp only [hl222001_69]); (try simp only [hl232000_90]); (try simp only [hl232001_90]); (with_reducible repeat (first | apply Kd.R_alloc | apply Kd.R_drewN | apply Kd.R_drew)); exact HO_232001.out⟩, ⟨by (try simp only [hl222000_69]); (try simp only [hl222001_69]); (try simp only [hl232000_90]); (try simp only [hl232001_90]); (with_reducible repeat (first | refine blk_drewN ?_ _ | refine blk_drew ?_ | refine blk_alloc ?_ _)); exact BK197.out⟩, ⟨by (try simp only [hl222000_69]); (try simp only [hl222001_69]); (try simp only [hl232000_90]); (try simp only [hl232001_90]); (with_reducible repeat (first | refine blk_drewN ?_ _ | refine blk_drew ?_ | refine blk_alloc ?_ _)); exact BK214.out⟩, ⟨by (try simp only [hl222000_69]); (try simp only [hl222001_69]); (try simp only [hl232000_90]); (try simp only [hl232001_90]); (with_reducible repeat (first | refine blk_drewN ?_ _ | refine blk_drew ?_ | refine blk_alloc ?_ _)); exact BK221.out⟩, ⟨by (try simp only [hl222000_69]); (try simp only [hl222001_69]); (try simp only [hl232000_90]); (try simp only [hl232001_90]); (with_reducible repeat (first | refine blk_drewN ?_ _ | refine blk_drew ?_ | refine blk_alloc ?_ _)); exact BK231.out⟩, ⟨by repeat (first | (with_reducible first | exact HB.out | apply below_alloc | apply pw_below_drewN | apply below_drew1 | refine below_set ?_ GE197.out | refine below_set ?_ GE214.out | refine below_set ?_ GE221.out | refine below_set ?_ GE231.out) | exact HB.out)⟩⟩
                  ·rw [if_neg c101] at H
                   have c101b0 : (t253 == t250) = false := beq_eq_false_iff_ne.mpr c101
                   have c101b1 : (t253 != t250) = true := bne_iff_ne.mpr c101
                   (first | rw [c101b0] | (simp only [i64_w, i32_w]; rw [c101b0]) | skip)
                   obtain rfl := Option.some.inj H
                   go_wp2
                   go_ret
                   exact ⟨by first | rfl | (simp [errW_none, errW_some] <;> rfl) | (simp [*, errW_none, errW_some] <;> rfl), by repeat (first | (with_reducible first | exact HB.out | apply below_alloc | apply pw_below_drewN | apply below_drew1 | refine below_set ?_ GE197.out | refine below_set ?_ GE214.out | refine below_set ?_ GE221.out | refine below_set ?_ GE231.out) | exact HB.out)⟩
                 case rest =>
                  clear HC100
                  try clear c1
                  try clear c2
                  try clear p2
                  try clear c3
                  try clear c4
                  try clear c5
                  try clear c5b0
                  try clear c5b1
                  try clear c6
                  try clear c7
                  try clear c8
                  try clear c9
                  try clear c10
                  try clear c10b0
                  try clear c13
                  try clear c14
                  try clear c15
                  try clear c16
                  try clear c18
                  try clear c24
                  try clear c25
                  try clear c26
                  try clear c27
                  try clear c28
                  try clear c35
                  try clear c36
                  try clear c45
                  try clear c46
                  try clear c47
                  try clear c52
                  try clear c61
                  try clear c67
                  try clear c71
                  try clear c72
                  try clear c73
                  try clear c77
                  try clear c77b0
                  try clear c79
                  try clear c80
                  try clear c81
                  try clear c83
                  try clear c84
                  try clear c88
                  try clear c92
                  try clear c93
                  try clear c94
                  try clear c99
                  try clear c99b0
                  try clear c101
                  try clear c101b0
                  try clear c101b1
                  try clear hcz19_0
                  try clear hcz19_1
                  try clear hcz29_0
                  try clear hcz29_1
                  try clear hcz31_0
                  try clear hcz31_1
                  try clear hcz37_0
                  try clear hcz37_1
                  try clear hcz40_0
                  try clear hcz40_1
                  try clear hcz48_0
                  try clear hcz48_1
                  try clear hcz50_0
                  try clear hcz50_1
                  try clear hcz74_0
                  try clear hcz74_1
                  try clear hcz82_0
                  try clear hcz82_1
                  try clear hcz85_0
                  try clear hcz85_1
                  try clear hcz8_0
                  try clear hcz8_1
                  try clear hcz95_0
                  try clear hcz95_1
                  try clear hcz97_0
                  try clear hcz97_1
                  try clear hfz19_0
                  try clear hfz19_1
                  try clear hfz29_0
                  try clear hfz29_1
                  try clear hfz31_0
                  try clear hfz31_1
                  try clear hfz37_0
                  try clear hfz37_1
                  try clear hfz40_0
                  try clear hfz40_1
                  try clear hfz48_0
                  try clear hfz48_1
                  try clear hfz50_0
                  try clear hfz50_1
                  try clear hfz74_0
                  try clear hfz74_1
                  try clear hfz82_0
                  try clear hfz82_1
                  try clear hfz85_0
                  try clear hfz85_1
                  try clear hfz8_0
                  try clear hfz8_1
                  try clear hfz95_0
                  try clear hfz95_1
                  try clear hfz97_0
                  try clear hfz97_1
                  try clear p2
                  obtain ⟨kq, HA, HJ99, HO_215000, HO_215001, HO_222000, HO_222001, HO_232000, HO_232001, BK197, BK214, BK221, BK231, HB⟩ := hcut
                  cases kq with
                  | zero => exact absurd HA.out (by simp [laws_FnExactCut.j8])
                  | succ kj99 =>
                   have H := HA.out
                   clear HA
                   simp only [laws_FnExactCut.j8] at H
                   replace H := Option.bind_eq_some_iff.mp H
                   obtain ⟨⟨t254, t257⟩, A1020, H⟩ := H
                   replace H : ((laws_toBoolS.f kj99 l1).bind fun t260 => ((impl_Cut.f kj99 t254 t257 t260).bind fun bt263 => ((laws_eqDevice.f kj99 bt263.1 bt263.2 t208 t211).bind fun t270 => (if t270 = true then (laws_FnExactCut.j9 kj99 t250 t251 t252) else (some false))))) = some r := H
                   have A102 := Aside0.mk A1020
                   clear A1020
                   replace H := Option.bind_eq_some_iff.mp H
                   obtain ⟨t260, A1030, H⟩ := H
                   replace H : ((impl_Cut.f kj99 t254 t257 t260).bind fun bt263 => ((laws_eqDevice.f kj99 bt263.1 bt263.2 t208 t211).bind fun t270 => (if t270 = true then (laws_FnExactCut.j9 kj99 t250 t251 t252) else (some false)))) = some r := H
                   have A103 := Aside0.mk A1030
                   clear A1030
                   replace H := Option.bind_eq_some_iff.mp H
                   obtain ⟨⟨t263, t266⟩, A1040, H⟩ := H
                   replace H : ((laws_eqDevice.f kj99 t263 t266 t208 t211).bind fun t270 => (if t270 = true then (laws_FnExactCut.j9 kj99 t250 t251 t252) else (some false))) = some r := H
                   have A104 := Aside0.mk A1040
                   clear A1040
                   replace H := Option.bind_eq_some_iff.mp H
                   obtain ⟨t270, A1050, H⟩ := H
                   replace H : (if t270 = true then (laws_FnExactCut.j9 kj99 t250 t251 t252) else (some false)) = some r := H
                   have A105 := Aside0.mk A1050
                   clear A1050
                   have HC106 := Aside0.mk H
                   clear H
                   have hnb107 := NB197_214.out
                   have hnc107 := NB214_197.out
                   have hnb108 := NB197_221.out
                   have hnc108 := NB221_197.out
                   have hnb109 := NB197_231.out
                   have hnc109 := NB231_197.out
                   have hcz110_0 : wc.cell? ⟨gb197, 0, none⟩ = some (.slice A0_0 l0_0.length c0_0) := (blk_cell BK197.out 0).trans rfl
                   have hcz110_1 : wc.cell? ⟨gb197, 1, none⟩ = some (.slice A0_1 l0_1.length c0_1) := (blk_cell BK197.out 1).trans rfl
                   have hfz110_0 := blk_frozen BK197.out 0
                   have hfz110_1 := blk_frozen BK197.out 1
                   go_upto_if 81 with (first | ((with_reducible refine gate_callee (f := 18) rfl ?_); refine goesL_ (some 74) rfl rfl Try.func18 (by kernel_rfl) rfl #[.agg #[.slice A0_0 l0_0.length c0_0, .slice A0_1 l0_1.length c0_1]] rfl (by (try simp only [List.map_toArray, List.map_cons, List.map_nil]); first | done | rfl | (simp only [List.length_drop, List.length_take]; rfl)) ?_; (with_reducible refine (laws_toDevice.calls kj99 _ _ l0_0 _ _ l0_1 t254 t257 _ ?side1 ?side2 ?side3 ?side4 A102.out).mono ?_); (case side1 => repeat (first | exact (Kd.C_below HR0_0.out HB.out) | (with_reducible refine Kd.C_alloc ?_ _) | (with_reducible refine Kd.C_drewN ?_ _) | (with_reducible refine Kd.C_drew ?_))); (case side2 => exact HC0_0.out); (case side3 => repeat (first | exact (Kd.C_below HR0_1.out HB.out) | (with_reducible refine Kd.C_alloc ?_ _) | (with_reducible refine Kd.C_drewN ?_ _) | (with_reducible refine Kd.C_drew ?_))); (case side4 => exact HC0_1.out); rintro e w111 ⟨v255, v258, rfl, ho0, ho1, hb⟩; refine ⟨_, rfl, ?_⟩; have n0_ := Aside0.mk (Kd.R_elder' (by (with_reducible repeat (first | apply Kd.R_alloc | apply Kd.R_drewN | apply Kd.R_drew)); exact HO_215000.out) (Kd.R_base ho0) hb); have n1_ := Aside0.mk (Kd.R_elder' (by (with_reducible repeat (first | apply Kd.R_alloc | apply Kd.R_drewN | apply Kd.R_drew)); exact HO_215001.out) (Kd.R_base ho1) hb); have n2_ := Aside0.mk (Kd.R_elder' (by (with_reducible repeat (first | apply Kd.R_alloc | apply Kd.R_drewN | apply Kd.R_drew)); exact HO_222000.out) (Kd.R_base ho0) hb); have n3_ := Aside0.mk (Kd.R_elder' (by (with_reducible repeat (first | apply Kd.R_alloc | apply Kd.R_drewN | apply Kd.R_drew)); exact HO_222001.out) (Kd.R_base ho1) hb); have n4_ := Aside0.mk (Kd.R_elder' (by (with_reducible repeat (first | apply Kd.R_alloc | apply Kd.R_drewN | apply Kd.R_drew)); exact HO_232000.out) (Kd.R_base ho0) hb); have n5_ := Aside0.mk (Kd.R_elder' (by (with_reducible repeat (first | apply Kd.R_alloc | apply Kd.R_drewN | apply Kd.R_drew)); exact HO_232001.out) (Kd.R_base ho1) hb); have n6_ := Aside0.mk (Kd.R_lower (Kd.R_new' (Kd.R_new' (Kd.R_new' ho0 (Kd.R_lt (by (with_reducible repeat (first | apply Kd.R_alloc | apply Kd.R_drewN | apply Kd.R_drew)); exact HO_215000.out))) (Kd.R_lt (by (with_reducible repeat (first | apply Kd.R_alloc | apply Kd.R_drewN | apply Kd.R_drew)); exact HO_222000.out))) (Kd.R_lt (by (with_reducible repeat (first | apply Kd.R_alloc | apply Kd.R_drewN | apply Kd.R_drew)); exact HO_232000.out))) (below_size (by repeat (first | (with_reducible first | exact HB.out | apply below_alloc | apply pw_below_drewN | apply below_drew1 | refine below_set ?_ GE197.out | refine below_set ?_ GE214.out | refine below_set ?_ GE221.out | refine below_set ?_ GE231.out) | exact HB.out)))); have n7_ := Aside0.mk (Kd.R_lower (Kd.R_new' (Kd.R_new' (Kd.R_new' ho1 (Kd.R_lt (by (with_reducible repeat (first | apply Kd.R_alloc | apply Kd.R_drewN | apply Kd.R_drew)); exact HO_215001.out))) (Kd.R_lt (by (with_reducible repeat (first | apply Kd.R_alloc | apply Kd.R_drewN | apply Kd.R_drew)); exact HO_222001.out))) (Kd.R_lt (by (with_reducible repeat (first | apply Kd.R_alloc | apply Kd.R_drewN | apply Kd.R_drew)); exact HO_232001.out))) (below_size (by repeat (first | (with_reducible first | exact HB.out | apply below_alloc | apply pw_below_drewN | apply below_drew1 | refine below_set ?_ GE197.out | refine below_set ?_ GE214.out | refine below_set ?_ GE221.out | refine below_set ?_ GE231.out) | exact HB.out)))); have n8_ := Aside0.mk (blk_below (g := gb197) (o := .cells #[.slice A0_0 l0_0.length c0_0, .slice A0_1 l0_1.length c0_1] 33 (0, 0)) (by (with_reducible repeat (first | refine blk_drewN ?_ _ | refine blk_drew ?_ | refine blk_alloc ?_ _)); exact BK197.out) hb); have n9_ := Aside0.mk (blk_below (g := gb214) (o := .cells #[.slice Ao27 t208.length co27, .slice Ao30 t211.length co30] 25 (0, 0)) (by (with_reducible repeat (first | refine blk_drewN ?_ _ | refine blk_drew ?_ | refine blk_alloc ?_ _)); exact BK214.out) hb); have n10_ := Aside0.mk (blk_below (g := gb221) (o := .cells #[.slice Ao34 t245.length co34, .slice Ao38 t246.length co38] 25 (0, 0)) (by (with_reducible repeat (first | refine blk_drewN ?_ _ | refine blk_drew ?_ | refine blk_alloc ?_ _)); exact BK221.out) hb); have n11_ := Aside0.mk (blk_below (g := gb231) (o := .cells #[.slice Ao44 t251.length co44, .slice Ao49 t252.length co49] 25 (0, 0)) (by (with_reducible repeat (first | refine blk_drewN ?_ _ | refine blk_drew ?_ | refine blk_alloc ?_ _)); exact BK231.out) hb); have n12_ := Aside0.mk (below_step (by repeat (first | (with_reducible first | exact HB.out | apply below_alloc | apply pw_below_drewN | apply below_drew1 | refine below_set ?_ GE197.out | refine below_set ?_ GE214.out | refine below_set ?_ GE221.out | refine below_set ?_ GE231.out) | exact HB.out)) hb); clear HO_215000; clear HO_215001; clear HO_222000; clear HO_222001; clear HO_232000; clear HO_232001; clear BK197; clear BK214; clear BK221; clear BK231; clear HB; have HO_215000 := n0_; have HO_215001 := n1_; have HO_222000 := n2_; have HO_222001 := n3_; have HO_232000 := n4_; have HO_232001 := n5_; have HO256 := n6_; have HO259 := n7_; have BK197 := n8_; have BK214 := n9_; have BK221 := n10_; have BK231 := n11_; have HB := n12_; clear n0_ n1_ n2_ n3_ n4_ n5_ n6_ n7_ n8_ n9_ n10_ n11_ n12_; (try clear hb); (try clear hb2); (try clear hk); (try clear hi); (try clear ho0); (try clear ho1)) | ((with_reducible refine gate_callee (f := 25) rfl ?_); refine goesL_ (some 76) rfl rfl Try.func25 (by kernel_rfl) rfl #[.slice A1 l1.length c1] rfl (by (try simp only [List.map_toArray, List.map_cons, List.map_nil]); first | done | rfl | (simp only [List.length_drop, List.length_take]; rfl)) ?_; (with_reducible refine (laws_toBoolS.calls kj99 _ _ l1 t260 _ ?side1 ?side2 A103.out).mono ?_); (case side1 => repeat (first | exact (Kd.C_below HR1.out HB.out) | (with_reducible refine Kd.C_alloc ?_ _) | (with_reducible refine Kd.C_drewN ?_ _) | (with_reducible refine Kd.C_drew ?_))); (case side2 => exact HC1.out); rintro e w112 ⟨v261, rfl, ho0, hb⟩; refine ⟨_, rfl, ?_⟩; have n0_ := Aside0.mk (Kd.R_below (by (with_reducible repeat (first | apply Kd.R_alloc | apply Kd.R_drewN | apply Kd.R_drew)); exact HO_215000.out) hb); have n1_ := Aside0.mk (Kd.R_below (by (with_reducible repeat (first | apply Kd.R_alloc | apply Kd.R_drewN | apply Kd.R_drew)); exact HO_215001.out) hb); have n2_ := Aside0.mk (Kd.R_below (by (with_reducible repeat (first | apply Kd.R_alloc | apply Kd.R_drewN | apply Kd.R_drew)); exact HO_222000.out) hb); have n3_ := Aside0.mk (Kd.R_below (by (with_reducible repeat (first | apply Kd.R_alloc | apply Kd.R_drewN | apply Kd.R_drew)); exact HO_222001.out) hb); have n4_ := Aside0.mk (Kd.R_below (by (with_reducible repeat (first | apply Kd.R_alloc | apply Kd.R_drewN | apply Kd.R_drew)); exact HO_232000.out) hb); have n5_ := Aside0.mk (Kd.R_below (by (with_reducible repeat (first | apply Kd.R_alloc | apply Kd.R_drewN | apply Kd.R_drew)); exact HO_232001.out) hb); have n6_ := Aside0.mk (Kd.R_below (by (with_reducible repeat (first | apply Kd.R_alloc | apply Kd.R_drewN | apply Kd.R_drew)); exact HO256.out) hb); have n7_ := Aside0.mk (Kd.R_below (by (with_reducible repeat (first | apply Kd.R_alloc | apply Kd.R_drewN | apply Kd.R_drew)); exact HO259.out) hb); have n8_ := Aside0.mk (Kd.R_lower ho0 (below_size (by repeat (first | (with_reducible first | exact HB.out | apply below_alloc | apply pw_below_drewN | apply below_drew1 | refine below_set ?_ GE197.out | refine below_set ?_ GE214.out | refine below_set ?_ GE221.out | refine below_set ?_ GE231.out) | exact HB.out)))); have n9_ := Aside0.mk (blk_below (g := gb197) (o := .cells #[.slice A0_0 l0_0.length c0_0, .slice A0_1 l0_1.length c0_1] 33 (0, 0)) (by (with_reducible repeat (first | refine blk_drewN ?_ _ | refine blk_drew ?_ | refine blk_alloc ?_ _)); exact BK197.out) hb); have n10_ := Aside0.mk (blk_below (g := gb214) (o := .cells #[.slice Ao27 t208.length co27, .slice Ao30 t211.length co30] 25 (0, 0)) (by (with_reducible repeat (first | refine blk_drewN ?_ _ | refine blk_drew ?_ | refine blk_alloc ?_ _)); exact BK214.out) hb); have n11_ := Aside0.mk (blk_below (g := gb221) (o := .cells #[.slice Ao34 t245.length co34, .slice Ao38 t246.length co38] 25 (0, 0)) (by (with_reducible repeat (first | refine blk_drewN ?_ _ | refine blk_drew ?_ | refine blk_alloc ?_ _)); exact BK221.out) hb); have n12_ := Aside0.mk (blk_below (g := gb231) (o := .cells #[.slice Ao44 t251.length co44, .slice Ao49 t252.length co49] 25 (0, 0)) (by (with_reducible repeat (first | refine blk_drewN ?_ _ | refine blk_drew ?_ | refine blk_alloc ?_ _)); exact BK231.out) hb); have n13_ := Aside0.mk (below_step (by repeat (first | (with_reducible first | exact HB.out | apply below_alloc | apply pw_below_drewN | apply below_drew1 | refine below_set ?_ GE197.out | refine below_set ?_ GE214.out | refine below_set ?_ GE221.out | refine below_set ?_ GE231.out) | exact HB.out)) hb); clear HO_215000; clear HO_215001; clear HO_222000; clear HO_222001; clear HO_232000; clear HO_232001; clear HO256; clear HO259; clear BK197; clear BK214; clear BK221; clear BK231; clear HB; have HO_215000 := n0_; have HO_215001 := n1_; have HO_222000 := n2_; have HO_222001 := n3_; have HO_232000 := n4_; have HO_232001 := n5_; have HO256 := n6_; have HO259 := n7_; have HO262 := n8_; have BK197 := n9_; have BK214 := n10_; have BK221 := n11_; have BK231 := n12_; have HB := n13_; clear n0_ n1_ n2_ n3_ n4_ n5_ n6_ n7_ n8_ n9_ n10_ n11_ n12_ n13_; (try clear hb); (try clear hb2); (try clear hk); (try clear hi); (try clear ho0); obtain ⟨Ao113, co113, eo113⟩ := Kd.R_slice HO256.out; subst eo113; obtain ⟨Ao114, co114, eo114⟩ := Kd.R_slice HO259.out; subst eo114; obtain ⟨Ao115, co115, eo115⟩ := Kd.R_slice HO262.out; subst eo115) | ((with_reducible refine gate_callee (f := 26) rfl ?_); refine goesL_ (some 77) rfl rfl Try.func26 (by kernel_rfl) rfl #[.agg #[.slice Ao113 t254.length co113, .slice Ao114 t257.length co114], .slice Ao115 t260.length co115] rfl (by (try simp only [List.map_toArray, List.map_cons, List.map_nil]); first | done | rfl | (simp only [List.length_drop, List.length_take]; rfl)) ?_; (with_reducible refine (impl_Cut.calls kj99 _ _ t254 _ _ t257 _ _ t260 t263 t266 _ ?side1 ?side2 ?side3 ?side4 ?side5 ?side6 A104.out).mono ?_); (case side1 => repeat (first | exact (Kd.R_reads' HO256.out).2.2 | (with_reducible refine Kd.C_alloc ?_ _) | (with_reducible refine Kd.C_drewN ?_ _) | (with_reducible refine Kd.C_drew ?_))); (case side2 => exact (Kd.R_reads' HO256.out).2.1); (case side3 => repeat (first | exact (Kd.R_reads' HO259.out).2.2 | (with_reducible refine Kd.C_alloc ?_ _) | (with_reducible refine Kd.C_drewN ?_ _) | (with_reducible refine Kd.C_drew ?_))); (case side4 => exact (Kd.R_reads' HO259.out).2.1); (case side5 => repeat (first | exact (Kd.R_reads' HO262.out).2.2 | (with_reducible refine Kd.C_alloc ?_ _) | (with_reducible refine Kd.C_drewN ?_ _) | (with_reducible refine Kd.C_drew ?_))); (case side6 => exact (Kd.R_reads' HO262.out).2.1); rintro e w116 ⟨v264, v267, rfl, ho0, ho1, hb⟩; refine ⟨_, rfl, ?_⟩; have n0_ := Aside0.mk (Kd.R_elder' (by (with_reducible repeat (first | apply Kd.R_alloc | apply Kd.R_drewN | apply Kd.R_drew)); exact HO_215000.out) (Kd.R_base ho0) hb); have n1_ := Aside0.mk (Kd.R_elder' (by (with_reducible repeat (first | apply Kd.R_alloc | apply Kd.R_drewN | apply Kd.R_drew)); exact HO_215001.out) (Kd.R_base ho1) hb); have n2_ := Aside0.mk (Kd.R_elder' (by (with_reducible repeat (first | apply Kd.R_alloc | apply Kd.R_drewN | apply Kd.R_drew)); exact HO_222000.out) (Kd.R_base ho0) hb); have n3_ := Aside0.mk (Kd.R_elder' (by (with_reducible repeat (first | apply Kd.R_alloc | apply Kd.R_drewN | apply Kd.R_drew)); exact HO_222001.out) (Kd.R_base ho1) hb); have n4_ := Aside0.mk (Kd.R_elder' (by (with_reducible repeat (first | apply Kd.R_alloc | apply Kd.R_drewN | apply Kd.R_drew)); exact HO_232000.out) (Kd.R_base ho0) hb); have n5_ := Aside0.mk (Kd.R_elder' (by (with_reducible repeat (first | apply Kd.R_alloc | apply Kd.R_drewN | apply Kd.R_drew)); exact HO_232001.out) (Kd.R_base ho1) hb); have n6_ := Aside0.mk (Kd.R_elder' (by (with_reducible repeat (first | apply Kd.R_alloc | apply Kd.R_drewN | apply Kd.R_drew)); exact HO256.out) (Kd.R_base ho0) hb); have n7_ := Aside0.mk (Kd.R_elder' (by (with_reducible repeat (first | apply Kd.R_alloc | apply Kd.R_drewN | apply Kd.R_drew)); exact HO259.out) (Kd.R_base ho1) hb); have n8_ := Aside0.mk (Kd.R_below (by (with_reducible repeat (first | apply Kd.R_alloc | apply Kd.R_drewN | apply Kd.R_drew)); exact HO262.out) hb); have n9_ := Aside0.mk (Kd.R_lower (Kd.R_new' (Kd.R_new' (Kd.R_new' (Kd.R_new' ho0 (Kd.R_lt (by (with_reducible repeat (first | apply Kd.R_alloc | apply Kd.R_drewN | apply Kd.R_drew)); exact HO_215000.out))) (Kd.R_lt (by (with_reducible repeat (first | apply Kd.R_alloc | apply Kd.R_drewN | apply Kd.R_drew)); exact HO_222000.out))) (Kd.R_lt (by (with_reducible repeat (first | apply Kd.R_alloc | apply Kd.R_drewN | apply Kd.R_drew)); exact HO_232000.out))) (Kd.R_lt (by (with_reducible repeat (first | apply Kd.R_alloc | apply Kd.R_drewN | apply Kd.R_drew)); exact HO256.out))) (below_size (by repeat (first | (with_reducible first | exact HB.out | apply below_alloc | apply pw_below_drewN | apply below_drew1 | refine below_set ?_ GE197.out | refine below_set ?_ GE214.out | refine below_set ?_ GE221.out | refine below_set ?_ GE231.out) | exact HB.out)))); have n10_ := Aside0.mk (Kd.R_lower (Kd.R_new' (Kd.R_new' (Kd.R_new' (Kd.R_new' ho1 (Kd.R_lt (by (with_reducible repeat (first | apply Kd.R_alloc | apply Kd.R_drewN | apply Kd.R_drew)); exact HO_215001.out))) (Kd.R_lt (by (with_reducible repeat (first | apply Kd.R_alloc | apply Kd.R_drewN | apply Kd.R_drew)); exact HO_222001.out))) (Kd.R_lt (by (with_reducible repeat (first | apply Kd.R_alloc | apply Kd.R_drewN | apply Kd.R_drew)); exact HO_232001.out))) (Kd.R_lt (by (with_reducible repeat (first | apply Kd.R_alloc | apply Kd.R_drewN | apply Kd.R_drew)); exact HO259.out))) (below_size (by repeat (first | (with_reducible first | exact HB.out | apply below_alloc | apply pw_below_drewN | apply below_drew1 | refine below_set ?_ GE197.out | refine below_set ?_ GE214.out | refine below_set ?_ GE221.out | refine below_set ?_ GE231.out) | exact HB.out)))); have n11_ := Aside0.mk (blk_below (g := gb197) (o := .cells #[.slice A0_0 l0_0.length c0_0, .slice A0_1 l0_1.length c0_1] 33 (0, 0)) (by (with_reducible repeat (first | refine blk_drewN ?_ _ | refine blk_drew ?_ | refine blk_alloc ?_ _)); exact BK197.out) hb); have n12_ := Aside0.mk (blk_below (g := gb214) (o := .cells #[.slice Ao27 t208.length co27, .slice Ao30 t211.length co30] 25 (0, 0)) (by (with_reducible repeat (first | refine blk_drewN ?_ _ | refine blk_drew ?_ | refine blk_alloc ?_ _)); exact BK214.out) hb); have n13_ := Aside0.mk (blk_below (g := gb221) (o := .cells #[.slice Ao34 t245.length co34, .slice Ao38 t246.length co38] 25 (0, 0)) (by (with_reducible repeat (first | refine blk_drewN ?_ _ | refine blk_drew ?_ | refine blk_alloc ?_ _)); exact BK221.out) hb); have n14_ := Aside0.mk (blk_below (g := gb231) (o := .cells #[.slice Ao44 t251.length co44, .slice Ao49 t252.length co49] 25 (0, 0)) (by (with_reducible repeat (first | refine blk_drewN ?_ _ | refine blk_drew ?_ | refine blk_alloc ?_ _)); exact BK231.out) hb); have n15_ := Aside0.mk (below_step (by repeat (first | (with_reducible first | exact HB.out | apply below_alloc | apply pw_below_drewN | apply below_drew1 | refine below_set ?_ GE197.out | refine below_set ?_ GE214.out | refine below_set ?_ GE221.out | refine below_set ?_ GE231.out) | exact HB.out)) hb); clear HO_215000; clear HO_215001; clear HO_222000; clear HO_222001; clear HO_232000; clear HO_232001; clear HO256; clear HO259; clear HO262; clear BK197; clear BK214; clear BK221; clear BK231; clear HB; have HO_215000 := n0_; have HO_215001 := n1_; have HO_222000 := n2_; have HO_222001 := n3_; have HO_232000 := n4_; have HO_232001 := n5_; have HO256 := n6_; have HO259 := n7_; have HO262 := n8_; have HO265 := n9_; have HO268 := n10_; have BK197 := n11_; have BK214 := n12_; have BK221 := n13_; have BK231 := n14_; have HB := n15_; clear n0_ n1_ n2_ n3_ n4_ n5_ n6_ n7_ n8_ n9_ n10_ n11_ n12_ n13_ n14_ n15_; (try clear hb); (try clear hb2); (try clear hk); (try clear hi); (try clear ho0); (try clear ho1)) | ((with_reducible refine gate_dst (N := 13) rfl ?_); refine box_event ?hg (N := 13) ?hd (cs := #[.slice none 0 0, .slice none 0 0]) (t := 25) ?hr ?_; (case hd => rfl); (case hg => rfl); (case hr => first | (go_simp; done) | (go_simp; rfl)); intro gb269 hg w117 hbox hb; have n0_ := Aside0.mk (Kd.R_below (by (with_reducible repeat (first | apply Kd.R_alloc | apply Kd.R_drewN | apply Kd.R_drew)); exact HO_215000.out) hb); have n1_ := Aside0.mk (Kd.R_below (by (with_reducible repeat (first | apply Kd.R_alloc | apply Kd.R_drewN | apply Kd.R_drew)); exact HO_215001.out) hb); have n2_ := Aside0.mk (Kd.R_below (by (with_reducible repeat (first | apply Kd.R_alloc | apply Kd.R_drewN | apply Kd.R_drew)); exact HO_222000.out) hb); have n3_ := Aside0.mk (Kd.R_below (by (with_reducible repeat (first | apply Kd.R_alloc | apply Kd.R_drewN | apply Kd.R_drew)); exact HO_222001.out) hb); have n4_ := Aside0.mk (Kd.R_below (by (with_reducible repeat (first | apply Kd.R_alloc | apply Kd.R_drewN | apply Kd.R_drew)); exact HO_232000.out) hb); have n5_ := Aside0.mk (Kd.R_below (by (with_reducible repeat (first | apply Kd.R_alloc | apply Kd.R_drewN | apply Kd.R_drew)); exact HO_232001.out) hb); have n6_ := Aside0.mk (Kd.R_below (by (with_reducible repeat (first | apply Kd.R_alloc | apply Kd.R_drewN | apply Kd.R_drew)); exact HO256.out) hb); have n7_ := Aside0.mk (Kd.R_below (by (with_reducible repeat (first | apply Kd.R_alloc | apply Kd.R_drewN | apply Kd.R_drew)); exact HO259.out) hb); have n8_ := Aside0.mk (Kd.R_below (by (with_reducible repeat (first | apply Kd.R_alloc | apply Kd.R_drewN | apply Kd.R_drew)); exact HO262.out) hb); have n9_ := Aside0.mk (Kd.R_below (by (with_reducible repeat (first | apply Kd.R_alloc | apply Kd.R_drewN | apply Kd.R_drew)); exact HO265.out) hb); have n10_ := Aside0.mk (Kd.R_below (by (with_reducible repeat (first | apply Kd.R_alloc | apply Kd.R_drewN | apply Kd.R_drew)); exact HO268.out) hb); have n11_ := Aside0.mk (blk_below (g := gb197) (o := .cells #[.slice A0_0 l0_0.length c0_0, .slice A0_1 l0_1.length c0_1] 33 (0, 0)) (by (with_reducible repeat (first | refine blk_drewN ?_ _ | refine blk_drew ?_ | refine blk_alloc ?_ _)); exact BK197.out) hb); have n12_ := Aside0.mk (blk_below (g := gb214) (o := .cells #[.slice Ao27 t208.length co27, .slice Ao30 t211.length co30] 25 (0, 0)) (by (with_reducible repeat (first | refine blk_drewN ?_ _ | refine blk_drew ?_ | refine blk_alloc ?_ _)); exact BK214.out) hb); have n13_ := Aside0.mk (blk_below (g := gb221) (o := .cells #[.slice Ao34 t245.length co34, .slice Ao38 t246.length co38] 25 (0, 0)) (by (with_reducible repeat (first | refine blk_drewN ?_ _ | refine blk_drew ?_ | refine blk_alloc ?_ _)); exact BK221.out) hb); have n14_ := Aside0.mk (blk_below (g := gb231) (o := .cells #[.slice Ao44 t251.length co44, .slice Ao49 t252.length co49] 25 (0, 0)) (by (with_reducible repeat (first | refine blk_drewN ?_ _ | refine blk_drew ?_ | refine blk_alloc ?_ _)); exact BK231.out) hb); have n15_ := Aside0.mk (below_step (by repeat (first | (with_reducible first | exact HB.out | apply below_alloc | apply pw_below_drewN | apply below_drew1 | refine below_set ?_ GE197.out | refine below_set ?_ GE214.out | refine below_set ?_ GE221.out | refine below_set ?_ GE231.out) | exact HB.out)) hb); have n16_ := Aside0.mk (hbox); have n17_ := Aside0.mk ((by rw [hg]; exact (below_size (by repeat (first | (with_reducible first | exact HB.out | apply below_alloc | apply pw_below_drewN | apply below_drew1 | refine below_set ?_ GE197.out | refine below_set ?_ GE214.out | refine below_set ?_ GE221.out | refine below_set ?_ GE231.out) | exact HB.out))) : w.heap.size ≤ gb269)); have n18_ := Aside0.mk ((by rw [hg]; exact (below_size (by repeat (first | (with_reducible first | exact HB.out | apply below_alloc | apply pw_below_drewN | apply below_drew1 | refine below_set ?_ GE197.out | refine below_set ?_ GE214.out | refine below_set ?_ GE221.out | refine below_set ?_ GE231.out) | exact HB.out))) : w.heap.size ≤ gb269)); have n19_ := Aside0.mk ((by rw [hg]; exact Nat.ne_of_lt (blk_lt (g := gb197) (o := .cells #[.slice A0_0 l0_0.length c0_0, .slice A0_1 l0_1.length c0_1] 33 (0, 0)) (by (with_reducible repeat (first | refine blk_drewN ?_ _ | refine blk_drew ?_ | refine blk_alloc ?_ _)); exact BK197.out)) : gb197 ≠ gb269)); have n20_ := Aside0.mk ((by rw [hg]; exact Nat.ne_of_gt (blk_lt (g := gb197) (o := .cells #[.slice A0_0 l0_0.length c0_0, .slice A0_1 l0_1.length c0_1] 33 (0, 0)) (by (with_reducible repeat (first | refine blk_drewN ?_ _ | refine blk_drew ?_ | refine blk_alloc ?_ _)); exact BK197.out)) : gb269 ≠ gb197)); have n21_ := Aside0.mk ((by rw [hg]; exact Nat.ne_of_lt (blk_lt (g := gb214) (o := .cells #[.slice Ao27 t208.length co27, .slice Ao30 t211.length co30] 25 (0, 0)) (by (with_reducible repeat (first | refine blk_drewN ?_ _ | refine blk_drew ?_ | refine blk_alloc ?_ _)); exact BK214.out)) : gb214 ≠ gb269)); have n22_ := Aside0.mk ((by rw [hg]; exact Nat.ne_of_gt (blk_lt (g := gb214) (o := .cells #[.slice Ao27 t208.length co27, .slice Ao30 t211.length co30] 25 (0, 0)) (by (with_reducible repeat (first | refine blk_drewN ?_ _ | refine blk_drew ?_ | refine blk_alloc ?_ _)); exact BK214.out)) : gb269 ≠ gb214)); have n23_ := Aside0.mk ((by rw [hg]; exact Nat.ne_of_lt (blk_lt (g := gb221) (o := .cells #[.slice Ao34 t245.length co34, .slice Ao38 t246.length co38] 25 (0, 0)) (by (with_reducible repeat (first | refine blk_drewN ?_ _ | refine blk_drew ?_ | refine blk_alloc ?_ _)); exact BK221.out)) : gb221 ≠ gb269)); have n24_ := Aside0.mk ((by rw [hg]; exact Nat.ne_of_gt (blk_lt (g := gb221) (o := .cells #[.slice Ao34 t245.length co34, .slice Ao38 t246.length co38] 25 (0, 0)) (by (with_reducible repeat (first | refine blk_drewN ?_ _ | refine blk_drew ?_ | refine blk_alloc ?_ _)); exact BK221.out)) : gb269 ≠ gb221)); have n25_ := Aside0.mk ((by rw [hg]; exact Nat.ne_of_lt (blk_lt (g := gb231) (o := .cells #[.slice Ao44 t251.length co44, .slice Ao49 t252.length co49] 25 (0, 0)) (by (with_reducible repeat (first | refine blk_drewN ?_ _ | refine blk_drew ?_ | refine blk_alloc ?_ _)); exact BK231.out)) : gb231 ≠ gb269)); have n26_ := Aside0.mk ((by rw [hg]; exact Nat.ne_of_gt (blk_lt (g := gb231) (o := .cells #[.slice Ao44 t251.length co44, .slice Ao49 t252.length co49] 25 (0, 0)) (by (with_reducible repeat (first | refine blk_drewN ?_ _ | refine blk_drew ?_ | refine blk_alloc ?_ _)); exact BK231.out)) : gb269 ≠ gb231)); clear HO_215000; clear HO_215001; clear HO_222000; clear HO_222001; clear HO_232000; clear HO_232001; clear HO256; clear HO259; clear HO262; clear HO265; clear HO268; clear BK197; clear BK214; clear BK221; clear BK231; clear HB; have HO_215000 := n0_; have HO_215001 := n1_; have HO_222000 := n2_; have HO_222001 := n3_; have HO_232000 := n4_; have HO_232001 := n5_; have HO256 := n6_; have HO259 := n7_; have HO262 := n8_; have HO265 := n9_; have HO268 := n10_; have BK197 := n11_; have BK214 := n12_; have BK221 := n13_; have BK231 := n14_; have HB := n15_; have BK269 := n16_; have GW269 := n17_; have GE269 := n18_; have NB197_269 := n19_; have NB269_197 := n20_; have NB214_269 := n21_; have NB269_214 := n22_; have NB221_269 := n23_; have NB269_221 := n24_; have NB231_269 := n25_; have NB269_231 := n26_; clear n0_ n1_ n2_ n3_ n4_ n5_ n6_ n7_ n8_ n9_ n10_ n11_ n12_ n13_ n14_ n15_ n16_ n17_ n18_ n19_ n20_ n21_ n22_ n23_ n24_ n25_ n26_; clear hb hbox hg; obtain ⟨Ao118, co118, eo118⟩ := Kd.R_slice HO265.out; subst eo118; have hnb119 := NB269_197.out; have hnc119 := NB197_269.out; have hnb120 := NB269_214.out; have hnc120 := NB214_269.out; have hnb121 := NB269_221.out; have hnc121 := NB221_269.out; have hnb122 := NB269_231.out; have hnc122 := NB231_269.out; have hcz123_0 : w117.cell? ⟨gb269, 0, none⟩ = some (.slice none 0 0) := (blk_cell BK269.out 0).trans rfl; have hcz123_1 : w117.cell? ⟨gb269, 1, none⟩ = some (.slice none 0 0) := (blk_cell BK269.out 1).trans rfl; have hfz123_0 := blk_frozen BK269.out 0; have hfz123_1 := blk_frozen BK269.out 1; obtain ⟨Ao124, co124, eo124⟩ := Kd.R_slice HO268.out; subst eo124; have hnb125 := NB214_221.out; have hnc125 := NB221_214.out; have hnb126 := NB214_231.out; have hnc126 := NB231_214.out; have hcz127_0 : w117.cell? ⟨gb214, 0, none⟩ = some (.slice Ao27 t208.length co27) := (blk_cell BK214.out 0).trans rfl; have hcz127_1 : w117.cell? ⟨gb214, 1, none⟩ = some (.slice Ao30 t211.length co30) := (blk_cell BK214.out 1).trans rfl; have hfz127_0 := blk_frozen BK214.out 0; have hfz127_1 := blk_frozen BK214.out 1) | ((with_reducible refine gate_callee (f := 13) rfl ?_); refine goesL_ (some 80) rfl rfl Try.func13 (by kernel_rfl) rfl #[.agg #[.slice Ao118 t263.length co118, .slice Ao124 t266.length co124], .agg #[.slice Ao27 t208.length co27, .slice Ao30 t211.length co30]] rfl (by (try simp only [List.map_toArray, List.map_cons, List.map_nil]); first | done | rfl | (simp only [List.length_drop, List.length_take]; rfl)) ?_; (with_reducible refine (laws_eqDevice.calls kj99 _ _ t263 _ _ t266 _ _ t208 _ _ t211 t270 _ ?side1 ?side2 ?side3 ?side4 ?side5 ?side6 ?side7 ?side8 A105.out).mono ?_); (case side1 => refine (Kd.R_reads' (e := 9) (base := w.heap.size) (ok := fun k_ => ((((True ∧ some k_ ≠ (.slice Ao27 t208.length co27 : Value).ownBlock) ∧ some k_ ≠ (.slice Ao34 t245.length co34 : Value).ownBlock) ∧ some k_ ≠ (.slice Ao44 t251.length co44 : Value).ownBlock) ∧ some k_ ≠ (.slice Ao113 t254.length co113 : Value).ownBlock)) (n := t263.length) (c := co118) ?_).2.2; exact (by (with_reducible repeat (first | apply Kd.R_alloc | apply Kd.R_drewN | apply Kd.R_drew)); exact (Kd.R_mono (Kd.R_far (p := ⟨gb269, 1, none⟩) (Kd.R_far (p := ⟨gb269, 0, none⟩) (Kd.R_types HO265.out BK269.out (by decide)) (fun _ hk => hk.2) (.slice Ao118 t263.length co118)) (fun _ hk => hk.2) (.slice Ao124 t266.length co124)) (fun _ h_ => h_.1)))); (case side2 => exact (Kd.R_reads' HO265.out).2.1); (case side3 => refine (Kd.R_reads' (e := 72) (base := w.heap.size) (ok := fun k_ => ((((True ∧ some k_ ≠ (.slice Ao30 t211.length co30 : Value).ownBlock) ∧ some k_ ≠ (.slice Ao38 t246.length co38 : Value).ownBlock) ∧ some k_ ≠ (.slice Ao49 t252.length co49 : Value).ownBlock) ∧ some k_ ≠ (.slice Ao114 t257.length co114 : Value).ownBlock)) (n := t266.length) (c := co124) ?_).2.2; exact (by (with_reducible repeat (first | apply Kd.R_alloc | apply Kd.R_drewN | apply Kd.R_drew)); exact (Kd.R_mono (Kd.R_far (p := ⟨gb269, 1, none⟩) (Kd.R_far (p := ⟨gb269, 0, none⟩) (Kd.R_types HO268.out BK269.out (by decide)) (fun _ hk => hk.2) (.slice Ao118 t263.length co118)) (fun _ hk => hk.2) (.slice Ao124 t266.length co124)) (fun _ h_ => h_.1)))); (case side4 => exact (Kd.R_reads' HO268.out).2.1); (case side5 => refine (Kd.R_reads' (e := 9) (base := w.heap.size) (ok := fun k_ => (((some k_ ≠ (.slice Ao34 t245.length co34 : Value).ownBlock ∧ some k_ ≠ (.slice Ao44 t251.length co44 : Value).ownBlock) ∧ some k_ ≠ (.slice Ao113 t254.length co113 : Value).ownBlock) ∧ some k_ ≠ (.slice Ao118 t263.length co118 : Value).ownBlock)) (n := t208.length) (c := co27) ?_).2.2; exact (by (with_reducible repeat (first | apply Kd.R_alloc | apply Kd.R_drewN | apply Kd.R_drew)); exact (Kd.R_mono (Kd.R_far (p := ⟨gb269, 1, none⟩) (Kd.R_far (p := ⟨gb269, 0, none⟩) (Kd.R_types HO_215000.out BK269.out (by decide)) (fun _ hk => hk.2) (.slice Ao118 t263.length co118)) (fun _ hk => hk.2) (.slice Ao124 t266.length co124)) (fun _ h_ => h_.1)))); (case side6 => exact (Kd.R_reads' HO_215000.out).2.1); (case side7 => refine (Kd.R_reads' (e := 72) (base := w.heap.size) (ok := fun k_ => (((some k_ ≠ (.slice Ao38 t246.length co38 : Value).ownBlock ∧ some k_ ≠ (.slice Ao49 t252.length co49 : Value).ownBlock) ∧ some k_ ≠ (.slice Ao114 t257.length co114 : Value).ownBlock) ∧ some k_ ≠ (.slice Ao124 t266.length co124 : Value).ownBlock)) (n := t211.length) (c := co30) ?_).2.2; exact (by (with_reducible repeat (first | apply Kd.R_alloc | apply Kd.R_drewN | apply Kd.R_drew)); exact (Kd.R_mono (Kd.R_far (p := ⟨gb269, 1, none⟩) (Kd.R_far (p := ⟨gb269, 0, none⟩) (Kd.R_types HO_215001.out BK269.out (by decide)) (fun _ hk => hk.2) (.slice Ao118 t263.length co118)) (fun _ hk => hk.2) (.slice Ao124 t266.length co124)) (fun _ h_ => h_.1)))); (case side8 => exact (Kd.R_reads' HO_215001.out).2.1); rintro e w128 ⟨rfl, hb⟩; refine ⟨_, rfl, ?_⟩; have n0_ := Aside0.mk (Kd.R_below (by (with_reducible repeat (first | apply Kd.R_alloc | apply Kd.R_drewN | apply Kd.R_drew)); exact (Kd.R_mono (Kd.R_far (p := ⟨gb269, 1, none⟩) (Kd.R_far (p := ⟨gb269, 0, none⟩) (Kd.R_types HO_215000.out BK269.out (by decide)) (fun _ hk => hk.2) (.slice Ao118 t263.length co118)) (fun _ hk => hk.2) (.slice Ao124 t266.length co124)) (fun _ h_ => h_.1))) hb); have n1_ := Aside0.mk (Kd.R_below (by (with_reducible repeat (first | apply Kd.R_alloc | apply Kd.R_drewN | apply Kd.R_drew)); exact (Kd.R_mono (Kd.R_far (p := ⟨gb269, 1, none⟩) (Kd.R_far (p := ⟨gb269, 0, none⟩) (Kd.R_types HO_215001.out BK269.out (by decide)) (fun _ hk => hk.2) (.slice Ao118 t263.length co118)) (fun _ hk => hk.2) (.slice Ao124 t266.length co124)) (fun _ h_ => h_.1))) hb); have n2_ := Aside0.mk (Kd.R_below (by (with_reducible repeat (first | apply Kd.R_alloc | apply Kd.R_drewN | apply Kd.R_drew)); exact (Kd.R_mono (Kd.R_far (p := ⟨gb269, 1, none⟩) (Kd.R_far (p := ⟨gb269, 0, none⟩) (Kd.R_types HO_222000.out BK269.out (by decide)) (fun _ hk => hk.2) (.slice Ao118 t263.length co118)) (fun _ hk => hk.2) (.slice Ao124 t266.length co124)) (fun _ h_ => h_.1))) hb); have n3_ := Aside0.mk (Kd.R_below (by (with_reducible repeat (first | apply Kd.R_alloc | apply Kd.R_drewN | apply Kd.R_drew)); exact (Kd.R_mono (Kd.R_far (p := ⟨gb269, 1, none⟩) (Kd.R_far (p := ⟨gb269, 0, none⟩) (Kd.R_types HO_222001.out BK269.out (by decide)) (fun _ hk => hk.2) (.slice Ao118 t263.length co118)) (fun _ hk => hk.2) (.slice Ao124 t266.length co124)) (fun _ h_ => h_.1))) hb); have n4_ := Aside0.mk (Kd.R_below (by (with_reducible repeat (first | apply Kd.R_alloc | apply Kd.R_drewN | apply Kd.R_drew)); exact (Kd.R_mono (Kd.R_far (p := ⟨gb269, 1, none⟩) (Kd.R_far (p := ⟨gb269, 0, none⟩) (Kd.R_types HO_232000.out BK269.out (by decide)) (fun _ hk => hk.2) (.slice Ao118 t263.length co118)) (fun _ hk => hk.2) (.slice Ao124 t266.length co124)) (fun _ h_ => h_.1))) hb); have n5_ := Aside0.mk (Kd.R_below (by (with_reducible repeat (first | apply Kd.R_alloc | apply Kd.R_drewN | apply Kd.R_drew)); exact (Kd.R_mono (Kd.R_far (p := ⟨gb269, 1, none⟩) (Kd.R_far (p := ⟨gb269, 0, none⟩) (Kd.R_types HO_232001.out BK269.out (by decide)) (fun _ hk => hk.2) (.slice Ao118 t263.length co118)) (fun _ hk => hk.2) (.slice Ao124 t266.length co124)) (fun _ h_ => h_.1))) hb); have n6_ := Aside0.mk (Kd.R_below (by (with_reducible repeat (first | apply Kd.R_alloc | apply Kd.R_drewN | apply Kd.R_drew)); exact (Kd.R_mono (Kd.R_far (p := ⟨gb269, 1, none⟩) (Kd.R_far (p := ⟨gb269, 0, none⟩) (Kd.R_types HO256.out BK269.out (by decide)) (fun _ hk => hk.2) (.slice Ao118 t263.length co118)) (fun _ hk => hk.2) (.slice Ao124 t266.length co124)) (fun _ h_ => h_.1))) hb); have n7_ := Aside0.mk (Kd.R_below (by (with_reducible repeat (first | apply Kd.R_alloc | apply Kd.R_drewN | apply Kd.R_drew)); exact (Kd.R_mono (Kd.R_far (p := ⟨gb269, 1, none⟩) (Kd.R_far (p := ⟨gb269, 0, none⟩) (Kd.R_types HO259.out BK269.out (by decide)) (fun _ hk => hk.2) (.slice Ao118 t263.length co118)) (fun _ hk => hk.2) (.slice Ao124 t266.length co124)) (fun _ h_ => h_.1))) hb); have n8_ := Aside0.mk (Kd.R_below (by (with_reducible repeat (first | apply Kd.R_alloc | apply Kd.R_drewN | apply Kd.R_drew)); exact (Kd.R_mono (Kd.R_far (p := ⟨gb269, 1, none⟩) (Kd.R_far (p := ⟨gb269, 0, none⟩) (Kd.R_types HO262.out BK269.out (by decide)) (fun _ hk => hk.2) (.slice Ao118 t263.length co118)) (fun _ hk => hk.2) (.slice Ao124 t266.length co124)) (fun _ h_ => h_.1))) hb); have n9_ := Aside0.mk (Kd.R_below (by (with_reducible repeat (first | apply Kd.R_alloc | apply Kd.R_drewN | apply Kd.R_drew)); exact (Kd.R_mono (Kd.R_far (p := ⟨gb269, 1, none⟩) (Kd.R_far (p := ⟨gb269, 0, none⟩) (Kd.R_types HO265.out BK269.out (by decide)) (fun _ hk => hk.2) (.slice Ao118 t263.length co118)) (fun _ hk => hk.2) (.slice Ao124 t266.length co124)) (fun _ h_ => h_.1))) hb); have n10_ := Aside0.mk (Kd.R_below (by (with_reducible repeat (first | apply Kd.R_alloc | apply Kd.R_drewN | apply Kd.R_drew)); exact (Kd.R_mono (Kd.R_far (p := ⟨gb269, 1, none⟩) (Kd.R_far (p := ⟨gb269, 0, none⟩) (Kd.R_types HO268.out BK269.out (by decide)) (fun _ hk => hk.2) (.slice Ao118 t263.length co118)) (fun _ hk => hk.2) (.slice Ao124 t266.length co124)) (fun _ h_ => h_.1))) hb); have n11_ := Aside0.mk (blk_below (g := gb197) (o := .cells #[.slice A0_0 l0_0.length c0_0, .slice A0_1 l0_1.length c0_1] 33 (0, 0)) (by (with_reducible repeat (first | refine blk_drewN ?_ _ | refine blk_drew ?_ | refine blk_alloc ?_ _)); refine blk_far ?_ NB197_269.out _; (with_reducible repeat (first | refine blk_drewN ?_ _ | refine blk_drew ?_ | refine blk_alloc ?_ _)); refine blk_far ?_ NB197_269.out _; (with_reducible repeat (first | refine blk_drewN ?_ _ | refine blk_drew ?_ | refine blk_alloc ?_ _)); exact BK197.out) hb); have n12_ := Aside0.mk (blk_below (g := gb214) (o := .cells #[.slice Ao27 t208.length co27, .slice Ao30 t211.length co30] 25 (0, 0)) (by (with_reducible repeat (first | refine blk_drewN ?_ _ | refine blk_drew ?_ | refine blk_alloc ?_ _)); refine blk_far ?_ NB214_269.out _; (with_reducible repeat (first | refine blk_drewN ?_ _ | refine blk_drew ?_ | refine blk_alloc ?_ _)); refine blk_far ?_ NB214_269.out _; (with_reducible repeat (first | refine blk_drewN ?_ _ | refine blk_drew ?_ | refine blk_alloc ?_ _)); exact BK214.out) hb); have n13_ := Aside0.mk (blk_below (g := gb221) (o := .cells #[.slice Ao34 t245.length co34, .slice Ao38 t246.length co38] 25 (0, 0)) (by (with_reducible repeat (first | refine blk_drewN ?_ _ | refine blk_drew ?_ | refine blk_alloc ?_ _)); refine blk_far ?_ NB221_269.out _; (with_reducible repeat (first | refine blk_drewN ?_ _ | refine blk_drew ?_ | refine blk_alloc ?_ _)); refine blk_far ?_ NB221_269.out _; (with_reducible repeat (first | refine blk_drewN ?_ _ | refine blk_drew ?_ | refine blk_alloc ?_ _)); exact BK221.out) hb); have n14_ := Aside0.mk (blk_below (g := gb231) (o := .cells #[.slice Ao44 t251.length co44, .slice Ao49 t252.length co49] 25 (0, 0)) (by (with_reducible repeat (first | refine blk_drewN ?_ _ | refine blk_drew ?_ | refine blk_alloc ?_ _)); refine blk_far ?_ NB231_269.out _; (with_reducible repeat (first | refine blk_drewN ?_ _ | refine blk_drew ?_ | refine blk_alloc ?_ _)); refine blk_far ?_ NB231_269.out _; (with_reducible repeat (first | refine blk_drewN ?_ _ | refine blk_drew ?_ | refine blk_alloc ?_ _)); exact BK231.out) hb); have n15_ := Aside0.mk (blk_below (g := gb269) (o := .cells #[.slice Ao118 t263.length co118, .slice Ao124 t266.length co124] 25 (0, 0)) (by (with_reducible repeat (first | refine blk_drewN ?_ _ | refine blk_drew ?_ | refine blk_alloc ?_ _)); refine blk_put (cs := #[.slice Ao118 t263.length co118, .slice none 0 0]) ?_ 1 _ rfl; (with_reducible repeat (first | refine blk_drewN ?_ _ | refine blk_drew ?_ | refine blk_alloc ?_ _)); refine blk_put (cs := #[.slice none 0 0, .slice none 0 0]) ?_ 0 _ rfl; (with_reducible repeat (first | refine blk_drewN ?_ _ | refine blk_drew ?_ | refine blk_alloc ?_ _)); exact BK269.out) hb); have n16_ := Aside0.mk (below_step (by repeat (first | (with_reducible first | exact HB.out | apply below_alloc | apply pw_below_drewN | apply below_drew1 | refine below_set ?_ GE197.out | refine below_set ?_ GE214.out | refine below_set ?_ GE221.out | refine below_set ?_ GE231.out | refine below_set ?_ GE269.out) | exact HB.out)) hb); clear HO_215000; clear HO_215001; clear HO_222000; clear HO_222001; clear HO_232000; clear HO_232001; clear HO256; clear HO259; clear HO262; clear HO265; clear HO268; clear BK197; clear BK214; clear BK221; clear BK231; clear BK269; clear HB; have HO_215000 := n0_; have HO_215001 := n1_; have HO_222000 := n2_; have HO_222001 := n3_; have HO_232000 := n4_; have HO_232001 := n5_; have HO256 := n6_; have HO259 := n7_; have HO262 := n8_; have HO265 := n9_; have HO268 := n10_; have BK197 := n11_; have BK214 := n12_; have BK221 := n13_; have BK231 := n14_; have BK269 := n15_; have HB := n16_; clear n0_ n1_ n2_ n3_ n4_ n5_ n6_ n7_ n8_ n9_ n10_ n11_ n12_ n13_ n14_ n15_ n16_; (try clear hb); (try clear hb2); (try clear hk); (try clear hi)))
                   (try simp only [Act.put, List.setIfInBounds_toArray, List.set_cons_zero, List.set_cons_succ])
                   go_cut [] (fun wc => ∃ (kq : Nat), Aside0 (laws_FnExactCut.j9 kq t250 t251 t252 = some r) ∧ Aside0 (kq ≤ kj99) ∧ Aside0 (Kd.R Kd.string 9 wc w.heap.size (fun k_ => some k_ ≠ ((.slice Ao34 t245.length co34) : Value).ownBlock ∧ some k_ ≠ ((.slice Ao44 t251.length co44) : Value).ownBlock ∧ some k_ ≠ ((.slice Ao118 t263.length co118) : Value).ownBlock) (.slice Ao27 t208.length co27) t208) ∧ Aside0 (Kd.R k72 72 wc w.heap.size (fun k_ => some k_ ≠ ((.slice Ao38 t246.length co38) : Value).ownBlock ∧ some k_ ≠ ((.slice Ao49 t252.length co49) : Value).ownBlock ∧ some k_ ≠ ((.slice Ao124 t266.length co124) : Value).ownBlock) (.slice Ao30 t211.length co30) t211) ∧ Aside0 (Kd.R Kd.string 9 wc w.heap.size (fun k_ => some k_ ≠ ((.slice Ao27 t208.length co27) : Value).ownBlock ∧ some k_ ≠ ((.slice Ao44 t251.length co44) : Value).ownBlock ∧ some k_ ≠ ((.slice Ao118 t263.length co118) : Value).ownBlock) (.slice Ao34 t245.length co34) t245) ∧ Aside0 (Kd.R k72 72 wc w.heap.size (fun k_ => some k_ ≠ ((.slice Ao30 t211.length co30) : Value).ownBlock ∧ some k_ ≠ ((.slice Ao49 t252.length co49) : Value).ownBlock ∧ some k_ ≠ ((.slice Ao124 t266.length co124) : Value).ownBlock) (.slice Ao38 t246.length co38) t246) ∧ Aside0 (Kd.R Kd.string 9 wc w.heap.size (fun k_ => some k_ ≠ ((.slice Ao27 t208.length co27) : Value).ownBlock ∧ some k_ ≠ ((.slice Ao34 t245.length co34) : Value).ownBlock ∧ some k_ ≠ ((.slice Ao118 t263.length co118) : Value).ownBlock) (.slice Ao44 t251.length co44) t251) ∧ Aside0 (Kd.R k72 72 wc w.heap.size (fun k_ => some k_ ≠ ((.slice Ao30 t211.length co30) : Value).ownBlock ∧ some k_ ≠ ((.slice Ao38 t246.length co38) : Value).ownBlock ∧ some k_ ≠ ((.slice Ao124 t266.length co124) : Value).ownBlock) (.slice Ao49 t252.length co49) t252) ∧ Aside0 (Kd.R Kd.string 9 wc w.heap.size (fun k_ => some k_ ≠ ((.slice Ao27 t208.length co27) : Value).ownBlock ∧ some k_ ≠ ((.slice Ao34 t245.length co34) : Value).ownBlock ∧ some k_ ≠ ((.slice Ao44 t251.length co44) : Value).ownBlock) (.slice Ao118 t263.length co118) t263) ∧ Aside0 (Kd.R k72 72 wc w.heap.size (fun k_ => some k_ ≠ ((.slice Ao30 t211.length co30) : Value).ownBlock ∧ some k_ ≠ ((.slice Ao38 t246.length co38) : Value).ownBlock ∧ some k_ ≠ ((.slice Ao49 t252.length co49) : Value).ownBlock) (.slice Ao124 t266.length co124) t266) ∧ Aside0 (wc.heap[gb197]? = some (.cells #[(.slice A0_0 l0_0.length c0_0), (.slice A0_1 l0_1.length c0_1)] 33 (0, 0))) ∧ Aside0 (wc.heap[gb214]? = some (.cells #[(.slice Ao27 t208.length co27), (.slice Ao30 t211.length co30)] 25 (0, 0))) ∧ Aside0 (wc.heap[gb221]? = some (.cells #[(.slice Ao34 t245.length co34), (.slice Ao38 t246.length co38)] 25 (0, 0))) ∧ Aside0 (wc.heap[gb231]? = some (.cells #[(.slice Ao44 t251.length co44), (.slice Ao49 t252.length co49)] 25 (0, 0))) ∧ Aside0 (wc.heap[gb269]? = some (.cells #[(.slice Ao118 t263.length co118), (.slice Ao124 t266.length co124)] 25 (0, 0))) ∧ Aside0 (Below w.heap.size w wc))
                   case first =>
                    have H := HC106.out
                    clear HC106
                    by_cases c129 : t270 = true
                    ·subst c129
                     have H1 : (laws_FnExactCut.j9 kj99 t250 t251 t252) = some r := by rw [if_pos rfl] at H; exact H
                     clear H
                     have H := H1
                     clear H1
                     have H' := Aside0.mk H
                     clear H
                     go_wp2
                     go_meet
                     case rel => exact ⟨_, H', ⟨by have := HJ2.out; have := HJ6.out; have := HJ17.out; have := HJ54.out; have := HJ63.out; have := HJ69.out; have := HJ86.out; have := HJ90.out; have := HJ99.out; first | omega | exact Nat.le_refl _⟩, ⟨by (try simp only [hl222000_69]); (try simp only [hl222001_69]); (try simp only [hl232000_90]); (try simp only [hl232001_90]); (with_reducible repeat (first | apply Kd.R_alloc | apply Kd.R_drewN | apply Kd.R_drew)); exact Kd.R_mono HO_215000.out (fun _ hk => ⟨hk.1.1.1, ⟨hk.1.1.2, hk.2⟩⟩)⟩, ⟨by (try simp only [hl222000_69]); (try simp only [hl222001_69]); (try simp only [hl232000_90]); (try simp only [hl232001_90]); (with_reducible repeat (first | apply Kd.R_alloc | apply Kd.R_drewN | apply Kd.R_drew)); exact Kd.R_mono HO_215001.out (fun _ hk => ⟨hk.1.1.1, ⟨hk.1.1.2, hk.2⟩⟩)⟩, ⟨by (try simp only [hl222000_69]); (try simp only [hl222001_69]); (try simp only [hl232000_90]); (try simp only [hl232001_90]); (with_reducible repeat (first | apply Kd.R_alloc | apply Kd.R_drewN | apply Kd.R_drew)); exact Kd.R_mono HO_222000.out (fun _ hk => ⟨hk.1.1.1, ⟨hk.1.1.2, hk.2⟩⟩)⟩, ⟨by (try simp only [hl222000_69]); (try simp only [hl222001_69]); (try simp only [hl232000_90]); (try simp only [hl232001_90]); (with_reducible repeat (first | apply Kd.R_alloc | apply Kd.R_drewN | apply Kd.R_drew)); exact Kd.R_mono HO_222001.out (fun _ hk => ⟨hk.1.1.1, ⟨hk.1.1.2, hk.2⟩⟩)⟩, ⟨by (try simp only [hl222000_69]); (try simp only [hl222001_69]); (try simp only [hl232000_90]); (try simp only [hl232001_90]); (with_reducible repeat (first | apply Kd.R_alloc | apply Kd.R_drewN | apply Kd.R_drew)); exact Kd.R_mono HO_232000.out (fun _ hk => ⟨hk.1.1.1, ⟨hk.1.1.2, hk.2⟩⟩)⟩, ⟨by (try simp only [hl222000_69]); (try simp only [hl222001_69]); (try simp only [hl232000_90]); (try simp only [hl232001_90]); (with_reducible repeat (first | apply Kd.R_alloc | apply Kd.R_drewN | apply Kd.R_drew)); exact Kd.R_mono HO_232001.out (fun _ hk => ⟨hk.1.1.1, ⟨hk.1.1.2, hk.2⟩⟩)⟩, ⟨by (try simp only [hl222000_69]); (try simp only [hl222001_69]); (try simp only [hl232000_90]); (try simp only [hl232001_90]); (with_reducible repeat (first | apply Kd.R_alloc | apply Kd.R_drewN | apply Kd.R_drew)); exact Kd.R_mono HO265.out (fun _ hk => ⟨hk.1.1.1.2, ⟨hk.1.1.2, hk.1.2⟩⟩)⟩, ⟨by (try simp only [hl222000_69]); (try simp only [hl222001_69]); (try simp only [hl232000_90]); (try simp only [hl232001_90]); (with_reducible repeat (first | apply Kd.R_alloc | apply Kd.R_drewN | apply Kd.R_drew)); exact Kd.R_mono HO268.out (fun _ hk => ⟨hk.1.1.1.2, ⟨hk.1.1.2, hk.1.2⟩⟩)⟩, ⟨by (try simp only [hl222000_69]); (try simp only [hl222001_69]); (try simp only [hl232000_90]); (try simp only [hl232001_90]); (with_reducible repeat (first | refine blk_drewN ?_ _ | refine blk_drew ?_ | refine blk_alloc ?_ _)); exact BK197.out⟩, ⟨by (try simp only [hl222000_69]); (try simp only [hl222001_69]); (try simp only [hl232000_90]); (try simp only [hl232001_90]); (with_reducible repeat (first | refine blk_drewN ?_ _ | refine blk_drew ?_ | refine blk_alloc ?_ _)); exact BK214.out⟩, ⟨by (try simp only [hl222000_69]); (try simp only [hl222001_69]); (try simp only [hl232000_90]); (try simp only [hl232001_90]); (with_reducible repeat (first | refine blk_drewN ?_ _ | refine blk_drew ?_ | refine blk_alloc ?_ _)); exact BK221.out⟩, ⟨by (try simp only [hl222000_69]); (try simp only [hl222001_69]); (try simp only [hl232000_90]); (try simp only [hl232001_90]); (with_reducible repeat (first | refine blk_drewN ?_ _ | refine blk_drew ?_ | refine blk_alloc ?_ _)); exact BK231.out⟩, ⟨by (try simp only [hl222000_69]); (try simp only [hl222001_69]); (try simp only [hl232000_90]); (try simp only [hl232001_90]); (with_reducible repeat (first | refine blk_drewN ?_ _ | refine blk_drew ?_ | refine blk_alloc ?_ _)); exact BK269.out⟩, ⟨by repeat (first | (with_reducible first | exact HB.out | apply below_alloc | apply pw_below_drewN | apply below_drew1 | refine below_set ?_ GE197.out | refine below_set ?_ GE214.out | refine below_set ?_ GE221.out | refine below_set ?_ GE231.out | refine below_set ?_ GE269.out) | exact HB.out)⟩⟩
                    ·replace c129 := Bool.eq_false_iff.mpr c129
                     subst c129
                     have H1 : (some false) = some r := by rw [if_neg (show ¬ (false = true) by decide)] at H; exact H
                     clear H
                     have H := H1
                     clear H1
                     obtain rfl := Option.some.inj H
                     go_wp2
                     go_ret
                     exact ⟨by first | rfl | (simp [errW_none, errW_some] <;> rfl) | (simp [*, errW_none, errW_some] <;> rfl), by repeat (first | (with_reducible first | exact HB.out | apply below_alloc | apply pw_below_drewN | apply below_drew1 | refine below_set ?_ GE197.out | refine below_set ?_ GE214.out | refine below_set ?_ GE221.out | refine below_set ?_ GE231.out | refine below_set ?_ GE269.out) | exact HB.out)⟩
                   case rest =>
                    clear HC106
                    try clear c1
                    try clear c2
                    try clear p2
                    try clear c3
                    try clear c4
                    try clear c5
                    try clear c5b0
                    try clear c5b1
                    try clear c6
                    try clear c7
                    try clear c8
                    try clear c9
                    try clear c10
                    try clear c10b0
                    try clear c11
                    try clear c12
                    try clear c13
                    try clear c14
                    try clear c15
                    try clear c16
                    try clear c18
                    try clear c24
                    try clear c25
                    try clear c26
                    try clear c27
                    try clear c28
                    try clear c35
                    try clear c36
                    try clear c45
                    try clear c46
                    try clear c47
                    try clear c52
                    try clear c61
                    try clear c67
                    try clear c71
                    try clear c72
                    try clear c73
                    try clear c77
                    try clear c77b0
                    try clear c79
                    try clear c80
                    try clear c81
                    try clear c83
                    try clear c84
                    try clear c88
                    try clear c92
                    try clear c93
                    try clear c94
                    try clear c99
                    try clear c99b0
                    try clear c101
                    try clear c101b0
                    try clear c101b1
                    try clear c107
                    try clear c108
                    try clear c109
                    try clear c119
                    try clear c120
                    try clear c121
                    try clear c122
                    try clear c125
                    try clear c126
                    try clear c129
                    try clear hcz110_0
                    try clear hcz110_1
                    try clear hcz123_0
                    try clear hcz123_1
                    try clear hcz127_0
                    try clear hcz127_1
                    try clear hcz19_0
                    try clear hcz19_1
                    try clear hcz29_0
                    try clear hcz29_1
                    try clear hcz31_0
                    try clear hcz31_1
                    try clear hcz37_0
                    try clear hcz37_1
                    try clear hcz40_0
                    try clear hcz40_1
                    try clear hcz48_0
                    try clear hcz48_1
                    try clear hcz50_0
                    try clear hcz50_1
                    try clear hcz74_0
                    try clear hcz74_1
                    try clear hcz82_0
                    try clear hcz82_1
                    try clear hcz85_0
                    try clear hcz85_1
                    try clear hcz8_0
                    try clear hcz8_1
                    try clear hcz95_0
                    try clear hcz95_1
                    try clear hcz97_0
                    try clear hcz97_1
                    try clear hfz110_0
                    try clear hfz110_1
                    try clear hfz123_0
                    try clear hfz123_1
                    try clear hfz127_0
                    try clear hfz127_1
                    try clear hfz19_0
                    try clear hfz19_1
                    try clear hfz29_0
                    try clear hfz29_1
                    try clear hfz31_0
                    try clear hfz31_1
                    try clear hfz37_0
                    try clear hfz37_1
                    try clear hfz40_0
                    try clear hfz40_1
                    try clear hfz48_0
                    try clear hfz48_1
                    try clear hfz50_0
                    try clear hfz50_1
                    try clear hfz74_0
                    try clear hfz74_1
                    try clear hfz82_0
                    try clear hfz82_1
                    try clear hfz85_0
                    try clear hfz85_1
                    try clear hfz8_0
                    try clear hfz8_1
                    try clear hfz95_0
                    try clear hfz95_1
                    try clear hfz97_0
                    try clear hfz97_1
                    try clear p2
                    obtain ⟨kq, HA, HJ105, HO_215000, HO_215001, HO_222000, HO_222001, HO_232000, HO_232001, HO_270000, HO_270001, BK197, BK214, BK221, BK231, BK269, HB⟩ := hcut
                    cases kq with
                    | zero => exact absurd HA.out (by simp [laws_FnExactCut.j9])
                    | succ kj105 =>
                     have H := HA.out
                     clear HA
                     simp only [laws_FnExactCut.j9] at H
                     replace H := Option.bind_eq_some_iff.mp H
                     obtain ⟨t271, A1300, H⟩ := H
                     replace H : (if t271 < 0 then (some false) else (if t271 = t250 then (some true) else (some false))) = some r := H
                     have A130 := Aside0.mk A1300
                     clear A1300
                     by_cases c131 : t271 < 0
                     ·rw [if_pos c131] at H
                      have c131b0 : decide (t271 < 0) = true := decide_eq_true c131
                      clear c131
                      obtain rfl := Option.some.inj H
                      have hnb132 := NB231_197.out
                      have hnc132 := NB197_231.out
                      have hnb133 := NB231_214.out
                      have hnc133 := NB214_231.out
                      have hnb134 := NB231_221.out
                      have hnc134 := NB221_231.out
                      have hnb135 := NB231_269.out
                      have hnc135 := NB269_231.out
                      have hcz136_0 : wc.cell? ⟨gb231, 0, none⟩ = some (.slice Ao44 t251.length co44) := (blk_cell BK231.out 0).trans rfl
                      have hcz136_1 : wc.cell? ⟨gb231, 1, none⟩ = some (.slice Ao49 t252.length co49) := (blk_cell BK231.out 1).trans rfl
                      have hfz136_0 := blk_frozen BK231.out 0
                      have hfz136_1 := blk_frozen BK231.out 1
                      go_wp2_with (first | ((with_reducible refine gate_callee (f := 15) rfl ?_); refine goesL_ (some 84) rfl rfl Try.func15 (by kernel_rfl) rfl #[.agg #[.slice Ao44 t251.length co44, .slice Ao49 t252.length co49], .int .i64 1] rfl (by (try simp only [List.map_toArray, List.map_cons, List.map_nil]); first | done | rfl | (simp only [List.length_drop, List.length_take]; rfl)) ?_; (with_reducible refine (laws_heldDevice.calls kj105 _ _ t251 _ _ t252 1 t271 _ ?side1 ?side2 ?side3 ?side4 A130.out).mono ?_); (case side1 => repeat (first | exact (Kd.R_reads' HO_232000.out).2.2 | (with_reducible refine Kd.C_alloc ?_ _) | (with_reducible refine Kd.C_drewN ?_ _) | (with_reducible refine Kd.C_drew ?_))); (case side2 => exact (Kd.R_reads' HO_232000.out).2.1); (case side3 => repeat (first | exact (Kd.R_reads' HO_232001.out).2.2 | (with_reducible refine Kd.C_alloc ?_ _) | (with_reducible refine Kd.C_drewN ?_ _) | (with_reducible refine Kd.C_drew ?_))); (case side4 => exact (Kd.R_reads' HO_232001.out).2.1); rintro e w137 ⟨rfl, hb⟩; refine ⟨_, rfl, ?_⟩; have n0_ := Aside0.mk (Kd.R_below (by (with_reducible repeat (first | apply Kd.R_alloc | apply Kd.R_drewN | apply Kd.R_drew)); exact HO_215000.out) hb); have n1_ := Aside0.mk (Kd.R_below (by (with_reducible repeat (first | apply Kd.R_alloc | apply Kd.R_drewN | apply Kd.R_drew)); exact HO_215001.out) hb); have n2_ := Aside0.mk (Kd.R_below (by (with_reducible repeat (first | apply Kd.R_alloc | apply Kd.R_drewN | apply Kd.R_drew)); exact HO_222000.out) hb); have n3_ := Aside0.mk (Kd.R_below (by (with_reducible repeat (first | apply Kd.R_alloc | apply Kd.R_drewN | apply Kd.R_drew)); exact HO_222001.out) hb); have n4_ := Aside0.mk (Kd.R_below (by (with_reducible repeat (first | apply Kd.R_alloc | apply Kd.R_drewN | apply Kd.R_drew)); exact HO_232000.out) hb); have n5_ := Aside0.mk (Kd.R_below (by (with_reducible repeat (first | apply Kd.R_alloc | apply Kd.R_drewN | apply Kd.R_drew)); exact HO_232001.out) hb); have n6_ := Aside0.mk (Kd.R_below (by (with_reducible repeat (first | apply Kd.R_alloc | apply Kd.R_drewN | apply Kd.R_drew)); exact HO_270000.out) hb); have n7_ := Aside0.mk (Kd.R_below (by (with_reducible repeat (first | apply Kd.R_alloc | apply Kd.R_drewN | apply Kd.R_drew)); exact HO_270001.out) hb); have n8_ := Aside0.mk (blk_below (g := gb197) (o := .cells #[.slice A0_0 l0_0.length c0_0, .slice A0_1 l0_1.length c0_1] 33 (0, 0)) (by (with_reducible repeat (first | refine blk_drewN ?_ _ | refine blk_drew ?_ | refine blk_alloc ?_ _)); exact BK197.out) hb); have n9_ := Aside0.mk (blk_below (g := gb214) (o := .cells #[.slice Ao27 t208.length co27, .slice Ao30 t211.length co30] 25 (0, 0)) (by (with_reducible repeat (first | refine blk_drewN ?_ _ | refine blk_drew ?_ | refine blk_alloc ?_ _)); exact BK214.out) hb); have n10_ := Aside0.mk (blk_below (g := gb221) (o := .cells #[.slice Ao34 t245.length co34, .slice Ao38 t246.length co38] 25 (0, 0)) (by (with_reducible repeat (first | refine blk_drewN ?_ _ | refine blk_drew ?_ | refine blk_alloc ?_ _)); exact BK221.out) hb); have n11_ := Aside0.mk (blk_below (g := gb231) (o := .cells #[.slice Ao44 t251.length co44, .slice Ao49 t252.length co49] 25 (0, 0)) (by (with_reducible repeat (first | refine blk_drewN ?_ _ | refine blk_drew ?_ | refine blk_alloc ?_ _)); exact BK231.out) hb); have n12_ := Aside0.mk (blk_below (g := gb269) (o := .cells #[.slice Ao118 t263.length co118, .slice Ao124 t266.length co124] 25 (0, 0)) (by (with_reducible repeat (first | refine blk_drewN ?_ _ | refine blk_drew ?_ | refine blk_alloc ?_ _)); exact BK269.out) hb); have n13_ := Aside0.mk (below_step (by repeat (first | (with_reducible first | exact HB.out | apply below_alloc | apply pw_below_drewN | apply below_drew1 | refine below_set ?_ GE197.out | refine below_set ?_ GE214.out | refine below_set ?_ GE221.out | refine below_set ?_ GE231.out | refine below_set ?_ GE269.out) | exact HB.out)) hb); clear HO_215000; clear HO_215001; clear HO_222000; clear HO_222001; clear HO_232000; clear HO_232001; clear HO_270000; clear HO_270001; clear BK197; clear BK214; clear BK221; clear BK231; clear BK269; clear HB; have HO_215000 := n0_; have HO_215001 := n1_; have HO_222000 := n2_; have HO_222001 := n3_; have HO_232000 := n4_; have HO_232001 := n5_; have HO_270000 := n6_; have HO_270001 := n7_; have BK197 := n8_; have BK214 := n9_; have BK221 := n10_; have BK231 := n11_; have BK269 := n12_; have HB := n13_; clear n0_ n1_ n2_ n3_ n4_ n5_ n6_ n7_ n8_ n9_ n10_ n11_ n12_ n13_; (try clear hb); (try clear hb2); (try clear hk); (try clear hi)))
                      go_ret
                      exact ⟨by first | rfl | (simp [errW_none, errW_some] <;> rfl) | (simp [*, errW_none, errW_some] <;> rfl), by repeat (first | (with_reducible first | exact HB.out | apply below_alloc | apply pw_below_drewN | apply below_drew1 | refine below_set ?_ GE197.out | refine below_set ?_ GE214.out | refine below_set ?_ GE221.out | refine below_set ?_ GE231.out | refine below_set ?_ GE269.out) | exact HB.out)⟩
                     ·rw [if_neg c131] at H
                      have c131b0 : decide (t271 < 0) = false := decide_eq_false c131
                      clear c131
                      by_cases c138 : t271 = t250
                      ·rw [if_pos c138] at H
                       have c138b0 : (t271 == t250) = true := beq_iff_eq.mpr c138
                       have c138b1 : (t271 != t250) = false := bne_eq_false_iff_eq.mpr c138
                       clear c138
                       obtain rfl := Option.some.inj H
                       have hnb139 := NB231_197.out
                       have hnc139 := NB197_231.out
                       have hnb140 := NB231_214.out
                       have hnc140 := NB214_231.out
                       have hnb141 := NB231_221.out
                       have hnc141 := NB221_231.out
                       have hnb142 := NB231_269.out
                       have hnc142 := NB269_231.out
                       have hcz143_0 : wc.cell? ⟨gb231, 0, none⟩ = some (.slice Ao44 t251.length co44) := (blk_cell BK231.out 0).trans rfl
                       have hcz143_1 : wc.cell? ⟨gb231, 1, none⟩ = some (.slice Ao49 t252.length co49) := (blk_cell BK231.out 1).trans rfl
                       have hfz143_0 := blk_frozen BK231.out 0
                       have hfz143_1 := blk_frozen BK231.out 1
                       go_wp2_with (first | ((with_reducible refine gate_callee (f := 15) rfl ?_); refine goesL_ (some 84) rfl rfl Try.func15 (by kernel_rfl) rfl #[.agg #[.slice Ao44 t251.length co44, .slice Ao49 t252.length co49], .int .i64 1] rfl (by (try simp only [List.map_toArray, List.map_cons, List.map_nil]); first | done | rfl | (simp only [List.length_drop, List.length_take]; rfl)) ?_; (with_reducible refine (laws_heldDevice.calls kj105 _ _ t251 _ _ t252 1 t271 _ ?side1 ?side2 ?side3 ?side4 A130.out).mono ?_); (case side1 => repeat (first | exact (Kd.R_reads' HO_232000.out).2.2 | (with_reducible refine Kd.C_alloc ?_ _) | (with_reducible refine Kd.C_drewN ?_ _) | (with_reducible refine Kd.C_drew ?_))); (case side2 => exact (Kd.R_reads' HO_232000.out).2.1); (case side3 => repeat (first | exact (Kd.R_reads' HO_232001.out).2.2 | (with_reducible refine Kd.C_alloc ?_ _) | (with_reducible refine Kd.C_drewN ?_ _) | (with_reducible refine Kd.C_drew ?_))); (case side4 => exact (Kd.R_reads' HO_232001.out).2.1); rintro e w144 ⟨rfl, hb⟩; refine ⟨_, rfl, ?_⟩; have n0_ := Aside0.mk (Kd.R_below (by (with_reducible repeat (first | apply Kd.R_alloc | apply Kd.R_drewN | apply Kd.R_drew)); exact HO_215000.out) hb); have n1_ := Aside0.mk (Kd.R_below (by (with_reducible repeat (first | apply Kd.R_alloc | apply Kd.R_drewN | apply Kd.R_drew)); exact HO_215001.out) hb); have n2_ := Aside0.mk (Kd.R_below (by (with_reducible repeat (first | apply Kd.R_alloc | apply Kd.R_drewN | apply Kd.R_drew)); exact HO_222000.out) hb); have n3_ := Aside0.mk (Kd.R_below (by (with_reducible repeat (first | apply Kd.R_alloc | apply Kd.R_drewN | apply Kd.R_drew)); exact HO_222001.out) hb); have n4_ := Aside0.mk (Kd.R_below (by (with_reducible repeat (first | apply Kd.R_alloc | apply Kd.R_drewN | apply Kd.R_drew)); exact HO_232000.out) hb); have n5_ := Aside0.mk (Kd.R_below (by (with_reducible repeat (first | apply Kd.R_alloc | apply Kd.R_drewN | apply Kd.R_drew)); exact HO_232001.out) hb); have n6_ := Aside0.mk (Kd.R_below (by (with_reducible repeat (first | apply Kd.R_alloc | apply Kd.R_drewN | apply Kd.R_drew)); exact HO_270000.out) hb); have n7_ := Aside0.mk (Kd.R_below (by (with_reducible repeat (first | apply Kd.R_alloc | apply Kd.R_drewN | apply Kd.R_drew)); exact HO_270001.out) hb); have n8_ := Aside0.mk (blk_below (g := gb197) (o := .cells #[.slice A0_0 l0_0.length c0_0, .slice A0_1 l0_1.length c0_1] 33 (0, 0)) (by (with_reducible repeat (first | refine blk_drewN ?_ _ | refine blk_drew ?_ | refine blk_alloc ?_ _)); exact BK197.out) hb); have n9_ := Aside0.mk (blk_below (g := gb214) (o := .cells #[.slice Ao27 t208.length co27, .slice Ao30 t211.length co30] 25 (0, 0)) (by (with_reducible repeat (first | refine blk_drewN ?_ _ | refine blk_drew ?_ | refine blk_alloc ?_ _)); exact BK214.out) hb); have n10_ := Aside0.mk (blk_below (g := gb221) (o := .cells #[.slice Ao34 t245.length co34, .slice Ao38 t246.length co38] 25 (0, 0)) (by (with_reducible repeat (first | refine blk_drewN ?_ _ | refine blk_drew ?_ | refine blk_alloc ?_ _)); exact BK221.out) hb); have n11_ := Aside0.mk (blk_below (g := gb231) (o := .cells #[.slice Ao44 t251.length co44, .slice Ao49 t252.length co49] 25 (0, 0)) (by (with_reducible repeat (first | refine blk_drewN ?_ _ | refine blk_drew ?_ | refine blk_alloc ?_ _)); exact BK231.out) hb); have n12_ := Aside0.mk (blk_below (g := gb269) (o := .cells #[.slice Ao118 t263.length co118, .slice Ao124 t266.length co124] 25 (0, 0)) (by (with_reducible repeat (first | refine blk_drewN ?_ _ | refine blk_drew ?_ | refine blk_alloc ?_ _)); exact BK269.out) hb); have n13_ := Aside0.mk (below_step (by repeat (first | (with_reducible first | exact HB.out | apply below_alloc | apply pw_below_drewN | apply below_drew1 | refine below_set ?_ GE197.out | refine below_set ?_ GE214.out | refine below_set ?_ GE221.out | refine below_set ?_ GE231.out | refine below_set ?_ GE269.out) | exact HB.out)) hb); clear HO_215000; clear HO_215001; clear HO_222000; clear HO_222001; clear HO_232000; clear HO_232001; clear HO_270000; clear HO_270001; clear BK197; clear BK214; clear BK221; clear BK231; clear BK269; clear HB; have HO_215000 := n0_; have HO_215001 := n1_; have HO_222000 := n2_; have HO_222001 := n3_; have HO_232000 := n4_; have HO_232001 := n5_; have HO_270000 := n6_; have HO_270001 := n7_; have BK197 := n8_; have BK214 := n9_; have BK221 := n10_; have BK231 := n11_; have BK269 := n12_; have HB := n13_; clear n0_ n1_ n2_ n3_ n4_ n5_ n6_ n7_ n8_ n9_ n10_ n11_ n12_ n13_; (try clear hb); (try clear hb2); (try clear hk); (try clear hi)))
                       go_ret
                       exact ⟨by first | rfl | (simp [errW_none, errW_some] <;> rfl) | (simp [*, errW_none, errW_some] <;> rfl), by repeat (first | (with_reducible first | exact HB.out | apply below_alloc | apply pw_below_drewN | apply below_drew1 | refine below_set ?_ GE197.out | refine below_set ?_ GE214.out | refine below_set ?_ GE221.out | refine below_set ?_ GE231.out | refine below_set ?_ GE269.out) | exact HB.out)⟩
                      ·rw [if_neg c138] at H
                       have c138b0 : (t271 == t250) = false := beq_eq_false_iff_ne.mpr c138
                       have c138b1 : (t271 != t250) = true := bne_iff_ne.mpr c138
                       obtain rfl := Option.some.inj H
                       have hnb145 := NB231_197.out
                       have hnc145 := NB197_231.out
                       have hnb146 := NB231_214.out
                       have hnc146 := NB214_231.out
                       have hnb147 := NB231_221.out
                       have hnc147 := NB221_231.out
                       have hnb148 := NB231_269.out
                       have hnc148 := NB269_231.out
                       have hcz149_0 : wc.cell? ⟨gb231, 0, none⟩ = some (.slice Ao44 t251.length co44) := (blk_cell BK231.out 0).trans rfl
                       have hcz149_1 : wc.cell? ⟨gb231, 1, none⟩ = some (.slice Ao49 t252.length co49) := (blk_cell BK231.out 1).trans rfl
                       have hfz149_0 := blk_frozen BK231.out 0
                       have hfz149_1 := blk_frozen BK231.out 1
                       go_wp2_with (first | ((with_reducible refine gate_callee (f := 15) rfl ?_); refine goesL_ (some 84) rfl rfl Try.func15 (by kernel_rfl) rfl #[.agg #[.slice Ao44 t251.length co44, .slice Ao49 t252.length co49], .int .i64 1] rfl (by (try simp only [List.map_toArray, List.map_cons, List.map_nil]); first | done | rfl | (simp only [List.length_drop, List.length_take]; rfl)) ?_; (with_reducible refine (laws_heldDevice.calls kj105 _ _ t251 _ _ t252 1 t271 _ ?side1 ?side2 ?side3 ?side4 A130.out).mono ?_); (case side1 => repeat (first | exact (Kd.R_reads' HO_232000.out).2.2 | (with_reducible refine Kd.C_alloc ?_ _) | (with_reducible refine Kd.C_drewN ?_ _) | (with_reducible refine Kd.C_drew ?_))); (case side2 => exact (Kd.R_reads' HO_232000.out).2.1); (case side3 => repeat (first | exact (Kd.R_reads' HO_232001.out).2.2 | (with_reducible refine Kd.C_alloc ?_ _) | (with_reducible refine Kd.C_drewN ?_ _) | (with_reducible refine Kd.C_drew ?_))); (case side4 => exact (Kd.R_reads' HO_232001.out).2.1); rintro e w150 ⟨rfl, hb⟩; refine ⟨_, rfl, ?_⟩; have n0_ := Aside0.mk (Kd.R_below (by (with_reducible repeat (first | apply Kd.R_alloc | apply Kd.R_drewN | apply Kd.R_drew)); exact HO_215000.out) hb); have n1_ := Aside0.mk (Kd.R_below (by (with_reducible repeat (first | apply Kd.R_alloc | apply Kd.R_drewN | apply Kd.R_drew)); exact HO_215001.out) hb); have n2_ := Aside0.mk (Kd.R_below (by (with_reducible repeat (first | apply Kd.R_alloc | apply Kd.R_drewN | apply Kd.R_drew)); exact HO_222000.out) hb); have n3_ := Aside0.mk (Kd.R_below (by (with_reducible repeat (first | apply Kd.R_alloc | apply Kd.R_drewN | apply Kd.R_drew)); exact HO_222001.out) hb); have n4_ := Aside0.mk (Kd.R_below (by (with_reducible repeat (first | apply Kd.R_alloc | apply Kd.R_drewN | apply Kd.R_drew)); exact HO_232000.out) hb); have n5_ := Aside0.mk (Kd.R_below (by (with_reducible repeat (first | apply Kd.R_alloc | apply Kd.R_drewN | apply Kd.R_drew)); exact HO_232001.out) hb); have n6_ := Aside0.mk (Kd.R_below (by (with_reducible repeat (first | apply Kd.R_alloc | apply Kd.R_drewN | apply Kd.R_drew)); exact HO_270000.out) hb); have n7_ := Aside0.mk (Kd.R_below (by (with_reducible repeat (first | apply Kd.R_alloc | apply Kd.R_drewN | apply Kd.R_drew)); exact HO_270001.out) hb); have n8_ := Aside0.mk (blk_below (g := gb197) (o := .cells #[.slice A0_0 l0_0.length c0_0, .slice A0_1 l0_1.length c0_1] 33 (0, 0)) (by (with_reducible repeat (first | refine blk_drewN ?_ _ | refine blk_drew ?_ | refine blk_alloc ?_ _)); exact BK197.out) hb); have n9_ := Aside0.mk (blk_below (g := gb214) (o := .cells #[.slice Ao27 t208.length co27, .slice Ao30 t211.length co30] 25 (0, 0)) (by (with_reducible repeat (first | refine blk_drewN ?_ _ | refine blk_drew ?_ | refine blk_alloc ?_ _)); exact BK214.out) hb); have n10_ := Aside0.mk (blk_below (g := gb221) (o := .cells #[.slice Ao34 t245.length co34, .slice Ao38 t246.length co38] 25 (0, 0)) (by (with_reducible repeat (first | refine blk_drewN ?_ _ | refine blk_drew ?_ | refine blk_alloc ?_ _)); exact BK221.out) hb); have n11_ := Aside0.mk (blk_below (g := gb231) (o := .cells #[.slice Ao44 t251.length co44, .slice Ao49 t252.length co49] 25 (0, 0)) (by (with_reducible repeat (first | refine blk_drewN ?_ _ | refine blk_drew ?_ | refine blk_alloc ?_ _)); exact BK231.out) hb); have n12_ := Aside0.mk (blk_below (g := gb269) (o := .cells #[.slice Ao118 t263.length co118, .slice Ao124 t266.length co124] 25 (0, 0)) (by (with_reducible repeat (first | refine blk_drewN ?_ _ | refine blk_drew ?_ | refine blk_alloc ?_ _)); exact BK269.out) hb); have n13_ := Aside0.mk (below_step (by repeat (first | (with_reducible first | exact HB.out | apply below_alloc | apply pw_below_drewN | apply below_drew1 | refine below_set ?_ GE197.out | refine below_set ?_ GE214.out | refine below_set ?_ GE221.out | refine below_set ?_ GE231.out | refine below_set ?_ GE269.out) | exact HB.out)) hb); clear HO_215000; clear HO_215001; clear HO_222000; clear HO_222001; clear HO_232000; clear HO_232001; clear HO_270000; clear HO_270001; clear BK197; clear BK214; clear BK221; clear BK231; clear BK269; clear HB; have HO_215000 := n0_; have HO_215001 := n1_; have HO_222000 := n2_; have HO_222001 := n3_; have HO_232000 := n4_; have HO_232001 := n5_; have HO_270000 := n6_; have HO_270001 := n7_; have BK197 := n8_; have BK214 := n9_; have BK221 := n10_; have BK231 := n11_; have BK269 := n12_; have HB := n13_; clear n0_ n1_ n2_ n3_ n4_ n5_ n6_ n7_ n8_ n9_ n10_ n11_ n12_ n13_; (try clear hb); (try clear hb2); (try clear hk); (try clear hi)))
                       go_ret
                       exact ⟨by first | rfl | (simp [errW_none, errW_some] <;> rfl) | (simp [*, errW_none, errW_some] <;> rfl), by repeat (first | (with_reducible first | exact HB.out | apply below_alloc | apply pw_below_drewN | apply below_drew1 | refine below_set ?_ GE197.out | refine below_set ?_ GE214.out | refine below_set ?_ GE221.out | refine below_set ?_ GE231.out | refine below_set ?_ GE269.out) | exact HB.out)⟩

end Go.Proofs.Ytajidjlbgpaaoaa.PFnExactCut

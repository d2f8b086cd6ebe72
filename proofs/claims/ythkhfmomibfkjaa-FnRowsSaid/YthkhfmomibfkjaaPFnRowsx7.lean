-- by a program of this session (wip/print/run.py) for this claim
import Derived.Test.YthkhfmomibfkjaaLibPu
import Derived.Test.YthkhfmomibfkjaaPFnRowsx0
import Derived.Test.YthkhfmomibfkjaaPFnRowsx1
import Derived.Test.YthkhfmomibfkjaaPFnRowsx2
import Derived.Test.YthkhfmomibfkjaaPFnRowsx3
import Derived.Test.YthkhfmomibfkjaaPFnRowsx5
import Derived.Test.YthkhfmomibfkjaaPFnRowsx6
namespace Go.Proofs.Ythkhfmomibfkjaa.PFnRows
open Go.Proofs.Ythkhfmomibfkjaa.Lib Go.RowKit Go.Proofs.YthkhfmomibfkjaaW.PrintWords Go.Proofs.YthkhfmomibfkjaaW.PrintLast Go.Proofs.YthkhfmomibfkjaaW.PrintMore
attribute [local go_sem] max2_int min2_int max_two min_two max_three min_three max_four min_four   -- for this text's walks alone
set_option linter.unusedVariables false
set_option linter.unusedSimpArgs false

theorem z13a {p_ : Prop} (h_ : p_ := by simp only [Act.put, List.setIfInBounds_toArray, List.set_cons_zero, List.set_cons_succ, i64_w, i32_w]; rfl) : p_ := h_
theorem z13b {p_ : Prop} (h_ : p_ := by repeat (first | (with_reducible first | exact HB.out | apply below_alloc | apply pw_below_drewN | apply below_drew1) | exact HB.out)) : p_ := h_
theorem z13c {p_ : Prop} (h_ : p_ := by (with_reducible repeat (first | apply Kd.R_alloc | apply Kd.R_drewN | apply Kd.R_drew)); exact HO_10.out) : p_ := h_
theorem z13d {p_ : Prop} (h_ : p_ := by (with_reducible repeat (first | apply Kd.R_alloc | apply Kd.R_drewN | apply Kd.R_drew)); exact HO_4.out) : p_ := h_
theorem z13e {p_ : Prop} (h_ : p_ := by (with_reducible repeat (first | apply Kd.R_alloc | apply Kd.R_drewN | apply Kd.R_drew)); exact HO_5.out) : p_ := h_
theorem z13f {p_ : Prop} (h_ : p_ := by repeat (first | (with_reducible exact HR394.out) | (with_reducible refine Kd.C_alloc ?_ _) | (with_reducible refine Kd.C_drewN ?_ _) | (with_reducible refine Kd.C_drew ?_) | exact HR394.out)) : p_ := h_
theorem z13g {p_ : Prop} (h_ : p_ := by first | (simp only [putAll, Act.put, List.setIfInBounds_toArray, List.set_cons_zero, List.set_cons_succ]; done) | (simp only [putAll, Act.put, List.setIfInBounds_toArray, List.set_cons_zero, List.set_cons_succ]; rfl)) : p_ := h_
theorem z13h {p_ : Prop} (h_ : p_ := by (try simp only [List.map_toArray, List.map_cons, List.map_nil]); first | done | rfl | (simp only [List.length_drop, List.length_take]; rfl)) : p_ := h_
theorem z13i {p_ : Prop} (h_ : p_ := by repeat (first | (with_reducible exact HR401.out) | (with_reducible refine Kd.C_alloc ?_ _) | (with_reducible refine Kd.C_drewN ?_ _) | (with_reducible refine Kd.C_drew ?_) | exact HR401.out)) : p_ := h_
theorem z13j {p_ : Prop} (h_ : p_ := by repeat (first | (with_reducible exact HR387.out) | (with_reducible refine Kd.C_alloc ?_ _) | (with_reducible refine Kd.C_drewN ?_ _) | (with_reducible refine Kd.C_drew ?_) | exact HR387.out)) : p_ := h_
theorem z13k {p_ : Prop} (h_ : p_ := by (with_reducible repeat (first | apply Kd.R_alloc | apply Kd.R_drewN | apply Kd.R_drew)); exact HO_9.out) : p_ := h_
theorem z13l {p_ : Prop} (h_ : p_ := by (with_reducible repeat (first | apply Kd.R_alloc | apply Kd.R_drewN | apply Kd.R_drew)); exact HO390.out) : p_ := h_
theorem z13m {p_ : Prop} (h_ : p_ := by simp only [putAll, Act.put, List.setIfInBounds_toArray, List.set_cons_zero, List.set_cons_succ]; rfl) : p_ := h_
theorem z13n {p_ : Prop} (h_ : p_ := by (with_reducible repeat (first | apply Kd.R_alloc | apply Kd.R_drewN | apply Kd.R_drew)); exact Kd.R_mono HO_10.out (fun _ hk => ⟨hk.2, ⟨hk.1.1, hk.1.2⟩⟩)) : p_ := h_
theorem z13o {p_ : Prop} (h_ : p_ := by first | (with_reducible assumption) | assumption) : p_ := h_
theorem z13p {p_ : Prop} (h_ : p_ := by (with_reducible repeat (first | apply Kd.R_alloc | apply Kd.R_drewN | apply Kd.R_drew)); exact Kd.R_mono HO_4.out (fun _ hk => ⟨hk.2, ⟨hk.1.2, hk.1.1⟩⟩)) : p_ := h_
theorem z13q {p_ : Prop} (h_ : p_ := by (with_reducible repeat (first | apply Kd.R_alloc | apply Kd.R_drewN | apply Kd.R_drew)); exact Kd.R_mono HO_5.out (fun _ hk => ⟨hk.2, ⟨hk.1.2, hk.1.1⟩⟩)) : p_ := h_
theorem z13r {p_ : Prop} (h_ : p_ := by simp only [putAll, Act.put, List.setIfInBounds_toArray, List.set_cons_zero, List.set_cons_succ]) : p_ := h_
theorem z13s {p_ : Prop} (h_ : p_ := by (with_reducible repeat (first | apply Kd.R_alloc | apply Kd.R_drewN | apply Kd.R_drew)); exact Kd.R_mono HO390.out (fun _ hk => ⟨hk.2, ⟨hk.1.1.2, hk.1.2⟩⟩)) : p_ := h_
theorem z13t {p_ : Prop} (h_ : p_ := by (with_reducible repeat (first | apply Kd.R_alloc | apply Kd.R_drewN | apply Kd.R_drew)); exact Kd.R_mono HO383.out (fun _ hk => ⟨hk.2, ⟨hk.1.1.2, hk.1.2⟩⟩)) : p_ := h_
theorem z13u {p_ : Prop} (h_ : p_ := by (with_reducible repeat (first | apply Kd.R_alloc | apply Kd.R_drewN | apply Kd.R_drew)); exact HO397.out) : p_ := h_
theorem z13v {p_ : Prop} (h_ : p_ := by (with_reducible repeat (first | apply Kd.R_alloc | apply Kd.R_drewN | apply Kd.R_drew)); exact HO334.out) : p_ := h_
theorem z13w {p_ : Prop} (h_ : p_ := by rw [Ny391.out]; exact Kd.C_take (m := (t339 : Int).toNat) ((Kd.R_reads' (HO_5.out)).2.2) KL149.out) : p_ := h_
theorem z13x {p_ : Prop} (h_ : p_ := by rw [Ny391.out]; exact Kd.C_take (m := (t339 : Int).toNat) ((Kd.R_reads' (HO_5.out)).2.2) KL162.out) : p_ := h_
theorem z13y {p_ : Prop} (h_ : p_ := by rw [Ny391.out]; exact Kd.C_take (m := (t339 : Int).toNat) ((Kd.R_reads' (HO_5.out)).2.2) KL175.out) : p_ := h_
theorem z13z {p_ : Prop} (h_ : p_ := by repeat (first | exact (Kd.R_reads' HO_5.out).2.2 | (with_reducible refine Kd.C_alloc ?_ _) | (with_reducible refine Kd.C_drewN ?_ _) | (with_reducible refine Kd.C_drew ?_))) : p_ := h_
theorem z13a1 {p_ : Prop} (h_ : p_ := by (with_reducible repeat (first | apply Kd.R_alloc | apply Kd.R_drewN | apply Kd.R_drew)); exact Kd.R_mono HO397.out (fun _ hk => ⟨hk.2, ⟨hk.1.2, ⟨hk.1.1.1.2, hk.1.1.2⟩⟩⟩)) : p_ := h_
theorem z13b1 {p_ : Prop} (h_ : p_ := by (with_reducible repeat (first | apply Kd.R_alloc | apply Kd.R_drewN | apply Kd.R_drew)); exact Kd.R_mono HO390.out (fun _ hk => ⟨hk.2, ⟨hk.1.1, ⟨hk.1.2.1, hk.1.2.2⟩⟩⟩)) : p_ := h_
theorem z13c1 {p_ : Prop} (h_ : p_ := by (with_reducible repeat (first | apply Kd.R_alloc | apply Kd.R_drewN | apply Kd.R_drew)); exact Kd.R_mono HO_10.out (fun _ hk => ⟨hk.1.1, ⟨hk.2, ⟨hk.1.2.1, hk.1.2.2⟩⟩⟩)) : p_ := h_
theorem z13d1 {p_ : Prop} (h_ : p_ := by (with_reducible repeat (first | apply Kd.R_alloc | apply Kd.R_drewN | apply Kd.R_drew)); exact Kd.R_mono HO_4.out (fun _ hk => ⟨hk.1.1, ⟨hk.2, ⟨hk.1.2.1, hk.1.2.2⟩⟩⟩)) : p_ := h_
theorem z13e1 {p_ : Prop} (h_ : p_ := by (with_reducible repeat (first | apply Kd.R_alloc | apply Kd.R_drewN | apply Kd.R_drew)); exact Kd.R_mono HO_5.out (fun _ hk => ⟨hk.1.1, ⟨hk.2, ⟨hk.1.2.1, hk.1.2.2⟩⟩⟩)) : p_ := h_
theorem z13f1 {p_ : Prop} (h_ : p_ := by (with_reducible repeat (first | apply Kd.R_alloc | apply Kd.R_drewN | apply Kd.R_drew)); exact HO337.out) : p_ := h_
theorem z13g1 {p_ : Prop} (h_ : p_ := by (with_reducible repeat (first | apply Kd.R_alloc | apply Kd.R_drewN | apply Kd.R_drew)); exact HO343.out) : p_ := h_
theorem z13h1 {p_ : Prop} (h_ : p_ := by rw [Ny398.out]; exact Kd.C_take (m := (t348 : Int).toNat) ((Kd.R_reads' (HO_10.out)).2.2) (by have q_ : (t348 : Int) ≤ ((t344.length : Int) : Int) := of_decide_eq_true z13o; omega)) : p_ := h_
theorem z13i1 {p_ : Prop} (h_ : p_ := by rw [Ny398.out]; exact Kd.C_take (m := (t348 : Int).toNat) ((Kd.R_reads' (HO_10.out)).2.2) KL167.out) : p_ := h_
theorem z13j1 {p_ : Prop} (h_ : p_ := by rw [Ny398.out]; exact Kd.C_take (m := (t348 : Int).toNat) ((Kd.R_reads' (HO_10.out)).2.2) KL180.out) : p_ := h_
mutual
def laws_FnRows.j0 : Nat → Int → List Int → List Int → Int → Int → ByteArray → List Int → List Int → ByteArray → Int → Bool → Option (Bool)
 | 0, _, _, _, _, _, _, _, _, _, _, _ => none
 | k + 1, x3, x4, x5, x6, x7, x8, x9, x10, x11, x12, x65 => if x65 = true then (some false) else ((spec_ReadText.f k x10).bind fun bt354 => (if x11.toList = bt354.1.toList then (if x12 = bt354.2 then ((spec_Text.f k x8).bind fun t356 => (laws_FnRows.j1 k x3 x4 x5 x6 x7 x8 x9 x10 x11 x12 ((strOfNums x9).toList != (strOfNums t356).toList))) else (laws_FnRows.j1 k x3 x4 x5 x6 x7 x8 x9 x10 x11 x12 true)) else (laws_FnRows.j1 k x3 x4 x5 x6 x7 x8 x9 x10 x11 x12 true)))
def laws_FnRows.j1 : Nat → Int → List Int → List Int → Int → Int → ByteArray → List Int → List Int → ByteArray → Int → Bool → Option (Bool)
 | 0, _, _, _, _, _, _, _, _, _, _, _ => none
 | k + 1, x3, x4, x5, x6, x7, x8, x9, x10, x11, x12, x86 => if x86 = true then (some false) else (if (x4.length : Int) > 0 then ((some (([] : List Int) : List Int)).bind fun y359 => (if y359.length + x4.length < 140737488355328 then ((some (y359 ++ x4 : List Int)).bind fun y362 => (if y362.length + x5.length < 140737488355328 then ((impl_ReadNumber.f k (y362 ++ x5)).bind fun bt368 => (if bt368.1 = x3 then (if bt368.2 = (x4.length : Int) then (laws_FnRows.j2 k x3 x4 x5 x6 x7 x8 x9 x10 x11 x12) else (some false)) else (some false))) else (none))) else (none))) else (laws_FnRows.j2 k x3 x4 x5 x6 x7 x8 x9 x10 x11 x12))
def laws_FnRows.j2 : Nat → Int → List Int → List Int → Int → Int → ByteArray → List Int → List Int → ByteArray → Int → Option (Bool)
 | 0, _, _, _, _, _, _, _, _, _, _ => none
 | k + 1, x3, x4, x5, x6, x7, x8, x9, x10, x11, x12 => if (x9.length : Int) > 0 then ((some (([] : List Int) : List Int)).bind fun y370 => (if y370.length + x9.length < 140737488355328 then ((some (y370 ++ x9 : List Int)).bind fun y373 => (if y373.length + x5.length < 140737488355328 then ((impl_ReadText.f k (y373 ++ x5)).bind fun bt379 => (if bt379.1.toList = x8.toList then (if bt379.2 = (x9.length : Int) then (laws_FnRows.j3 k x3 x4 x5 x6 x7 x10 x11 x12) else (some false)) else (some false))) else (none))) else (none))) else (laws_FnRows.j3 k x3 x4 x5 x6 x7 x10 x11 x12)
def laws_FnRows.j3 : Nat → Int → List Int → List Int → Int → Int → List Int → ByteArray → Int → Option (Bool)
 | 0, _, _, _, _, _, _, _, _ => none
 | k + 1, x3, x4, x5, x6, x7, x10, x11, x12 => if x7 = 0 then (if x12 = 0 then (if x3 ≥ 0 then (some ((decide ((x4.length : Int) > 0)) == (decide (x3 ≤ 1099511627776)))) else (some ((decide ((x4.length : Int) > 0)) == false))) else ((impl_Text.f k x11).bind fun t381 => (if 0 ≤ x12 then (if x12 ≤ (x10.length : Int) then (if (strOfNums t381).toList = (strOfNums (x10.take (x12 : Int).toNat)).toList then (if x3 ≥ 0 then (some ((decide ((x4.length : Int) > 0)) == (decide (x3 ≤ 1099511627776)))) else (some ((decide ((x4.length : Int) > 0)) == false))) else (some false)) else (none)) else (none)))) else ((impl_Number.f k x6).bind fun t388 => (if 0 ≤ x7 then (if x7 ≤ (x5.length : Int) then (if (strOfNums t388).toList = (strOfNums (x5.take (x7 : Int).toNat)).toList then (if x12 = 0 then (if x3 ≥ 0 then (some ((decide ((x4.length : Int) > 0)) == (decide (x3 ≤ 1099511627776)))) else (some ((decide ((x4.length : Int) > 0)) == false))) else ((impl_Text.f k x11).bind fun t395 => (if 0 ≤ x12 then (if x12 ≤ (x10.length : Int) then (if (strOfNums t395).toList = (strOfNums (x10.take (x12 : Int).toNat)).toList then (if x3 ≥ 0 then (some ((decide ((x4.length : Int) > 0)) == (decide (x3 ≤ 1099511627776)))) else (some ((decide ((x4.length : Int) > 0)) == false))) else (some false)) else (none)) else (none)))) else (some false)) else (none)) else (none)))
end
def laws_FnRows.f (k : Nat) (l0 : List Int) : Option (Bool) := (laws_big.f l0).bind fun t330 => (if t330 = true then (some true) else ((spec_DrawNumber.f k l0).bind fun t331 => ((impl_Number.f k t331).bind fun t332 => ((spec_DrawReadNumber.f k l0).bind fun t335 => ((impl_ReadNumber.f k t335).bind fun bt338 => ((spec_DrawText.f k l0).bind fun t340 => ((impl_Text.f k t340).bind fun t341 => ((spec_DrawReadText.f k l0).bind fun t344 => ((impl_ReadText.f k t344).bind fun bt347 => ((spec_ReadNumber.f k t335).bind fun bt349 => (if bt338.1 = bt349.1 then (if bt338.2 = bt349.2 then ((spec_Number.f k t331).bind fun t351 => (laws_FnRows.j0 k t331 t332 t335 bt338.1 bt338.2 t340 t341 t344 bt347.1 bt347.2 ((strOfNums t332).toList != (strOfNums t351).toList))) else (laws_FnRows.j0 k t331 t332 t335 bt338.1 bt338.2 t340 t341 t344 bt347.1 bt347.2 true)) else (laws_FnRows.j0 k t331 t332 t335 bt338.1 bt338.2 t340 t341 t344 bt347.1 bt347.2 true))))))))))))
theorem laws_FnRows.mono_l : ∀ k, (∀ y0 y1 y2 y3 y4 y5 y6 y7 y8 y9 y10, LeO (laws_FnRows.j0 k y0 y1 y2 y3 y4 y5 y6 y7 y8 y9 y10) (laws_FnRows.j0 (k + 1) y0 y1 y2 y3 y4 y5 y6 y7 y8 y9 y10)) ∧ (∀ y0 y1 y2 y3 y4 y5 y6 y7 y8 y9 y10, LeO (laws_FnRows.j1 k y0 y1 y2 y3 y4 y5 y6 y7 y8 y9 y10) (laws_FnRows.j1 (k + 1) y0 y1 y2 y3 y4 y5 y6 y7 y8 y9 y10)) ∧ (∀ y0 y1 y2 y3 y4 y5 y6 y7 y8 y9, LeO (laws_FnRows.j2 k y0 y1 y2 y3 y4 y5 y6 y7 y8 y9) (laws_FnRows.j2 (k + 1) y0 y1 y2 y3 y4 y5 y6 y7 y8 y9)) ∧ (∀ y0 y1 y2 y3 y4 y5 y6 y7, LeO (laws_FnRows.j3 k y0 y1 y2 y3 y4 y5 y6 y7) (laws_FnRows.j3 (k + 1) y0 y1 y2 y3 y4 y5 y6 y7))
 | 0 => ⟨fun _ _ _ _ _ _ _ _ _ _ _ r h => by simp [laws_FnRows.j0] at h, fun _ _ _ _ _ _ _ _ _ _ _ r h => by simp [laws_FnRows.j1] at h, fun _ _ _ _ _ _ _ _ _ _ r h => by simp [laws_FnRows.j2] at h, fun _ _ _ _ _ _ _ _ r h => by simp [laws_FnRows.j3] at h⟩
 | k + 1 => by
  obtain ⟨ih0, ih1, ih2, ih3⟩ := laws_FnRows.mono_l k
  refine ⟨?_, ?_, ?_, ?_⟩
  {
  intro y0 y1 y2 y3 y4 y5 y6 y7 y8 y9 y10
  unfold laws_FnRows.j0
  repeat' first
  | (with_reducible exact ih0 _ _ _ _ _ _ _ _ _ _ _)
  | (with_reducible exact ih1 _ _ _ _ _ _ _ _ _ _ _)
  | (with_reducible exact ih2 _ _ _ _ _ _ _ _ _ _)
  | (with_reducible exact ih3 _ _ _ _ _ _ _ _)
  | (with_reducible exact impl_Number.mono _ _)
  | (with_reducible exact impl_ReadNumber.mono _ _)
  | (with_reducible exact impl_ReadText.mono _ _)
  | (with_reducible exact impl_Text.mono _ _)
  | (with_reducible exact spec_DrawNumber.mono _ _)
  | (with_reducible exact spec_DrawReadNumber.mono _ _)
  | (with_reducible exact spec_DrawReadText.mono _ _)
  | (with_reducible exact spec_DrawText.mono _ _)
  | (with_reducible exact spec_Number.mono _ _)
  | (with_reducible exact spec_ReadNumber.mono _ _)
  | (with_reducible exact spec_ReadText.mono _ _)
  | (with_reducible exact spec_Text.mono _ _)
  | (with_reducible exact LeO.refl _)
  | (with_reducible exact LeO.none _)
  | (with_reducible refine LeO.ite ?_ ?_)
  | (with_reducible refine LeO.bind ?_ (fun _ => ?_))
  | exact ih0 _ _ _ _ _ _ _ _ _ _ _
  | exact ih1 _ _ _ _ _ _ _ _ _ _ _
  | exact ih2 _ _ _ _ _ _ _ _ _ _
  | exact ih3 _ _ _ _ _ _ _ _
  | exact impl_Number.mono _ _
  | exact impl_ReadNumber.mono _ _
  | exact impl_ReadText.mono _ _
  | exact impl_Text.mono _ _
  | exact spec_DrawNumber.mono _ _
  | exact spec_DrawReadNumber.mono _ _
  | exact spec_DrawReadText.mono _ _
  | exact spec_DrawText.mono _ _
  | exact spec_Number.mono _ _
  | exact spec_ReadNumber.mono _ _
  | exact spec_ReadText.mono _ _
  | exact spec_Text.mono _ _
  | exact LeO.none _
  | refine LeO.ite ?_ ?_
  | refine LeO.bind ?_ (fun _ => ?_)
  }
  {
  intro y0 y1 y2 y3 y4 y5 y6 y7 y8 y9 y10
  unfold laws_FnRows.j1
  repeat' first
  | (with_reducible exact ih0 _ _ _ _ _ _ _ _ _ _ _)
  | (with_reducible exact ih1 _ _ _ _ _ _ _ _ _ _ _)
  | (with_reducible exact ih2 _ _ _ _ _ _ _ _ _ _)
  | (with_reducible exact ih3 _ _ _ _ _ _ _ _)
  | (with_reducible exact impl_Number.mono _ _)
  | (with_reducible exact impl_ReadNumber.mono _ _)
  | (with_reducible exact impl_ReadText.mono _ _)
  | (with_reducible exact impl_Text.mono _ _)
  | (with_reducible exact spec_DrawNumber.mono _ _)
  | (with_reducible exact spec_DrawReadNumber.mono _ _)
  | (with_reducible exact spec_DrawReadText.mono _ _)
  | (with_reducible exact spec_DrawText.mono _ _)
  | (with_reducible exact spec_Number.mono _ _)
  | (with_reducible exact spec_ReadNumber.mono _ _)
  | (with_reducible exact spec_ReadText.mono _ _)
  | (with_reducible exact spec_Text.mono _ _)
  | (with_reducible exact LeO.refl _)
  | (with_reducible exact LeO.none _)
  | (with_reducible refine LeO.ite ?_ ?_)
  | (with_reducible refine LeO.bind ?_ (fun _ => ?_))
  | exact ih0 _ _ _ _ _ _ _ _ _ _ _
  | exact ih1 _ _ _ _ _ _ _ _ _ _ _
  | exact ih2 _ _ _ _ _ _ _ _ _ _
  | exact ih3 _ _ _ _ _ _ _ _
  | exact impl_Number.mono _ _
  | exact impl_ReadNumber.mono _ _
  | exact impl_ReadText.mono _ _
  | exact impl_Text.mono _ _
  | exact spec_DrawNumber.mono _ _
  | exact spec_DrawReadNumber.mono _ _
  | exact spec_DrawReadText.mono _ _
  | exact spec_DrawText.mono _ _
  | exact spec_Number.mono _ _
  | exact spec_ReadNumber.mono _ _
  | exact spec_ReadText.mono _ _
  | exact spec_Text.mono _ _
  | exact LeO.none _
  | refine LeO.ite ?_ ?_
  | refine LeO.bind ?_ (fun _ => ?_)
  }
  {
  intro y0 y1 y2 y3 y4 y5 y6 y7 y8 y9
  unfold laws_FnRows.j2
  repeat' first
  | (with_reducible exact ih0 _ _ _ _ _ _ _ _ _ _ _)
  | (with_reducible exact ih1 _ _ _ _ _ _ _ _ _ _ _)
  | (with_reducible exact ih2 _ _ _ _ _ _ _ _ _ _)
  | (with_reducible exact ih3 _ _ _ _ _ _ _ _)
  | (with_reducible exact impl_Number.mono _ _)
  | (with_reducible exact impl_ReadNumber.mono _ _)
  | (with_reducible exact impl_ReadText.mono _ _)
  | (with_reducible exact impl_Text.mono _ _)
  | (with_reducible exact spec_DrawNumber.mono _ _)
  | (with_reducible exact spec_DrawReadNumber.mono _ _)
  | (with_reducible exact spec_DrawReadText.mono _ _)
  | (with_reducible exact spec_DrawText.mono _ _)
  | (with_reducible exact spec_Number.mono _ _)
  | (with_reducible exact spec_ReadNumber.mono _ _)
  | (with_reducible exact spec_ReadText.mono _ _)
  | (with_reducible exact spec_Text.mono _ _)
  | (with_reducible exact LeO.refl _)
  | (with_reducible exact LeO.none _)
  | (with_reducible refine LeO.ite ?_ ?_)
  | (with_reducible refine LeO.bind ?_ (fun _ => ?_))
  | exact ih0 _ _ _ _ _ _ _ _ _ _ _
  | exact ih1 _ _ _ _ _ _ _ _ _ _ _
  | exact ih2 _ _ _ _ _ _ _ _ _ _
  | exact ih3 _ _ _ _ _ _ _ _
  | exact impl_Number.mono _ _
  | exact impl_ReadNumber.mono _ _
  | exact impl_ReadText.mono _ _
  | exact impl_Text.mono _ _
  | exact spec_DrawNumber.mono _ _
  | exact spec_DrawReadNumber.mono _ _
  | exact spec_DrawReadText.mono _ _
  | exact spec_DrawText.mono _ _
  | exact spec_Number.mono _ _
  | exact spec_ReadNumber.mono _ _
  | exact spec_ReadText.mono _ _
  | exact spec_Text.mono _ _
  | exact LeO.none _
  | refine LeO.ite ?_ ?_
  | refine LeO.bind ?_ (fun _ => ?_)
  }
  {
  intro y0 y1 y2 y3 y4 y5 y6 y7
  unfold laws_FnRows.j3
  repeat' first
  | (with_reducible exact ih0 _ _ _ _ _ _ _ _ _ _ _)
  | (with_reducible exact ih1 _ _ _ _ _ _ _ _ _ _ _)
  | (with_reducible exact ih2 _ _ _ _ _ _ _ _ _ _)
  | (with_reducible exact ih3 _ _ _ _ _ _ _ _)
  | (with_reducible exact impl_Number.mono _ _)
  | (with_reducible exact impl_ReadNumber.mono _ _)
  | (with_reducible exact impl_ReadText.mono _ _)
  | (with_reducible exact impl_Text.mono _ _)
  | (with_reducible exact spec_DrawNumber.mono _ _)
  | (with_reducible exact spec_DrawReadNumber.mono _ _)
  | (with_reducible exact spec_DrawReadText.mono _ _)
  | (with_reducible exact spec_DrawText.mono _ _)
  | (with_reducible exact spec_Number.mono _ _)
  | (with_reducible exact spec_ReadNumber.mono _ _)
  | (with_reducible exact spec_ReadText.mono _ _)
  | (with_reducible exact spec_Text.mono _ _)
  | (with_reducible exact LeO.refl _)
  | (with_reducible exact LeO.none _)
  | (with_reducible refine LeO.ite ?_ ?_)
  | (with_reducible refine LeO.bind ?_ (fun _ => ?_))
  | exact ih0 _ _ _ _ _ _ _ _ _ _ _
  | exact ih1 _ _ _ _ _ _ _ _ _ _ _
  | exact ih2 _ _ _ _ _ _ _ _ _ _
  | exact ih3 _ _ _ _ _ _ _ _
  | exact impl_Number.mono _ _
  | exact impl_ReadNumber.mono _ _
  | exact impl_ReadText.mono _ _
  | exact impl_Text.mono _ _
  | exact spec_DrawNumber.mono _ _
  | exact spec_DrawReadNumber.mono _ _
  | exact spec_DrawReadText.mono _ _
  | exact spec_DrawText.mono _ _
  | exact spec_Number.mono _ _
  | exact spec_ReadNumber.mono _ _
  | exact spec_ReadText.mono _ _
  | exact spec_Text.mono _ _
  | exact LeO.none _
  | refine LeO.ite ?_ ?_
  | refine LeO.bind ?_ (fun _ => ?_)
  }
theorem laws_FnRows.mono : ∀ a0 k, LeO (laws_FnRows.f k a0) (laws_FnRows.f (k + 1) a0) := by
 intro a0 k
 obtain ⟨ih0, ih1, ih2, ih3⟩ := laws_FnRows.mono_l k
 unfold laws_FnRows.f
 repeat' first
   | (with_reducible exact ih0 _ _ _ _ _ _ _ _ _ _ _)
   | (with_reducible exact ih1 _ _ _ _ _ _ _ _ _ _ _)
   | (with_reducible exact ih2 _ _ _ _ _ _ _ _ _ _)
   | (with_reducible exact ih3 _ _ _ _ _ _ _ _)
   | (with_reducible exact impl_Number.mono _ _)
   | (with_reducible exact impl_ReadNumber.mono _ _)
   | (with_reducible exact impl_ReadText.mono _ _)
   | (with_reducible exact impl_Text.mono _ _)
   | (with_reducible exact spec_DrawNumber.mono _ _)
   | (with_reducible exact spec_DrawReadNumber.mono _ _)
   | (with_reducible exact spec_DrawReadText.mono _ _)
   | (with_reducible exact spec_DrawText.mono _ _)
   | (with_reducible exact spec_Number.mono _ _)
   | (with_reducible exact spec_ReadNumber.mono _ _)
   | (with_reducible exact spec_ReadText.mono _ _)
   | (with_reducible exact spec_Text.mono _ _)
   | (with_reducible exact LeO.refl _)
   | (with_reducible exact LeO.none _)
   | (with_reducible refine LeO.ite ?_ ?_)
   | (with_reducible refine LeO.bind ?_ (fun _ => ?_))
   | exact ih0 _ _ _ _ _ _ _ _ _ _ _
   | exact ih1 _ _ _ _ _ _ _ _ _ _ _
   | exact ih2 _ _ _ _ _ _ _ _ _ _
   | exact ih3 _ _ _ _ _ _ _ _
   | exact impl_Number.mono _ _
   | exact impl_ReadNumber.mono _ _
   | exact impl_ReadText.mono _ _
   | exact impl_Text.mono _ _
   | exact spec_DrawNumber.mono _ _
   | exact spec_DrawReadNumber.mono _ _
   | exact spec_DrawReadText.mono _ _
   | exact spec_DrawText.mono _ _
   | exact spec_Number.mono _ _
   | exact spec_ReadNumber.mono _ _
   | exact spec_ReadText.mono _ _
   | exact spec_Text.mono _ _
   | exact LeO.none _
   | refine LeO.ite ?_ ?_
   | refine LeO.bind ?_ (fun _ => ?_)
def laws_FnRows.T12 : Bool × List (List Nat × List Nat) := (true, [([], []), ([], []), ([0, 1], [0, 1]), ([2], [2]), ([3], [3]), ([3], [3]), ([4, 5, 3], [3, 4, 5]), ([3, 6], [3, 6]), ([7, 3], [7]), ([8], [8]), ([9, 8], [8, 9]), ([8], [8]), ([11, 8, 8], [8, 11]), ([12, 8], [8, 12]), ([10, 13, 8], [8, 10, 13]), ([8, 14], [8, 14])])
def laws_FnRows.B12 : List Nat := [0, 0, 3, 7, 15, 15, 63, 127, 255, 511, 1023, 511, 2559, 6655, 16383, 32767]
theorem laws_FnRows.tab12 : rtab .any (opsOf Try.f13 12) = laws_FnRows.T12 := by kernel_rfl
theorem laws_FnRows.bits12 : waitsOk laws_FnRows.T12.2 laws_FnRows.B12 = true := by kernel_rfl
def laws_FnRows.T15 : Bool × List (List Nat × List Nat) := (true, [([], []), ([], []), ([0, 1], [0, 1]), ([2], [2]), ([3], [3]), ([3], [3]), ([4, 5, 3], [3, 4, 5]), ([3, 6], [3, 6]), ([7, 3], [7]), ([8], [8]), ([9, 8], [8, 9]), ([8], [8]), ([11, 8, 8], [8, 11]), ([12, 8], [8, 12]), ([10, 13, 8], [8, 10, 13]), ([8, 14], [8, 14])])
def laws_FnRows.B15 : List Nat := [0, 0, 3, 7, 15, 15, 63, 127, 255, 511, 1023, 511, 2559, 6655, 16383, 32767]
theorem laws_FnRows.tab15 : rtab .any (opsOf Try.f13 15) = laws_FnRows.T15 := by kernel_rfl
theorem laws_FnRows.bits15 : waitsOk laws_FnRows.T15.2 laws_FnRows.B15 = true := by kernel_rfl
def laws_FnRows.T25 : Bool × List (List Nat × List Nat) := (true, [([], []), ([0], [0]), ([1], [1]), ([2], [2]), ([3, 2, 2], [2, 3]), ([4, 2], [2, 4]), ([2], [2]), ([2], [2]), ([6, 7, 2], [2, 6, 7]), ([8, 2], [2, 8]), ([5, 9, 2], [2, 5, 9]), ([2, 10], [2, 10]), ([11, 4], [11]), ([12], [12]), ([13, 12], [12, 13]), ([14, 12, 12], [12, 14]), ([15], [15]), ([16, 15, 15], [15, 16]), ([17, 15], [15, 17]), ([15], [15]), ([15], [15]), ([19, 20, 15], [15, 19, 20]), ([21, 15], [15, 21]), ([18, 22, 15], [15, 18, 22]), ([15, 23, 12], [12, 15, 23]), ([12, 24], [12, 24]), ([25, 17], [25]), ([26], [26]), ([27, 26], [26, 27]), ([28, 26], [26, 28]), ([26], [26]), ([30, 26], [26, 30]), ([31, 26, 26], [26, 31]), ([32], [32]), ([33, 32], [32, 33]), ([32, 34, 26], [26, 32, 34]), ([29, 35, 26], [26, 29, 35]), ([26, 36], [26, 36]), ([37, 32, 0, 1, 2, 3, 4, 5, 6, 7, 8, 9, 10, 11, 12, 13, 14, 15, 16, 17, 18, 19, 20, 21, 22, 23, 24, 25, 26, 27, 28, 29, 30, 31, 32, 33, 34, 35, 36, 37], [37])])
def laws_FnRows.B25 : List Nat := [0, 1, 3, 7, 15, 31, 7, 7, 199, 455, 1023, 2047, 4095, 8191, 16383, 32767, 65535, 131071, 262143, 65535, 65535, 1638399, 3735551, 8388607, 16777215, 33554431, 67108863, 134217727, 268435455, 536870911, 134217727, 1207959551, 3355443199, 7650410495, 16240345087, 33420214271, 68719476735, 137438953471, 274877906943]
theorem laws_FnRows.tab25 : rtab .any (opsOf Try.f13 25) = laws_FnRows.T25 := by kernel_rfl
theorem laws_FnRows.bits25 : waitsOk laws_FnRows.T25.2 laws_FnRows.B25 = true := by kernel_rfl
set_option maxHeartbeats 8000000 in
set_option maxRecDepth 100000 in
theorem laws_FnRows.calls (k : Nat) (A0 : Option Addr) (c0 : Nat) (l0 : List Int) (r : Bool) (w : World) (hr0 : Kd.C (Kd.int .u8) w A0 l0.length l0) (hc0 : l0.length ≤ c0) (h : laws_FnRows.f k l0 = some r) :
  Calls Try.prog 13 #[.slice A0 l0.length c0] w fun e w' => e = .returned (.bool r) ∧ Below w.heap.size w w' := by
 have HR0 := A_ hr0
 have HC0 := A_ hc0
 clear hr0 hc0
 have HB := A_ (Below.refl w.heap.size w)
 have H : ((laws_big.f l0).bind fun t330 => (if t330 = true then (some true) else ((spec_DrawNumber.f k l0).bind fun t331 => ((impl_Number.f k t331).bind fun t332 => ((spec_DrawReadNumber.f k l0).bind fun t335 => ((impl_ReadNumber.f k t335).bind fun bt338 => ((spec_DrawText.f k l0).bind fun t340 => ((impl_Text.f k t340).bind fun t341 => ((spec_DrawReadText.f k l0).bind fun t344 => ((impl_ReadText.f k t344).bind fun bt347 => ((spec_ReadNumber.f k t335).bind fun bt349 => (if bt338.1 = bt349.1 then (if bt338.2 = bt349.2 then ((spec_Number.f k t331).bind fun t351 => (laws_FnRows.j0 k t331 t332 t335 bt338.1 bt338.2 t340 t341 t344 bt347.1 bt347.2 ((strOfNums t332).toList != (strOfNums t351).toList))) else (laws_FnRows.j0 k t331 t332 t335 bt338.1 bt338.2 t340 t341 t344 bt347.1 bt347.2 true)) else (laws_FnRows.j0 k t331 t332 t335 bt338.1 bt338.2 t340 t341 t344 bt347.1 bt347.2 true))))))))))))) = some r := h
 clear h
 replace H := Option.bind_eq_some_iff.mp H
 obtain ⟨t330, A20, H⟩ := H
 (try dsimp only at H)
 have A2 := A_ A20
 clear A20
 by_cases c3 : t330 = true
 {
 subst c3
 rw [if_pos rfl] at H
 obtain rfl := Option.some.inj H
 go_enter Try.func13, Try.ntmps13
 go_wp2_with (first | ((with_reducible refine gate_callee (f := 52) rfl ?_); refine goesL_ (some 22) rfl rfl Try.func52 (by kernel_rfl) rfl #[.slice A0 l0.length c0] rfl z13h ?_; (with_reducible refine (laws_big.calls _ _ l0 true _ ?side1 ?side2 A2.out).mono ?_); (case side1 => exact (by repeat (first | exact HR0.out | (with_reducible refine Kd.C_alloc ?_ _) | (with_reducible refine Kd.C_drewN ?_ _) | (with_reducible refine Kd.C_drew ?_)))); (case side2 => exact HC0.out); rintro e w' ⟨rfl, ⟨nd, rfl⟩⟩; refine ⟨_, rfl, ?_⟩))
 go_ret
 exact ⟨by first | rfl | (simp [errW_none, errW_some] <;> rfl) | (simp [*, errW_none, errW_some] <;> rfl), by repeat (first | (with_reducible first | exact HB.out | apply below_alloc | apply pw_below_drewN | apply below_drew1) | exact HB.out)⟩
 }
 {
 as_aux_lemma =>
 replace c3 := Bool.eq_false_iff.mpr c3
 subst c3
 rw [if_neg Bool.false_ne_true] at H
 replace H := Option.bind_eq_some_iff.mp H
 obtain ⟨t331, A40, H⟩ := H
 (try dsimp only at H)
 have A4 := A_ A40
 clear A40
 replace H := Option.bind_eq_some_iff.mp H
 obtain ⟨t332, A50, H⟩ := H
 (try dsimp only at H)
 have A5 := A_ A50
 clear A50
 replace H := Option.bind_eq_some_iff.mp H
 obtain ⟨t335, A60, H⟩ := H
 (try dsimp only at H)
 have A6 := A_ A60
 clear A60
 replace H := Option.bind_eq_some_iff.mp H
 obtain ⟨⟨t338, t339⟩, A70, H⟩ := H
 (try dsimp only at H)
 have A7 := A_ A70
 clear A70
 replace H := Option.bind_eq_some_iff.mp H
 obtain ⟨t340, A80, H⟩ := H
 (try dsimp only at H)
 have A8 := A_ A80
 clear A80
 replace H := Option.bind_eq_some_iff.mp H
 obtain ⟨t341, A90, H⟩ := H
 (try dsimp only at H)
 have A9 := A_ A90
 clear A90
 replace H := Option.bind_eq_some_iff.mp H
 obtain ⟨t344, A100, H⟩ := H
 (try dsimp only at H)
 have A10 := A_ A100
 clear A100
 replace H := Option.bind_eq_some_iff.mp H
 obtain ⟨⟨t347, t348⟩, A110, H⟩ := H
 (try dsimp only at H)
 have A11 := A_ A110
 clear A110
 replace H := Option.bind_eq_some_iff.mp H
 obtain ⟨⟨t349, t350⟩, A120, H⟩ := H
 (try dsimp only at H)
 have A12 := A_ A120
 clear A120
 have HC13 := A_ H
 clear H
 go_enter Try.func13, Try.ntmps13
 go_upto_region 12 with (first | ((with_reducible refine gate_callee (f := 52) rfl ?_); refine goesL_ (some 22) rfl rfl Try.func52 (by kernel_rfl) rfl #[.slice A0 l0.length c0] rfl z13h ?_; (with_reducible refine (laws_big.calls _ _ l0 false _ ?side1 ?side2 A2.out).mono ?_); (case side1 => exact (by repeat (first | exact HR0.out | (with_reducible refine Kd.C_alloc ?_ _) | (with_reducible refine Kd.C_drewN ?_ _) | (with_reducible refine Kd.C_drew ?_)))); (case side2 => exact HC0.out); rintro e w' ⟨rfl, ⟨nd, rfl⟩⟩; refine ⟨_, rfl, ?_⟩) | ((with_reducible refine gate_callee (f := 53) rfl ?_); refine goesL_ (some 24) rfl rfl Try.func53 (by kernel_rfl) rfl #[.slice A0 l0.length c0] rfl z13h ?_; (with_reducible refine (spec_DrawNumber.calls k _ _ l0 t331 _ ?side1 ?side2 A4.out).mono ?_); (case side1 => exact (by repeat (first | exact HR0.out | (with_reducible refine Kd.C_alloc ?_ _) | (with_reducible refine Kd.C_drewN ?_ _) | (with_reducible refine Kd.C_drew ?_)))); (case side2 => exact HC0.out); rintro e w14 ⟨rfl, hb⟩; refine ⟨_, rfl, ?_⟩; replace HB := A_ (below_step z13b hb)) | ((with_reducible refine gate_callee (f := 18) rfl ?_); refine goesL_ (some 26) rfl rfl Try.func18 (by kernel_rfl) rfl #[.int .i64 t331] rfl z13h ?_; (with_reducible refine (impl_Number.calls k t331 t332 _ A5.out).mono ?_); rintro e w15 ⟨v333, rfl, ho0, hb⟩; refine ⟨_, rfl, ?_⟩; have n0_ := A_ (Kd.R_lower ho0 (below_size z13b)); have n1_ := A_ (below_step z13b hb); clear HB; have HO334 := n0_; have HB := n1_; clear n0_ n1_) | ((with_reducible refine gate_callee (f := 54) rfl ?_); refine goesL_ (some 28) rfl rfl Try.func54 (by kernel_rfl) rfl #[.slice A0 l0.length c0] rfl z13h ?_; (with_reducible refine (spec_DrawReadNumber.calls k _ _ l0 t335 _ ?side1 ?side2 A6.out).mono ?_); (case side1 => exact (by repeat (first | exact (Kd.C_below HR0.out HB.out) | (with_reducible refine Kd.C_alloc ?_ _) | (with_reducible refine Kd.C_drewN ?_ _) | (with_reducible refine Kd.C_drew ?_)))); (case side2 => exact HC0.out); rintro e w16 ⟨v336, rfl, ho0, hb⟩; refine ⟨_, rfl, ?_⟩; have n0_ := A_ (Kd.R_elder' z13v (Kd.R_base ho0) hb); have n1_ := A_ (Kd.R_lower (Kd.R_new' ho0 (Kd.R_lt z13v)) (below_size z13b)); have n2_ := A_ (below_step z13b hb); clear HO334; clear HB; have HO334 := n0_; have HO337 := n1_; have HB := n2_; clear n0_ n1_ n2_; obtain ⟨Ao17, co17, eo17⟩ := Kd.R_slice HO337.out; subst eo17) | ((with_reducible refine gate_callee (f := 55) rfl ?_); refine goesL_ (some 31) rfl rfl Try.func55 (by kernel_rfl) rfl #[.slice Ao17 t335.length co17] rfl z13h ?_; (with_reducible refine (impl_ReadNumber.calls k _ _ t335 t338 t339 _ ?side1 ?side2 A7.out).mono ?_); (case side1 => exact (by repeat (first | exact (Kd.R_reads' HO337.out).2.2 | (with_reducible refine Kd.C_alloc ?_ _) | (with_reducible refine Kd.C_drewN ?_ _) | (with_reducible refine Kd.C_drew ?_)))); (case side2 => exact (Kd.R_reads' HO337.out).2.1); rintro e w' ⟨rfl, ⟨nd, rfl⟩⟩; refine ⟨_, rfl, ?_⟩) | ((with_reducible refine gate_callee (f := 56) rfl ?_); refine goesL_ (some 35) rfl rfl Try.func56 (by kernel_rfl) rfl #[.slice A0 l0.length c0] rfl z13h ?_; (with_reducible refine (spec_DrawText.calls k _ _ l0 t340 _ ?side1 ?side2 A8.out).mono ?_); (case side1 => repeat (first | exact (Kd.C_below HR0.out z13b) | (with_reducible refine Kd.C_alloc ?_ _) | (with_reducible refine Kd.C_drewN ?_ _) | (with_reducible refine Kd.C_drew ?_))); (case side2 => exact HC0.out); rintro e w18 ⟨rfl, hb⟩; refine ⟨_, rfl, ?_⟩; replace HO334 := A_ (Kd.R_below z13v hb); replace HO337 := A_ (Kd.R_below z13f1 hb); replace HB := A_ (below_step z13b hb)) | ((with_reducible refine gate_callee (f := 23) rfl ?_); refine goesL_ (some 37) rfl rfl Try.func23 (by kernel_rfl) rfl #[.string t340] rfl z13h ?_; (with_reducible refine (impl_Text.calls k t340 t341 _ A9.out).mono ?_); rintro e w19 ⟨v342, rfl, ho0, hb⟩; refine ⟨_, rfl, ?_⟩; have n0_ := A_ (Kd.R_elder' z13v (Kd.R_base ho0) hb); have n1_ := A_ (Kd.R_elder' z13f1 (Kd.R_base ho0) hb); have n2_ := A_ (Kd.R_lower (Kd.R_new' (Kd.R_new' ho0 (Kd.R_lt z13v)) (Kd.R_lt z13f1)) (below_size z13b)); have n3_ := A_ (below_step z13b hb); clear HO334; clear HO337; clear HB; have HO334 := n0_; have HO337 := n1_; have HO343 := n2_; have HB := n3_; clear n0_ n1_ n2_ n3_) | ((with_reducible refine gate_callee (f := 57) rfl ?_); refine goesL_ (some 39) rfl rfl Try.func57 (by kernel_rfl) rfl #[.slice A0 l0.length c0] rfl z13h ?_; (with_reducible refine (spec_DrawReadText.calls k _ _ l0 t344 _ ?side1 ?side2 A10.out).mono ?_); (case side1 => exact (by repeat (first | exact (Kd.C_below HR0.out HB.out) | (with_reducible refine Kd.C_alloc ?_ _) | (with_reducible refine Kd.C_drewN ?_ _) | (with_reducible refine Kd.C_drew ?_)))); (case side2 => exact HC0.out); rintro e w20 ⟨v345, rfl, ho0, hb⟩; refine ⟨_, rfl, ?_⟩; have n0_ := A_ (Kd.R_elder' z13v (Kd.R_base ho0) hb); have n1_ := A_ (Kd.R_elder' z13f1 (Kd.R_base ho0) hb); have n2_ := A_ (Kd.R_elder' z13g1 (Kd.R_base ho0) hb); have n3_ := A_ (Kd.R_lower (Kd.R_new' (Kd.R_new' (Kd.R_new' ho0 (Kd.R_lt z13v)) (Kd.R_lt z13f1)) (Kd.R_lt z13g1)) (below_size z13b)); have n4_ := A_ (below_step z13b hb); clear HO334; clear HO337; clear HO343; clear HB; have HO334 := n0_; have HO337 := n1_; have HO343 := n2_; have HO346 := n3_; have HB := n4_; clear n0_ n1_ n2_ n3_ n4_; obtain ⟨Ao21, co21, eo21⟩ := Kd.R_slice HO346.out; subst eo21) | ((with_reducible refine gate_callee (f := 26) rfl ?_); refine goesL_ (some 42) rfl rfl Try.func26 (by kernel_rfl) rfl #[.slice Ao21 t344.length co21] rfl z13h ?_; (with_reducible refine (impl_ReadText.calls k _ _ t344 t347 t348 _ ?side1 ?side2 A11.out).mono ?_); (case side1 => exact (by repeat (first | exact (Kd.R_reads' HO346.out).2.2 | (with_reducible refine Kd.C_alloc ?_ _) | (with_reducible refine Kd.C_drewN ?_ _) | (with_reducible refine Kd.C_drew ?_)))); (case side2 => exact (Kd.R_reads' HO346.out).2.1); rintro e w' ⟨rfl, ⟨nd, rfl⟩⟩; refine ⟨_, rfl, ?_⟩) | ((with_reducible refine gate_callee (f := 58) rfl ?_); refine goesL_ (some 47) rfl rfl Try.func58 (by kernel_rfl) rfl #[.slice Ao17 t335.length co17] rfl z13h ?_; (with_reducible refine (spec_ReadNumber.calls k _ _ t335 t349 t350 _ ?side1 ?side2 A12.out).mono ?_); (case side1 => exact (by repeat (first | exact (Kd.R_reads' HO337.out).2.2 | (with_reducible refine Kd.C_alloc ?_ _) | (with_reducible refine Kd.C_drewN ?_ _) | (with_reducible refine Kd.C_drew ?_)))); (case side2 => exact (Kd.R_reads' HO337.out).2.1); rintro e w' ⟨rfl, ⟨nd, rfl⟩⟩; refine ⟨_, rfl, ?_⟩))
 (try simp only [Act.put, List.setIfInBounds_toArray, List.set_cons_zero, List.set_cons_succ])
 (try (rw [drewN_self w20]; generalize hq_ : World.drewN w20 _ = w20; have n0_ := A_ (Rq HO334.out hq_); have n1_ := A_ (Rq HO337.out hq_); have n2_ := A_ (Rq HO343.out hq_); have n3_ := A_ (Rq HO346.out hq_); have n4_ := A_ (Pq HB.out hq_); clear hq_ HO334 HO337 HO343 HO346 HB; have HO334 := n0_; have HO337 := n1_; have HO343 := n2_; have HO346 := n3_; have HB := n4_; clear n0_ n1_ n2_ n3_ n4_))
 go_cut [65] (fun v65 wc => ∃ (kq : Nat) (x65_12 : Bool), v65 = .bool x65_12 ∧ Aside0 (laws_FnRows.j0 kq t331 t332 t335 t338 t339 t340 t341 t344 t347 t348 x65_12 = some r) ∧ Aside0 (kq ≤ k) ∧ Aside0 (Kd.R (Kd.int .u8) 5 wc w.heap.size (fun k_ => some k_ ≠ ((.slice Ao17 t335.length co17) : Value).ownBlock ∧ some k_ ≠ (v342 : Value).ownBlock ∧ some k_ ≠ ((.slice Ao21 t344.length co21) : Value).ownBlock) v333 t332) ∧ Aside0 (Kd.R (Kd.int .u8) 5 wc w.heap.size (fun k_ => some k_ ≠ (v333 : Value).ownBlock ∧ some k_ ≠ (v342 : Value).ownBlock ∧ some k_ ≠ ((.slice Ao21 t344.length co21) : Value).ownBlock) (.slice Ao17 t335.length co17) t335) ∧ Aside0 (Kd.R (Kd.int .u8) 5 wc w.heap.size (fun k_ => some k_ ≠ (v333 : Value).ownBlock ∧ some k_ ≠ ((.slice Ao17 t335.length co17) : Value).ownBlock ∧ some k_ ≠ ((.slice Ao21 t344.length co21) : Value).ownBlock) v342 t341) ∧ Aside0 (Kd.R (Kd.int .u8) 5 wc w.heap.size (fun k_ => some k_ ≠ (v333 : Value).ownBlock ∧ some k_ ≠ ((.slice Ao17 t335.length co17) : Value).ownBlock ∧ some k_ ≠ (v342 : Value).ownBlock) (.slice Ao21 t344.length co21) t344) ∧ Aside0 (Below w.heap.size w wc))
 case first =>
  have H := HC13.out
  clear HC13
  by_cases c22 : t338 = t349
  {
  as_aux_lemma =>
  rw [if_pos c22] at H
  have c22b0 : (t338 == t349) = true := beq_iff_eq.mpr c22
  have c22b1 : (t338 != t349) = false := bne_eq_false_iff_eq.mpr c22
  clear c22
  (first | rw [c22b0] | (simp only [i64_w, i32_w]; rw [c22b0]) | skip)
  by_cases c23 : t339 = t350
  {
  as_aux_lemma =>
  rw [if_pos c23] at H
  have c23b0 : (t339 == t350) = true := beq_iff_eq.mpr c23
  have c23b1 : (t339 != t350) = false := bne_eq_false_iff_eq.mpr c23
  clear c23
  replace H := Option.bind_eq_some_iff.mp H
  obtain ⟨t351, A240, H⟩ := H
  (try dsimp only at H)
  have A24 := A_ A240
  clear A240
  have H' := A_ H
  clear H
  try go_wp2
  replace HO334 := A_ (Kd.R_drew HO334.out)
  replace HO337 := A_ (Kd.R_drew HO337.out)
  replace HO343 := A_ (Kd.R_drew HO343.out)
  replace HO346 := A_ (Kd.R_drew HO346.out)
  replace HB := A_ (below_drew1 HB.out)
  refine start_ (n := 16) (S := fun w' => True) (ds := []) (yx 0 16) (by kernel_rfl) rfl rfl trivial (fun hHeld => ?_); refine with_tabW laws_FnRows.tab12 laws_FnRows.bits12 (fun HT_ HW_ => ?_)
  generalize w20.drew = w25 at HO334 HO337 HO343 HO346 HB hHeld ⊢
  refine pu_ 0 (some 50) (yx 1 15) ?_
  refine pu_ 1 (some 51) (yx 2 14) ?_
  refine pu_ 2 (some 52) (yx 3 13) ?_
  refine pu_ 3 (some 53) (yx 4 12) ?_
  refine pu_ 4 (some 54) (yx 5 11) ?_
  refine pu_ 5 (some 55) (yx 6 10) ?_
  refine pu_ 6 (some 56) (yx 7 9) ?_
  refine pu_ 7 (some 57) (yx 8 8) ?_
  refine pu_ 8 (some 58) (yx 9 7) ?_
  refine pu_ 9 (some 59) (yx 10 6) ?_
  refine pu_ 11 (some 61) (rl [10, 1, 1, 4]) ?_
  refine join_ (σ := Value) 2 (yx 14 2) (fun s_ => [(60, .string (strOfNums t332)), (62, s_), (63, .string (strOfNums t351))]) (fun s_ w' => (Kd.R (Kd.int .u8) 5 w' w.heap.size (fun k_ => some k_ ≠ (.slice Ao17 t335.length co17 : Value).ownBlock ∧ some k_ ≠ (v342 : Value).ownBlock ∧ some k_ ≠ (.slice Ao21 t344.length co21 : Value).ownBlock ∧ some k_ ≠ (s_ : Value).ownBlock) v333 t332) ∧ (Kd.R (Kd.int .u8) 5 w' w.heap.size (fun k_ => some k_ ≠ (v333 : Value).ownBlock ∧ some k_ ≠ (v342 : Value).ownBlock ∧ some k_ ≠ (.slice Ao21 t344.length co21 : Value).ownBlock ∧ some k_ ≠ (s_ : Value).ownBlock) (.slice Ao17 t335.length co17) t335) ∧ (Kd.R (Kd.int .u8) 5 w' w.heap.size (fun k_ => some k_ ≠ (v333 : Value).ownBlock ∧ some k_ ≠ (.slice Ao17 t335.length co17 : Value).ownBlock ∧ some k_ ≠ (.slice Ao21 t344.length co21 : Value).ownBlock ∧ some k_ ≠ (s_ : Value).ownBlock) v342 t341) ∧ (Kd.R (Kd.int .u8) 5 w' w.heap.size (fun k_ => some k_ ≠ (v333 : Value).ownBlock ∧ some k_ ≠ (.slice Ao17 t335.length co17 : Value).ownBlock ∧ some k_ ≠ (v342 : Value).ownBlock ∧ some k_ ≠ (s_ : Value).ownBlock) (.slice Ao21 t344.length co21) t344) ∧ (Kd.R (Kd.int .u8) 5 w' w.heap.size (fun k_ => some k_ ≠ (v333 : Value).ownBlock ∧ some k_ ≠ (.slice Ao17 t335.length co17 : Value).ownBlock ∧ some k_ ≠ (v342 : Value).ownBlock ∧ some k_ ≠ (.slice Ao21 t344.length co21 : Value).ownBlock) s_ t351) ∧ (Below w.heap.size w w')) ?_ ?_
  rotate_left
  {
  intro hCont
  refine two_ (i := 10) (j := 12) (Ni := some 60) (Nj := some 62) (yx 12 4) (rl [10, 1, 2, 3]) rfl rfl rfl rfl (two_of HT_.out (by kernel_rfl)) (by decide) (by decide) (fun K hK => ?_) (fun K hK => ?_)
  {
  as_aux_lemma =>
  skip
  have hcv26 := own_string (P := Try.prog) Try.underlying22 Try.underlying5 Try.underlying9 (Kd.own_of_R HO334.out); have hcv26d := fun (nq_ : Nat) => own_string (P := Try.prog) Try.underlying22 Try.underlying5 Try.underlying9 (Kd.own_of_R (Kd.R_drewN HO334.out nq_))
  refine value_ (w1 := ?_) (v := ?_) (by rfl) rfl ?_ ?_
  rotate_left 2
  {
  go_simp
  constructor
  {
  rfl
  }
  {
  rfl
  }
  }
  clear hcv26 hcv26d
  refine hK.out _ _ trivial (fun hHeld => ?_)
  clear hK K
  refine norm_ (nz_ 60) ?_
  refine one_ (i := 12) (N := some 62) (yx 13 3) rfl rfl (one_of HT_.out (by kernel_rfl)) (by decide) (fun K hK => ?_)
  refine goes_ Try.func17 (by kernel_rfl) rfl #[.int .i64 t331] (by rfl) rfl rfl z13h ?_
  with_reducible refine (spec_Number.calls k t331 t351 _ A24.out).mono ?_
  rintro e w27 ⟨v352, rfl, ho0, hb⟩
  refine ⟨_, rfl, ?_⟩
  have n0_ := A_ (Kd.R_elder' z13v (Kd.R_base ho0) hb)
  have n1_ := A_ (Kd.R_elder' z13f1 (Kd.R_base ho0) hb)
  have n2_ := A_ (Kd.R_elder' z13g1 (Kd.R_base ho0) hb)
  have n3_ := A_ (Kd.R_elder' (by (with_reducible repeat (first | apply Kd.R_alloc | apply Kd.R_drewN | apply Kd.R_drew)); exact HO346.out) (Kd.R_base ho0) hb)
  have n4_ := A_ (Kd.R_lower (Kd.R_new' (Kd.R_new' (Kd.R_new' (Kd.R_new' ho0 (Kd.R_lt z13v)) (Kd.R_lt z13f1)) (Kd.R_lt z13g1)) (Kd.R_lt (by (with_reducible repeat (first | apply Kd.R_alloc | apply Kd.R_drewN | apply Kd.R_drew)); exact HO346.out))) (below_size z13b))
  have n5_ := A_ (below_step z13b hb)
  clear HO334
  clear HO337
  clear HO343
  clear HO346
  clear HB
  have HO334 := n0_
  have HO337 := n1_
  have HO343 := n2_
  have HO346 := n3_
  have HO353 := n4_
  have HB := n5_
  clear n0_ n1_ n2_ n3_ n4_ n5_
  refine hK.out _ _ trivial (fun hHeld => ?_)
  clear hK K
  refine norm_ (nz_ 62) ?_
  refine one_ (i := 13) (N := some 63) (yx 14 2) rfl rfl (one_of HT_.out (by kernel_rfl)) (by decide) (fun K hK => ?_)
  have hcv28 := own_string (P := Try.prog) Try.underlying22 Try.underlying5 Try.underlying9 (Kd.own_of_R HO353.out)
  refine value_ (w1 := ?_) (v := ?_) (by rfl) rfl ?_ ?_
  rotate_left 2
  {
  go_simp
  constructor
  {
  rfl
  }
  {
  rfl
  }
  }
  clear hcv28
  refine hK.out _ _ trivial (fun hHeld => ?_)
  clear hK K
  refine norm_ (nz_ 63) ?_
  exact norm_ z13r (hCont (v352) _ ⟨(by (with_reducible repeat (first | apply Kd.R_alloc | apply Kd.R_drewN | apply Kd.R_drew)); exact Kd.R_mono HO334.out (fun _ hk => ⟨hk.1.1.1.2, ⟨hk.1.1.2, ⟨hk.1.2, hk.2⟩⟩⟩)), (by (with_reducible repeat (first | apply Kd.R_alloc | apply Kd.R_drewN | apply Kd.R_drew)); exact Kd.R_mono HO337.out (fun _ hk => ⟨hk.1.1.1.2, ⟨hk.1.1.2, ⟨hk.1.2, hk.2⟩⟩⟩)), (by (with_reducible repeat (first | apply Kd.R_alloc | apply Kd.R_drewN | apply Kd.R_drew)); exact Kd.R_mono HO343.out (fun _ hk => ⟨hk.1.1.1.2, ⟨hk.1.1.2, ⟨hk.1.2, hk.2⟩⟩⟩)), (by (with_reducible repeat (first | apply Kd.R_alloc | apply Kd.R_drewN | apply Kd.R_drew)); exact Kd.R_mono HO346.out (fun _ hk => ⟨hk.1.1.1.2, ⟨hk.1.1.2, ⟨hk.1.2, hk.2⟩⟩⟩)), (by (with_reducible repeat (first | apply Kd.R_alloc | apply Kd.R_drewN | apply Kd.R_drew)); exact Kd.R_mono HO353.out (fun _ hk => ⟨hk.1.1.1.2, ⟨hk.1.1.2, ⟨hk.1.2, hk.2⟩⟩⟩)), z13b⟩)
  }
  {
  as_aux_lemma =>
  skip
  refine goes_ Try.func17 (by kernel_rfl) rfl #[.int .i64 t331] (by rfl) rfl rfl z13h ?_
  with_reducible refine (spec_Number.calls k t331 t351 _ A24.out).mono ?_
  rintro e w26 ⟨v352, rfl, ho0, hb⟩
  refine ⟨_, rfl, ?_⟩
  have n0_ := A_ (Kd.R_elder' z13v (Kd.R_base ho0) hb)
  have n1_ := A_ (Kd.R_elder' z13f1 (Kd.R_base ho0) hb)
  have n2_ := A_ (Kd.R_elder' z13g1 (Kd.R_base ho0) hb)
  have n3_ := A_ (Kd.R_elder' (by (with_reducible repeat (first | apply Kd.R_alloc | apply Kd.R_drewN | apply Kd.R_drew)); exact HO346.out) (Kd.R_base ho0) hb)
  have n4_ := A_ (Kd.R_lower (Kd.R_new' (Kd.R_new' (Kd.R_new' (Kd.R_new' ho0 (Kd.R_lt z13v)) (Kd.R_lt z13f1)) (Kd.R_lt z13g1)) (Kd.R_lt (by (with_reducible repeat (first | apply Kd.R_alloc | apply Kd.R_drewN | apply Kd.R_drew)); exact HO346.out))) (below_size z13b))
  have n5_ := A_ (below_step z13b hb)
  clear HO334
  clear HO337
  clear HO343
  clear HO346
  clear HB
  have HO334 := n0_
  have HO337 := n1_
  have HO343 := n2_
  have HO346 := n3_
  have HO353 := n4_
  have HB := n5_
  clear n0_ n1_ n2_ n3_ n4_ n5_
  refine hK.out _ _ trivial (fun hHeld => ?_)
  clear hK K
  refine norm_ (nz_ 62) ?_
  refine two_ (i := 10) (j := 13) (Ni := some 60) (Nj := some 63) (yx 13 3) (rl [10, 1, 3, 2]) rfl rfl rfl rfl (two_of HT_.out (by kernel_rfl)) (by decide) (by decide) (fun K hK => ?_) (fun K hK => ?_)
  {
  skip
  have hcv27 := own_string (P := Try.prog) Try.underlying22 Try.underlying5 Try.underlying9 (Kd.own_of_R HO334.out); have hcv27d := fun (nq_ : Nat) => own_string (P := Try.prog) Try.underlying22 Try.underlying5 Try.underlying9 (Kd.own_of_R (Kd.R_drewN HO334.out nq_))
  refine value_ (w1 := ?_) (v := ?_) (by rfl) rfl ?_ ?_
  rotate_left 2
  {
  go_simp
  constructor
  {
  rfl
  }
  {
  rfl
  }
  }
  clear hcv27 hcv27d
  refine hK.out _ _ trivial (fun hHeld => ?_)
  clear hK K
  refine norm_ (nz_ 60) ?_
  refine one_ (i := 13) (N := some 63) (yx 14 2) rfl rfl (one_of HT_.out (by kernel_rfl)) (by decide) (fun K hK => ?_)
  have hcv28 := own_string (P := Try.prog) Try.underlying22 Try.underlying5 Try.underlying9 (Kd.own_of_R HO353.out)
  refine value_ (w1 := ?_) (v := ?_) (by rfl) rfl ?_ ?_
  rotate_left 2
  {
  go_simp
  constructor
  {
  rfl
  }
  {
  rfl
  }
  }
  clear hcv28
  refine hK.out _ _ trivial (fun hHeld => ?_)
  clear hK K
  refine norm_ (nz_ 63) ?_
  exact norm_ z13r (hCont (v352) _ ⟨(by (with_reducible repeat (first | apply Kd.R_alloc | apply Kd.R_drewN | apply Kd.R_drew)); exact Kd.R_mono HO334.out (fun _ hk => ⟨hk.1.1.1.2, ⟨hk.1.1.2, ⟨hk.1.2, hk.2⟩⟩⟩)), (by (with_reducible repeat (first | apply Kd.R_alloc | apply Kd.R_drewN | apply Kd.R_drew)); exact Kd.R_mono HO337.out (fun _ hk => ⟨hk.1.1.1.2, ⟨hk.1.1.2, ⟨hk.1.2, hk.2⟩⟩⟩)), (by (with_reducible repeat (first | apply Kd.R_alloc | apply Kd.R_drewN | apply Kd.R_drew)); exact Kd.R_mono HO343.out (fun _ hk => ⟨hk.1.1.1.2, ⟨hk.1.1.2, ⟨hk.1.2, hk.2⟩⟩⟩)), (by (with_reducible repeat (first | apply Kd.R_alloc | apply Kd.R_drewN | apply Kd.R_drew)); exact Kd.R_mono HO346.out (fun _ hk => ⟨hk.1.1.1.2, ⟨hk.1.1.2, ⟨hk.1.2, hk.2⟩⟩⟩)), (by (with_reducible repeat (first | apply Kd.R_alloc | apply Kd.R_drewN | apply Kd.R_drew)); exact Kd.R_mono HO353.out (fun _ hk => ⟨hk.1.1.1.2, ⟨hk.1.1.2, ⟨hk.1.2, hk.2⟩⟩⟩)), z13b⟩)
  }
  {
  skip
  have hcv27 := own_string (P := Try.prog) Try.underlying22 Try.underlying5 Try.underlying9 (Kd.own_of_R HO353.out)
  refine value_ (w1 := ?_) (v := ?_) (by rfl) rfl ?_ ?_
  rotate_left 2
  {
  go_simp
  constructor
  {
  rfl
  }
  {
  rfl
  }
  }
  clear hcv27
  refine hK.out _ _ trivial (fun hHeld => ?_)
  clear hK K
  refine norm_ (nz_ 63) ?_
  refine one_ (i := 10) (N := some 60) (yx 14 2) rfl rfl (one_of HT_.out (by kernel_rfl)) (by decide) (fun K hK => ?_)
  have hcv28 := own_string (P := Try.prog) Try.underlying22 Try.underlying5 Try.underlying9 (Kd.own_of_R HO334.out); have hcv28d := fun (nq_ : Nat) => own_string (P := Try.prog) Try.underlying22 Try.underlying5 Try.underlying9 (Kd.own_of_R (Kd.R_drewN HO334.out nq_))
  refine value_ (w1 := ?_) (v := ?_) (by rfl) rfl ?_ ?_
  rotate_left 2
  {
  go_simp
  constructor
  {
  rfl
  }
  {
  rfl
  }
  }
  clear hcv28 hcv28d
  refine hK.out _ _ trivial (fun hHeld => ?_)
  clear hK K
  refine norm_ (nz_ 60) ?_
  exact norm_ z13r (hCont (v352) _ ⟨(by (with_reducible repeat (first | apply Kd.R_alloc | apply Kd.R_drewN | apply Kd.R_drew)); exact Kd.R_mono HO334.out (fun _ hk => ⟨hk.1.1.1.2, ⟨hk.1.1.2, ⟨hk.1.2, hk.2⟩⟩⟩)), (by (with_reducible repeat (first | apply Kd.R_alloc | apply Kd.R_drewN | apply Kd.R_drew)); exact Kd.R_mono HO337.out (fun _ hk => ⟨hk.1.1.1.2, ⟨hk.1.1.2, ⟨hk.1.2, hk.2⟩⟩⟩)), (by (with_reducible repeat (first | apply Kd.R_alloc | apply Kd.R_drewN | apply Kd.R_drew)); exact Kd.R_mono HO343.out (fun _ hk => ⟨hk.1.1.1.2, ⟨hk.1.1.2, ⟨hk.1.2, hk.2⟩⟩⟩)), (by (with_reducible repeat (first | apply Kd.R_alloc | apply Kd.R_drewN | apply Kd.R_drew)); exact Kd.R_mono HO346.out (fun _ hk => ⟨hk.1.1.1.2, ⟨hk.1.1.2, ⟨hk.1.2, hk.2⟩⟩⟩)), (by (with_reducible repeat (first | apply Kd.R_alloc | apply Kd.R_drewN | apply Kd.R_drew)); exact Kd.R_mono HO353.out (fun _ hk => ⟨hk.1.1.1.2, ⟨hk.1.1.2, ⟨hk.1.2, hk.2⟩⟩⟩)), z13b⟩)
  }
  }
  }
  rintro v352 w29 ⟨h0_, h1_, h2_, h3_, h4_, h5_⟩
  have n0_ : Aside0 (Kd.R (Kd.int .u8) 5 w29 w.heap.size (fun k_ => some k_ ≠ (.slice Ao17 t335.length co17 : Value).ownBlock ∧ some k_ ≠ (v342 : Value).ownBlock ∧ some k_ ≠ (.slice Ao21 t344.length co21 : Value).ownBlock ∧ some k_ ≠ (v352 : Value).ownBlock) v333 t332) := ⟨h0_⟩
  have n1_ : Aside0 (Kd.R (Kd.int .u8) 5 w29 w.heap.size (fun k_ => some k_ ≠ (v333 : Value).ownBlock ∧ some k_ ≠ (v342 : Value).ownBlock ∧ some k_ ≠ (.slice Ao21 t344.length co21 : Value).ownBlock ∧ some k_ ≠ (v352 : Value).ownBlock) (.slice Ao17 t335.length co17) t335) := ⟨h1_⟩
  have n2_ : Aside0 (Kd.R (Kd.int .u8) 5 w29 w.heap.size (fun k_ => some k_ ≠ (v333 : Value).ownBlock ∧ some k_ ≠ (.slice Ao17 t335.length co17 : Value).ownBlock ∧ some k_ ≠ (.slice Ao21 t344.length co21 : Value).ownBlock ∧ some k_ ≠ (v352 : Value).ownBlock) v342 t341) := ⟨h2_⟩
  have n3_ : Aside0 (Kd.R (Kd.int .u8) 5 w29 w.heap.size (fun k_ => some k_ ≠ (v333 : Value).ownBlock ∧ some k_ ≠ (.slice Ao17 t335.length co17 : Value).ownBlock ∧ some k_ ≠ (v342 : Value).ownBlock ∧ some k_ ≠ (v352 : Value).ownBlock) (.slice Ao21 t344.length co21) t344) := ⟨h3_⟩
  have n4_ : Aside0 (Kd.R (Kd.int .u8) 5 w29 w.heap.size (fun k_ => some k_ ≠ (v333 : Value).ownBlock ∧ some k_ ≠ (.slice Ao17 t335.length co17 : Value).ownBlock ∧ some k_ ≠ (v342 : Value).ownBlock ∧ some k_ ≠ (.slice Ao21 t344.length co21 : Value).ownBlock) v352 t351) := ⟨h4_⟩
  have n5_ : Aside0 (Below w.heap.size w w29) := ⟨h5_⟩
  clear HO334
  clear HO337
  clear HO343
  clear HO346
  clear HB
  clear h0_ h1_ h2_ h3_ h4_ h5_
  have HO334 := n0_
  have HO337 := n1_
  have HO343 := n2_
  have HO346 := n3_
  have HO353 := n4_
  have HB := n5_
  clear n0_ n1_ n2_ n3_ n4_ n5_
  have hHeld := trivial
  refine norm_ (a' := ?_) ?_ ?_
  rotate_left
  exact z13m
  refine pu_ 14 (some 64) (yx 15 1) ?_
  refine pu_ 15 (some 65) (yx 16 0) ?_
  refine done_ (done_of HT_.out (by kernel_rfl)) ?_
  try go_wp2
  go_meet
  case rel => exact ⟨_, (((strOfNums t332).toList != (strOfNums t351).toList)), (by first | rfl | (simp; done) | (simp [*]; done)), H', ⟨by first | omega | exact Nat.le_refl _⟩, ⟨by (with_reducible repeat (first | apply Kd.R_alloc | apply Kd.R_drewN | apply Kd.R_drew)); exact Kd.R_mono HO334.out (fun _ hk => ⟨hk.1, ⟨hk.2.1, hk.2.2.1⟩⟩)⟩, ⟨by (with_reducible repeat (first | apply Kd.R_alloc | apply Kd.R_drewN | apply Kd.R_drew)); exact Kd.R_mono HO337.out (fun _ hk => ⟨hk.1, ⟨hk.2.1, hk.2.2.1⟩⟩)⟩, ⟨by (with_reducible repeat (first | apply Kd.R_alloc | apply Kd.R_drewN | apply Kd.R_drew)); exact Kd.R_mono HO343.out (fun _ hk => ⟨hk.1, ⟨hk.2.1, hk.2.2.1⟩⟩)⟩, ⟨by (with_reducible repeat (first | apply Kd.R_alloc | apply Kd.R_drewN | apply Kd.R_drew)); exact Kd.R_mono HO346.out (fun _ hk => ⟨hk.1, ⟨hk.2.1, hk.2.2.1⟩⟩)⟩, ⟨by repeat (first | (with_reducible first | exact HB.out | apply below_alloc | apply pw_below_drewN | apply below_drew1) | exact HB.out)⟩⟩
  }
  {
  as_aux_lemma =>
  rw [if_neg c23] at H
  have c23b0 : (t339 == t350) = false := beq_eq_false_iff_ne.mpr c23
  have c23b1 : (t339 != t350) = true := bne_iff_ne.mpr c23
  have H' := A_ H
  clear H
  try go_wp2
  replace HO334 := A_ (Kd.R_drew HO334.out)
  replace HO337 := A_ (Kd.R_drew HO337.out)
  replace HO343 := A_ (Kd.R_drew HO343.out)
  replace HO346 := A_ (Kd.R_drew HO346.out)
  replace HB := A_ (below_drew1 HB.out)
  refine start_ (n := 16) (S := fun w' => True) (ds := []) (yx 0 16) (by kernel_rfl) rfl rfl trivial (fun hHeld => ?_); refine with_tabW laws_FnRows.tab12 laws_FnRows.bits12 (fun HT_ HW_ => ?_)
  generalize w20.drew = w30 at HO334 HO337 HO343 HO346 HB hHeld ⊢
  refine pu_ 0 (some 50) (yx 1 15) ?_
  refine pu_ 1 (some 51) (yx 2 14) ?_
  refine pu_ 2 (some 52) (yx 3 13) ?_
  refine pu_ 3 (some 53) (yx 4 12) ?_
  refine pu_ 4 (some 54) (yx 5 11) ?_
  refine pu_ 5 (some 55) (yx 6 10) ?_
  refine pu_ 6 (some 56) (yx 7 9) ?_
  refine pu_ 7 (some 57) (yx 8 8) ?_
  refine pu_ 8 (some 58) (yx 9 7) ?_
  refine pn_ 9 (some 59) (yx 10 6) ?_
  refine pn_ 10 (some 60) (yx 11 5) ?_
  refine pn_ 11 (some 61) (yx 12 4) ?_
  refine pn_ 12 (some 62) (yx 13 3) ?_
  refine pn_ 13 (some 63) (yx 14 2) ?_
  refine pn_ 14 (some 64) (yx 15 1) ?_
  refine pu_ 15 (some 65) (yx 16 0) ?_
  refine done_ (done_of HT_.out (by kernel_rfl)) ?_
  try go_wp2
  go_meet
  case rel => exact ⟨_, (true), (by first | rfl | (simp; done) | (simp [*]; done)), H', ⟨by first | omega | exact Nat.le_refl _⟩, ⟨by (with_reducible repeat (first | apply Kd.R_alloc | apply Kd.R_drewN | apply Kd.R_drew)); exact Kd.R_mono HO334.out (fun _ hk => ⟨hk.1.1.2, ⟨hk.1.2, hk.2⟩⟩)⟩, ⟨by (with_reducible repeat (first | apply Kd.R_alloc | apply Kd.R_drewN | apply Kd.R_drew)); exact Kd.R_mono HO337.out (fun _ hk => ⟨hk.1.1.2, ⟨hk.1.2, hk.2⟩⟩)⟩, ⟨by (with_reducible repeat (first | apply Kd.R_alloc | apply Kd.R_drewN | apply Kd.R_drew)); exact Kd.R_mono HO343.out (fun _ hk => ⟨hk.1.1.2, ⟨hk.1.2, hk.2⟩⟩)⟩, ⟨by (with_reducible repeat (first | apply Kd.R_alloc | apply Kd.R_drewN | apply Kd.R_drew)); exact Kd.R_mono HO346.out (fun _ hk => ⟨hk.1.1.2, ⟨hk.1.2, hk.2⟩⟩)⟩, ⟨by repeat (first | (with_reducible first | exact HB.out | apply below_alloc | apply pw_below_drewN | apply below_drew1) | exact HB.out)⟩⟩
  }
  }
  {
  as_aux_lemma =>
  rw [if_neg c22] at H
  have c22b0 : (t338 == t349) = false := beq_eq_false_iff_ne.mpr c22
  have c22b1 : (t338 != t349) = true := bne_iff_ne.mpr c22
  (first | rw [c22b0] | (simp only [i64_w, i32_w]; rw [c22b0]) | skip)
  have H' := A_ H
  clear H
  try go_wp2
  replace HO334 := A_ (Kd.R_drew HO334.out)
  replace HO337 := A_ (Kd.R_drew HO337.out)
  replace HO343 := A_ (Kd.R_drew HO343.out)
  replace HO346 := A_ (Kd.R_drew HO346.out)
  replace HB := A_ (below_drew1 HB.out)
  refine start_ (n := 16) (S := fun w' => True) (ds := []) (yx 0 16) (by kernel_rfl) rfl rfl trivial (fun hHeld => ?_); refine with_tabW laws_FnRows.tab12 laws_FnRows.bits12 (fun HT_ HW_ => ?_)
  generalize w20.drew = w31 at HO334 HO337 HO343 HO346 HB hHeld ⊢
  refine pu_ 0 (some 50) (yx 1 15) ?_
  refine pu_ 1 (some 51) (yx 2 14) ?_
  refine pu_ 2 (some 52) (yx 3 13) ?_
  refine pu_ 3 (some 53) (yx 4 12) ?_
  refine pn_ 4 (some 54) (yx 5 11) ?_
  refine pn_ 5 (some 55) (yx 6 10) ?_
  refine pn_ 6 (some 56) (yx 7 9) ?_
  refine pu_ 7 (some 57) (yx 8 8) ?_
  refine pu_ 8 (some 58) (yx 9 7) ?_
  refine pn_ 9 (some 59) (yx 10 6) ?_
  refine pn_ 10 (some 60) (yx 11 5) ?_
  refine pn_ 11 (some 61) (yx 12 4) ?_
  refine pn_ 12 (some 62) (yx 13 3) ?_
  refine pn_ 13 (some 63) (yx 14 2) ?_
  refine pn_ 14 (some 64) (yx 15 1) ?_
  refine pu_ 15 (some 65) (yx 16 0) ?_
  refine done_ (done_of HT_.out (by kernel_rfl)) ?_
  try go_wp2
  go_meet
  case rel => exact ⟨_, (true), (by first | rfl | (simp; done) | (simp [*]; done)), H', ⟨by first | omega | exact Nat.le_refl _⟩, ⟨by (with_reducible repeat (first | apply Kd.R_alloc | apply Kd.R_drewN | apply Kd.R_drew)); exact Kd.R_mono HO334.out (fun _ hk => ⟨hk.1.1.2, ⟨hk.1.2, hk.2⟩⟩)⟩, ⟨by (with_reducible repeat (first | apply Kd.R_alloc | apply Kd.R_drewN | apply Kd.R_drew)); exact Kd.R_mono HO337.out (fun _ hk => ⟨hk.1.1.2, ⟨hk.1.2, hk.2⟩⟩)⟩, ⟨by (with_reducible repeat (first | apply Kd.R_alloc | apply Kd.R_drewN | apply Kd.R_drew)); exact Kd.R_mono HO343.out (fun _ hk => ⟨hk.1.1.2, ⟨hk.1.2, hk.2⟩⟩)⟩, ⟨by (with_reducible repeat (first | apply Kd.R_alloc | apply Kd.R_drewN | apply Kd.R_drew)); exact Kd.R_mono HO346.out (fun _ hk => ⟨hk.1.1.2, ⟨hk.1.2, hk.2⟩⟩)⟩, ⟨by repeat (first | (with_reducible first | exact HB.out | apply below_alloc | apply pw_below_drewN | apply below_drew1) | exact HB.out)⟩⟩
  }
 case rest =>
  clear HC13
  try clear c1
  try clear c2
  try clear p2
  try clear hcv2
  try clear c17
  try clear c22
  try clear c22b0
  try clear c22b1
  try clear c23
  try clear c23b0
  try clear c23b1
  try clear hcv26
  try clear hcv27
  try clear hcv28
  obtain ⟨kq, x65_12, rfl, HA, HJ12, HO_4, HO_5, HO_9, HO_10, HB⟩ := hcut
  cases kq with
  | zero => exact absurd HA.out (by simp [laws_FnRows.j0])
  | succ kj12 =>
   have H := HA.out
   clear HA
   simp only [laws_FnRows.j0] at H
   by_cases c32 : x65_12 = true
   {
   subst c32
   rw [if_pos rfl] at H
   obtain rfl := Option.some.inj H
   go_wp2
   go_ret
   exact ⟨by first | rfl | (simp [errW_none, errW_some] <;> rfl) | (simp [*, errW_none, errW_some] <;> rfl), by repeat (first | (with_reducible first | exact HB.out | apply below_alloc | apply pw_below_drewN | apply below_drew1) | exact HB.out)⟩
   }
   {
   as_aux_lemma =>
   replace c32 := Bool.eq_false_iff.mpr c32
   subst c32
   rw [if_neg Bool.false_ne_true] at H
   replace H := Option.bind_eq_some_iff.mp H
   obtain ⟨⟨t354, t355⟩, A330, H⟩ := H
   (try dsimp only at H)
   have A33 := A_ A330
   clear A330
   have HC34 := A_ H
   clear H
   go_upto_region 15 with (first | ((with_reducible refine gate_callee (f := 24) rfl ?_); refine goesL_ (some 68) rfl rfl Try.func24 (by kernel_rfl) rfl #[.slice Ao21 t344.length co21] rfl z13h ?_; (with_reducible refine (spec_ReadText.calls kj12 _ _ t344 t354 t355 _ ?side1 ?side2 A33.out).mono ?_); (case side1 => exact (by repeat (first | exact (Kd.R_reads' HO_10.out).2.2 | (with_reducible refine Kd.C_alloc ?_ _) | (with_reducible refine Kd.C_drewN ?_ _) | (with_reducible refine Kd.C_drew ?_)))); (case side2 => exact (Kd.R_reads' HO_10.out).2.1); rintro e w' ⟨rfl, ⟨nd, rfl⟩⟩; refine ⟨_, rfl, ?_⟩))
   (try simp only [Act.put, List.setIfInBounds_toArray, List.set_cons_zero, List.set_cons_succ])
   (try (rw [drewN_self wc]; generalize hq_ : World.drewN wc _ = wc; have n0_ := A_ (Kd.R_drewN HO_4.out nd); have n1_ := A_ (Kd.R_drewN HO_5.out nd); have n2_ := A_ (Kd.R_drewN HO_9.out nd); have n3_ := A_ (Kd.R_drewN HO_10.out nd); have n4_ := A_ (pw_below_drewN HB.out nd); rw [hq_] at n0_; rw [hq_] at n1_; rw [hq_] at n2_; rw [hq_] at n3_; rw [hq_] at n4_; clear hq_ HO_4 HO_5 HO_9 HO_10 HB; have HO_4 := n0_; have HO_5 := n1_; have HO_9 := n2_; have HO_10 := n3_; have HB := n4_; clear n0_ n1_ n2_ n3_ n4_))
   go_cut [86] (fun v86 wc => ∃ (kq : Nat) (x86_33 : Bool), v86 = .bool x86_33 ∧ Aside0 (laws_FnRows.j1 kq t331 t332 t335 t338 t339 t340 t341 t344 t347 t348 x86_33 = some r) ∧ Aside0 (kq ≤ kj12) ∧ Aside0 (Kd.R (Kd.int .u8) 5 wc w.heap.size (fun k_ => some k_ ≠ ((.slice Ao17 t335.length co17) : Value).ownBlock ∧ some k_ ≠ (v342 : Value).ownBlock ∧ some k_ ≠ ((.slice Ao21 t344.length co21) : Value).ownBlock) v333 t332) ∧ Aside0 (Kd.R (Kd.int .u8) 5 wc w.heap.size (fun k_ => some k_ ≠ (v333 : Value).ownBlock ∧ some k_ ≠ (v342 : Value).ownBlock ∧ some k_ ≠ ((.slice Ao21 t344.length co21) : Value).ownBlock) (.slice Ao17 t335.length co17) t335) ∧ Aside0 (Kd.R (Kd.int .u8) 5 wc w.heap.size (fun k_ => some k_ ≠ (v333 : Value).ownBlock ∧ some k_ ≠ ((.slice Ao17 t335.length co17) : Value).ownBlock ∧ some k_ ≠ ((.slice Ao21 t344.length co21) : Value).ownBlock) v342 t341) ∧ Aside0 (Kd.R (Kd.int .u8) 5 wc w.heap.size (fun k_ => some k_ ≠ (v333 : Value).ownBlock ∧ some k_ ≠ ((.slice Ao17 t335.length co17) : Value).ownBlock ∧ some k_ ≠ (v342 : Value).ownBlock) (.slice Ao21 t344.length co21) t344) ∧ Aside0 (Below w.heap.size w wc))
   case first =>
    have H := HC34.out
    clear HC34
    by_cases c35 : t347.toList = t354.toList
    {
    as_aux_lemma =>
    rw [if_pos c35] at H
    have c35b0 : (t347.toList == t354.toList) = true := beq_iff_eq.mpr c35
    have c35b1 : (t347.toList != t354.toList) = false := bne_eq_false_iff_eq.mpr c35
    clear c35
    (first | rw [c35b0] | (simp only [i64_w, i32_w]; rw [c35b0]) | skip)
    by_cases c36 : t348 = t355
    {
    as_aux_lemma =>
    rw [if_pos c36] at H
    have c36b0 : (t348 == t355) = true := beq_iff_eq.mpr c36
    have c36b1 : (t348 != t355) = false := bne_eq_false_iff_eq.mpr c36
    clear c36
    replace H := Option.bind_eq_some_iff.mp H
    obtain ⟨t356, A370, H⟩ := H
    (try dsimp only at H)
    have A37 := A_ A370
    clear A370
    have H' := A_ H
    clear H
    try go_wp2
    replace HO_4 := A_ (Kd.R_drew HO_4.out)
    replace HO_5 := A_ (Kd.R_drew HO_5.out)
    replace HO_9 := A_ (Kd.R_drew HO_9.out)
    replace HO_10 := A_ (Kd.R_drew HO_10.out)
    replace HB := A_ (below_drew1 HB.out)
    refine start_ (n := 16) (S := fun w' => True) (ds := []) (yx 0 16) (by kernel_rfl) rfl rfl trivial (fun hHeld => ?_); refine with_tabW laws_FnRows.tab15 laws_FnRows.bits15 (fun HT_ HW_ => ?_)
    generalize wc.drew = w38 at HO_4 HO_5 HO_9 HO_10 HB hHeld ⊢
    refine pu_ 0 (some 71) (yx 1 15) ?_
    refine pu_ 1 (some 72) (yx 2 14) ?_
    refine pu_ 2 (some 73) (yx 3 13) ?_
    refine pu_ 3 (some 74) (yx 4 12) ?_
    refine pu_ 4 (some 75) (yx 5 11) ?_
    refine pu_ 5 (some 76) (yx 6 10) ?_
    refine pu_ 6 (some 77) (yx 7 9) ?_
    refine pu_ 7 (some 78) (yx 8 8) ?_
    refine pu_ 8 (some 79) (yx 9 7) ?_
    refine pu_ 9 (some 80) (yx 10 6) ?_
    refine pu_ 11 (some 82) (rl [10, 1, 1, 4]) ?_
    refine join_ (σ := Value) 2 (yx 14 2) (fun s_ => [(81, .string (strOfNums t341)), (83, s_), (84, .string (strOfNums t356))]) (fun s_ w' => (Kd.R (Kd.int .u8) 5 w' w.heap.size (fun k_ => some k_ ≠ (.slice Ao21 t344.length co21 : Value).ownBlock ∧ some k_ ≠ (v333 : Value).ownBlock ∧ some k_ ≠ (.slice Ao17 t335.length co17 : Value).ownBlock ∧ some k_ ≠ (v342 : Value).ownBlock) s_ t356) ∧ (Kd.R (Kd.int .u8) 5 w' w.heap.size (fun k_ => some k_ ≠ (s_ : Value).ownBlock ∧ some k_ ≠ (v333 : Value).ownBlock ∧ some k_ ≠ (.slice Ao17 t335.length co17 : Value).ownBlock ∧ some k_ ≠ (v342 : Value).ownBlock) (.slice Ao21 t344.length co21) t344) ∧ (Kd.R (Kd.int .u8) 5 w' w.heap.size (fun k_ => some k_ ≠ (s_ : Value).ownBlock ∧ some k_ ≠ (.slice Ao21 t344.length co21 : Value).ownBlock ∧ some k_ ≠ (.slice Ao17 t335.length co17 : Value).ownBlock ∧ some k_ ≠ (v342 : Value).ownBlock) v333 t332) ∧ (Kd.R (Kd.int .u8) 5 w' w.heap.size (fun k_ => some k_ ≠ (s_ : Value).ownBlock ∧ some k_ ≠ (.slice Ao21 t344.length co21 : Value).ownBlock ∧ some k_ ≠ (v333 : Value).ownBlock ∧ some k_ ≠ (v342 : Value).ownBlock) (.slice Ao17 t335.length co17) t335) ∧ (Kd.R (Kd.int .u8) 5 w' w.heap.size (fun k_ => some k_ ≠ (s_ : Value).ownBlock ∧ some k_ ≠ (.slice Ao21 t344.length co21 : Value).ownBlock ∧ some k_ ≠ (v333 : Value).ownBlock ∧ some k_ ≠ (.slice Ao17 t335.length co17 : Value).ownBlock) v342 t341) ∧ (Below w.heap.size w w')) ?_ ?_
    rotate_left
    {
    intro hCont
    refine two_ (i := 10) (j := 12) (Ni := some 81) (Nj := some 83) (yx 12 4) (rl [10, 1, 2, 3]) rfl rfl rfl rfl (two_of HT_.out (by kernel_rfl)) (by decide) (by decide) (fun K hK => ?_) (fun K hK => ?_)
    {
    as_aux_lemma =>
    skip
    have hcv39 := own_string (P := Try.prog) Try.underlying22 Try.underlying5 Try.underlying9 (Kd.own_of_R HO_9.out); have hcv39d := fun (nq_ : Nat) => own_string (P := Try.prog) Try.underlying22 Try.underlying5 Try.underlying9 (Kd.own_of_R (Kd.R_drewN HO_9.out nq_))
    refine value_ (w1 := ?_) (v := ?_) (by rfl) rfl ?_ ?_
    rotate_left 2
    {
    go_simp
    constructor
    {
    rfl
    }
    {
    rfl
    }
    }
    clear hcv39 hcv39d
    refine hK.out _ _ trivial (fun hHeld => ?_)
    clear hK K
    refine norm_ (nz_ 81) ?_
    refine one_ (i := 12) (N := some 83) (yx 13 3) rfl rfl (one_of HT_.out (by kernel_rfl)) (by decide) (fun K hK => ?_)
    refine goes_ Try.func22 (by kernel_rfl) rfl #[.string t340] (by rfl) rfl rfl z13h ?_
    with_reducible refine (spec_Text.calls kj12 t340 t356 _ A37.out).mono ?_
    rintro e w40 ⟨v357, rfl, ho0, hb⟩
    refine ⟨_, rfl, ?_⟩
    have n0_ := A_ (Kd.R_elder' z13d (Kd.R_base ho0) hb)
    have n1_ := A_ (Kd.R_elder' z13e (Kd.R_base ho0) hb)
    have n2_ := A_ (Kd.R_elder' z13k (Kd.R_base ho0) hb)
    have n3_ := A_ (Kd.R_elder' z13c (Kd.R_base ho0) hb)
    have n4_ := A_ (Kd.R_lower (Kd.R_new' (Kd.R_new' (Kd.R_new' (Kd.R_new' ho0 (Kd.R_lt z13d)) (Kd.R_lt z13e)) (Kd.R_lt z13k)) (Kd.R_lt z13c)) (below_size z13b))
    have n5_ := A_ (below_step z13b hb)
    clear HO_4
    clear HO_5
    clear HO_9
    clear HO_10
    clear HB
    have HO_4 := n0_
    have HO_5 := n1_
    have HO_9 := n2_
    have HO_10 := n3_
    have HO358 := n4_
    have HB := n5_
    clear n0_ n1_ n2_ n3_ n4_ n5_
    refine hK.out _ _ trivial (fun hHeld => ?_)
    clear hK K
    refine norm_ (nz_ 83) ?_
    refine one_ (i := 13) (N := some 84) (yx 14 2) rfl rfl (one_of HT_.out (by kernel_rfl)) (by decide) (fun K hK => ?_)
    have hcv41 := own_string (P := Try.prog) Try.underlying22 Try.underlying5 Try.underlying9 (Kd.own_of_R HO358.out)
    refine value_ (w1 := ?_) (v := ?_) (by rfl) rfl ?_ ?_
    rotate_left 2
    {
    go_simp
    constructor
    {
    rfl
    }
    {
    rfl
    }
    }
    clear hcv41
    refine hK.out _ _ trivial (fun hHeld => ?_)
    clear hK K
    refine norm_ (nz_ 84) ?_
    exact norm_ z13r (hCont (v357) _ ⟨(by (with_reducible repeat (first | apply Kd.R_alloc | apply Kd.R_drewN | apply Kd.R_drew)); exact Kd.R_mono HO358.out (fun _ hk => ⟨hk.2, ⟨hk.1.1.1.2, ⟨hk.1.1.2, hk.1.2⟩⟩⟩)), (by (with_reducible repeat (first | apply Kd.R_alloc | apply Kd.R_drewN | apply Kd.R_drew)); exact Kd.R_mono HO_10.out (fun _ hk => ⟨hk.2, ⟨hk.1.1, ⟨hk.1.2.1, hk.1.2.2⟩⟩⟩)), (by (with_reducible repeat (first | apply Kd.R_alloc | apply Kd.R_drewN | apply Kd.R_drew)); exact Kd.R_mono HO_4.out (fun _ hk => ⟨hk.2, ⟨hk.1.2.2, ⟨hk.1.1, hk.1.2.1⟩⟩⟩)), (by (with_reducible repeat (first | apply Kd.R_alloc | apply Kd.R_drewN | apply Kd.R_drew)); exact Kd.R_mono HO_5.out (fun _ hk => ⟨hk.2, ⟨hk.1.2.2, ⟨hk.1.1, hk.1.2.1⟩⟩⟩)), (by (with_reducible repeat (first | apply Kd.R_alloc | apply Kd.R_drewN | apply Kd.R_drew)); exact Kd.R_mono HO_9.out (fun _ hk => ⟨hk.2, ⟨hk.1.2.2, ⟨hk.1.1, hk.1.2.1⟩⟩⟩)), z13b⟩)
    }
    {
    as_aux_lemma =>
    skip
    refine goes_ Try.func22 (by kernel_rfl) rfl #[.string t340] (by rfl) rfl rfl z13h ?_
    with_reducible refine (spec_Text.calls kj12 t340 t356 _ A37.out).mono ?_
    rintro e w39 ⟨v357, rfl, ho0, hb⟩
    refine ⟨_, rfl, ?_⟩
    have n0_ := A_ (Kd.R_elder' z13d (Kd.R_base ho0) hb)
    have n1_ := A_ (Kd.R_elder' z13e (Kd.R_base ho0) hb)
    have n2_ := A_ (Kd.R_elder' z13k (Kd.R_base ho0) hb)
    have n3_ := A_ (Kd.R_elder' z13c (Kd.R_base ho0) hb)
    have n4_ := A_ (Kd.R_lower (Kd.R_new' (Kd.R_new' (Kd.R_new' (Kd.R_new' ho0 (Kd.R_lt z13d)) (Kd.R_lt z13e)) (Kd.R_lt z13k)) (Kd.R_lt z13c)) (below_size z13b))
    have n5_ := A_ (below_step z13b hb)
    clear HO_4
    clear HO_5
    clear HO_9
    clear HO_10
    clear HB
    have HO_4 := n0_
    have HO_5 := n1_
    have HO_9 := n2_
    have HO_10 := n3_
    have HO358 := n4_
    have HB := n5_
    clear n0_ n1_ n2_ n3_ n4_ n5_
    refine hK.out _ _ trivial (fun hHeld => ?_)
    clear hK K
    refine norm_ (nz_ 83) ?_
    refine two_ (i := 10) (j := 13) (Ni := some 81) (Nj := some 84) (yx 13 3) (rl [10, 1, 3, 2]) rfl rfl rfl rfl (two_of HT_.out (by kernel_rfl)) (by decide) (by decide) (fun K hK => ?_) (fun K hK => ?_)
    {
    skip
    have hcv40 := own_string (P := Try.prog) Try.underlying22 Try.underlying5 Try.underlying9 (Kd.own_of_R HO_9.out); have hcv40d := fun (nq_ : Nat) => own_string (P := Try.prog) Try.underlying22 Try.underlying5 Try.underlying9 (Kd.own_of_R (Kd.R_drewN HO_9.out nq_))
    refine value_ (w1 := ?_) (v := ?_) (by rfl) rfl ?_ ?_
    rotate_left 2
    {
    go_simp
    constructor
    {
    rfl
    }
    {
    rfl
    }
    }
    clear hcv40 hcv40d
    refine hK.out _ _ trivial (fun hHeld => ?_)
    clear hK K
    refine norm_ (nz_ 81) ?_
    refine one_ (i := 13) (N := some 84) (yx 14 2) rfl rfl (one_of HT_.out (by kernel_rfl)) (by decide) (fun K hK => ?_)
    have hcv41 := own_string (P := Try.prog) Try.underlying22 Try.underlying5 Try.underlying9 (Kd.own_of_R HO358.out)
    refine value_ (w1 := ?_) (v := ?_) (by rfl) rfl ?_ ?_
    rotate_left 2
    {
    go_simp
    constructor
    {
    rfl
    }
    {
    rfl
    }
    }
    clear hcv41
    refine hK.out _ _ trivial (fun hHeld => ?_)
    clear hK K
    refine norm_ (nz_ 84) ?_
    exact norm_ z13r (hCont (v357) _ ⟨(by (with_reducible repeat (first | apply Kd.R_alloc | apply Kd.R_drewN | apply Kd.R_drew)); exact Kd.R_mono HO358.out (fun _ hk => ⟨hk.2, ⟨hk.1.1.1.2, ⟨hk.1.1.2, hk.1.2⟩⟩⟩)), (by (with_reducible repeat (first | apply Kd.R_alloc | apply Kd.R_drewN | apply Kd.R_drew)); exact Kd.R_mono HO_10.out (fun _ hk => ⟨hk.2, ⟨hk.1.1, ⟨hk.1.2.1, hk.1.2.2⟩⟩⟩)), (by (with_reducible repeat (first | apply Kd.R_alloc | apply Kd.R_drewN | apply Kd.R_drew)); exact Kd.R_mono HO_4.out (fun _ hk => ⟨hk.2, ⟨hk.1.2.2, ⟨hk.1.1, hk.1.2.1⟩⟩⟩)), (by (with_reducible repeat (first | apply Kd.R_alloc | apply Kd.R_drewN | apply Kd.R_drew)); exact Kd.R_mono HO_5.out (fun _ hk => ⟨hk.2, ⟨hk.1.2.2, ⟨hk.1.1, hk.1.2.1⟩⟩⟩)), (by (with_reducible repeat (first | apply Kd.R_alloc | apply Kd.R_drewN | apply Kd.R_drew)); exact Kd.R_mono HO_9.out (fun _ hk => ⟨hk.2, ⟨hk.1.2.2, ⟨hk.1.1, hk.1.2.1⟩⟩⟩)), z13b⟩)
    }
    {
    skip
    have hcv40 := own_string (P := Try.prog) Try.underlying22 Try.underlying5 Try.underlying9 (Kd.own_of_R HO358.out)
    refine value_ (w1 := ?_) (v := ?_) (by rfl) rfl ?_ ?_
    rotate_left 2
    {
    go_simp
    constructor
    {
    rfl
    }
    {
    rfl
    }
    }
    clear hcv40
    refine hK.out _ _ trivial (fun hHeld => ?_)
    clear hK K
    refine norm_ (nz_ 84) ?_
    refine one_ (i := 10) (N := some 81) (yx 14 2) rfl rfl (one_of HT_.out (by kernel_rfl)) (by decide) (fun K hK => ?_)
    have hcv41 := own_string (P := Try.prog) Try.underlying22 Try.underlying5 Try.underlying9 (Kd.own_of_R HO_9.out); have hcv41d := fun (nq_ : Nat) => own_string (P := Try.prog) Try.underlying22 Try.underlying5 Try.underlying9 (Kd.own_of_R (Kd.R_drewN HO_9.out nq_))
    refine value_ (w1 := ?_) (v := ?_) (by rfl) rfl ?_ ?_
    rotate_left 2
    {
    go_simp
    constructor
    {
    rfl
    }
    {
    rfl
    }
    }
    clear hcv41 hcv41d
    refine hK.out _ _ trivial (fun hHeld => ?_)
    clear hK K
    refine norm_ (nz_ 81) ?_
    exact norm_ z13r (hCont (v357) _ ⟨(by (with_reducible repeat (first | apply Kd.R_alloc | apply Kd.R_drewN | apply Kd.R_drew)); exact Kd.R_mono HO358.out (fun _ hk => ⟨hk.2, ⟨hk.1.1.1.2, ⟨hk.1.1.2, hk.1.2⟩⟩⟩)), (by (with_reducible repeat (first | apply Kd.R_alloc | apply Kd.R_drewN | apply Kd.R_drew)); exact Kd.R_mono HO_10.out (fun _ hk => ⟨hk.2, ⟨hk.1.1, ⟨hk.1.2.1, hk.1.2.2⟩⟩⟩)), (by (with_reducible repeat (first | apply Kd.R_alloc | apply Kd.R_drewN | apply Kd.R_drew)); exact Kd.R_mono HO_4.out (fun _ hk => ⟨hk.2, ⟨hk.1.2.2, ⟨hk.1.1, hk.1.2.1⟩⟩⟩)), (by (with_reducible repeat (first | apply Kd.R_alloc | apply Kd.R_drewN | apply Kd.R_drew)); exact Kd.R_mono HO_5.out (fun _ hk => ⟨hk.2, ⟨hk.1.2.2, ⟨hk.1.1, hk.1.2.1⟩⟩⟩)), (by (with_reducible repeat (first | apply Kd.R_alloc | apply Kd.R_drewN | apply Kd.R_drew)); exact Kd.R_mono HO_9.out (fun _ hk => ⟨hk.2, ⟨hk.1.2.2, ⟨hk.1.1, hk.1.2.1⟩⟩⟩)), z13b⟩)
    }
    }
    }
    rintro v357 w42 ⟨h0_, h1_, h2_, h3_, h4_, h5_⟩
    have n0_ : Aside0 (Kd.R (Kd.int .u8) 5 w42 w.heap.size (fun k_ => some k_ ≠ (.slice Ao21 t344.length co21 : Value).ownBlock ∧ some k_ ≠ (v333 : Value).ownBlock ∧ some k_ ≠ (.slice Ao17 t335.length co17 : Value).ownBlock ∧ some k_ ≠ (v342 : Value).ownBlock) v357 t356) := ⟨h0_⟩
    have n1_ : Aside0 (Kd.R (Kd.int .u8) 5 w42 w.heap.size (fun k_ => some k_ ≠ (v357 : Value).ownBlock ∧ some k_ ≠ (v333 : Value).ownBlock ∧ some k_ ≠ (.slice Ao17 t335.length co17 : Value).ownBlock ∧ some k_ ≠ (v342 : Value).ownBlock) (.slice Ao21 t344.length co21) t344) := ⟨h1_⟩
    have n2_ : Aside0 (Kd.R (Kd.int .u8) 5 w42 w.heap.size (fun k_ => some k_ ≠ (v357 : Value).ownBlock ∧ some k_ ≠ (.slice Ao21 t344.length co21 : Value).ownBlock ∧ some k_ ≠ (.slice Ao17 t335.length co17 : Value).ownBlock ∧ some k_ ≠ (v342 : Value).ownBlock) v333 t332) := ⟨h2_⟩
    have n3_ : Aside0 (Kd.R (Kd.int .u8) 5 w42 w.heap.size (fun k_ => some k_ ≠ (v357 : Value).ownBlock ∧ some k_ ≠ (.slice Ao21 t344.length co21 : Value).ownBlock ∧ some k_ ≠ (v333 : Value).ownBlock ∧ some k_ ≠ (v342 : Value).ownBlock) (.slice Ao17 t335.length co17) t335) := ⟨h3_⟩
    have n4_ : Aside0 (Kd.R (Kd.int .u8) 5 w42 w.heap.size (fun k_ => some k_ ≠ (v357 : Value).ownBlock ∧ some k_ ≠ (.slice Ao21 t344.length co21 : Value).ownBlock ∧ some k_ ≠ (v333 : Value).ownBlock ∧ some k_ ≠ (.slice Ao17 t335.length co17 : Value).ownBlock) v342 t341) := ⟨h4_⟩
    have n5_ : Aside0 (Below w.heap.size w w42) := ⟨h5_⟩
    clear HO_4
    clear HO_5
    clear HO_9
    clear HO_10
    clear HB
    clear h0_ h1_ h2_ h3_ h4_ h5_
    have HO358 := n0_
    have HO_10 := n1_
    have HO_4 := n2_
    have HO_5 := n3_
    have HO_9 := n4_
    have HB := n5_
    clear n0_ n1_ n2_ n3_ n4_ n5_
    have hHeld := trivial
    refine norm_ (a' := ?_) ?_ ?_
    rotate_left
    exact z13m
    refine pu_ 14 (some 85) (yx 15 1) ?_
    refine pu_ 15 (some 86) (yx 16 0) ?_
    refine done_ (done_of HT_.out (by kernel_rfl)) ?_
    try go_wp2
    go_meet
    case rel => exact ⟨_, (((strOfNums t341).toList != (strOfNums t356).toList)), (by first | rfl | (simp; done) | (simp [*]; done)), H', ⟨by have := HJ12.out; first | omega | exact Nat.le_refl _⟩, ⟨by (with_reducible repeat (first | apply Kd.R_alloc | apply Kd.R_drewN | apply Kd.R_drew)); exact Kd.R_mono HO_4.out (fun _ hk => ⟨hk.2.2.1, ⟨hk.2.2.2, hk.2.1⟩⟩)⟩, ⟨by (with_reducible repeat (first | apply Kd.R_alloc | apply Kd.R_drewN | apply Kd.R_drew)); exact Kd.R_mono HO_5.out (fun _ hk => ⟨hk.2.2.1, ⟨hk.2.2.2, hk.2.1⟩⟩)⟩, ⟨by (with_reducible repeat (first | apply Kd.R_alloc | apply Kd.R_drewN | apply Kd.R_drew)); exact Kd.R_mono HO_9.out (fun _ hk => ⟨hk.2.2.1, ⟨hk.2.2.2, hk.2.1⟩⟩)⟩, ⟨by (with_reducible repeat (first | apply Kd.R_alloc | apply Kd.R_drewN | apply Kd.R_drew)); exact Kd.R_mono HO_10.out (fun _ hk => ⟨hk.2.1, ⟨hk.2.2.1, hk.2.2.2⟩⟩)⟩, ⟨by repeat (first | (with_reducible first | exact HB.out | apply below_alloc | apply pw_below_drewN | apply below_drew1) | exact HB.out)⟩⟩
    }
    {
    as_aux_lemma =>
    rw [if_neg c36] at H
    have c36b0 : (t348 == t355) = false := beq_eq_false_iff_ne.mpr c36
    have c36b1 : (t348 != t355) = true := bne_iff_ne.mpr c36
    have H' := A_ H
    clear H
    try go_wp2
    replace HO_4 := A_ (Kd.R_drew HO_4.out)
    replace HO_5 := A_ (Kd.R_drew HO_5.out)
    replace HO_9 := A_ (Kd.R_drew HO_9.out)
    replace HO_10 := A_ (Kd.R_drew HO_10.out)
    replace HB := A_ (below_drew1 HB.out)
    refine start_ (n := 16) (S := fun w' => True) (ds := []) (yx 0 16) (by kernel_rfl) rfl rfl trivial (fun hHeld => ?_); refine with_tabW laws_FnRows.tab15 laws_FnRows.bits15 (fun HT_ HW_ => ?_)
    generalize wc.drew = w43 at HO_4 HO_5 HO_9 HO_10 HB hHeld ⊢
    refine pu_ 0 (some 71) (yx 1 15) ?_
    refine pu_ 1 (some 72) (yx 2 14) ?_
    refine pu_ 2 (some 73) (yx 3 13) ?_
    refine pu_ 3 (some 74) (yx 4 12) ?_
    refine pu_ 4 (some 75) (yx 5 11) ?_
    refine pu_ 5 (some 76) (yx 6 10) ?_
    refine pu_ 6 (some 77) (yx 7 9) ?_
    refine pu_ 7 (some 78) (yx 8 8) ?_
    refine pu_ 8 (some 79) (yx 9 7) ?_
    refine pn_ 9 (some 80) (yx 10 6) ?_
    refine pn_ 10 (some 81) (yx 11 5) ?_
    refine pn_ 11 (some 82) (yx 12 4) ?_
    refine pn_ 12 (some 83) (yx 13 3) ?_
    refine pn_ 13 (some 84) (yx 14 2) ?_
    refine pn_ 14 (some 85) (yx 15 1) ?_
    refine pu_ 15 (some 86) (yx 16 0) ?_
    refine done_ (done_of HT_.out (by kernel_rfl)) ?_
    try go_wp2
    go_meet
    case rel => exact ⟨_, (true), (by first | rfl | (simp; done) | (simp [*]; done)), H', ⟨by have := HJ12.out; first | omega | exact Nat.le_refl _⟩, ⟨by (with_reducible repeat (first | apply Kd.R_alloc | apply Kd.R_drewN | apply Kd.R_drew)); exact HO_4.out⟩, ⟨by (with_reducible repeat (first | apply Kd.R_alloc | apply Kd.R_drewN | apply Kd.R_drew)); exact HO_5.out⟩, ⟨by (with_reducible repeat (first | apply Kd.R_alloc | apply Kd.R_drewN | apply Kd.R_drew)); exact HO_9.out⟩, ⟨by (with_reducible repeat (first | apply Kd.R_alloc | apply Kd.R_drewN | apply Kd.R_drew)); exact HO_10.out⟩, ⟨by repeat (first | (with_reducible first | exact HB.out | apply below_alloc | apply pw_below_drewN | apply below_drew1) | exact HB.out)⟩⟩
    }
    }
    {
    as_aux_lemma =>
    rw [if_neg c35] at H
    have c35b0 : (t347.toList == t354.toList) = false := beq_eq_false_iff_ne.mpr c35
    have c35b1 : (t347.toList != t354.toList) = true := bne_iff_ne.mpr c35
    (first | rw [c35b0] | (simp only [i64_w, i32_w]; rw [c35b0]) | skip)
    have H' := A_ H
    clear H
    try go_wp2
    replace HO_4 := A_ (Kd.R_drew HO_4.out)
    replace HO_5 := A_ (Kd.R_drew HO_5.out)
    replace HO_9 := A_ (Kd.R_drew HO_9.out)
    replace HO_10 := A_ (Kd.R_drew HO_10.out)
    replace HB := A_ (below_drew1 HB.out)
    refine start_ (n := 16) (S := fun w' => True) (ds := []) (yx 0 16) (by kernel_rfl) rfl rfl trivial (fun hHeld => ?_); refine with_tabW laws_FnRows.tab15 laws_FnRows.bits15 (fun HT_ HW_ => ?_)
    generalize wc.drew = w44 at HO_4 HO_5 HO_9 HO_10 HB hHeld ⊢
    refine pu_ 0 (some 71) (yx 1 15) ?_
    refine pu_ 1 (some 72) (yx 2 14) ?_
    refine pu_ 2 (some 73) (yx 3 13) ?_
    refine pu_ 3 (some 74) (yx 4 12) ?_
    refine pn_ 4 (some 75) (yx 5 11) ?_
    refine pn_ 5 (some 76) (yx 6 10) ?_
    refine pn_ 6 (some 77) (yx 7 9) ?_
    refine pu_ 7 (some 78) (yx 8 8) ?_
    refine pu_ 8 (some 79) (yx 9 7) ?_
    refine pn_ 9 (some 80) (yx 10 6) ?_
    refine pn_ 10 (some 81) (yx 11 5) ?_
    refine pn_ 11 (some 82) (yx 12 4) ?_
    refine pn_ 12 (some 83) (yx 13 3) ?_
    refine pn_ 13 (some 84) (yx 14 2) ?_
    refine pn_ 14 (some 85) (yx 15 1) ?_
    refine pu_ 15 (some 86) (yx 16 0) ?_
    refine done_ (done_of HT_.out (by kernel_rfl)) ?_
    try go_wp2
    go_meet
    case rel => exact ⟨_, (true), (by first | rfl | (simp; done) | (simp [*]; done)), H', ⟨by have := HJ12.out; first | omega | exact Nat.le_refl _⟩, ⟨by (with_reducible repeat (first | apply Kd.R_alloc | apply Kd.R_drewN | apply Kd.R_drew)); exact HO_4.out⟩, ⟨by (with_reducible repeat (first | apply Kd.R_alloc | apply Kd.R_drewN | apply Kd.R_drew)); exact HO_5.out⟩, ⟨by (with_reducible repeat (first | apply Kd.R_alloc | apply Kd.R_drewN | apply Kd.R_drew)); exact HO_9.out⟩, ⟨by (with_reducible repeat (first | apply Kd.R_alloc | apply Kd.R_drewN | apply Kd.R_drew)); exact HO_10.out⟩, ⟨by repeat (first | (with_reducible first | exact HB.out | apply below_alloc | apply pw_below_drewN | apply below_drew1) | exact HB.out)⟩⟩
    }
   case rest =>
    clear HC34
    try clear c2
    try clear p2
    try clear c3
    try clear hcv3
    try clear hcv4
    try clear c22
    try clear c35
    try clear c35b0
    try clear c35b1
    try clear c36
    try clear c36b0
    try clear c36b1
    try clear hcv39
    try clear hcv40
    try clear hcv41
    obtain ⟨kq, x86_33, rfl, HA, HJ33, HO_4, HO_5, HO_9, HO_10, HB⟩ := hcut
    cases kq with
    | zero => exact absurd HA.out (by simp [laws_FnRows.j1])
    | succ kj33 =>
     have H := HA.out
     clear HA
     simp only [laws_FnRows.j1] at H
     by_cases c45 : x86_33 = true
     {
     subst c45
     rw [if_pos rfl] at H
     obtain rfl := Option.some.inj H
     go_wp2
     go_ret
     exact ⟨by first | rfl | (simp [errW_none, errW_some] <;> rfl) | (simp [*, errW_none, errW_some] <;> rfl), by repeat (first | (with_reducible first | exact HB.out | apply below_alloc | apply pw_below_drewN | apply below_drew1) | exact HB.out)⟩
     }
     {
     as_aux_lemma =>
     replace c45 := Bool.eq_false_iff.mpr c45
     subst c45
     rw [if_neg Bool.false_ne_true] at H
     have HC46 := A_ H
     clear H
     obtain ⟨Ao47, co47, eo47⟩ := Kd.R_slice HO_4.out
     subst eo47
     go_upto_if 89 with (fail)
     go_cut [] (fun wc => ∃ (kq : Nat), Aside0 (laws_FnRows.j2 kq t331 t332 t335 t338 t339 t340 t341 t344 t347 t348 = some r) ∧ Aside0 (kq ≤ kj33) ∧ Aside0 (Kd.R (Kd.int .u8) 5 wc w.heap.size (fun k_ => some k_ ≠ ((.slice Ao17 t335.length co17) : Value).ownBlock ∧ some k_ ≠ (v342 : Value).ownBlock ∧ some k_ ≠ ((.slice Ao21 t344.length co21) : Value).ownBlock) (.slice Ao47 t332.length co47) t332) ∧ Aside0 (Kd.R (Kd.int .u8) 5 wc w.heap.size (fun k_ => some k_ ≠ ((.slice Ao47 t332.length co47) : Value).ownBlock ∧ some k_ ≠ (v342 : Value).ownBlock ∧ some k_ ≠ ((.slice Ao21 t344.length co21) : Value).ownBlock) (.slice Ao17 t335.length co17) t335) ∧ Aside0 (Kd.R (Kd.int .u8) 5 wc w.heap.size (fun k_ => some k_ ≠ ((.slice Ao47 t332.length co47) : Value).ownBlock ∧ some k_ ≠ ((.slice Ao17 t335.length co17) : Value).ownBlock ∧ some k_ ≠ ((.slice Ao21 t344.length co21) : Value).ownBlock) v342 t341) ∧ Aside0 (Kd.R (Kd.int .u8) 5 wc w.heap.size (fun k_ => some k_ ≠ ((.slice Ao47 t332.length co47) : Value).ownBlock ∧ some k_ ≠ ((.slice Ao17 t335.length co17) : Value).ownBlock ∧ some k_ ≠ (v342 : Value).ownBlock) (.slice Ao21 t344.length co21) t344) ∧ Aside0 (Below w.heap.size w wc))
     case first =>
      have H := HC46.out
      clear HC46
      by_cases c48 : (t332.length : Int) > 0
      {
      as_aux_lemma =>
      rw [if_pos c48] at H
      have c48b0 : decide (0 < (t332.length : Int)) = true := decide_eq_true c48
      have c48b1 : decide (0 < t332.length) = true := decide_eq_true (by omega)
      clear c48
      (first | rw [c48b0] | rw [c48b1] | (simp only [i64_w, i32_w]; rw [c48b0]) | skip)
      obtain ⟨y359, hy359⟩ : ∃ y_ : List Int, y_ = (([] : List Int)) := ⟨_, rfl⟩
      replace H : (if y359.length + t332.length < 140737488355328 then ((some (y359 ++ t332 : List Int)).bind fun y362 => (if y362.length + t335.length < 140737488355328 then ((impl_ReadNumber.f kj33 (y362 ++ t335)).bind fun bt368 => (if bt368.1 = t331 then (if bt368.2 = (t332.length : Int) then (laws_FnRows.j2 kj33 t331 t332 t335 t338 t339 t340 t341 t344 t347 t348) else (some false)) else (some false))) else (none))) else (none)) = some r := by first | (rw [hy359]; with_reducible exact H) | (have H2_ := (Option.bind_some _ _).symm.trans H; rw [hy359]; with_reducible exact H2_) | (have H2_ := (Option.bind_some _ _).symm.trans H; with_reducible exact H2_) | with_reducible exact H | (rw [hy359]; exact H) | exact H
      have Ny359 := A_ hy359
      clear hy359
      by_cases c49 : y359.length + t332.length < 140737488355328
      {
      as_aux_lemma =>
      rw [if_pos c49] at H
      have LMc49 := A_ c49
      clear c49
      obtain ⟨y362, hy362⟩ : ∃ y_ : List Int, y_ = (y359 ++ t332) := ⟨_, rfl⟩
      replace H : (if y362.length + t335.length < 140737488355328 then ((impl_ReadNumber.f kj33 (y362 ++ t335)).bind fun bt368 => (if bt368.1 = t331 then (if bt368.2 = (t332.length : Int) then (laws_FnRows.j2 kj33 t331 t332 t335 t338 t339 t340 t341 t344 t347 t348) else (some false)) else (some false))) else (none)) = some r := by first | (rw [hy362]; with_reducible exact H) | (have H2_ := (Option.bind_some _ _).symm.trans H; rw [hy362]; with_reducible exact H2_) | (have H2_ := (Option.bind_some _ _).symm.trans H; with_reducible exact H2_) | with_reducible exact H | (rw [hy362]; exact H) | exact H
      have Ny362 := A_ hy362
      clear hy362
      by_cases c50 : y362.length + t335.length < 140737488355328
      {
      rw [if_pos c50] at H
      have LMc50 := A_ c50
      clear c50
      obtain ⟨y365, hy365⟩ : ∃ y_ : List Int, y_ = (y362 ++ t335) := ⟨_, rfl⟩
      replace H : ((impl_ReadNumber.f kj33 y365).bind fun bt368 => (if bt368.1 = t331 then (if bt368.2 = (t332.length : Int) then (laws_FnRows.j2 kj33 t331 t332 t335 t338 t339 t340 t341 t344 t347 t348) else (some false)) else (some false))) = some r := by first | (rw [hy365]; with_reducible exact H) | (have H2_ := (Option.bind_some _ _).symm.trans H; rw [hy365]; with_reducible exact H2_) | (have H2_ := (Option.bind_some _ _).symm.trans H; with_reducible exact H2_) | with_reducible exact H | (rw [hy365]; exact H) | exact H
      have Ny365 := A_ hy365
      clear hy365
      replace H := Option.bind_eq_some_iff.mp H
      obtain ⟨⟨t368, t369⟩, A510, H⟩ := H
      (try dsimp only at H)
      have A51 := A_ A510
      clear A510
      by_cases c52 : t368 = t331
      {
      rw [if_pos c52] at H
      have c52b0 : (t368 == t331) = true := beq_iff_eq.mpr c52
      have c52b1 : (t368 != t331) = false := bne_eq_false_iff_eq.mpr c52
      clear c52
      by_cases c53 : t369 = (t332.length : Int)
      {
      rw [if_pos c53] at H
      have c53b0 : (t369 == (t332.length : Int)) = true := beq_iff_eq.mpr c53
      have c53b1 : (t369 != (t332.length : Int)) = false := bne_eq_false_iff_eq.mpr c53
      clear c53
      have H' := A_ H
      clear H
      go_wp2_with (first | ((with_reducible refine gate_dst (N := 91) rfl ?_); (try (refine gate_guard (by rfl) ?_; dsimp only)); refine Kd.R_lit (Kd.int .u8) _ 5 ?hg (N := 91) ?hd (xs := ([] : List Int)) (inner := []) (ok := fun _ => True) (okp := fun _ => True) ?hr ?hp (fun _ hk => hk) trivial (Below.refl _ _) (Nat.le_refl _) (by simp) ?_; (case hd => rfl); (case hg => rfl); (case hr => first | (go_simp; done) | (go_simp; rfl)); (case hp => exact (Reps.none _ _)); intro v360 w54 ho55 hb hg_ hnew_; clear hg_ hnew_; (first | rw [← Ny359.out] at ho55 | (simp only [Int.reduceToNat] at ho55; rw [← Ny359.out] at ho55)); have n0_ := A_ (Kd.R_elder' z13d (Kd.R_base ho55) hb); have n1_ := A_ (Kd.R_elder' z13e (Kd.R_base ho55) hb); have n2_ := A_ (Kd.R_elder' z13k (Kd.R_base ho55) hb); have n3_ := A_ (Kd.R_elder' z13c (Kd.R_base ho55) hb); have n4_ := A_ (Kd.R_lower (Kd.R_new' (Kd.R_new' (Kd.R_new' (Kd.R_new' ho55 (Kd.R_lt z13d)) (Kd.R_lt z13e)) (Kd.R_lt z13k)) (Kd.R_lt z13c)) (below_size z13b)); have n5_ := A_ (below_step z13b hb); clear HO_4; clear HO_5; clear HO_9; clear HO_10; clear HB; have HO_4 := n0_; have HO_5 := n1_; have HO_9 := n2_; have HO_10 := n3_; have HO361 := n4_; have HB := n5_; clear n0_ n1_ n2_ n3_ n4_ n5_; clear hb ho55) | ((with_reducible refine gate_builtin (b := .append) (xs := #[.tmp 91, .tmp 92]) rfl ?_); (try (refine gate_guard (by rfl) ?_; dsimp only)); at_builtin; refine Kd.R_append_rows (Kd.int .u8) (w0 := w) w.heap.size rfl (.tmp 91) (.tmp 92) 22 5 (.int .u8 0) 1 rfl Try.underlying22 info5 rfl (by decide) (by omega) v360 y359 t332 _ _ _ (fun k_ => some k_ ≠ (.slice Ao47 t332.length co47 : Value).ownBlock ∧ some k_ ≠ (.slice Ao17 t335.length co17 : Value).ownBlock ∧ some k_ ≠ (v342 : Value).ownBlock ∧ some k_ ≠ (.slice Ao21 t344.length co21 : Value).ownBlock) (fun _ => False) rfl rfl ?aO ?aR (fun _ _ h => h) (fun _ h => h.elim) ?aF ?aB ?aS ?aL ?_; (case aR => exact (by repeat (first | exact (Kd.R_reads' HO_4.out).2.2 | (with_reducible refine Kd.C_alloc ?_ _) | (with_reducible refine Kd.C_drewN ?_ _) | (with_reducible refine Kd.C_drew ?_)))); (case aB => exact z13b); (case aF => exact (fun k_ hk => ⟨Kd.fresh' (Kd.R_lt z13d) k_ hk, Kd.fresh' (Kd.R_lt z13e) k_ hk, Kd.fresh' (Kd.R_lt z13k) k_ hk, Kd.fresh' (Kd.R_lt z13c) k_ hk⟩)); (case aO => exact (by (with_reducible repeat (first | apply Kd.R_alloc | apply Kd.R_drewN | apply Kd.R_drew)); exact Kd.R_mono HO361.out (fun _ hk => ⟨hk.1.1.1.2, ⟨hk.1.1.2, ⟨hk.1.2, hk.2⟩⟩⟩))); (case aS => exact (below_size z13b)); (case aL => have := LMc49.out; omega); intro v363 w56 ho hb hg hat; rw [← Ny362.out] at ho; have n0_ := A_ (Kd.R_after (ok := (fun k_ => some k_ ≠ (.slice Ao17 t335.length co17 : Value).ownBlock ∧ some k_ ≠ (v342 : Value).ownBlock ∧ some k_ ≠ (.slice Ao21 t344.length co21 : Value).ownBlock)) z13d hg hat); have n1_ := A_ (Kd.R_after (ok := (fun k_ => some k_ ≠ (.slice Ao47 t332.length co47 : Value).ownBlock ∧ some k_ ≠ (v342 : Value).ownBlock ∧ some k_ ≠ (.slice Ao21 t344.length co21 : Value).ownBlock)) z13e hg hat); have n2_ := A_ (Kd.R_after (ok := (fun k_ => some k_ ≠ (.slice Ao47 t332.length co47 : Value).ownBlock ∧ some k_ ≠ (.slice Ao17 t335.length co17 : Value).ownBlock ∧ some k_ ≠ (.slice Ao21 t344.length co21 : Value).ownBlock)) z13k hg hat); have n3_ := A_ (Kd.R_after (ok := (fun k_ => some k_ ≠ (.slice Ao47 t332.length co47 : Value).ownBlock ∧ some k_ ≠ (.slice Ao17 t335.length co17 : Value).ownBlock ∧ some k_ ≠ (v342 : Value).ownBlock)) z13c hg hat); have n4_ := A_ (hb); have n5_ := A_ (ho); clear HO_4; clear HO_5; clear HO_9; clear HO_10; clear HB; clear HO361; have HO_4 := n0_; have HO_5 := n1_; have HO_9 := n2_; have HO_10 := n3_; have HB := n4_; have HO364 := n5_; clear n0_ n1_ n2_ n3_ n4_ n5_; clear ho hb hg hat) | ((with_reducible refine gate_builtin (b := .append) (xs := #[.tmp 93, .tmp 94]) rfl ?_); (try (refine gate_guard (by rfl) ?_; dsimp only)); at_builtin; refine Kd.R_append_rows (Kd.int .u8) (w0 := w) w.heap.size rfl (.tmp 93) (.tmp 94) 22 5 (.int .u8 0) 1 rfl Try.underlying22 info5 rfl (by decide) (by omega) v363 y362 t335 _ _ _ (fun k_ => some k_ ≠ (.slice Ao47 t332.length co47 : Value).ownBlock ∧ some k_ ≠ (.slice Ao17 t335.length co17 : Value).ownBlock ∧ some k_ ≠ (v342 : Value).ownBlock ∧ some k_ ≠ (.slice Ao21 t344.length co21 : Value).ownBlock) (fun _ => False) rfl rfl ?aO ?aR (fun _ _ h => h) (fun _ h => h.elim) ?aF ?aB ?aS ?aL ?_; (case aR => exact z13z); (case aB => exact z13b); (case aF => exact (fun k_ hk => ⟨Kd.fresh' (Kd.R_lt z13d) k_ hk, Kd.fresh' (Kd.R_lt z13e) k_ hk, Kd.fresh' (Kd.R_lt z13k) k_ hk, Kd.fresh' (Kd.R_lt z13c) k_ hk⟩)); (case aO => exact (by (with_reducible repeat (first | apply Kd.R_alloc | apply Kd.R_drewN | apply Kd.R_drew)); exact HO364.out)); (case aS => exact (below_size z13b)); (case aL => have := LMc50.out; omega); intro v366 w57 ho hb hg hat; rw [← Ny365.out] at ho; have n0_ := A_ (Kd.R_after (ok := (fun k_ => some k_ ≠ (.slice Ao17 t335.length co17 : Value).ownBlock ∧ some k_ ≠ (v342 : Value).ownBlock ∧ some k_ ≠ (.slice Ao21 t344.length co21 : Value).ownBlock)) z13d hg hat); have n1_ := A_ (Kd.R_after (ok := (fun k_ => some k_ ≠ (.slice Ao47 t332.length co47 : Value).ownBlock ∧ some k_ ≠ (v342 : Value).ownBlock ∧ some k_ ≠ (.slice Ao21 t344.length co21 : Value).ownBlock)) z13e hg hat); have n2_ := A_ (Kd.R_after (ok := (fun k_ => some k_ ≠ (.slice Ao47 t332.length co47 : Value).ownBlock ∧ some k_ ≠ (.slice Ao17 t335.length co17 : Value).ownBlock ∧ some k_ ≠ (.slice Ao21 t344.length co21 : Value).ownBlock)) z13k hg hat); have n3_ := A_ (Kd.R_after (ok := (fun k_ => some k_ ≠ (.slice Ao47 t332.length co47 : Value).ownBlock ∧ some k_ ≠ (.slice Ao17 t335.length co17 : Value).ownBlock ∧ some k_ ≠ (v342 : Value).ownBlock)) z13c hg hat); have n4_ := A_ (hb); have n5_ := A_ (ho); clear HO_4; clear HO_5; clear HO_9; clear HO_10; clear HB; clear HO364; have HO_4 := n0_; have HO_5 := n1_; have HO_9 := n2_; have HO_10 := n3_; have HB := n4_; have HO367 := n5_; clear n0_ n1_ n2_ n3_ n4_ n5_; clear ho hb hg hat; obtain ⟨Ao58, co58, eo58⟩ := Kd.R_slice HO367.out; subst eo58) | ((with_reducible refine gate_callee (f := 55) rfl ?_); refine goesL_ (some 96) rfl rfl Try.func55 (by kernel_rfl) rfl #[.slice Ao58 y365.length co58] rfl z13h ?_; (with_reducible refine (impl_ReadNumber.calls kj33 _ _ y365 t368 t369 _ ?side1 ?side2 A51.out).mono ?_); (case side1 => exact (by repeat (first | exact (Kd.R_reads' HO367.out).2.2 | (with_reducible refine Kd.C_alloc ?_ _) | (with_reducible refine Kd.C_drewN ?_ _) | (with_reducible refine Kd.C_drew ?_)))); (case side2 => exact (Kd.R_reads' HO367.out).2.1); rintro e w' ⟨rfl, ⟨nd, rfl⟩⟩; refine ⟨_, rfl, ?_⟩))
      go_meet
      case rel => exact ⟨_, H', ⟨by have := HJ12.out; have := HJ33.out; first | omega | exact Nat.le_refl _⟩, ⟨by (with_reducible repeat (first | apply Kd.R_alloc | apply Kd.R_drewN | apply Kd.R_drew)); exact Kd.R_mono HO_4.out (fun _ hk => ⟨hk.1.1, ⟨hk.1.2.1, hk.1.2.2⟩⟩)⟩, ⟨by (with_reducible repeat (first | apply Kd.R_alloc | apply Kd.R_drewN | apply Kd.R_drew)); exact Kd.R_mono HO_5.out (fun _ hk => ⟨hk.1.1, ⟨hk.1.2.1, hk.1.2.2⟩⟩)⟩, ⟨by (with_reducible repeat (first | apply Kd.R_alloc | apply Kd.R_drewN | apply Kd.R_drew)); exact Kd.R_mono HO_9.out (fun _ hk => ⟨hk.1.1, ⟨hk.1.2.1, hk.1.2.2⟩⟩)⟩, ⟨by (with_reducible repeat (first | apply Kd.R_alloc | apply Kd.R_drewN | apply Kd.R_drew)); exact Kd.R_mono HO_10.out (fun _ hk => ⟨hk.1.1, ⟨hk.1.2.1, hk.1.2.2⟩⟩)⟩, ⟨by repeat (first | (with_reducible first | exact HB.out | apply below_alloc | apply pw_below_drewN | apply below_drew1) | exact HB.out)⟩⟩
      }
      {
      rw [if_neg c53] at H
      have c53b0 : (t369 == (t332.length : Int)) = false := beq_eq_false_iff_ne.mpr c53
      have c53b1 : (t369 != (t332.length : Int)) = true := bne_iff_ne.mpr c53
      obtain rfl := Option.some.inj H
      go_wp2_with (first | ((with_reducible refine gate_dst (N := 91) rfl ?_); (try (refine gate_guard (by rfl) ?_; dsimp only)); refine Kd.R_lit (Kd.int .u8) _ 5 ?hg (N := 91) ?hd (xs := ([] : List Int)) (inner := []) (ok := fun _ => True) (okp := fun _ => True) ?hr ?hp (fun _ hk => hk) trivial (Below.refl _ _) (Nat.le_refl _) (by simp) ?_; (case hd => rfl); (case hg => rfl); (case hr => first | (go_simp; done) | (go_simp; rfl)); (case hp => exact (Reps.none _ _)); intro v360 w59 ho60 hb hg_ hnew_; clear hg_ hnew_; (first | rw [← Ny359.out] at ho60 | (simp only [Int.reduceToNat] at ho60; rw [← Ny359.out] at ho60)); have n0_ := A_ (Kd.R_elder' z13d (Kd.R_base ho60) hb); have n1_ := A_ (Kd.R_elder' z13e (Kd.R_base ho60) hb); have n2_ := A_ (Kd.R_elder' z13k (Kd.R_base ho60) hb); have n3_ := A_ (Kd.R_elder' z13c (Kd.R_base ho60) hb); have n4_ := A_ (Kd.R_lower (Kd.R_new' (Kd.R_new' (Kd.R_new' (Kd.R_new' ho60 (Kd.R_lt z13d)) (Kd.R_lt z13e)) (Kd.R_lt z13k)) (Kd.R_lt z13c)) (below_size z13b)); have n5_ := A_ (below_step z13b hb); clear HO_4; clear HO_5; clear HO_9; clear HO_10; clear HB; have HO_4 := n0_; have HO_5 := n1_; have HO_9 := n2_; have HO_10 := n3_; have HO361 := n4_; have HB := n5_; clear n0_ n1_ n2_ n3_ n4_ n5_; clear hb ho60) | ((with_reducible refine gate_builtin (b := .append) (xs := #[.tmp 91, .tmp 92]) rfl ?_); (try (refine gate_guard (by rfl) ?_; dsimp only)); at_builtin; refine Kd.R_append_rows (Kd.int .u8) (w0 := w) w.heap.size rfl (.tmp 91) (.tmp 92) 22 5 (.int .u8 0) 1 rfl Try.underlying22 info5 rfl (by decide) (by omega) v360 y359 t332 _ _ _ (fun k_ => some k_ ≠ (.slice Ao47 t332.length co47 : Value).ownBlock ∧ some k_ ≠ (.slice Ao17 t335.length co17 : Value).ownBlock ∧ some k_ ≠ (v342 : Value).ownBlock ∧ some k_ ≠ (.slice Ao21 t344.length co21 : Value).ownBlock) (fun _ => False) rfl rfl ?aO ?aR (fun _ _ h => h) (fun _ h => h.elim) ?aF ?aB ?aS ?aL ?_; (case aR => exact (by repeat (first | exact (Kd.R_reads' HO_4.out).2.2 | (with_reducible refine Kd.C_alloc ?_ _) | (with_reducible refine Kd.C_drewN ?_ _) | (with_reducible refine Kd.C_drew ?_)))); (case aB => exact z13b); (case aF => exact (fun k_ hk => ⟨Kd.fresh' (Kd.R_lt z13d) k_ hk, Kd.fresh' (Kd.R_lt z13e) k_ hk, Kd.fresh' (Kd.R_lt z13k) k_ hk, Kd.fresh' (Kd.R_lt z13c) k_ hk⟩)); (case aO => exact (by (with_reducible repeat (first | apply Kd.R_alloc | apply Kd.R_drewN | apply Kd.R_drew)); exact Kd.R_mono HO361.out (fun _ hk => ⟨hk.1.1.1.2, ⟨hk.1.1.2, ⟨hk.1.2, hk.2⟩⟩⟩))); (case aS => exact (below_size z13b)); (case aL => have := LMc49.out; omega); intro v363 w61 ho hb hg hat; rw [← Ny362.out] at ho; have n0_ := A_ (Kd.R_after (ok := (fun k_ => some k_ ≠ (.slice Ao17 t335.length co17 : Value).ownBlock ∧ some k_ ≠ (v342 : Value).ownBlock ∧ some k_ ≠ (.slice Ao21 t344.length co21 : Value).ownBlock)) z13d hg hat); have n1_ := A_ (Kd.R_after (ok := (fun k_ => some k_ ≠ (.slice Ao47 t332.length co47 : Value).ownBlock ∧ some k_ ≠ (v342 : Value).ownBlock ∧ some k_ ≠ (.slice Ao21 t344.length co21 : Value).ownBlock)) z13e hg hat); have n2_ := A_ (Kd.R_after (ok := (fun k_ => some k_ ≠ (.slice Ao47 t332.length co47 : Value).ownBlock ∧ some k_ ≠ (.slice Ao17 t335.length co17 : Value).ownBlock ∧ some k_ ≠ (.slice Ao21 t344.length co21 : Value).ownBlock)) z13k hg hat); have n3_ := A_ (Kd.R_after (ok := (fun k_ => some k_ ≠ (.slice Ao47 t332.length co47 : Value).ownBlock ∧ some k_ ≠ (.slice Ao17 t335.length co17 : Value).ownBlock ∧ some k_ ≠ (v342 : Value).ownBlock)) z13c hg hat); have n4_ := A_ (hb); have n5_ := A_ (ho); clear HO_4; clear HO_5; clear HO_9; clear HO_10; clear HB; clear HO361; have HO_4 := n0_; have HO_5 := n1_; have HO_9 := n2_; have HO_10 := n3_; have HB := n4_; have HO364 := n5_; clear n0_ n1_ n2_ n3_ n4_ n5_; clear ho hb hg hat) | ((with_reducible refine gate_builtin (b := .append) (xs := #[.tmp 93, .tmp 94]) rfl ?_); (try (refine gate_guard (by rfl) ?_; dsimp only)); at_builtin; refine Kd.R_append_rows (Kd.int .u8) (w0 := w) w.heap.size rfl (.tmp 93) (.tmp 94) 22 5 (.int .u8 0) 1 rfl Try.underlying22 info5 rfl (by decide) (by omega) v363 y362 t335 _ _ _ (fun k_ => some k_ ≠ (.slice Ao47 t332.length co47 : Value).ownBlock ∧ some k_ ≠ (.slice Ao17 t335.length co17 : Value).ownBlock ∧ some k_ ≠ (v342 : Value).ownBlock ∧ some k_ ≠ (.slice Ao21 t344.length co21 : Value).ownBlock) (fun _ => False) rfl rfl ?aO ?aR (fun _ _ h => h) (fun _ h => h.elim) ?aF ?aB ?aS ?aL ?_; (case aR => exact z13z); (case aB => exact z13b); (case aF => exact (fun k_ hk => ⟨Kd.fresh' (Kd.R_lt z13d) k_ hk, Kd.fresh' (Kd.R_lt z13e) k_ hk, Kd.fresh' (Kd.R_lt z13k) k_ hk, Kd.fresh' (Kd.R_lt z13c) k_ hk⟩)); (case aO => exact (by (with_reducible repeat (first | apply Kd.R_alloc | apply Kd.R_drewN | apply Kd.R_drew)); exact HO364.out)); (case aS => exact (below_size z13b)); (case aL => have := LMc50.out; omega); intro v366 w62 ho hb hg hat; rw [← Ny365.out] at ho; have n0_ := A_ (Kd.R_after (ok := (fun k_ => some k_ ≠ (.slice Ao17 t335.length co17 : Value).ownBlock ∧ some k_ ≠ (v342 : Value).ownBlock ∧ some k_ ≠ (.slice Ao21 t344.length co21 : Value).ownBlock)) z13d hg hat); have n1_ := A_ (Kd.R_after (ok := (fun k_ => some k_ ≠ (.slice Ao47 t332.length co47 : Value).ownBlock ∧ some k_ ≠ (v342 : Value).ownBlock ∧ some k_ ≠ (.slice Ao21 t344.length co21 : Value).ownBlock)) z13e hg hat); have n2_ := A_ (Kd.R_after (ok := (fun k_ => some k_ ≠ (.slice Ao47 t332.length co47 : Value).ownBlock ∧ some k_ ≠ (.slice Ao17 t335.length co17 : Value).ownBlock ∧ some k_ ≠ (.slice Ao21 t344.length co21 : Value).ownBlock)) z13k hg hat); have n3_ := A_ (Kd.R_after (ok := (fun k_ => some k_ ≠ (.slice Ao47 t332.length co47 : Value).ownBlock ∧ some k_ ≠ (.slice Ao17 t335.length co17 : Value).ownBlock ∧ some k_ ≠ (v342 : Value).ownBlock)) z13c hg hat); have n4_ := A_ (hb); have n5_ := A_ (ho); clear HO_4; clear HO_5; clear HO_9; clear HO_10; clear HB; clear HO364; have HO_4 := n0_; have HO_5 := n1_; have HO_9 := n2_; have HO_10 := n3_; have HB := n4_; have HO367 := n5_; clear n0_ n1_ n2_ n3_ n4_ n5_; clear ho hb hg hat; obtain ⟨Ao63, co63, eo63⟩ := Kd.R_slice HO367.out; subst eo63) | ((with_reducible refine gate_callee (f := 55) rfl ?_); refine goesL_ (some 96) rfl rfl Try.func55 (by kernel_rfl) rfl #[.slice Ao63 y365.length co63] rfl z13h ?_; (with_reducible refine (impl_ReadNumber.calls kj33 _ _ y365 t368 t369 _ ?side1 ?side2 A51.out).mono ?_); (case side1 => exact (by repeat (first | exact (Kd.R_reads' HO367.out).2.2 | (with_reducible refine Kd.C_alloc ?_ _) | (with_reducible refine Kd.C_drewN ?_ _) | (with_reducible refine Kd.C_drew ?_)))); (case side2 => exact (Kd.R_reads' HO367.out).2.1); rintro e w' ⟨rfl, ⟨nd, rfl⟩⟩; refine ⟨_, rfl, ?_⟩))
      go_ret
      exact ⟨by first | rfl | (simp [errW_none, errW_some] <;> rfl) | (simp [*, errW_none, errW_some] <;> rfl), by repeat (first | (with_reducible first | exact HB.out | apply below_alloc | apply pw_below_drewN | apply below_drew1) | exact HB.out)⟩
      }
      }
      {
      rw [if_neg c52] at H
      have c52b0 : (t368 == t331) = false := beq_eq_false_iff_ne.mpr c52
      have c52b1 : (t368 != t331) = true := bne_iff_ne.mpr c52
      obtain rfl := Option.some.inj H
      go_wp2_with (first | ((with_reducible refine gate_dst (N := 91) rfl ?_); (try (refine gate_guard (by rfl) ?_; dsimp only)); refine Kd.R_lit (Kd.int .u8) _ 5 ?hg (N := 91) ?hd (xs := ([] : List Int)) (inner := []) (ok := fun _ => True) (okp := fun _ => True) ?hr ?hp (fun _ hk => hk) trivial (Below.refl _ _) (Nat.le_refl _) (by simp) ?_; (case hd => rfl); (case hg => rfl); (case hr => first | (go_simp; done) | (go_simp; rfl)); (case hp => exact (Reps.none _ _)); intro v360 w64 ho65 hb hg_ hnew_; clear hg_ hnew_; (first | rw [← Ny359.out] at ho65 | (simp only [Int.reduceToNat] at ho65; rw [← Ny359.out] at ho65)); have n0_ := A_ (Kd.R_elder' z13d (Kd.R_base ho65) hb); have n1_ := A_ (Kd.R_elder' z13e (Kd.R_base ho65) hb); have n2_ := A_ (Kd.R_elder' z13k (Kd.R_base ho65) hb); have n3_ := A_ (Kd.R_elder' z13c (Kd.R_base ho65) hb); have n4_ := A_ (Kd.R_lower (Kd.R_new' (Kd.R_new' (Kd.R_new' (Kd.R_new' ho65 (Kd.R_lt z13d)) (Kd.R_lt z13e)) (Kd.R_lt z13k)) (Kd.R_lt z13c)) (below_size z13b)); have n5_ := A_ (below_step z13b hb); clear HO_4; clear HO_5; clear HO_9; clear HO_10; clear HB; have HO_4 := n0_; have HO_5 := n1_; have HO_9 := n2_; have HO_10 := n3_; have HO361 := n4_; have HB := n5_; clear n0_ n1_ n2_ n3_ n4_ n5_; clear hb ho65) | ((with_reducible refine gate_builtin (b := .append) (xs := #[.tmp 91, .tmp 92]) rfl ?_); (try (refine gate_guard (by rfl) ?_; dsimp only)); at_builtin; refine Kd.R_append_rows (Kd.int .u8) (w0 := w) w.heap.size rfl (.tmp 91) (.tmp 92) 22 5 (.int .u8 0) 1 rfl Try.underlying22 info5 rfl (by decide) (by omega) v360 y359 t332 _ _ _ (fun k_ => some k_ ≠ (.slice Ao47 t332.length co47 : Value).ownBlock ∧ some k_ ≠ (.slice Ao17 t335.length co17 : Value).ownBlock ∧ some k_ ≠ (v342 : Value).ownBlock ∧ some k_ ≠ (.slice Ao21 t344.length co21 : Value).ownBlock) (fun _ => False) rfl rfl ?aO ?aR (fun _ _ h => h) (fun _ h => h.elim) ?aF ?aB ?aS ?aL ?_; (case aR => exact (by repeat (first | exact (Kd.R_reads' HO_4.out).2.2 | (with_reducible refine Kd.C_alloc ?_ _) | (with_reducible refine Kd.C_drewN ?_ _) | (with_reducible refine Kd.C_drew ?_)))); (case aB => exact z13b); (case aF => exact (fun k_ hk => ⟨Kd.fresh' (Kd.R_lt z13d) k_ hk, Kd.fresh' (Kd.R_lt z13e) k_ hk, Kd.fresh' (Kd.R_lt z13k) k_ hk, Kd.fresh' (Kd.R_lt z13c) k_ hk⟩)); (case aO => exact (by (with_reducible repeat (first | apply Kd.R_alloc | apply Kd.R_drewN | apply Kd.R_drew)); exact Kd.R_mono HO361.out (fun _ hk => ⟨hk.1.1.1.2, ⟨hk.1.1.2, ⟨hk.1.2, hk.2⟩⟩⟩))); (case aS => exact (below_size z13b)); (case aL => have := LMc49.out; omega); intro v363 w66 ho hb hg hat; rw [← Ny362.out] at ho; have n0_ := A_ (Kd.R_after (ok := (fun k_ => some k_ ≠ (.slice Ao17 t335.length co17 : Value).ownBlock ∧ some k_ ≠ (v342 : Value).ownBlock ∧ some k_ ≠ (.slice Ao21 t344.length co21 : Value).ownBlock)) z13d hg hat); have n1_ := A_ (Kd.R_after (ok := (fun k_ => some k_ ≠ (.slice Ao47 t332.length co47 : Value).ownBlock ∧ some k_ ≠ (v342 : Value).ownBlock ∧ some k_ ≠ (.slice Ao21 t344.length co21 : Value).ownBlock)) z13e hg hat); have n2_ := A_ (Kd.R_after (ok := (fun k_ => some k_ ≠ (.slice Ao47 t332.length co47 : Value).ownBlock ∧ some k_ ≠ (.slice Ao17 t335.length co17 : Value).ownBlock ∧ some k_ ≠ (.slice Ao21 t344.length co21 : Value).ownBlock)) z13k hg hat); have n3_ := A_ (Kd.R_after (ok := (fun k_ => some k_ ≠ (.slice Ao47 t332.length co47 : Value).ownBlock ∧ some k_ ≠ (.slice Ao17 t335.length co17 : Value).ownBlock ∧ some k_ ≠ (v342 : Value).ownBlock)) z13c hg hat); have n4_ := A_ (hb); have n5_ := A_ (ho); clear HO_4; clear HO_5; clear HO_9; clear HO_10; clear HB; clear HO361; have HO_4 := n0_; have HO_5 := n1_; have HO_9 := n2_; have HO_10 := n3_; have HB := n4_; have HO364 := n5_; clear n0_ n1_ n2_ n3_ n4_ n5_; clear ho hb hg hat) | ((with_reducible refine gate_builtin (b := .append) (xs := #[.tmp 93, .tmp 94]) rfl ?_); (try (refine gate_guard (by rfl) ?_; dsimp only)); at_builtin; refine Kd.R_append_rows (Kd.int .u8) (w0 := w) w.heap.size rfl (.tmp 93) (.tmp 94) 22 5 (.int .u8 0) 1 rfl Try.underlying22 info5 rfl (by decide) (by omega) v363 y362 t335 _ _ _ (fun k_ => some k_ ≠ (.slice Ao47 t332.length co47 : Value).ownBlock ∧ some k_ ≠ (.slice Ao17 t335.length co17 : Value).ownBlock ∧ some k_ ≠ (v342 : Value).ownBlock ∧ some k_ ≠ (.slice Ao21 t344.length co21 : Value).ownBlock) (fun _ => False) rfl rfl ?aO ?aR (fun _ _ h => h) (fun _ h => h.elim) ?aF ?aB ?aS ?aL ?_; (case aR => exact z13z); (case aB => exact z13b); (case aF => exact (fun k_ hk => ⟨Kd.fresh' (Kd.R_lt z13d) k_ hk, Kd.fresh' (Kd.R_lt z13e) k_ hk, Kd.fresh' (Kd.R_lt z13k) k_ hk, Kd.fresh' (Kd.R_lt z13c) k_ hk⟩)); (case aO => exact (by (with_reducible repeat (first | apply Kd.R_alloc | apply Kd.R_drewN | apply Kd.R_drew)); exact HO364.out)); (case aS => exact (below_size z13b)); (case aL => have := LMc50.out; omega); intro v366 w67 ho hb hg hat; rw [← Ny365.out] at ho; have n0_ := A_ (Kd.R_after (ok := (fun k_ => some k_ ≠ (.slice Ao17 t335.length co17 : Value).ownBlock ∧ some k_ ≠ (v342 : Value).ownBlock ∧ some k_ ≠ (.slice Ao21 t344.length co21 : Value).ownBlock)) z13d hg hat); have n1_ := A_ (Kd.R_after (ok := (fun k_ => some k_ ≠ (.slice Ao47 t332.length co47 : Value).ownBlock ∧ some k_ ≠ (v342 : Value).ownBlock ∧ some k_ ≠ (.slice Ao21 t344.length co21 : Value).ownBlock)) z13e hg hat); have n2_ := A_ (Kd.R_after (ok := (fun k_ => some k_ ≠ (.slice Ao47 t332.length co47 : Value).ownBlock ∧ some k_ ≠ (.slice Ao17 t335.length co17 : Value).ownBlock ∧ some k_ ≠ (.slice Ao21 t344.length co21 : Value).ownBlock)) z13k hg hat); have n3_ := A_ (Kd.R_after (ok := (fun k_ => some k_ ≠ (.slice Ao47 t332.length co47 : Value).ownBlock ∧ some k_ ≠ (.slice Ao17 t335.length co17 : Value).ownBlock ∧ some k_ ≠ (v342 : Value).ownBlock)) z13c hg hat); have n4_ := A_ (hb); have n5_ := A_ (ho); clear HO_4; clear HO_5; clear HO_9; clear HO_10; clear HB; clear HO364; have HO_4 := n0_; have HO_5 := n1_; have HO_9 := n2_; have HO_10 := n3_; have HB := n4_; have HO367 := n5_; clear n0_ n1_ n2_ n3_ n4_ n5_; clear ho hb hg hat; obtain ⟨Ao68, co68, eo68⟩ := Kd.R_slice HO367.out; subst eo68) | ((with_reducible refine gate_callee (f := 55) rfl ?_); refine goesL_ (some 96) rfl rfl Try.func55 (by kernel_rfl) rfl #[.slice Ao68 y365.length co68] rfl z13h ?_; (with_reducible refine (impl_ReadNumber.calls kj33 _ _ y365 t368 t369 _ ?side1 ?side2 A51.out).mono ?_); (case side1 => exact (by repeat (first | exact (Kd.R_reads' HO367.out).2.2 | (with_reducible refine Kd.C_alloc ?_ _) | (with_reducible refine Kd.C_drewN ?_ _) | (with_reducible refine Kd.C_drew ?_)))); (case side2 => exact (Kd.R_reads' HO367.out).2.1); rintro e w' ⟨rfl, ⟨nd, rfl⟩⟩; refine ⟨_, rfl, ?_⟩))
      go_ret
      exact ⟨by first | rfl | (simp [errW_none, errW_some] <;> rfl) | (simp [*, errW_none, errW_some] <;> rfl), by repeat (first | (with_reducible first | exact HB.out | apply below_alloc | apply pw_below_drewN | apply below_drew1) | exact HB.out)⟩
      }
      }
      {
      rw [if_neg c50] at H
      exact absurd H (by simp)
      }
      }
      {
      rw [if_neg c49] at H
      exact absurd H (by simp)
      }
      }
      {
      rw [if_neg c48] at H
      have c48b0 : decide (0 < (t332.length : Int)) = false := decide_eq_false c48
      have c48b1 : decide (0 < t332.length) = false := decide_eq_false (by omega)
      clear c48
      (first | rw [c48b0] | rw [c48b1] | (simp only [i64_w, i32_w]; rw [c48b0]) | skip)
      have H' := A_ H
      clear H
      go_wp2
      go_meet
      case rel => exact ⟨_, H', ⟨by have := HJ12.out; have := HJ33.out; first | omega | exact Nat.le_refl _⟩, ⟨by (with_reducible repeat (first | apply Kd.R_alloc | apply Kd.R_drewN | apply Kd.R_drew)); exact HO_4.out⟩, ⟨by (with_reducible repeat (first | apply Kd.R_alloc | apply Kd.R_drewN | apply Kd.R_drew)); exact HO_5.out⟩, ⟨by (with_reducible repeat (first | apply Kd.R_alloc | apply Kd.R_drewN | apply Kd.R_drew)); exact HO_9.out⟩, ⟨by (with_reducible repeat (first | apply Kd.R_alloc | apply Kd.R_drewN | apply Kd.R_drew)); exact HO_10.out⟩, ⟨by repeat (first | (with_reducible first | exact HB.out | apply below_alloc | apply pw_below_drewN | apply below_drew1) | exact HB.out)⟩⟩
      }
     case rest =>
      clear HC46
      try clear c2
      try clear p2
      try clear c3
      try clear hcv3
      try clear c4
      try clear hcv4
      try clear c5
      try clear c22
      try clear c35
      try clear c35b0
      try clear c35b1
      try clear c36
      try clear c36b0
      try clear c36b1
      try clear hcv39
      try clear hcv40
      try clear hcv41
      try clear c45
      try clear c48
      try clear c48b0
      try clear c48b1
      try clear c49
      try clear c50
      try clear c52
      try clear c52b0
      try clear c52b1
      try clear c53
      try clear c53b0
      try clear c53b1
      try clear c55
      try clear p2
      obtain ⟨kq, HA, HJ45, HO_4, HO_5, HO_9, HO_10, HB⟩ := hcut
      cases kq with
      | zero => exact absurd HA.out (by simp [laws_FnRows.j2])
      | succ kj45 =>
       have H := HA.out
       clear HA
       simp only [laws_FnRows.j2] at H
       have HC69 := A_ H
       clear H
       obtain ⟨Ao70, co70, eo70⟩ := Kd.R_slice HO_9.out
       subst eo70
       go_upto_if 110 with (fail)
       go_cut [] (fun wc => ∃ (kq : Nat), Aside0 (laws_FnRows.j3 kq t331 t332 t335 t338 t339 t344 t347 t348 = some r) ∧ Aside0 (kq ≤ kj45) ∧ Aside0 (Kd.R (Kd.int .u8) 5 wc w.heap.size (fun k_ => some k_ ≠ ((.slice Ao17 t335.length co17) : Value).ownBlock ∧ some k_ ≠ ((.slice Ao21 t344.length co21) : Value).ownBlock) (.slice Ao47 t332.length co47) t332) ∧ Aside0 (Kd.R (Kd.int .u8) 5 wc w.heap.size (fun k_ => some k_ ≠ ((.slice Ao47 t332.length co47) : Value).ownBlock ∧ some k_ ≠ ((.slice Ao21 t344.length co21) : Value).ownBlock) (.slice Ao17 t335.length co17) t335) ∧ Aside0 (Kd.R (Kd.int .u8) 5 wc w.heap.size (fun k_ => some k_ ≠ ((.slice Ao47 t332.length co47) : Value).ownBlock ∧ some k_ ≠ ((.slice Ao17 t335.length co17) : Value).ownBlock) (.slice Ao21 t344.length co21) t344) ∧ Aside0 (Below w.heap.size w wc))
       case first =>
        have H := HC69.out
        clear HC69
        by_cases c71 : (t341.length : Int) > 0
        {
        as_aux_lemma =>
        rw [if_pos c71] at H
        have c71b0 : decide (0 < (t341.length : Int)) = true := decide_eq_true c71
        have c71b1 : decide (0 < t341.length) = true := decide_eq_true (by omega)
        clear c71
        (first | rw [c71b0] | rw [c71b1] | (simp only [i64_w, i32_w]; rw [c71b0]) | skip)
        obtain ⟨y370, hy370⟩ : ∃ y_ : List Int, y_ = (([] : List Int)) := ⟨_, rfl⟩
        replace H : (if y370.length + t341.length < 140737488355328 then ((some (y370 ++ t341 : List Int)).bind fun y373 => (if y373.length + t335.length < 140737488355328 then ((impl_ReadText.f kj45 (y373 ++ t335)).bind fun bt379 => (if bt379.1.toList = t340.toList then (if bt379.2 = (t341.length : Int) then (laws_FnRows.j3 kj45 t331 t332 t335 t338 t339 t344 t347 t348) else (some false)) else (some false))) else (none))) else (none)) = some r := by first | (rw [hy370]; with_reducible exact H) | (have H2_ := (Option.bind_some _ _).symm.trans H; rw [hy370]; with_reducible exact H2_) | (have H2_ := (Option.bind_some _ _).symm.trans H; with_reducible exact H2_) | with_reducible exact H | (rw [hy370]; exact H) | exact H
        have Ny370 := A_ hy370
        clear hy370
        by_cases c72 : y370.length + t341.length < 140737488355328
        {
        as_aux_lemma =>
        rw [if_pos c72] at H
        have LMc72 := A_ c72
        clear c72
        obtain ⟨y373, hy373⟩ : ∃ y_ : List Int, y_ = (y370 ++ t341) := ⟨_, rfl⟩
        replace H : (if y373.length + t335.length < 140737488355328 then ((impl_ReadText.f kj45 (y373 ++ t335)).bind fun bt379 => (if bt379.1.toList = t340.toList then (if bt379.2 = (t341.length : Int) then (laws_FnRows.j3 kj45 t331 t332 t335 t338 t339 t344 t347 t348) else (some false)) else (some false))) else (none)) = some r := by first | (rw [hy373]; with_reducible exact H) | (have H2_ := (Option.bind_some _ _).symm.trans H; rw [hy373]; with_reducible exact H2_) | (have H2_ := (Option.bind_some _ _).symm.trans H; with_reducible exact H2_) | with_reducible exact H | (rw [hy373]; exact H) | exact H
        have Ny373 := A_ hy373
        clear hy373
        by_cases c73 : y373.length + t335.length < 140737488355328
        {
        rw [if_pos c73] at H
        have LMc73 := A_ c73
        clear c73
        obtain ⟨y376, hy376⟩ : ∃ y_ : List Int, y_ = (y373 ++ t335) := ⟨_, rfl⟩
        replace H : ((impl_ReadText.f kj45 y376).bind fun bt379 => (if bt379.1.toList = t340.toList then (if bt379.2 = (t341.length : Int) then (laws_FnRows.j3 kj45 t331 t332 t335 t338 t339 t344 t347 t348) else (some false)) else (some false))) = some r := by first | (rw [hy376]; with_reducible exact H) | (have H2_ := (Option.bind_some _ _).symm.trans H; rw [hy376]; with_reducible exact H2_) | (have H2_ := (Option.bind_some _ _).symm.trans H; with_reducible exact H2_) | with_reducible exact H | (rw [hy376]; exact H) | exact H
        have Ny376 := A_ hy376
        clear hy376
        replace H := Option.bind_eq_some_iff.mp H
        obtain ⟨⟨t379, t380⟩, A740, H⟩ := H
        (try dsimp only at H)
        have A74 := A_ A740
        clear A740
        by_cases c75 : t379.toList = t340.toList
        {
        rw [if_pos c75] at H
        have c75b0 : (t379.toList == t340.toList) = true := beq_iff_eq.mpr c75
        have c75b1 : (t379.toList != t340.toList) = false := bne_eq_false_iff_eq.mpr c75
        clear c75
        by_cases c76 : t380 = (t341.length : Int)
        {
        rw [if_pos c76] at H
        have c76b0 : (t380 == (t341.length : Int)) = true := beq_iff_eq.mpr c76
        have c76b1 : (t380 != (t341.length : Int)) = false := bne_eq_false_iff_eq.mpr c76
        clear c76
        have H' := A_ H
        clear H
        go_wp2_with (first | ((with_reducible refine gate_dst (N := 112) rfl ?_); (try (refine gate_guard (by rfl) ?_; dsimp only)); refine Kd.R_lit (Kd.int .u8) _ 5 ?hg (N := 112) ?hd (xs := ([] : List Int)) (inner := []) (ok := fun _ => True) (okp := fun _ => True) ?hr ?hp (fun _ hk => hk) trivial (Below.refl _ _) (Nat.le_refl _) (by simp) ?_; (case hd => rfl); (case hg => rfl); (case hr => first | (go_simp; done) | (go_simp; rfl)); (case hp => exact (Reps.none _ _)); intro v371 w77 ho78 hb hg_ hnew_; clear hg_ hnew_; (first | rw [← Ny370.out] at ho78 | (simp only [Int.reduceToNat] at ho78; rw [← Ny370.out] at ho78)); have n0_ := A_ (Kd.R_elder' z13d (Kd.R_base ho78) hb); have n1_ := A_ (Kd.R_elder' z13e (Kd.R_base ho78) hb); have n2_ := A_ (Kd.R_elder' z13k (Kd.R_base ho78) hb); have n3_ := A_ (Kd.R_elder' z13c (Kd.R_base ho78) hb); have n4_ := A_ (Kd.R_lower (Kd.R_new' (Kd.R_new' (Kd.R_new' (Kd.R_new' ho78 (Kd.R_lt z13d)) (Kd.R_lt z13e)) (Kd.R_lt z13k)) (Kd.R_lt z13c)) (below_size z13b)); have n5_ := A_ (below_step z13b hb); clear HO_4; clear HO_5; clear HO_9; clear HO_10; clear HB; have HO_4 := n0_; have HO_5 := n1_; have HO_9 := n2_; have HO_10 := n3_; have HO372 := n4_; have HB := n5_; clear n0_ n1_ n2_ n3_ n4_ n5_; clear hb ho78) | ((with_reducible refine gate_builtin (b := .append) (xs := #[.tmp 112, .tmp 113]) rfl ?_); (try (refine gate_guard (by rfl) ?_; dsimp only)); at_builtin; refine Kd.R_append_rows (Kd.int .u8) (w0 := w) w.heap.size rfl (.tmp 112) (.tmp 113) 22 5 (.int .u8 0) 1 rfl Try.underlying22 info5 rfl (by decide) (by omega) v371 y370 t341 _ _ _ (fun k_ => some k_ ≠ (.slice Ao47 t332.length co47 : Value).ownBlock ∧ some k_ ≠ (.slice Ao17 t335.length co17 : Value).ownBlock ∧ some k_ ≠ (.slice Ao70 t341.length co70 : Value).ownBlock ∧ some k_ ≠ (.slice Ao21 t344.length co21 : Value).ownBlock) (fun _ => False) rfl rfl ?aO ?aR (fun _ _ h => h) (fun _ h => h.elim) ?aF ?aB ?aS ?aL ?_; (case aR => exact (by repeat (first | exact (Kd.R_reads' HO_9.out).2.2 | (with_reducible refine Kd.C_alloc ?_ _) | (with_reducible refine Kd.C_drewN ?_ _) | (with_reducible refine Kd.C_drew ?_)))); (case aB => exact z13b); (case aF => exact (fun k_ hk => ⟨Kd.fresh' (Kd.R_lt z13d) k_ hk, Kd.fresh' (Kd.R_lt z13e) k_ hk, Kd.fresh' (Kd.R_lt z13k) k_ hk, Kd.fresh' (Kd.R_lt z13c) k_ hk⟩)); (case aO => exact (by (with_reducible repeat (first | apply Kd.R_alloc | apply Kd.R_drewN | apply Kd.R_drew)); exact Kd.R_mono HO372.out (fun _ hk => ⟨hk.1.1.1.2, ⟨hk.1.1.2, ⟨hk.1.2, hk.2⟩⟩⟩))); (case aS => exact (below_size z13b)); (case aL => have := LMc72.out; omega); intro v374 w79 ho hb hg hat; rw [← Ny373.out] at ho; have n0_ := A_ (Kd.R_after (ok := (fun k_ => some k_ ≠ (.slice Ao17 t335.length co17 : Value).ownBlock ∧ some k_ ≠ (.slice Ao70 t341.length co70 : Value).ownBlock ∧ some k_ ≠ (.slice Ao21 t344.length co21 : Value).ownBlock)) z13d hg hat); have n1_ := A_ (Kd.R_after (ok := (fun k_ => some k_ ≠ (.slice Ao47 t332.length co47 : Value).ownBlock ∧ some k_ ≠ (.slice Ao70 t341.length co70 : Value).ownBlock ∧ some k_ ≠ (.slice Ao21 t344.length co21 : Value).ownBlock)) z13e hg hat); have n2_ := A_ (Kd.R_after (ok := (fun k_ => some k_ ≠ (.slice Ao47 t332.length co47 : Value).ownBlock ∧ some k_ ≠ (.slice Ao17 t335.length co17 : Value).ownBlock ∧ some k_ ≠ (.slice Ao21 t344.length co21 : Value).ownBlock)) z13k hg hat); have n3_ := A_ (Kd.R_after (ok := (fun k_ => some k_ ≠ (.slice Ao47 t332.length co47 : Value).ownBlock ∧ some k_ ≠ (.slice Ao17 t335.length co17 : Value).ownBlock ∧ some k_ ≠ (.slice Ao70 t341.length co70 : Value).ownBlock)) z13c hg hat); have n4_ := A_ (hb); have n5_ := A_ (ho); clear HO_4; clear HO_5; clear HO_9; clear HO_10; clear HB; clear HO372; have HO_4 := n0_; have HO_5 := n1_; have HO_9 := n2_; have HO_10 := n3_; have HB := n4_; have HO375 := n5_; clear n0_ n1_ n2_ n3_ n4_ n5_; clear ho hb hg hat) | ((with_reducible refine gate_builtin (b := .append) (xs := #[.tmp 114, .tmp 115]) rfl ?_); (try (refine gate_guard (by rfl) ?_; dsimp only)); at_builtin; refine Kd.R_append_rows (Kd.int .u8) (w0 := w) w.heap.size rfl (.tmp 114) (.tmp 115) 22 5 (.int .u8 0) 1 rfl Try.underlying22 info5 rfl (by decide) (by omega) v374 y373 t335 _ _ _ (fun k_ => some k_ ≠ (.slice Ao47 t332.length co47 : Value).ownBlock ∧ some k_ ≠ (.slice Ao17 t335.length co17 : Value).ownBlock ∧ some k_ ≠ (.slice Ao70 t341.length co70 : Value).ownBlock ∧ some k_ ≠ (.slice Ao21 t344.length co21 : Value).ownBlock) (fun _ => False) rfl rfl ?aO ?aR (fun _ _ h => h) (fun _ h => h.elim) ?aF ?aB ?aS ?aL ?_; (case aR => exact z13z); (case aB => exact z13b); (case aF => exact (fun k_ hk => ⟨Kd.fresh' (Kd.R_lt z13d) k_ hk, Kd.fresh' (Kd.R_lt z13e) k_ hk, Kd.fresh' (Kd.R_lt z13k) k_ hk, Kd.fresh' (Kd.R_lt z13c) k_ hk⟩)); (case aO => exact (by (with_reducible repeat (first | apply Kd.R_alloc | apply Kd.R_drewN | apply Kd.R_drew)); exact HO375.out)); (case aS => exact (below_size z13b)); (case aL => have := LMc73.out; omega); intro v377 w80 ho hb hg hat; rw [← Ny376.out] at ho; have n0_ := A_ (Kd.R_after (ok := (fun k_ => some k_ ≠ (.slice Ao17 t335.length co17 : Value).ownBlock ∧ some k_ ≠ (.slice Ao70 t341.length co70 : Value).ownBlock ∧ some k_ ≠ (.slice Ao21 t344.length co21 : Value).ownBlock)) z13d hg hat); have n1_ := A_ (Kd.R_after (ok := (fun k_ => some k_ ≠ (.slice Ao47 t332.length co47 : Value).ownBlock ∧ some k_ ≠ (.slice Ao70 t341.length co70 : Value).ownBlock ∧ some k_ ≠ (.slice Ao21 t344.length co21 : Value).ownBlock)) z13e hg hat); have n2_ := A_ (Kd.R_after (ok := (fun k_ => some k_ ≠ (.slice Ao47 t332.length co47 : Value).ownBlock ∧ some k_ ≠ (.slice Ao17 t335.length co17 : Value).ownBlock ∧ some k_ ≠ (.slice Ao21 t344.length co21 : Value).ownBlock)) z13k hg hat); have n3_ := A_ (Kd.R_after (ok := (fun k_ => some k_ ≠ (.slice Ao47 t332.length co47 : Value).ownBlock ∧ some k_ ≠ (.slice Ao17 t335.length co17 : Value).ownBlock ∧ some k_ ≠ (.slice Ao70 t341.length co70 : Value).ownBlock)) z13c hg hat); have n4_ := A_ (hb); have n5_ := A_ (ho); clear HO_4; clear HO_5; clear HO_9; clear HO_10; clear HB; clear HO375; have HO_4 := n0_; have HO_5 := n1_; have HO_9 := n2_; have HO_10 := n3_; have HB := n4_; have HO378 := n5_; clear n0_ n1_ n2_ n3_ n4_ n5_; clear ho hb hg hat; obtain ⟨Ao81, co81, eo81⟩ := Kd.R_slice HO378.out; subst eo81) | ((with_reducible refine gate_callee (f := 26) rfl ?_); refine goesL_ (some 117) rfl rfl Try.func26 (by kernel_rfl) rfl #[.slice Ao81 y376.length co81] rfl z13h ?_; (with_reducible refine (impl_ReadText.calls kj45 _ _ y376 t379 t380 _ ?side1 ?side2 A74.out).mono ?_); (case side1 => exact (by repeat (first | exact (Kd.R_reads' HO378.out).2.2 | (with_reducible refine Kd.C_alloc ?_ _) | (with_reducible refine Kd.C_drewN ?_ _) | (with_reducible refine Kd.C_drew ?_)))); (case side2 => exact (Kd.R_reads' HO378.out).2.1); rintro e w' ⟨rfl, ⟨nd, rfl⟩⟩; refine ⟨_, rfl, ?_⟩))
        go_meet
        case rel => exact ⟨_, H', ⟨by have := HJ12.out; have := HJ33.out; have := HJ45.out; first | omega | exact Nat.le_refl _⟩, ⟨by (with_reducible repeat (first | apply Kd.R_alloc | apply Kd.R_drewN | apply Kd.R_drew)); exact Kd.R_mono HO_4.out (fun _ hk => ⟨hk.1.1, hk.1.2.2⟩)⟩, ⟨by (with_reducible repeat (first | apply Kd.R_alloc | apply Kd.R_drewN | apply Kd.R_drew)); exact Kd.R_mono HO_5.out (fun _ hk => ⟨hk.1.1, hk.1.2.2⟩)⟩, ⟨by (with_reducible repeat (first | apply Kd.R_alloc | apply Kd.R_drewN | apply Kd.R_drew)); exact Kd.R_mono HO_10.out (fun _ hk => ⟨hk.1.1, hk.1.2.1⟩)⟩, ⟨by repeat (first | (with_reducible first | exact HB.out | apply below_alloc | apply pw_below_drewN | apply below_drew1) | exact HB.out)⟩⟩
        }
        {
        rw [if_neg c76] at H
        have c76b0 : (t380 == (t341.length : Int)) = false := beq_eq_false_iff_ne.mpr c76
        have c76b1 : (t380 != (t341.length : Int)) = true := bne_iff_ne.mpr c76
        obtain rfl := Option.some.inj H
        go_wp2_with (first | ((with_reducible refine gate_dst (N := 112) rfl ?_); (try (refine gate_guard (by rfl) ?_; dsimp only)); refine Kd.R_lit (Kd.int .u8) _ 5 ?hg (N := 112) ?hd (xs := ([] : List Int)) (inner := []) (ok := fun _ => True) (okp := fun _ => True) ?hr ?hp (fun _ hk => hk) trivial (Below.refl _ _) (Nat.le_refl _) (by simp) ?_; (case hd => rfl); (case hg => rfl); (case hr => first | (go_simp; done) | (go_simp; rfl)); (case hp => exact (Reps.none _ _)); intro v371 w82 ho83 hb hg_ hnew_; clear hg_ hnew_; (first | rw [← Ny370.out] at ho83 | (simp only [Int.reduceToNat] at ho83; rw [← Ny370.out] at ho83)); have n0_ := A_ (Kd.R_elder' z13d (Kd.R_base ho83) hb); have n1_ := A_ (Kd.R_elder' z13e (Kd.R_base ho83) hb); have n2_ := A_ (Kd.R_elder' z13k (Kd.R_base ho83) hb); have n3_ := A_ (Kd.R_elder' z13c (Kd.R_base ho83) hb); have n4_ := A_ (Kd.R_lower (Kd.R_new' (Kd.R_new' (Kd.R_new' (Kd.R_new' ho83 (Kd.R_lt z13d)) (Kd.R_lt z13e)) (Kd.R_lt z13k)) (Kd.R_lt z13c)) (below_size z13b)); have n5_ := A_ (below_step z13b hb); clear HO_4; clear HO_5; clear HO_9; clear HO_10; clear HB; have HO_4 := n0_; have HO_5 := n1_; have HO_9 := n2_; have HO_10 := n3_; have HO372 := n4_; have HB := n5_; clear n0_ n1_ n2_ n3_ n4_ n5_; clear hb ho83) | ((with_reducible refine gate_builtin (b := .append) (xs := #[.tmp 112, .tmp 113]) rfl ?_); (try (refine gate_guard (by rfl) ?_; dsimp only)); at_builtin; refine Kd.R_append_rows (Kd.int .u8) (w0 := w) w.heap.size rfl (.tmp 112) (.tmp 113) 22 5 (.int .u8 0) 1 rfl Try.underlying22 info5 rfl (by decide) (by omega) v371 y370 t341 _ _ _ (fun k_ => some k_ ≠ (.slice Ao47 t332.length co47 : Value).ownBlock ∧ some k_ ≠ (.slice Ao17 t335.length co17 : Value).ownBlock ∧ some k_ ≠ (.slice Ao70 t341.length co70 : Value).ownBlock ∧ some k_ ≠ (.slice Ao21 t344.length co21 : Value).ownBlock) (fun _ => False) rfl rfl ?aO ?aR (fun _ _ h => h) (fun _ h => h.elim) ?aF ?aB ?aS ?aL ?_; (case aR => exact (by repeat (first | exact (Kd.R_reads' HO_9.out).2.2 | (with_reducible refine Kd.C_alloc ?_ _) | (with_reducible refine Kd.C_drewN ?_ _) | (with_reducible refine Kd.C_drew ?_)))); (case aB => exact z13b); (case aF => exact (fun k_ hk => ⟨Kd.fresh' (Kd.R_lt z13d) k_ hk, Kd.fresh' (Kd.R_lt z13e) k_ hk, Kd.fresh' (Kd.R_lt z13k) k_ hk, Kd.fresh' (Kd.R_lt z13c) k_ hk⟩)); (case aO => exact (by (with_reducible repeat (first | apply Kd.R_alloc | apply Kd.R_drewN | apply Kd.R_drew)); exact Kd.R_mono HO372.out (fun _ hk => ⟨hk.1.1.1.2, ⟨hk.1.1.2, ⟨hk.1.2, hk.2⟩⟩⟩))); (case aS => exact (below_size z13b)); (case aL => have := LMc72.out; omega); intro v374 w84 ho hb hg hat; rw [← Ny373.out] at ho; have n0_ := A_ (Kd.R_after (ok := (fun k_ => some k_ ≠ (.slice Ao17 t335.length co17 : Value).ownBlock ∧ some k_ ≠ (.slice Ao70 t341.length co70 : Value).ownBlock ∧ some k_ ≠ (.slice Ao21 t344.length co21 : Value).ownBlock)) z13d hg hat); have n1_ := A_ (Kd.R_after (ok := (fun k_ => some k_ ≠ (.slice Ao47 t332.length co47 : Value).ownBlock ∧ some k_ ≠ (.slice Ao70 t341.length co70 : Value).ownBlock ∧ some k_ ≠ (.slice Ao21 t344.length co21 : Value).ownBlock)) z13e hg hat); have n2_ := A_ (Kd.R_after (ok := (fun k_ => some k_ ≠ (.slice Ao47 t332.length co47 : Value).ownBlock ∧ some k_ ≠ (.slice Ao17 t335.length co17 : Value).ownBlock ∧ some k_ ≠ (.slice Ao21 t344.length co21 : Value).ownBlock)) z13k hg hat); have n3_ := A_ (Kd.R_after (ok := (fun k_ => some k_ ≠ (.slice Ao47 t332.length co47 : Value).ownBlock ∧ some k_ ≠ (.slice Ao17 t335.length co17 : Value).ownBlock ∧ some k_ ≠ (.slice Ao70 t341.length co70 : Value).ownBlock)) z13c hg hat); have n4_ := A_ (hb); have n5_ := A_ (ho); clear HO_4; clear HO_5; clear HO_9; clear HO_10; clear HB; clear HO372; have HO_4 := n0_; have HO_5 := n1_; have HO_9 := n2_; have HO_10 := n3_; have HB := n4_; have HO375 := n5_; clear n0_ n1_ n2_ n3_ n4_ n5_; clear ho hb hg hat) | ((with_reducible refine gate_builtin (b := .append) (xs := #[.tmp 114, .tmp 115]) rfl ?_); (try (refine gate_guard (by rfl) ?_; dsimp only)); at_builtin; refine Kd.R_append_rows (Kd.int .u8) (w0 := w) w.heap.size rfl (.tmp 114) (.tmp 115) 22 5 (.int .u8 0) 1 rfl Try.underlying22 info5 rfl (by decide) (by omega) v374 y373 t335 _ _ _ (fun k_ => some k_ ≠ (.slice Ao47 t332.length co47 : Value).ownBlock ∧ some k_ ≠ (.slice Ao17 t335.length co17 : Value).ownBlock ∧ some k_ ≠ (.slice Ao70 t341.length co70 : Value).ownBlock ∧ some k_ ≠ (.slice Ao21 t344.length co21 : Value).ownBlock) (fun _ => False) rfl rfl ?aO ?aR (fun _ _ h => h) (fun _ h => h.elim) ?aF ?aB ?aS ?aL ?_; (case aR => exact z13z); (case aB => exact z13b); (case aF => exact (fun k_ hk => ⟨Kd.fresh' (Kd.R_lt z13d) k_ hk, Kd.fresh' (Kd.R_lt z13e) k_ hk, Kd.fresh' (Kd.R_lt z13k) k_ hk, Kd.fresh' (Kd.R_lt z13c) k_ hk⟩)); (case aO => exact (by (with_reducible repeat (first | apply Kd.R_alloc | apply Kd.R_drewN | apply Kd.R_drew)); exact HO375.out)); (case aS => exact (below_size z13b)); (case aL => have := LMc73.out; omega); intro v377 w85 ho hb hg hat; rw [← Ny376.out] at ho; have n0_ := A_ (Kd.R_after (ok := (fun k_ => some k_ ≠ (.slice Ao17 t335.length co17 : Value).ownBlock ∧ some k_ ≠ (.slice Ao70 t341.length co70 : Value).ownBlock ∧ some k_ ≠ (.slice Ao21 t344.length co21 : Value).ownBlock)) z13d hg hat); have n1_ := A_ (Kd.R_after (ok := (fun k_ => some k_ ≠ (.slice Ao47 t332.length co47 : Value).ownBlock ∧ some k_ ≠ (.slice Ao70 t341.length co70 : Value).ownBlock ∧ some k_ ≠ (.slice Ao21 t344.length co21 : Value).ownBlock)) z13e hg hat); have n2_ := A_ (Kd.R_after (ok := (fun k_ => some k_ ≠ (.slice Ao47 t332.length co47 : Value).ownBlock ∧ some k_ ≠ (.slice Ao17 t335.length co17 : Value).ownBlock ∧ some k_ ≠ (.slice Ao21 t344.length co21 : Value).ownBlock)) z13k hg hat); have n3_ := A_ (Kd.R_after (ok := (fun k_ => some k_ ≠ (.slice Ao47 t332.length co47 : Value).ownBlock ∧ some k_ ≠ (.slice Ao17 t335.length co17 : Value).ownBlock ∧ some k_ ≠ (.slice Ao70 t341.length co70 : Value).ownBlock)) z13c hg hat); have n4_ := A_ (hb); have n5_ := A_ (ho); clear HO_4; clear HO_5; clear HO_9; clear HO_10; clear HB; clear HO375; have HO_4 := n0_; have HO_5 := n1_; have HO_9 := n2_; have HO_10 := n3_; have HB := n4_; have HO378 := n5_; clear n0_ n1_ n2_ n3_ n4_ n5_; clear ho hb hg hat; obtain ⟨Ao86, co86, eo86⟩ := Kd.R_slice HO378.out; subst eo86) | ((with_reducible refine gate_callee (f := 26) rfl ?_); refine goesL_ (some 117) rfl rfl Try.func26 (by kernel_rfl) rfl #[.slice Ao86 y376.length co86] rfl z13h ?_; (with_reducible refine (impl_ReadText.calls kj45 _ _ y376 t379 t380 _ ?side1 ?side2 A74.out).mono ?_); (case side1 => exact (by repeat (first | exact (Kd.R_reads' HO378.out).2.2 | (with_reducible refine Kd.C_alloc ?_ _) | (with_reducible refine Kd.C_drewN ?_ _) | (with_reducible refine Kd.C_drew ?_)))); (case side2 => exact (Kd.R_reads' HO378.out).2.1); rintro e w' ⟨rfl, ⟨nd, rfl⟩⟩; refine ⟨_, rfl, ?_⟩))
        go_ret
        exact ⟨by first | rfl | (simp [errW_none, errW_some] <;> rfl) | (simp [*, errW_none, errW_some] <;> rfl), by repeat (first | (with_reducible first | exact HB.out | apply below_alloc | apply pw_below_drewN | apply below_drew1) | exact HB.out)⟩
        }
        }
        {
        rw [if_neg c75] at H
        have c75b0 : (t379.toList == t340.toList) = false := beq_eq_false_iff_ne.mpr c75
        have c75b1 : (t379.toList != t340.toList) = true := bne_iff_ne.mpr c75
        obtain rfl := Option.some.inj H
        go_wp2_with (first | ((with_reducible refine gate_dst (N := 112) rfl ?_); (try (refine gate_guard (by rfl) ?_; dsimp only)); refine Kd.R_lit (Kd.int .u8) _ 5 ?hg (N := 112) ?hd (xs := ([] : List Int)) (inner := []) (ok := fun _ => True) (okp := fun _ => True) ?hr ?hp (fun _ hk => hk) trivial (Below.refl _ _) (Nat.le_refl _) (by simp) ?_; (case hd => rfl); (case hg => rfl); (case hr => first | (go_simp; done) | (go_simp; rfl)); (case hp => exact (Reps.none _ _)); intro v371 w87 ho88 hb hg_ hnew_; clear hg_ hnew_; (first | rw [← Ny370.out] at ho88 | (simp only [Int.reduceToNat] at ho88; rw [← Ny370.out] at ho88)); have n0_ := A_ (Kd.R_elder' z13d (Kd.R_base ho88) hb); have n1_ := A_ (Kd.R_elder' z13e (Kd.R_base ho88) hb); have n2_ := A_ (Kd.R_elder' z13k (Kd.R_base ho88) hb); have n3_ := A_ (Kd.R_elder' z13c (Kd.R_base ho88) hb); have n4_ := A_ (Kd.R_lower (Kd.R_new' (Kd.R_new' (Kd.R_new' (Kd.R_new' ho88 (Kd.R_lt z13d)) (Kd.R_lt z13e)) (Kd.R_lt z13k)) (Kd.R_lt z13c)) (below_size z13b)); have n5_ := A_ (below_step z13b hb); clear HO_4; clear HO_5; clear HO_9; clear HO_10; clear HB; have HO_4 := n0_; have HO_5 := n1_; have HO_9 := n2_; have HO_10 := n3_; have HO372 := n4_; have HB := n5_; clear n0_ n1_ n2_ n3_ n4_ n5_; clear hb ho88) | ((with_reducible refine gate_builtin (b := .append) (xs := #[.tmp 112, .tmp 113]) rfl ?_); (try (refine gate_guard (by rfl) ?_; dsimp only)); at_builtin; refine Kd.R_append_rows (Kd.int .u8) (w0 := w) w.heap.size rfl (.tmp 112) (.tmp 113) 22 5 (.int .u8 0) 1 rfl Try.underlying22 info5 rfl (by decide) (by omega) v371 y370 t341 _ _ _ (fun k_ => some k_ ≠ (.slice Ao47 t332.length co47 : Value).ownBlock ∧ some k_ ≠ (.slice Ao17 t335.length co17 : Value).ownBlock ∧ some k_ ≠ (.slice Ao70 t341.length co70 : Value).ownBlock ∧ some k_ ≠ (.slice Ao21 t344.length co21 : Value).ownBlock) (fun _ => False) rfl rfl ?aO ?aR (fun _ _ h => h) (fun _ h => h.elim) ?aF ?aB ?aS ?aL ?_; (case aR => exact (by repeat (first | exact (Kd.R_reads' HO_9.out).2.2 | (with_reducible refine Kd.C_alloc ?_ _) | (with_reducible refine Kd.C_drewN ?_ _) | (with_reducible refine Kd.C_drew ?_)))); (case aB => exact z13b); (case aF => exact (fun k_ hk => ⟨Kd.fresh' (Kd.R_lt z13d) k_ hk, Kd.fresh' (Kd.R_lt z13e) k_ hk, Kd.fresh' (Kd.R_lt z13k) k_ hk, Kd.fresh' (Kd.R_lt z13c) k_ hk⟩)); (case aO => exact (by (with_reducible repeat (first | apply Kd.R_alloc | apply Kd.R_drewN | apply Kd.R_drew)); exact Kd.R_mono HO372.out (fun _ hk => ⟨hk.1.1.1.2, ⟨hk.1.1.2, ⟨hk.1.2, hk.2⟩⟩⟩))); (case aS => exact (below_size z13b)); (case aL => have := LMc72.out; omega); intro v374 w89 ho hb hg hat; rw [← Ny373.out] at ho; have n0_ := A_ (Kd.R_after (ok := (fun k_ => some k_ ≠ (.slice Ao17 t335.length co17 : Value).ownBlock ∧ some k_ ≠ (.slice Ao70 t341.length co70 : Value).ownBlock ∧ some k_ ≠ (.slice Ao21 t344.length co21 : Value).ownBlock)) z13d hg hat); have n1_ := A_ (Kd.R_after (ok := (fun k_ => some k_ ≠ (.slice Ao47 t332.length co47 : Value).ownBlock ∧ some k_ ≠ (.slice Ao70 t341.length co70 : Value).ownBlock ∧ some k_ ≠ (.slice Ao21 t344.length co21 : Value).ownBlock)) z13e hg hat); have n2_ := A_ (Kd.R_after (ok := (fun k_ => some k_ ≠ (.slice Ao47 t332.length co47 : Value).ownBlock ∧ some k_ ≠ (.slice Ao17 t335.length co17 : Value).ownBlock ∧ some k_ ≠ (.slice Ao21 t344.length co21 : Value).ownBlock)) z13k hg hat); have n3_ := A_ (Kd.R_after (ok := (fun k_ => some k_ ≠ (.slice Ao47 t332.length co47 : Value).ownBlock ∧ some k_ ≠ (.slice Ao17 t335.length co17 : Value).ownBlock ∧ some k_ ≠ (.slice Ao70 t341.length co70 : Value).ownBlock)) z13c hg hat); have n4_ := A_ (hb); have n5_ := A_ (ho); clear HO_4; clear HO_5; clear HO_9; clear HO_10; clear HB; clear HO372; have HO_4 := n0_; have HO_5 := n1_; have HO_9 := n2_; have HO_10 := n3_; have HB := n4_; have HO375 := n5_; clear n0_ n1_ n2_ n3_ n4_ n5_; clear ho hb hg hat) | ((with_reducible refine gate_builtin (b := .append) (xs := #[.tmp 114, .tmp 115]) rfl ?_); (try (refine gate_guard (by rfl) ?_; dsimp only)); at_builtin; refine Kd.R_append_rows (Kd.int .u8) (w0 := w) w.heap.size rfl (.tmp 114) (.tmp 115) 22 5 (.int .u8 0) 1 rfl Try.underlying22 info5 rfl (by decide) (by omega) v374 y373 t335 _ _ _ (fun k_ => some k_ ≠ (.slice Ao47 t332.length co47 : Value).ownBlock ∧ some k_ ≠ (.slice Ao17 t335.length co17 : Value).ownBlock ∧ some k_ ≠ (.slice Ao70 t341.length co70 : Value).ownBlock ∧ some k_ ≠ (.slice Ao21 t344.length co21 : Value).ownBlock) (fun _ => False) rfl rfl ?aO ?aR (fun _ _ h => h) (fun _ h => h.elim) ?aF ?aB ?aS ?aL ?_; (case aR => exact z13z); (case aB => exact z13b); (case aF => exact (fun k_ hk => ⟨Kd.fresh' (Kd.R_lt z13d) k_ hk, Kd.fresh' (Kd.R_lt z13e) k_ hk, Kd.fresh' (Kd.R_lt z13k) k_ hk, Kd.fresh' (Kd.R_lt z13c) k_ hk⟩)); (case aO => exact (by (with_reducible repeat (first | apply Kd.R_alloc | apply Kd.R_drewN | apply Kd.R_drew)); exact HO375.out)); (case aS => exact (below_size z13b)); (case aL => have := LMc73.out; omega); intro v377 w90 ho hb hg hat; rw [← Ny376.out] at ho; have n0_ := A_ (Kd.R_after (ok := (fun k_ => some k_ ≠ (.slice Ao17 t335.length co17 : Value).ownBlock ∧ some k_ ≠ (.slice Ao70 t341.length co70 : Value).ownBlock ∧ some k_ ≠ (.slice Ao21 t344.length co21 : Value).ownBlock)) z13d hg hat); have n1_ := A_ (Kd.R_after (ok := (fun k_ => some k_ ≠ (.slice Ao47 t332.length co47 : Value).ownBlock ∧ some k_ ≠ (.slice Ao70 t341.length co70 : Value).ownBlock ∧ some k_ ≠ (.slice Ao21 t344.length co21 : Value).ownBlock)) z13e hg hat); have n2_ := A_ (Kd.R_after (ok := (fun k_ => some k_ ≠ (.slice Ao47 t332.length co47 : Value).ownBlock ∧ some k_ ≠ (.slice Ao17 t335.length co17 : Value).ownBlock ∧ some k_ ≠ (.slice Ao21 t344.length co21 : Value).ownBlock)) z13k hg hat); have n3_ := A_ (Kd.R_after (ok := (fun k_ => some k_ ≠ (.slice Ao47 t332.length co47 : Value).ownBlock ∧ some k_ ≠ (.slice Ao17 t335.length co17 : Value).ownBlock ∧ some k_ ≠ (.slice Ao70 t341.length co70 : Value).ownBlock)) z13c hg hat); have n4_ := A_ (hb); have n5_ := A_ (ho); clear HO_4; clear HO_5; clear HO_9; clear HO_10; clear HB; clear HO375; have HO_4 := n0_; have HO_5 := n1_; have HO_9 := n2_; have HO_10 := n3_; have HB := n4_; have HO378 := n5_; clear n0_ n1_ n2_ n3_ n4_ n5_; clear ho hb hg hat; obtain ⟨Ao91, co91, eo91⟩ := Kd.R_slice HO378.out; subst eo91) | ((with_reducible refine gate_callee (f := 26) rfl ?_); refine goesL_ (some 117) rfl rfl Try.func26 (by kernel_rfl) rfl #[.slice Ao91 y376.length co91] rfl z13h ?_; (with_reducible refine (impl_ReadText.calls kj45 _ _ y376 t379 t380 _ ?side1 ?side2 A74.out).mono ?_); (case side1 => exact (by repeat (first | exact (Kd.R_reads' HO378.out).2.2 | (with_reducible refine Kd.C_alloc ?_ _) | (with_reducible refine Kd.C_drewN ?_ _) | (with_reducible refine Kd.C_drew ?_)))); (case side2 => exact (Kd.R_reads' HO378.out).2.1); rintro e w' ⟨rfl, ⟨nd, rfl⟩⟩; refine ⟨_, rfl, ?_⟩))
        go_ret
        exact ⟨by first | rfl | (simp [errW_none, errW_some] <;> rfl) | (simp [*, errW_none, errW_some] <;> rfl), by repeat (first | (with_reducible first | exact HB.out | apply below_alloc | apply pw_below_drewN | apply below_drew1) | exact HB.out)⟩
        }
        }
        {
        rw [if_neg c73] at H
        exact absurd H (by simp)
        }
        }
        {
        rw [if_neg c72] at H
        exact absurd H (by simp)
        }
        }
        {
        rw [if_neg c71] at H
        have c71b0 : decide (0 < (t341.length : Int)) = false := decide_eq_false c71
        have c71b1 : decide (0 < t341.length) = false := decide_eq_false (by omega)
        clear c71
        (first | rw [c71b0] | rw [c71b1] | (simp only [i64_w, i32_w]; rw [c71b0]) | skip)
        have H' := A_ H
        clear H
        go_wp2
        go_meet
        case rel => exact ⟨_, H', ⟨by have := HJ12.out; have := HJ33.out; have := HJ45.out; first | omega | exact Nat.le_refl _⟩, ⟨by (with_reducible repeat (first | apply Kd.R_alloc | apply Kd.R_drewN | apply Kd.R_drew)); exact Kd.R_mono HO_4.out (fun _ hk => ⟨hk.1, hk.2.2⟩)⟩, ⟨by (with_reducible repeat (first | apply Kd.R_alloc | apply Kd.R_drewN | apply Kd.R_drew)); exact Kd.R_mono HO_5.out (fun _ hk => ⟨hk.1, hk.2.2⟩)⟩, ⟨by (with_reducible repeat (first | apply Kd.R_alloc | apply Kd.R_drewN | apply Kd.R_drew)); exact Kd.R_mono HO_10.out (fun _ hk => ⟨hk.1, hk.2.1⟩)⟩, ⟨by repeat (first | (with_reducible first | exact HB.out | apply below_alloc | apply pw_below_drewN | apply below_drew1) | exact HB.out)⟩⟩
        }
       case rest =>
        clear HC69
        try clear c2
        try clear p2
        try clear c3
        try clear hcv3
        try clear c4
        try clear hcv4
        try clear c5
        try clear c7
        try clear c22
        try clear c26
        try clear c35
        try clear c35b0
        try clear c35b1
        try clear c36
        try clear c36b0
        try clear c36b1
        try clear hcv39
        try clear hcv40
        try clear hcv41
        try clear c45
        try clear c48
        try clear c48b0
        try clear c48b1
        try clear c49
        try clear c50
        try clear c52
        try clear c52b0
        try clear c52b1
        try clear c53
        try clear c53b0
        try clear c53b1
        try clear c55
        try clear c71
        try clear c71b0
        try clear c71b1
        try clear c72
        try clear c73
        try clear c75
        try clear c75b0
        try clear c75b1
        try clear c76
        try clear c76b0
        try clear c76b1
        try clear p2
        obtain ⟨kq, HA, HJ68, HO_4, HO_5, HO_10, HB⟩ := hcut
        cases kq with
        | zero => exact absurd HA.out (by simp [laws_FnRows.j3])
        | succ kj68 =>
         have H := HA.out
         clear HA
         simp only [laws_FnRows.j3] at H
         by_cases c92 : t339 = 0
         {
         as_aux_lemma =>
         rw [if_pos c92] at H
         have c92b0 : (t339 == 0) = true := beq_iff_eq.mpr c92
         have c92b1 : (t339 != 0) = false := bne_eq_false_iff_eq.mpr c92
         clear c92
         by_cases c93 : t348 = 0
         {
         as_aux_lemma =>
         rw [if_pos c93] at H
         have c93b0 : (t348 == 0) = true := beq_iff_eq.mpr c93
         have c93b1 : (t348 != 0) = false := bne_eq_false_iff_eq.mpr c93
         clear c93
         by_cases c94 : t331 ≥ 0
         {
         as_aux_lemma =>
         rw [if_pos c94] at H
         have c94b0 : decide (0 ≤ t331) = true := decide_eq_true c94
         clear c94
         obtain rfl := Option.some.inj H
         try go_wp2
         replace HO_4 := A_ (Kd.R_drew HO_4.out)
         replace HO_5 := A_ (Kd.R_drew HO_5.out)
         replace HO_10 := A_ (Kd.R_drew HO_10.out)
         replace HB := A_ (below_drew1 HB.out)
         refine start_ (n := 39) (S := fun w' => True) (ds := []) (yx 0 39) (by kernel_rfl) rfl rfl trivial (fun hHeld => ?_); refine with_tabW laws_FnRows.tab25 laws_FnRows.bits25 (fun HT_ HW_ => ?_)
         generalize wc.drew = w95 at HO_4 HO_5 HO_10 HB hHeld ⊢
         refine pu_ 0 (some 129) (yx 1 38) ?_
         refine pu_ 1 (some 130) (yx 2 37) ?_
         refine pu_ 2 (some 131) (yx 3 36) ?_
         refine pn_ 3 (some 132) (yx 4 35) ?_
         refine pn_ 4 (some 133) (yx 5 34) ?_
         refine pn_ 5 (some 134) (yx 6 33) ?_
         refine pn_ 6 (some 135) (yx 7 32) ?_
         refine pn_ 7 (some 136) (yx 8 31) ?_
         refine pn_ 8 (some 137) (yx 9 30) ?_
         refine pn_ 9 (some 138) (yx 10 29) ?_
         refine pn_ 10 (some 139) (yx 11 28) ?_
         refine pu_ 11 (some 140) (yx 12 27) ?_
         refine pu_ 12 (some 141) (yx 13 26) ?_
         refine pu_ 13 (some 142) (yx 14 25) ?_
         refine pu_ 14 (some 143) (yx 15 24) ?_
         refine pu_ 15 (some 144) (yx 16 23) ?_
         refine pn_ 16 (some 145) (yx 17 22) ?_
         refine pn_ 17 (some 146) (yx 18 21) ?_
         refine pn_ 18 (some 147) (yx 19 20) ?_
         refine pn_ 19 (some 148) (yx 20 19) ?_
         refine pn_ 20 (some 149) (yx 21 18) ?_
         refine pn_ 21 (some 150) (yx 22 17) ?_
         refine pn_ 22 (some 151) (yx 23 16) ?_
         refine pn_ 23 (some 152) (yx 24 15) ?_
         refine pu_ 24 (some 153) (yx 25 14) ?_
         refine pu_ 25 (some 154) (yx 26 13) ?_
         refine pu_ 26 (some 155) (yx 27 12) ?_
         refine pu_ 27 (some 156) (yx 28 11) ?_
         refine pu_ 28 (some 157) (yx 29 10) ?_
         refine pu_ 29 (some 158) (yx 30 9) ?_
         refine pu_ 30 (some 159) (yx 31 8) ?_
         refine pu_ 31 (some 160) (yx 32 7) ?_
         refine pu_ 32 (some 161) (yx 33 6) ?_
         refine pu_ 33 (some 162) (yx 34 5) ?_
         refine pu_ 34 (some 163) (yx 35 4) ?_
         refine pu_ 35 (some 164) (yx 36 3) ?_
         refine pu_ 36 (some 165) (yx 37 2) ?_
         refine pu_ 37 (some 166) (yx 38 1) ?_
         refine pu_ 38 (some 2) (yx 39 0) ?_
         refine done_ (done_of HT_.out (by kernel_rfl)) ?_
         try go_wp2
         go_ret
         exact ⟨by first | rfl | (simp [errW_none, errW_some] <;> rfl) | (simp [*, errW_none, errW_some] <;> rfl), by repeat (first | (with_reducible first | exact HB.out | apply below_alloc | apply pw_below_drewN | apply below_drew1) | exact HB.out)⟩
         }
         {
         as_aux_lemma =>
         rw [if_neg c94] at H
         have c94b0 : decide (0 ≤ t331) = false := decide_eq_false c94
         clear c94
         obtain rfl := Option.some.inj H
         try go_wp2
         replace HO_4 := A_ (Kd.R_drew HO_4.out)
         replace HO_5 := A_ (Kd.R_drew HO_5.out)
         replace HO_10 := A_ (Kd.R_drew HO_10.out)
         replace HB := A_ (below_drew1 HB.out)
         refine start_ (n := 39) (S := fun w' => True) (ds := []) (yx 0 39) (by kernel_rfl) rfl rfl trivial (fun hHeld => ?_); refine with_tabW laws_FnRows.tab25 laws_FnRows.bits25 (fun HT_ HW_ => ?_)
         generalize wc.drew = w96 at HO_4 HO_5 HO_10 HB hHeld ⊢
         refine pu_ 0 (some 129) (yx 1 38) ?_
         refine pu_ 1 (some 130) (yx 2 37) ?_
         refine pu_ 2 (some 131) (yx 3 36) ?_
         refine pn_ 3 (some 132) (yx 4 35) ?_
         refine pn_ 4 (some 133) (yx 5 34) ?_
         refine pn_ 5 (some 134) (yx 6 33) ?_
         refine pn_ 6 (some 135) (yx 7 32) ?_
         refine pn_ 7 (some 136) (yx 8 31) ?_
         refine pn_ 8 (some 137) (yx 9 30) ?_
         refine pn_ 9 (some 138) (yx 10 29) ?_
         refine pn_ 10 (some 139) (yx 11 28) ?_
         refine pu_ 11 (some 140) (yx 12 27) ?_
         refine pu_ 12 (some 141) (yx 13 26) ?_
         refine pu_ 13 (some 142) (yx 14 25) ?_
         refine pu_ 14 (some 143) (yx 15 24) ?_
         refine pu_ 15 (some 144) (yx 16 23) ?_
         refine pn_ 16 (some 145) (yx 17 22) ?_
         refine pn_ 17 (some 146) (yx 18 21) ?_
         refine pn_ 18 (some 147) (yx 19 20) ?_
         refine pn_ 19 (some 148) (yx 20 19) ?_
         refine pn_ 20 (some 149) (yx 21 18) ?_
         refine pn_ 21 (some 150) (yx 22 17) ?_
         refine pn_ 22 (some 151) (yx 23 16) ?_
         refine pn_ 23 (some 152) (yx 24 15) ?_
         refine pu_ 24 (some 153) (yx 25 14) ?_
         refine pu_ 25 (some 154) (yx 26 13) ?_
         refine pu_ 26 (some 155) (yx 27 12) ?_
         refine pu_ 27 (some 156) (yx 28 11) ?_
         refine pu_ 28 (some 157) (yx 29 10) ?_
         refine pu_ 29 (some 158) (yx 30 9) ?_
         refine pu_ 30 (some 159) (yx 31 8) ?_
         refine pu_ 31 (some 160) (yx 32 7) ?_
         refine pu_ 32 (some 161) (yx 33 6) ?_
         refine pn_ 33 (some 162) (yx 34 5) ?_
         refine pn_ 34 (some 163) (yx 35 4) ?_
         refine pu_ 35 (some 164) (yx 36 3) ?_
         refine pu_ 36 (some 165) (yx 37 2) ?_
         refine pu_ 37 (some 166) (yx 38 1) ?_
         refine pu_ 38 (some 2) (yx 39 0) ?_
         refine done_ (done_of HT_.out (by kernel_rfl)) ?_
         try go_wp2
         go_ret
         exact ⟨by first | rfl | (simp [errW_none, errW_some] <;> rfl) | (simp [*, errW_none, errW_some] <;> rfl), by repeat (first | (with_reducible first | exact HB.out | apply below_alloc | apply pw_below_drewN | apply below_drew1) | exact HB.out)⟩
         }
         }
         {
         as_aux_lemma =>
         rw [if_neg c93] at H
         have c93b0 : (t348 == 0) = false := beq_eq_false_iff_ne.mpr c93
         have c93b1 : (t348 != 0) = true := bne_iff_ne.mpr c93
         replace H := Option.bind_eq_some_iff.mp H
         obtain ⟨t381, A970, H⟩ := H
         (try dsimp only at H)
         have A97 := A_ A970
         clear A970
         by_cases c98 : 0 ≤ t348
         {
         as_aux_lemma =>
         rw [if_pos c98] at H
         have c98b0 := eq_true c98
         have c98b1 : decide (0 ≤ t348) = true := decide_eq_true c98
         clear c98
         by_cases c99 : t348 ≤ (t344.length : Int)
         {
         as_aux_lemma =>
         rw [if_pos c99] at H
         have c99b0 := eq_true c99
         have c99b1 : decide (t348 ≤ (t344.length : Int)) = true := decide_eq_true c99
         clear c99
         obtain ⟨y384, hy384⟩ : ∃ y_ : List Int, y_ = (t344.take (t348 : Int).toNat) := ⟨_, rfl⟩
         replace H : (if (strOfNums t381).toList = (strOfNums y384).toList then (if t331 ≥ 0 then (some ((decide ((t332.length : Int) > 0)) == (decide (t331 ≤ 1099511627776)))) else (some ((decide ((t332.length : Int) > 0)) == false))) else (some false)) = some r := by first | (rw [hy384]; with_reducible exact H) | (have H2_ := (Option.bind_some _ _).symm.trans H; rw [hy384]; with_reducible exact H2_) | (have H2_ := (Option.bind_some _ _).symm.trans H; with_reducible exact H2_) | with_reducible exact H | (rw [hy384]; exact H) | exact H
         have Ny384 := A_ hy384
         clear hy384
         have H0_ := A_ H
         clear H
         try go_wp2
         replace HO_4 := A_ (Kd.R_drew HO_4.out)
         replace HO_5 := A_ (Kd.R_drew HO_5.out)
         replace HO_10 := A_ (Kd.R_drew HO_10.out)
         replace HB := A_ (below_drew1 HB.out)
         have q103 : (t348 : Int) ≤ ((t344.length : Int) : Int) := of_decide_eq_true z13o
         obtain ⟨i0103, hi0103, _, hsz103, _⟩ := info_parts info5
         have hroom103 : t344.length ≤ co21 := (Kd.R_reads' HO_10.out).2.1
         have hC103 : Kd.C (Kd.int .u8) _ Ao21 t344.length t344 := (Kd.R_reads' HO_10.out).2.2
         have hcut103 := cut_to (P := Try.prog) 22 5 .i64 Try.underlying22 hi0103 Ao21 t344.length co21 t348 (of_decide_eq_true z13o) q103 hroom103
         have hr103 := Kd.C_take (m := (t348 : Int).toNat) hC103 (by omega)
         have hy103 : y384.length = (t348 : Int).toNat := (by rw [Ny384.out, List.length_take]; omega)
         rw [← Ny384.out] at hr103
         rw [← hy103] at hcut103
         have HR387 := A_ hr103
         have HC387 := A_ (show y384.length ≤ co21 from (by omega))
         clear hr103 hC103 hroom103 hi0103 hsz103
         have KY103 := A_ hy103
         clear hy103
         have KL103 := A_ (show (t348 : Int).toNat ≤ t344.length from (by omega))
         replace q103 := eq_true q103
         refine start_ (n := 39) (S := fun w' => True) (ds := []) (yx 0 39) (by kernel_rfl) rfl rfl trivial (fun hHeld => ?_); refine with_tabW laws_FnRows.tab25 laws_FnRows.bits25 (fun HT_ HW_ => ?_)
         generalize wc.drew = w102 at HO_4 HO_5 HO_10 HB HR387 hHeld ⊢
         refine pu_ 0 (some 129) (yx 1 38) ?_
         refine pu_ 1 (some 130) (yx 2 37) ?_
         refine pu_ 2 (some 131) (yx 3 36) ?_
         refine pn_ 3 (some 132) (yx 4 35) ?_
         refine pn_ 4 (some 133) (yx 5 34) ?_
         refine pn_ 5 (some 134) (yx 6 33) ?_
         refine pn_ 6 (some 135) (yx 7 32) ?_
         refine pn_ 7 (some 136) (yx 8 31) ?_
         refine pn_ 8 (some 137) (yx 9 30) ?_
         refine pn_ 9 (some 138) (yx 10 29) ?_
         refine pn_ 10 (some 139) (yx 11 28) ?_
         refine pu_ 11 (some 140) (yx 12 27) ?_
         refine pu_ 12 (some 141) (yx 13 26) ?_
         refine pu_ 13 (some 142) (yx 14 25) ?_
         refine pu_ 14 (some 143) (yx 15 24) ?_
         refine pu_ 15 (some 144) (yx 16 23) ?_
         refine pu_ 16 (some 145) (yx 17 22) ?_
         refine pu_ 19 (some 148) (rl [17, 2, 1, 19]) ?_
         refine pu_ 20 (some 149) (rl [17, 2, 2, 18]) ?_
         refine pu_ 21 (some 150) (rl [17, 2, 3, 17]) ?_
         refine join_ (σ := Value) 16 (yx 23 16) (fun s_ => [(146, s_), (147, .string (strOfNums t381)), (151, .string (strOfNums y384))]) (fun s_ w' => (Kd.R (Kd.int .u8) 5 w' w.heap.size (fun k_ => some k_ ≠ (.slice Ao21 t344.length co21 : Value).ownBlock ∧ some k_ ≠ (.slice Ao47 t332.length co47 : Value).ownBlock ∧ some k_ ≠ (.slice Ao17 t335.length co17 : Value).ownBlock) s_ t381) ∧ (Kd.R (Kd.int .u8) 5 w' w.heap.size (fun k_ => some k_ ≠ (s_ : Value).ownBlock ∧ some k_ ≠ (.slice Ao47 t332.length co47 : Value).ownBlock ∧ some k_ ≠ (.slice Ao17 t335.length co17 : Value).ownBlock) (.slice Ao21 t344.length co21) t344) ∧ (Kd.R (Kd.int .u8) 5 w' w.heap.size (fun k_ => some k_ ≠ (s_ : Value).ownBlock ∧ some k_ ≠ (.slice Ao21 t344.length co21 : Value).ownBlock ∧ some k_ ≠ (.slice Ao17 t335.length co17 : Value).ownBlock) (.slice Ao47 t332.length co47) t332) ∧ (Kd.R (Kd.int .u8) 5 w' w.heap.size (fun k_ => some k_ ≠ (s_ : Value).ownBlock ∧ some k_ ≠ (.slice Ao21 t344.length co21 : Value).ownBlock ∧ some k_ ≠ (.slice Ao47 t332.length co47 : Value).ownBlock) (.slice Ao17 t335.length co17) t335) ∧ (Below w.heap.size w w')) ?_ ?_
         rotate_left
         {
         intro hCont
         refine two_ (i := 17) (j := 22) (Ni := some 146) (Nj := some 151) (rl [18, 1, 3, 17]) (rl [17, 2, 4, 16]) rfl rfl rfl rfl (two_of HT_.out (by kernel_rfl)) (by decide) (by decide) (fun K hK => ?_) (fun K hK => ?_)
         {
         as_aux_lemma =>
         skip
         refine goes_ Try.func23 (by kernel_rfl) rfl #[.string t347] (by rfl) rfl rfl z13h ?_
         with_reducible refine (impl_Text.calls kj68 t347 t381 _ A97.out).mono ?_
         rintro e w104 ⟨v382, rfl, ho0, hb⟩
         refine ⟨_, rfl, ?_⟩
         have n0_ := A_ (Kd.R_elder' z13d (Kd.R_base ho0) hb)
         have n1_ := A_ (Kd.R_elder' z13e (Kd.R_base ho0) hb)
         have n2_ := A_ (Kd.R_elder' z13c (Kd.R_base ho0) hb)
         have n3_ := A_ (Kd.R_lower (Kd.R_new' (Kd.R_new' (Kd.R_new' ho0 (Kd.R_lt z13d)) (Kd.R_lt z13e)) (Kd.R_lt z13c)) (below_size z13b))
         have n4_ := A_ (Kd.C_below z13j hb)
         have n5_ := A_ (below_step z13b hb)
         clear HO_4
         clear HO_5
         clear HO_10
         clear HR387
         clear HB
         have HO_4 := n0_
         have HO_5 := n1_
         have HO_10 := n2_
         have HO383 := n3_
         have HR387 := n4_
         have HB := n5_
         clear n0_ n1_ n2_ n3_ n4_ n5_
         refine hK.out _ _ trivial (fun hHeld => ?_)
         clear hK K
         refine norm_ (nz_ 146) ?_
         refine two_ (i := 18) (j := 22) (Ni := some 147) (Nj := some 151) (yx 22 17) (rl [18, 1, 4, 16]) rfl rfl rfl rfl (two_of HT_.out (by kernel_rfl)) (by decide) (by decide) (fun K hK => ?_) (fun K hK => ?_)
         {
         skip
         have hcv105 := own_string (P := Try.prog) Try.underlying22 Try.underlying5 Try.underlying9 (Kd.own_of_R HO383.out)
         refine value_ (w1 := ?_) (v := ?_) (by rfl) rfl ?_ ?_
         rotate_left 2
         {
         go_simp
         constructor
         {
         rfl
         }
         {
         rfl
         }
         }
         clear hcv105
         refine hK.out _ _ trivial (fun hHeld => ?_)
         clear hK K
         refine norm_ (nz_ 147) ?_
         refine one_ (i := 22) (N := some 151) (yx 23 16) rfl rfl (one_of HT_.out (by kernel_rfl)) (by decide) (fun K hK => ?_)
         have hcv106 := Kd.C_string (P := Try.prog) (A := Ao21) (c := co21) Try.underlying22 Try.underlying5 Try.underlying9 z13j; have hcvd107 := fun (nq_ : Nat) => Kd.C_string (P := Try.prog) (A := Ao21) (c := co21) Try.underlying22 Try.underlying5 Try.underlying9 (Kd.C_drewN z13j nq_)
         refine value_ (w1 := ?_) (v := ?_) (by rfl) rfl ?_ ?_
         rotate_left 2
         {
         go_simp
         constructor
         {
         rfl
         }
         {
         rfl
         }
         }
         clear hcv106 hcvd107
         refine hK.out _ _ trivial (fun hHeld => ?_)
         clear hK K
         refine norm_ (nz_ 151) ?_
         exact norm_ z13r (hCont (v382) _ ⟨z13t, z13n, z13p, z13q, z13b⟩)
         }
         {
         skip
         have hcv105 := Kd.C_string (P := Try.prog) (A := Ao21) (c := co21) Try.underlying22 Try.underlying5 Try.underlying9 z13j; have hcvd106 := fun (nq_ : Nat) => Kd.C_string (P := Try.prog) (A := Ao21) (c := co21) Try.underlying22 Try.underlying5 Try.underlying9 (Kd.C_drewN z13j nq_)
         refine value_ (w1 := ?_) (v := ?_) (by rfl) rfl ?_ ?_
         rotate_left 2
         {
         go_simp
         constructor
         {
         rfl
         }
         {
         rfl
         }
         }
         clear hcv105 hcvd106
         refine hK.out _ _ trivial (fun hHeld => ?_)
         clear hK K
         refine norm_ (nz_ 151) ?_
         refine one_ (i := 18) (N := some 147) (yx 23 16) rfl rfl (one_of HT_.out (by kernel_rfl)) (by decide) (fun K hK => ?_)
         have hcv107 := own_string (P := Try.prog) Try.underlying22 Try.underlying5 Try.underlying9 (Kd.own_of_R HO383.out)
         refine value_ (w1 := ?_) (v := ?_) (by rfl) rfl ?_ ?_
         rotate_left 2
         {
         go_simp
         constructor
         {
         rfl
         }
         {
         rfl
         }
         }
         clear hcv107
         refine hK.out _ _ trivial (fun hHeld => ?_)
         clear hK K
         refine norm_ (nz_ 147) ?_
         exact norm_ z13r (hCont (v382) _ ⟨z13t, z13n, z13p, z13q, z13b⟩)
         }
         }
         {
         as_aux_lemma =>
         skip
         have hcv104 := Kd.C_string (P := Try.prog) (A := Ao21) (c := co21) Try.underlying22 Try.underlying5 Try.underlying9 z13j; have hcvd105 := fun (nq_ : Nat) => Kd.C_string (P := Try.prog) (A := Ao21) (c := co21) Try.underlying22 Try.underlying5 Try.underlying9 (Kd.C_drewN z13j nq_)
         refine value_ (w1 := ?_) (v := ?_) (by rfl) rfl ?_ ?_
         rotate_left 2
         {
         go_simp
         constructor
         {
         rfl
         }
         {
         rfl
         }
         }
         clear hcv104 hcvd105
         refine hK.out _ _ trivial (fun hHeld => ?_)
         clear hK K
         refine norm_ (nz_ 151) ?_
         refine one_ (i := 17) (N := some 146) (rl [18, 1, 4, 16]) rfl rfl (one_of HT_.out (by kernel_rfl)) (by decide) (fun K hK => ?_)
         refine goes_ Try.func23 (by kernel_rfl) rfl #[.string t347] (by rfl) rfl rfl z13h ?_
         with_reducible refine (impl_Text.calls kj68 t347 t381 _ A97.out).mono ?_
         rintro e w106 ⟨v382, rfl, ho0, hb⟩
         refine ⟨_, rfl, ?_⟩
         have n0_ := A_ (Kd.R_elder' z13d (Kd.R_base ho0) hb)
         have n1_ := A_ (Kd.R_elder' z13e (Kd.R_base ho0) hb)
         have n2_ := A_ (Kd.R_elder' z13c (Kd.R_base ho0) hb)
         have n3_ := A_ (Kd.R_lower (Kd.R_new' (Kd.R_new' (Kd.R_new' ho0 (Kd.R_lt z13d)) (Kd.R_lt z13e)) (Kd.R_lt z13c)) (below_size z13b))
         have n4_ := A_ (Kd.C_below z13j hb)
         have n5_ := A_ (below_step z13b hb)
         clear HO_4
         clear HO_5
         clear HO_10
         clear HR387
         clear HB
         have HO_4 := n0_
         have HO_5 := n1_
         have HO_10 := n2_
         have HO383 := n3_
         have HR387 := n4_
         have HB := n5_
         clear n0_ n1_ n2_ n3_ n4_ n5_
         refine hK.out _ _ trivial (fun hHeld => ?_)
         clear hK K
         refine norm_ (nz_ 146) ?_
         refine one_ (i := 18) (N := some 147) (yx 23 16) rfl rfl (one_of HT_.out (by kernel_rfl)) (by decide) (fun K hK => ?_)
         have hcv107 := own_string (P := Try.prog) Try.underlying22 Try.underlying5 Try.underlying9 (Kd.own_of_R HO383.out)
         refine value_ (w1 := ?_) (v := ?_) (by rfl) rfl ?_ ?_
         rotate_left 2
         {
         go_simp
         constructor
         {
         rfl
         }
         {
         rfl
         }
         }
         clear hcv107
         refine hK.out _ _ trivial (fun hHeld => ?_)
         clear hK K
         refine norm_ (nz_ 147) ?_
         exact norm_ z13r (hCont (v382) _ ⟨z13t, z13n, z13p, z13q, z13b⟩)
         }
         }
         rintro v382 w108 ⟨h0_, h1_, h2_, h3_, h4_⟩
         have n0_ : Aside0 (Kd.R (Kd.int .u8) 5 w108 w.heap.size (fun k_ => some k_ ≠ (.slice Ao21 t344.length co21 : Value).ownBlock ∧ some k_ ≠ (.slice Ao47 t332.length co47 : Value).ownBlock ∧ some k_ ≠ (.slice Ao17 t335.length co17 : Value).ownBlock) v382 t381) := ⟨h0_⟩
         have n1_ : Aside0 (Kd.R (Kd.int .u8) 5 w108 w.heap.size (fun k_ => some k_ ≠ (v382 : Value).ownBlock ∧ some k_ ≠ (.slice Ao47 t332.length co47 : Value).ownBlock ∧ some k_ ≠ (.slice Ao17 t335.length co17 : Value).ownBlock) (.slice Ao21 t344.length co21) t344) := ⟨h1_⟩
         have n2_ : Aside0 (Kd.R (Kd.int .u8) 5 w108 w.heap.size (fun k_ => some k_ ≠ (v382 : Value).ownBlock ∧ some k_ ≠ (.slice Ao21 t344.length co21 : Value).ownBlock ∧ some k_ ≠ (.slice Ao17 t335.length co17 : Value).ownBlock) (.slice Ao47 t332.length co47) t332) := ⟨h2_⟩
         have n3_ : Aside0 (Kd.R (Kd.int .u8) 5 w108 w.heap.size (fun k_ => some k_ ≠ (v382 : Value).ownBlock ∧ some k_ ≠ (.slice Ao21 t344.length co21 : Value).ownBlock ∧ some k_ ≠ (.slice Ao47 t332.length co47 : Value).ownBlock) (.slice Ao17 t335.length co17) t335) := ⟨h3_⟩
         have n4_ : Aside0 (Below w.heap.size w w108) := ⟨h4_⟩
         clear HO_4
         clear HO_5
         clear HO_10
         clear HB
         clear h0_ h1_ h2_ h3_ h4_
         have HO383 := n0_
         have HO_10 := n1_
         have HO_4 := n2_
         have HO_5 := n3_
         have HB := n4_
         clear n0_ n1_ n2_ n3_ n4_
         have hHeld := trivial
         have HR387 := A_ ((show Kd.C (Kd.int .u8) w108 Ao21 y384.length y384 from (by rw [Ny384.out]; exact Kd.C_take (m := (t348 : Int).toNat) ((Kd.R_reads' (HO_10.out)).2.2) KL103.out)))
         refine norm_ (a' := ?_) ?_ ?_
         rotate_left
         exact z13m
         have H := H0_.out
         clear H0_
         by_cases c100 : (strOfNums t381).toList = (strOfNums y384).toList
         {
         rw [if_pos c100] at H
         have c100b0 : ((strOfNums t381).toList == (strOfNums y384).toList) = true := beq_iff_eq.mpr c100
         have c100b1 : ((strOfNums t381).toList != (strOfNums y384).toList) = false := bne_eq_false_iff_eq.mpr c100
         clear c100
         by_cases c101 : t331 ≥ 0
         {
         rw [if_pos c101] at H
         have c101b0 : decide (0 ≤ t331) = true := decide_eq_true c101
         clear c101
         obtain rfl := Option.some.inj H
         refine pu_ 23 (some 152) (yx 24 15) ?_
         refine pu_ 24 (some 153) (yx 25 14) ?_
         refine pu_ 25 (some 154) (yx 26 13) ?_
         refine pu_ 26 (some 155) (yx 27 12) ?_
         refine pu_ 27 (some 156) (yx 28 11) ?_
         refine pu_ 28 (some 157) (yx 29 10) ?_
         refine pu_ 29 (some 158) (yx 30 9) ?_
         refine pu_ 30 (some 159) (yx 31 8) ?_
         refine pu_ 31 (some 160) (yx 32 7) ?_
         refine pu_ 32 (some 161) (yx 33 6) ?_
         refine pu_ 33 (some 162) (yx 34 5) ?_
         refine pu_ 34 (some 163) (yx 35 4) ?_
         refine pu_ 35 (some 164) (yx 36 3) ?_
         refine pu_ 36 (some 165) (yx 37 2) ?_
         refine pu_ 37 (some 166) (yx 38 1) ?_
         refine pu_ 38 (some 2) (yx 39 0) ?_
         refine done_ (done_of HT_.out (by kernel_rfl)) ?_
         try go_wp2
         go_ret
         exact ⟨by first | rfl | (simp [errW_none, errW_some] <;> rfl) | (simp [*, errW_none, errW_some] <;> rfl), by repeat (first | (with_reducible first | exact HB.out | apply below_alloc | apply pw_below_drewN | apply below_drew1) | exact HB.out)⟩
         }
         {
         rw [if_neg c101] at H
         have c101b0 : decide (0 ≤ t331) = false := decide_eq_false c101
         clear c101
         obtain rfl := Option.some.inj H
         refine pu_ 23 (some 152) (yx 24 15) ?_
         refine pu_ 24 (some 153) (yx 25 14) ?_
         refine pu_ 25 (some 154) (yx 26 13) ?_
         refine pu_ 26 (some 155) (yx 27 12) ?_
         refine pu_ 27 (some 156) (yx 28 11) ?_
         refine pu_ 28 (some 157) (yx 29 10) ?_
         refine pu_ 29 (some 158) (yx 30 9) ?_
         refine pu_ 30 (some 159) (yx 31 8) ?_
         refine pu_ 31 (some 160) (yx 32 7) ?_
         refine pu_ 32 (some 161) (yx 33 6) ?_
         refine pn_ 33 (some 162) (yx 34 5) ?_
         refine pn_ 34 (some 163) (yx 35 4) ?_
         refine pu_ 35 (some 164) (yx 36 3) ?_
         refine pu_ 36 (some 165) (yx 37 2) ?_
         refine pu_ 37 (some 166) (yx 38 1) ?_
         refine pu_ 38 (some 2) (yx 39 0) ?_
         refine done_ (done_of HT_.out (by kernel_rfl)) ?_
         try go_wp2
         go_ret
         exact ⟨by first | rfl | (simp [errW_none, errW_some] <;> rfl) | (simp [*, errW_none, errW_some] <;> rfl), by repeat (first | (with_reducible first | exact HB.out | apply below_alloc | apply pw_below_drewN | apply below_drew1) | exact HB.out)⟩
         }
         }
         {
         rw [if_neg c100] at H
         have c100b0 : ((strOfNums t381).toList == (strOfNums y384).toList) = false := beq_eq_false_iff_ne.mpr c100
         have c100b1 : ((strOfNums t381).toList != (strOfNums y384).toList) = true := bne_iff_ne.mpr c100
         obtain rfl := Option.some.inj H
         refine pu_ 23 (some 152) (yx 24 15) ?_
         refine pu_ 24 (some 153) (yx 25 14) ?_
         refine pu_ 25 (some 154) (yx 26 13) ?_
         refine pu_ 26 (some 155) (yx 27 12) ?_
         refine pn_ 27 (some 156) (yx 28 11) ?_
         refine pn_ 28 (some 157) (yx 29 10) ?_
         refine pn_ 29 (some 158) (yx 30 9) ?_
         refine pn_ 30 (some 159) (yx 31 8) ?_
         refine pn_ 31 (some 160) (yx 32 7) ?_
         refine pn_ 32 (some 161) (yx 33 6) ?_
         refine pn_ 33 (some 162) (yx 34 5) ?_
         refine pn_ 34 (some 163) (yx 35 4) ?_
         refine pn_ 35 (some 164) (yx 36 3) ?_
         refine pn_ 36 (some 165) (yx 37 2) ?_
         refine pu_ 37 (some 166) (yx 38 1) ?_
         refine pu_ 38 (some 2) (yx 39 0) ?_
         refine done_ (done_of HT_.out (by kernel_rfl)) ?_
         try go_wp2
         go_ret
         exact ⟨by first | rfl | (simp [errW_none, errW_some] <;> rfl) | (simp [*, errW_none, errW_some] <;> rfl), by repeat (first | (with_reducible first | exact HB.out | apply below_alloc | apply pw_below_drewN | apply below_drew1) | exact HB.out)⟩
         }
         }
         {
         rw [if_neg c99] at H
         exact absurd H (by simp)
         }
         }
         {
         rw [if_neg c98] at H
         exact absurd H (by simp)
         }
         }
         }
         {
         as_aux_lemma =>
         rw [if_neg c92] at H
         have c92b0 : (t339 == 0) = false := beq_eq_false_iff_ne.mpr c92
         have c92b1 : (t339 != 0) = true := bne_iff_ne.mpr c92
         replace H := Option.bind_eq_some_iff.mp H
         obtain ⟨t388, A1230, H⟩ := H
         (try dsimp only at H)
         have A123 := A_ A1230
         clear A1230
         by_cases c124 : 0 ≤ t339
         {
         as_aux_lemma =>
         rw [if_pos c124] at H
         have c124b0 := eq_true c124
         have c124b1 : decide (0 ≤ t339) = true := decide_eq_true c124
         clear c124
         by_cases c125 : t339 ≤ (t335.length : Int)
         {
         as_aux_lemma =>
         rw [if_pos c125] at H
         have c125b0 := eq_true c125
         have c125b1 : decide (t339 ≤ (t335.length : Int)) = true := decide_eq_true c125
         clear c125
         obtain ⟨y391, hy391⟩ : ∃ y_ : List Int, y_ = (t335.take (t339 : Int).toNat) := ⟨_, rfl⟩
         replace H : (if (strOfNums t388).toList = (strOfNums y391).toList then (if t348 = 0 then (if t331 ≥ 0 then (some ((decide ((t332.length : Int) > 0)) == (decide (t331 ≤ 1099511627776)))) else (some ((decide ((t332.length : Int) > 0)) == false))) else ((impl_Text.f kj68 t347).bind fun t395 => (if 0 ≤ t348 then (if t348 ≤ (t344.length : Int) then (if (strOfNums t395).toList = (strOfNums (t344.take (t348 : Int).toNat)).toList then (if t331 ≥ 0 then (some ((decide ((t332.length : Int) > 0)) == (decide (t331 ≤ 1099511627776)))) else (some ((decide ((t332.length : Int) > 0)) == false))) else (some false)) else (none)) else (none)))) else (some false)) = some r := by first | (rw [hy391]; with_reducible exact H) | (have H2_ := (Option.bind_some _ _).symm.trans H; rw [hy391]; with_reducible exact H2_) | (have H2_ := (Option.bind_some _ _).symm.trans H; with_reducible exact H2_) | with_reducible exact H | (rw [hy391]; exact H) | exact H
         have Ny391 := A_ hy391
         clear hy391
         by_cases c126 : (strOfNums t388).toList = (strOfNums y391).toList
         {
         as_aux_lemma =>
         rw [if_pos c126] at H
         have c126b0 : ((strOfNums t388).toList == (strOfNums y391).toList) = true := beq_iff_eq.mpr c126
         have c126b1 : ((strOfNums t388).toList != (strOfNums y391).toList) = false := bne_eq_false_iff_eq.mpr c126
         clear c126
         by_cases c127 : t348 = 0
         {
         as_aux_lemma =>
         rw [if_pos c127] at H
         have c127b0 : (t348 == 0) = true := beq_iff_eq.mpr c127
         have c127b1 : (t348 != 0) = false := bne_eq_false_iff_eq.mpr c127
         clear c127
         have H0_ := A_ H
         clear H
         try go_wp2
         replace HO_4 := A_ (Kd.R_drew HO_4.out)
         replace HO_5 := A_ (Kd.R_drew HO_5.out)
         replace HO_10 := A_ (Kd.R_drew HO_10.out)
         replace HB := A_ (below_drew1 HB.out)
         have q130 : (t339 : Int) ≤ ((t335.length : Int) : Int) := of_decide_eq_true z13o
         obtain ⟨i0130, hi0130, _, hsz130, _⟩ := info_parts info5
         have hroom130 : t335.length ≤ co17 := (Kd.R_reads' HO_5.out).2.1
         have hC130 : Kd.C (Kd.int .u8) _ Ao17 t335.length t335 := (Kd.R_reads' HO_5.out).2.2
         have hcut130 := cut_to (P := Try.prog) 22 5 .i64 Try.underlying22 hi0130 Ao17 t335.length co17 t339 (of_decide_eq_true z13o) q130 hroom130
         have hr130 := Kd.C_take (m := (t339 : Int).toNat) hC130 (by omega)
         have hy130 : y391.length = (t339 : Int).toNat := (by rw [Ny391.out, List.length_take]; omega)
         rw [← Ny391.out] at hr130
         rw [← hy130] at hcut130
         have HR394 := A_ hr130
         have HC394 := A_ (show y391.length ≤ co17 from (by omega))
         clear hr130 hC130 hroom130 hi0130 hsz130
         have KY130 := A_ hy130
         clear hy130
         have KL130 := A_ (show (t339 : Int).toNat ≤ t335.length from (by omega))
         replace q130 := eq_true q130
         refine start_ (n := 39) (S := fun w' => True) (ds := []) (yx 0 39) (by kernel_rfl) rfl rfl trivial (fun hHeld => ?_); refine with_tabW laws_FnRows.tab25 laws_FnRows.bits25 (fun HT_ HW_ => ?_)
         generalize wc.drew = w129 at HO_4 HO_5 HO_10 HB HR394 hHeld ⊢
         refine pu_ 0 (some 129) (yx 1 38) ?_
         refine pu_ 1 (some 130) (yx 2 37) ?_
         refine pu_ 2 (some 131) (yx 3 36) ?_
         refine pu_ 3 (some 132) (yx 4 35) ?_
         refine pu_ 6 (some 135) (rl [4, 2, 1, 32]) ?_
         refine pu_ 7 (some 136) (rl [4, 2, 2, 31]) ?_
         refine pu_ 8 (some 137) (rl [4, 2, 3, 30]) ?_
         refine join_ (σ := Value) 29 (yx 10 29) (fun s_ => [(133, s_), (134, .string (strOfNums t388)), (138, .string (strOfNums y391))]) (fun s_ w' => (Kd.R (Kd.int .u8) 5 w' w.heap.size (fun k_ => some k_ ≠ (.slice Ao21 t344.length co21 : Value).ownBlock ∧ some k_ ≠ (.slice Ao47 t332.length co47 : Value).ownBlock ∧ some k_ ≠ (.slice Ao17 t335.length co17 : Value).ownBlock) s_ t388) ∧ (Kd.R (Kd.int .u8) 5 w' w.heap.size (fun k_ => some k_ ≠ (s_ : Value).ownBlock ∧ some k_ ≠ (.slice Ao47 t332.length co47 : Value).ownBlock ∧ some k_ ≠ (.slice Ao17 t335.length co17 : Value).ownBlock) (.slice Ao21 t344.length co21) t344) ∧ (Kd.R (Kd.int .u8) 5 w' w.heap.size (fun k_ => some k_ ≠ (s_ : Value).ownBlock ∧ some k_ ≠ (.slice Ao21 t344.length co21 : Value).ownBlock ∧ some k_ ≠ (.slice Ao17 t335.length co17 : Value).ownBlock) (.slice Ao47 t332.length co47) t332) ∧ (Kd.R (Kd.int .u8) 5 w' w.heap.size (fun k_ => some k_ ≠ (s_ : Value).ownBlock ∧ some k_ ≠ (.slice Ao21 t344.length co21 : Value).ownBlock ∧ some k_ ≠ (.slice Ao47 t332.length co47 : Value).ownBlock) (.slice Ao17 t335.length co17) t335) ∧ (Below w.heap.size w w')) ?_ ?_
         rotate_left
         {
         intro hCont
         refine two_ (i := 4) (j := 9) (Ni := some 133) (Nj := some 138) (rl [5, 1, 3, 30]) (rl [4, 2, 4, 29]) rfl rfl rfl rfl (two_of HT_.out (by kernel_rfl)) (by decide) (by decide) (fun K hK => ?_) (fun K hK => ?_)
         {
         as_aux_lemma =>
         skip
         refine goes_ Try.func18 (by kernel_rfl) rfl #[.int .i64 t338] (by rfl) rfl rfl z13h ?_
         with_reducible refine (impl_Number.calls kj68 t338 t388 _ A123.out).mono ?_
         rintro e w131 ⟨v389, rfl, ho0, hb⟩
         refine ⟨_, rfl, ?_⟩
         have n0_ := A_ (Kd.R_elder' z13d (Kd.R_base ho0) hb)
         have n1_ := A_ (Kd.R_elder' z13e (Kd.R_base ho0) hb)
         have n2_ := A_ (Kd.R_elder' z13c (Kd.R_base ho0) hb)
         have n3_ := A_ (Kd.R_lower (Kd.R_new' (Kd.R_new' (Kd.R_new' ho0 (Kd.R_lt z13d)) (Kd.R_lt z13e)) (Kd.R_lt z13c)) (below_size z13b))
         have n4_ := A_ (Kd.C_below z13f hb)
         have n5_ := A_ (below_step z13b hb)
         clear HO_4
         clear HO_5
         clear HO_10
         clear HR394
         clear HB
         have HO_4 := n0_
         have HO_5 := n1_
         have HO_10 := n2_
         have HO390 := n3_
         have HR394 := n4_
         have HB := n5_
         clear n0_ n1_ n2_ n3_ n4_ n5_
         refine hK.out _ _ trivial (fun hHeld => ?_)
         clear hK K
         refine norm_ (nz_ 133) ?_
         refine two_ (i := 5) (j := 9) (Ni := some 134) (Nj := some 138) (yx 9 30) (rl [5, 1, 4, 29]) rfl rfl rfl rfl (two_of HT_.out (by kernel_rfl)) (by decide) (by decide) (fun K hK => ?_) (fun K hK => ?_)
         {
         skip
         have hcv132 := own_string (P := Try.prog) Try.underlying22 Try.underlying5 Try.underlying9 (Kd.own_of_R HO390.out)
         refine value_ (w1 := ?_) (v := ?_) (by rfl) rfl ?_ ?_
         rotate_left 2
         {
         go_simp
         constructor
         {
         rfl
         }
         {
         rfl
         }
         }
         clear hcv132
         refine hK.out _ _ trivial (fun hHeld => ?_)
         clear hK K
         refine norm_ (nz_ 134) ?_
         refine one_ (i := 9) (N := some 138) (yx 10 29) rfl rfl (one_of HT_.out (by kernel_rfl)) (by decide) (fun K hK => ?_)
         have hcv133 := Kd.C_string (P := Try.prog) (A := Ao17) (c := co17) Try.underlying22 Try.underlying5 Try.underlying9 z13f; have hcvd134 := fun (nq_ : Nat) => Kd.C_string (P := Try.prog) (A := Ao17) (c := co17) Try.underlying22 Try.underlying5 Try.underlying9 (Kd.C_drewN z13f nq_)
         refine value_ (w1 := ?_) (v := ?_) (by rfl) rfl ?_ ?_
         rotate_left 2
         {
         go_simp
         constructor
         {
         rfl
         }
         {
         rfl
         }
         }
         clear hcv133 hcvd134
         refine hK.out _ _ trivial (fun hHeld => ?_)
         clear hK K
         refine norm_ (nz_ 138) ?_
         exact norm_ z13r (hCont (v389) _ ⟨z13s, z13n, z13p, z13q, z13b⟩)
         }
         {
         skip
         have hcv132 := Kd.C_string (P := Try.prog) (A := Ao17) (c := co17) Try.underlying22 Try.underlying5 Try.underlying9 z13f; have hcvd133 := fun (nq_ : Nat) => Kd.C_string (P := Try.prog) (A := Ao17) (c := co17) Try.underlying22 Try.underlying5 Try.underlying9 (Kd.C_drewN z13f nq_)
         refine value_ (w1 := ?_) (v := ?_) (by rfl) rfl ?_ ?_
         rotate_left 2
         {
         go_simp
         constructor
         {
         rfl
         }
         {
         rfl
         }
         }
         clear hcv132 hcvd133
         refine hK.out _ _ trivial (fun hHeld => ?_)
         clear hK K
         refine norm_ (nz_ 138) ?_
         refine one_ (i := 5) (N := some 134) (yx 10 29) rfl rfl (one_of HT_.out (by kernel_rfl)) (by decide) (fun K hK => ?_)
         have hcv134 := own_string (P := Try.prog) Try.underlying22 Try.underlying5 Try.underlying9 (Kd.own_of_R HO390.out)
         refine value_ (w1 := ?_) (v := ?_) (by rfl) rfl ?_ ?_
         rotate_left 2
         {
         go_simp
         constructor
         {
         rfl
         }
         {
         rfl
         }
         }
         clear hcv134
         refine hK.out _ _ trivial (fun hHeld => ?_)
         clear hK K
         refine norm_ (nz_ 134) ?_
         exact norm_ z13r (hCont (v389) _ ⟨z13s, z13n, z13p, z13q, z13b⟩)
         }
         }
         {
         as_aux_lemma =>
         skip
         have hcv131 := Kd.C_string (P := Try.prog) (A := Ao17) (c := co17) Try.underlying22 Try.underlying5 Try.underlying9 z13f; have hcvd132 := fun (nq_ : Nat) => Kd.C_string (P := Try.prog) (A := Ao17) (c := co17) Try.underlying22 Try.underlying5 Try.underlying9 (Kd.C_drewN z13f nq_)
         refine value_ (w1 := ?_) (v := ?_) (by rfl) rfl ?_ ?_
         rotate_left 2
         {
         go_simp
         constructor
         {
         rfl
         }
         {
         rfl
         }
         }
         clear hcv131 hcvd132
         refine hK.out _ _ trivial (fun hHeld => ?_)
         clear hK K
         refine norm_ (nz_ 138) ?_
         refine one_ (i := 4) (N := some 133) (rl [5, 1, 4, 29]) rfl rfl (one_of HT_.out (by kernel_rfl)) (by decide) (fun K hK => ?_)
         refine goes_ Try.func18 (by kernel_rfl) rfl #[.int .i64 t338] (by rfl) rfl rfl z13h ?_
         with_reducible refine (impl_Number.calls kj68 t338 t388 _ A123.out).mono ?_
         rintro e w133 ⟨v389, rfl, ho0, hb⟩
         refine ⟨_, rfl, ?_⟩
         have n0_ := A_ (Kd.R_elder' z13d (Kd.R_base ho0) hb)
         have n1_ := A_ (Kd.R_elder' z13e (Kd.R_base ho0) hb)
         have n2_ := A_ (Kd.R_elder' z13c (Kd.R_base ho0) hb)
         have n3_ := A_ (Kd.R_lower (Kd.R_new' (Kd.R_new' (Kd.R_new' ho0 (Kd.R_lt z13d)) (Kd.R_lt z13e)) (Kd.R_lt z13c)) (below_size z13b))
         have n4_ := A_ (Kd.C_below z13f hb)
         have n5_ := A_ (below_step z13b hb)
         clear HO_4
         clear HO_5
         clear HO_10
         clear HR394
         clear HB
         have HO_4 := n0_
         have HO_5 := n1_
         have HO_10 := n2_
         have HO390 := n3_
         have HR394 := n4_
         have HB := n5_
         clear n0_ n1_ n2_ n3_ n4_ n5_
         refine hK.out _ _ trivial (fun hHeld => ?_)
         clear hK K
         refine norm_ (nz_ 133) ?_
         refine one_ (i := 5) (N := some 134) (yx 10 29) rfl rfl (one_of HT_.out (by kernel_rfl)) (by decide) (fun K hK => ?_)
         have hcv134 := own_string (P := Try.prog) Try.underlying22 Try.underlying5 Try.underlying9 (Kd.own_of_R HO390.out)
         refine value_ (w1 := ?_) (v := ?_) (by rfl) rfl ?_ ?_
         rotate_left 2
         {
         go_simp
         constructor
         {
         rfl
         }
         {
         rfl
         }
         }
         clear hcv134
         refine hK.out _ _ trivial (fun hHeld => ?_)
         clear hK K
         refine norm_ (nz_ 134) ?_
         exact norm_ z13r (hCont (v389) _ ⟨z13s, z13n, z13p, z13q, z13b⟩)
         }
         }
         rintro v389 w135 ⟨h0_, h1_, h2_, h3_, h4_⟩
         have n0_ : Aside0 (Kd.R (Kd.int .u8) 5 w135 w.heap.size (fun k_ => some k_ ≠ (.slice Ao21 t344.length co21 : Value).ownBlock ∧ some k_ ≠ (.slice Ao47 t332.length co47 : Value).ownBlock ∧ some k_ ≠ (.slice Ao17 t335.length co17 : Value).ownBlock) v389 t388) := ⟨h0_⟩
         have n1_ : Aside0 (Kd.R (Kd.int .u8) 5 w135 w.heap.size (fun k_ => some k_ ≠ (v389 : Value).ownBlock ∧ some k_ ≠ (.slice Ao47 t332.length co47 : Value).ownBlock ∧ some k_ ≠ (.slice Ao17 t335.length co17 : Value).ownBlock) (.slice Ao21 t344.length co21) t344) := ⟨h1_⟩
         have n2_ : Aside0 (Kd.R (Kd.int .u8) 5 w135 w.heap.size (fun k_ => some k_ ≠ (v389 : Value).ownBlock ∧ some k_ ≠ (.slice Ao21 t344.length co21 : Value).ownBlock ∧ some k_ ≠ (.slice Ao17 t335.length co17 : Value).ownBlock) (.slice Ao47 t332.length co47) t332) := ⟨h2_⟩
         have n3_ : Aside0 (Kd.R (Kd.int .u8) 5 w135 w.heap.size (fun k_ => some k_ ≠ (v389 : Value).ownBlock ∧ some k_ ≠ (.slice Ao21 t344.length co21 : Value).ownBlock ∧ some k_ ≠ (.slice Ao47 t332.length co47 : Value).ownBlock) (.slice Ao17 t335.length co17) t335) := ⟨h3_⟩
         have n4_ : Aside0 (Below w.heap.size w w135) := ⟨h4_⟩
         clear HO_4
         clear HO_5
         clear HO_10
         clear HB
         clear h0_ h1_ h2_ h3_ h4_
         have HO390 := n0_
         have HO_10 := n1_
         have HO_4 := n2_
         have HO_5 := n3_
         have HB := n4_
         clear n0_ n1_ n2_ n3_ n4_
         have hHeld := trivial
         have HR394 := A_ ((show Kd.C (Kd.int .u8) w135 Ao17 y391.length y391 from (by rw [Ny391.out]; exact Kd.C_take (m := (t339 : Int).toNat) ((Kd.R_reads' (HO_5.out)).2.2) KL130.out)))
         refine norm_ (a' := ?_) ?_ ?_
         rotate_left
         exact z13m
         have H := H0_.out
         clear H0_
         by_cases c128 : t331 ≥ 0
         {
         rw [if_pos c128] at H
         have c128b0 : decide (0 ≤ t331) = true := decide_eq_true c128
         clear c128
         obtain rfl := Option.some.inj H
         refine pu_ 10 (some 139) (yx 11 28) ?_
         refine pu_ 11 (some 140) (yx 12 27) ?_
         refine pu_ 12 (some 141) (yx 13 26) ?_
         refine pu_ 13 (some 142) (yx 14 25) ?_
         refine pu_ 14 (some 143) (yx 15 24) ?_
         refine pu_ 15 (some 144) (yx 16 23) ?_
         refine pn_ 16 (some 145) (yx 17 22) ?_
         refine pn_ 17 (some 146) (yx 18 21) ?_
         refine pn_ 18 (some 147) (yx 19 20) ?_
         refine pn_ 19 (some 148) (yx 20 19) ?_
         refine pn_ 20 (some 149) (yx 21 18) ?_
         refine pn_ 21 (some 150) (yx 22 17) ?_
         refine pn_ 22 (some 151) (yx 23 16) ?_
         refine pn_ 23 (some 152) (yx 24 15) ?_
         refine pu_ 24 (some 153) (yx 25 14) ?_
         refine pu_ 25 (some 154) (yx 26 13) ?_
         refine pu_ 26 (some 155) (yx 27 12) ?_
         refine pu_ 27 (some 156) (yx 28 11) ?_
         refine pu_ 28 (some 157) (yx 29 10) ?_
         refine pu_ 29 (some 158) (yx 30 9) ?_
         refine pu_ 30 (some 159) (yx 31 8) ?_
         refine pu_ 31 (some 160) (yx 32 7) ?_
         refine pu_ 32 (some 161) (yx 33 6) ?_
         refine pu_ 33 (some 162) (yx 34 5) ?_
         refine pu_ 34 (some 163) (yx 35 4) ?_
         refine pu_ 35 (some 164) (yx 36 3) ?_
         refine pu_ 36 (some 165) (yx 37 2) ?_
         refine pu_ 37 (some 166) (yx 38 1) ?_
         refine pu_ 38 (some 2) (yx 39 0) ?_
         refine done_ (done_of HT_.out (by kernel_rfl)) ?_
         try go_wp2
         go_ret
         exact ⟨by first | rfl | (simp [errW_none, errW_some] <;> rfl) | (simp [*, errW_none, errW_some] <;> rfl), by repeat (first | (with_reducible first | exact HB.out | apply below_alloc | apply pw_below_drewN | apply below_drew1) | exact HB.out)⟩
         }
         {
         rw [if_neg c128] at H
         have c128b0 : decide (0 ≤ t331) = false := decide_eq_false c128
         clear c128
         obtain rfl := Option.some.inj H
         refine pu_ 10 (some 139) (yx 11 28) ?_
         refine pu_ 11 (some 140) (yx 12 27) ?_
         refine pu_ 12 (some 141) (yx 13 26) ?_
         refine pu_ 13 (some 142) (yx 14 25) ?_
         refine pu_ 14 (some 143) (yx 15 24) ?_
         refine pu_ 15 (some 144) (yx 16 23) ?_
         refine pn_ 16 (some 145) (yx 17 22) ?_
         refine pn_ 17 (some 146) (yx 18 21) ?_
         refine pn_ 18 (some 147) (yx 19 20) ?_
         refine pn_ 19 (some 148) (yx 20 19) ?_
         refine pn_ 20 (some 149) (yx 21 18) ?_
         refine pn_ 21 (some 150) (yx 22 17) ?_
         refine pn_ 22 (some 151) (yx 23 16) ?_
         refine pn_ 23 (some 152) (yx 24 15) ?_
         refine pu_ 24 (some 153) (yx 25 14) ?_
         refine pu_ 25 (some 154) (yx 26 13) ?_
         refine pu_ 26 (some 155) (yx 27 12) ?_
         refine pu_ 27 (some 156) (yx 28 11) ?_
         refine pu_ 28 (some 157) (yx 29 10) ?_
         refine pu_ 29 (some 158) (yx 30 9) ?_
         refine pu_ 30 (some 159) (yx 31 8) ?_
         refine pu_ 31 (some 160) (yx 32 7) ?_
         refine pu_ 32 (some 161) (yx 33 6) ?_
         refine pn_ 33 (some 162) (yx 34 5) ?_
         refine pn_ 34 (some 163) (yx 35 4) ?_
         refine pu_ 35 (some 164) (yx 36 3) ?_
         refine pu_ 36 (some 165) (yx 37 2) ?_
         refine pu_ 37 (some 166) (yx 38 1) ?_
         refine pu_ 38 (some 2) (yx 39 0) ?_
         refine done_ (done_of HT_.out (by kernel_rfl)) ?_
         try go_wp2
         go_ret
         exact ⟨by first | rfl | (simp [errW_none, errW_some] <;> rfl) | (simp [*, errW_none, errW_some] <;> rfl), by repeat (first | (with_reducible first | exact HB.out | apply below_alloc | apply pw_below_drewN | apply below_drew1) | exact HB.out)⟩
         }
         }
         {
         as_aux_lemma =>
         rw [if_neg c127] at H
         have c127b0 : (t348 == 0) = false := beq_eq_false_iff_ne.mpr c127
         have c127b1 : (t348 != 0) = true := bne_iff_ne.mpr c127
         replace H := Option.bind_eq_some_iff.mp H
         obtain ⟨t395, A1430, H⟩ := H
         (try dsimp only at H)
         have A143 := A_ A1430
         clear A1430
         by_cases c144 : 0 ≤ t348
         {
         as_aux_lemma =>
         rw [if_pos c144] at H
         have c144b0 := eq_true c144
         have c144b1 : decide (0 ≤ t348) = true := decide_eq_true c144
         clear c144
         by_cases c145 : t348 ≤ (t344.length : Int)
         {
         as_aux_lemma =>
         rw [if_pos c145] at H
         have c145b0 := eq_true c145
         have c145b1 : decide (t348 ≤ (t344.length : Int)) = true := decide_eq_true c145
         clear c145
         obtain ⟨y398, hy398⟩ : ∃ y_ : List Int, y_ = (t344.take (t348 : Int).toNat) := ⟨_, rfl⟩
         replace H : (if (strOfNums t395).toList = (strOfNums y398).toList then (if t331 ≥ 0 then (some ((decide ((t332.length : Int) > 0)) == (decide (t331 ≤ 1099511627776)))) else (some ((decide ((t332.length : Int) > 0)) == false))) else (some false)) = some r := by first | (rw [hy398]; with_reducible exact H) | (have H2_ := (Option.bind_some _ _).symm.trans H; rw [hy398]; with_reducible exact H2_) | (have H2_ := (Option.bind_some _ _).symm.trans H; with_reducible exact H2_) | with_reducible exact H | (rw [hy398]; exact H) | exact H
         have Ny398 := A_ hy398
         clear hy398
         have H0_ := A_ H
         clear H
         try go_wp2
         replace HO_4 := A_ (Kd.R_drew HO_4.out)
         replace HO_5 := A_ (Kd.R_drew HO_5.out)
         replace HO_10 := A_ (Kd.R_drew HO_10.out)
         replace HB := A_ (below_drew1 HB.out)
         have q149 : (t339 : Int) ≤ ((t335.length : Int) : Int) := of_decide_eq_true z13o
         obtain ⟨i0149, hi0149, _, hsz149, _⟩ := info_parts info5
         have hroom149 : t335.length ≤ co17 := (Kd.R_reads' HO_5.out).2.1
         have hC149 : Kd.C (Kd.int .u8) _ Ao17 t335.length t335 := (Kd.R_reads' HO_5.out).2.2
         have hcut149 := cut_to (P := Try.prog) 22 5 .i64 Try.underlying22 hi0149 Ao17 t335.length co17 t339 (of_decide_eq_true z13o) q149 hroom149
         have hr149 := Kd.C_take (m := (t339 : Int).toNat) hC149 (by omega)
         have hy149 : y391.length = (t339 : Int).toNat := (by rw [Ny391.out, List.length_take]; omega)
         rw [← Ny391.out] at hr149
         rw [← hy149] at hcut149
         have HR394 := A_ hr149
         have HC394 := A_ (show y391.length ≤ co17 from (by omega))
         clear hr149 hC149 hroom149 hi0149 hsz149
         have KY149 := A_ hy149
         clear hy149
         have KL149 := A_ (show (t339 : Int).toNat ≤ t335.length from (by omega))
         replace q149 := eq_true q149
         refine start_ (n := 39) (S := fun w' => True) (ds := []) (yx 0 39) (by kernel_rfl) rfl rfl trivial (fun hHeld => ?_); refine with_tabW laws_FnRows.tab25 laws_FnRows.bits25 (fun HT_ HW_ => ?_)
         generalize wc.drew = w148 at HO_4 HO_5 HO_10 HB HR394 hHeld ⊢
         refine pu_ 0 (some 129) (yx 1 38) ?_
         refine pu_ 1 (some 130) (yx 2 37) ?_
         refine pu_ 2 (some 131) (yx 3 36) ?_
         refine pu_ 3 (some 132) (yx 4 35) ?_
         refine pu_ 6 (some 135) (rl [4, 2, 1, 32]) ?_
         refine pu_ 7 (some 136) (rl [4, 2, 2, 31]) ?_
         refine pu_ 8 (some 137) (rl [4, 2, 3, 30]) ?_
         refine join_ (σ := Value × Value) 16 (yx 23 16) (fun s_ => [(133, s_.1), (134, .string (strOfNums t388)), (138, .string (strOfNums y391)), (146, s_.2), (147, .string (strOfNums t395)), (151, .string (strOfNums y398)), (139, .bool true), (140, .bool true), (141, .bool true), (142, .int .i64 t348), (143, .bool false), (144, .bool false), (145, .string t347), (148, .slice Ao21 t344.length co21), (149, .int .i64 t348), (150, .slice Ao21 y398.length co21)]) (fun s_ w' => (Kd.R (Kd.int .u8) 5 w' w.heap.size (fun k_ => some k_ ≠ (s_.2 : Value).ownBlock ∧ some k_ ≠ (.slice Ao21 t344.length co21 : Value).ownBlock ∧ some k_ ≠ (.slice Ao47 t332.length co47 : Value).ownBlock ∧ some k_ ≠ (.slice Ao17 t335.length co17 : Value).ownBlock) s_.1 t388) ∧ (Kd.R (Kd.int .u8) 5 w' w.heap.size (fun k_ => some k_ ≠ (s_.1 : Value).ownBlock ∧ some k_ ≠ (.slice Ao21 t344.length co21 : Value).ownBlock ∧ some k_ ≠ (.slice Ao47 t332.length co47 : Value).ownBlock ∧ some k_ ≠ (.slice Ao17 t335.length co17 : Value).ownBlock) s_.2 t395) ∧ (Kd.R (Kd.int .u8) 5 w' w.heap.size (fun k_ => some k_ ≠ (s_.1 : Value).ownBlock ∧ some k_ ≠ (s_.2 : Value).ownBlock ∧ some k_ ≠ (.slice Ao47 t332.length co47 : Value).ownBlock ∧ some k_ ≠ (.slice Ao17 t335.length co17 : Value).ownBlock) (.slice Ao21 t344.length co21) t344) ∧ (Kd.R (Kd.int .u8) 5 w' w.heap.size (fun k_ => some k_ ≠ (s_.1 : Value).ownBlock ∧ some k_ ≠ (s_.2 : Value).ownBlock ∧ some k_ ≠ (.slice Ao21 t344.length co21 : Value).ownBlock ∧ some k_ ≠ (.slice Ao17 t335.length co17 : Value).ownBlock) (.slice Ao47 t332.length co47) t332) ∧ (Kd.R (Kd.int .u8) 5 w' w.heap.size (fun k_ => some k_ ≠ (s_.1 : Value).ownBlock ∧ some k_ ≠ (s_.2 : Value).ownBlock ∧ some k_ ≠ (.slice Ao21 t344.length co21 : Value).ownBlock ∧ some k_ ≠ (.slice Ao47 t332.length co47 : Value).ownBlock) (.slice Ao17 t335.length co17) t335) ∧ (Below w.heap.size w w')) ?_ ?_
         rotate_left
         {
         intro hJ4_5_9_17_18_22
         refine join_ (σ := Value × Value) 17 (yx 22 17) (fun s_ => [(133, s_.1), (134, .string (strOfNums t388)), (138, .string (strOfNums y391)), (146, s_.2), (147, .string (strOfNums t395)), (139, .bool true), (140, .bool true), (141, .bool true), (142, .int .i64 t348), (143, .bool false), (144, .bool false), (145, .string t347), (148, .slice Ao21 t344.length co21), (149, .int .i64 t348), (150, .slice Ao21 y398.length co21)]) (fun s_ w' => (Kd.R (Kd.int .u8) 5 w' w.heap.size (fun k_ => some k_ ≠ (s_.2 : Value).ownBlock ∧ some k_ ≠ (.slice Ao21 t344.length co21 : Value).ownBlock ∧ some k_ ≠ (.slice Ao47 t332.length co47 : Value).ownBlock ∧ some k_ ≠ (.slice Ao17 t335.length co17 : Value).ownBlock) s_.1 t388) ∧ (Kd.R (Kd.int .u8) 5 w' w.heap.size (fun k_ => some k_ ≠ (s_.1 : Value).ownBlock ∧ some k_ ≠ (.slice Ao21 t344.length co21 : Value).ownBlock ∧ some k_ ≠ (.slice Ao47 t332.length co47 : Value).ownBlock ∧ some k_ ≠ (.slice Ao17 t335.length co17 : Value).ownBlock) s_.2 t395) ∧ (Kd.R (Kd.int .u8) 5 w' w.heap.size (fun k_ => some k_ ≠ (s_.1 : Value).ownBlock ∧ some k_ ≠ (s_.2 : Value).ownBlock ∧ some k_ ≠ (.slice Ao47 t332.length co47 : Value).ownBlock ∧ some k_ ≠ (.slice Ao17 t335.length co17 : Value).ownBlock) (.slice Ao21 t344.length co21) t344) ∧ (Kd.R (Kd.int .u8) 5 w' w.heap.size (fun k_ => some k_ ≠ (s_.1 : Value).ownBlock ∧ some k_ ≠ (s_.2 : Value).ownBlock ∧ some k_ ≠ (.slice Ao21 t344.length co21 : Value).ownBlock ∧ some k_ ≠ (.slice Ao17 t335.length co17 : Value).ownBlock) (.slice Ao47 t332.length co47) t332) ∧ (Kd.R (Kd.int .u8) 5 w' w.heap.size (fun k_ => some k_ ≠ (s_.1 : Value).ownBlock ∧ some k_ ≠ (s_.2 : Value).ownBlock ∧ some k_ ≠ (.slice Ao21 t344.length co21 : Value).ownBlock ∧ some k_ ≠ (.slice Ao47 t332.length co47 : Value).ownBlock) (.slice Ao17 t335.length co17) t335) ∧ (Below w.heap.size w w')) ?_ ?_
         rotate_left
         {
         intro hJ4_5_9_17_18
         refine join_ (σ := Value × Value) 17 (rl [18, 1, 4, 16]) (fun s_ => [(133, s_.1), (134, .string (strOfNums t388)), (138, .string (strOfNums y391)), (146, s_.2), (151, .string (strOfNums y398)), (139, .bool true), (140, .bool true), (141, .bool true), (142, .int .i64 t348), (143, .bool false), (144, .bool false), (145, .string t347), (148, .slice Ao21 t344.length co21), (149, .int .i64 t348), (150, .slice Ao21 y398.length co21)]) (fun s_ w' => (Kd.R (Kd.int .u8) 5 w' w.heap.size (fun k_ => some k_ ≠ (s_.2 : Value).ownBlock ∧ some k_ ≠ (.slice Ao21 t344.length co21 : Value).ownBlock ∧ some k_ ≠ (.slice Ao47 t332.length co47 : Value).ownBlock ∧ some k_ ≠ (.slice Ao17 t335.length co17 : Value).ownBlock) s_.1 t388) ∧ (Kd.R (Kd.int .u8) 5 w' w.heap.size (fun k_ => some k_ ≠ (s_.1 : Value).ownBlock ∧ some k_ ≠ (.slice Ao21 t344.length co21 : Value).ownBlock ∧ some k_ ≠ (.slice Ao47 t332.length co47 : Value).ownBlock ∧ some k_ ≠ (.slice Ao17 t335.length co17 : Value).ownBlock) s_.2 t395) ∧ (Kd.R (Kd.int .u8) 5 w' w.heap.size (fun k_ => some k_ ≠ (s_.1 : Value).ownBlock ∧ some k_ ≠ (s_.2 : Value).ownBlock ∧ some k_ ≠ (.slice Ao47 t332.length co47 : Value).ownBlock ∧ some k_ ≠ (.slice Ao17 t335.length co17 : Value).ownBlock) (.slice Ao21 t344.length co21) t344) ∧ (Kd.R (Kd.int .u8) 5 w' w.heap.size (fun k_ => some k_ ≠ (s_.1 : Value).ownBlock ∧ some k_ ≠ (s_.2 : Value).ownBlock ∧ some k_ ≠ (.slice Ao21 t344.length co21 : Value).ownBlock ∧ some k_ ≠ (.slice Ao17 t335.length co17 : Value).ownBlock) (.slice Ao47 t332.length co47) t332) ∧ (Kd.R (Kd.int .u8) 5 w' w.heap.size (fun k_ => some k_ ≠ (s_.1 : Value).ownBlock ∧ some k_ ≠ (s_.2 : Value).ownBlock ∧ some k_ ≠ (.slice Ao21 t344.length co21 : Value).ownBlock ∧ some k_ ≠ (.slice Ao47 t332.length co47 : Value).ownBlock) (.slice Ao17 t335.length co17) t335) ∧ (Below w.heap.size w w')) ?_ ?_
         rotate_left
         {
         intro hJ4_5_9_17_22
         refine join_ (σ := Value × Value) 18 (rl [18, 1, 3, 17]) (fun s_ => [(133, s_.1), (134, .string (strOfNums t388)), (138, .string (strOfNums y391)), (146, s_.2), (139, .bool true), (140, .bool true), (141, .bool true), (142, .int .i64 t348), (143, .bool false), (144, .bool false), (145, .string t347), (148, .slice Ao21 t344.length co21), (149, .int .i64 t348), (150, .slice Ao21 y398.length co21)]) (fun s_ w' => (Kd.R (Kd.int .u8) 5 w' w.heap.size (fun k_ => some k_ ≠ (s_.2 : Value).ownBlock ∧ some k_ ≠ (.slice Ao21 t344.length co21 : Value).ownBlock ∧ some k_ ≠ (.slice Ao47 t332.length co47 : Value).ownBlock ∧ some k_ ≠ (.slice Ao17 t335.length co17 : Value).ownBlock) s_.1 t388) ∧ (Kd.R (Kd.int .u8) 5 w' w.heap.size (fun k_ => some k_ ≠ (s_.1 : Value).ownBlock ∧ some k_ ≠ (.slice Ao21 t344.length co21 : Value).ownBlock ∧ some k_ ≠ (.slice Ao47 t332.length co47 : Value).ownBlock ∧ some k_ ≠ (.slice Ao17 t335.length co17 : Value).ownBlock) s_.2 t395) ∧ (Kd.R (Kd.int .u8) 5 w' w.heap.size (fun k_ => some k_ ≠ (s_.1 : Value).ownBlock ∧ some k_ ≠ (s_.2 : Value).ownBlock ∧ some k_ ≠ (.slice Ao47 t332.length co47 : Value).ownBlock ∧ some k_ ≠ (.slice Ao17 t335.length co17 : Value).ownBlock) (.slice Ao21 t344.length co21) t344) ∧ (Kd.R (Kd.int .u8) 5 w' w.heap.size (fun k_ => some k_ ≠ (s_.1 : Value).ownBlock ∧ some k_ ≠ (s_.2 : Value).ownBlock ∧ some k_ ≠ (.slice Ao21 t344.length co21 : Value).ownBlock ∧ some k_ ≠ (.slice Ao17 t335.length co17 : Value).ownBlock) (.slice Ao47 t332.length co47) t332) ∧ (Kd.R (Kd.int .u8) 5 w' w.heap.size (fun k_ => some k_ ≠ (s_.1 : Value).ownBlock ∧ some k_ ≠ (s_.2 : Value).ownBlock ∧ some k_ ≠ (.slice Ao21 t344.length co21 : Value).ownBlock ∧ some k_ ≠ (.slice Ao47 t332.length co47 : Value).ownBlock) (.slice Ao17 t335.length co17) t335) ∧ (Below w.heap.size w w')) ?_ ?_
         rotate_left
         {
         intro hJ4_5_9_17
         refine join_ (σ := Value) 18 (rl [17, 2, 4, 16]) (fun s_ => [(133, s_), (134, .string (strOfNums t388)), (138, .string (strOfNums y391)), (151, .string (strOfNums y398)), (139, .bool true), (140, .bool true), (141, .bool true), (142, .int .i64 t348), (143, .bool false), (144, .bool false), (145, .string t347), (148, .slice Ao21 t344.length co21), (149, .int .i64 t348), (150, .slice Ao21 y398.length co21)]) (fun s_ w' => (Kd.R (Kd.int .u8) 5 w' w.heap.size (fun k_ => some k_ ≠ (.slice Ao21 t344.length co21 : Value).ownBlock ∧ some k_ ≠ (.slice Ao47 t332.length co47 : Value).ownBlock ∧ some k_ ≠ (.slice Ao17 t335.length co17 : Value).ownBlock) s_ t388) ∧ (Kd.R (Kd.int .u8) 5 w' w.heap.size (fun k_ => some k_ ≠ (s_ : Value).ownBlock ∧ some k_ ≠ (.slice Ao47 t332.length co47 : Value).ownBlock ∧ some k_ ≠ (.slice Ao17 t335.length co17 : Value).ownBlock) (.slice Ao21 t344.length co21) t344) ∧ (Kd.R (Kd.int .u8) 5 w' w.heap.size (fun k_ => some k_ ≠ (s_ : Value).ownBlock ∧ some k_ ≠ (.slice Ao21 t344.length co21 : Value).ownBlock ∧ some k_ ≠ (.slice Ao17 t335.length co17 : Value).ownBlock) (.slice Ao47 t332.length co47) t332) ∧ (Kd.R (Kd.int .u8) 5 w' w.heap.size (fun k_ => some k_ ≠ (s_ : Value).ownBlock ∧ some k_ ≠ (.slice Ao21 t344.length co21 : Value).ownBlock ∧ some k_ ≠ (.slice Ao47 t332.length co47 : Value).ownBlock) (.slice Ao17 t335.length co17) t335) ∧ (Below w.heap.size w w')) ?_ ?_
         rotate_left
         {
         intro hJ4_5_9_22
         refine join_ (σ := Value) 19 (rl [17, 2, 3, 17]) (fun s_ => [(133, s_), (134, .string (strOfNums t388)), (138, .string (strOfNums y391)), (139, .bool true), (140, .bool true), (141, .bool true), (142, .int .i64 t348), (143, .bool false), (144, .bool false), (145, .string t347), (148, .slice Ao21 t344.length co21), (149, .int .i64 t348), (150, .slice Ao21 y398.length co21)]) (fun s_ w' => (Kd.R (Kd.int .u8) 5 w' w.heap.size (fun k_ => some k_ ≠ (.slice Ao21 t344.length co21 : Value).ownBlock ∧ some k_ ≠ (.slice Ao47 t332.length co47 : Value).ownBlock ∧ some k_ ≠ (.slice Ao17 t335.length co17 : Value).ownBlock) s_ t388) ∧ (Kd.R (Kd.int .u8) 5 w' w.heap.size (fun k_ => some k_ ≠ (s_ : Value).ownBlock ∧ some k_ ≠ (.slice Ao47 t332.length co47 : Value).ownBlock ∧ some k_ ≠ (.slice Ao17 t335.length co17 : Value).ownBlock) (.slice Ao21 t344.length co21) t344) ∧ (Kd.R (Kd.int .u8) 5 w' w.heap.size (fun k_ => some k_ ≠ (s_ : Value).ownBlock ∧ some k_ ≠ (.slice Ao21 t344.length co21 : Value).ownBlock ∧ some k_ ≠ (.slice Ao17 t335.length co17 : Value).ownBlock) (.slice Ao47 t332.length co47) t332) ∧ (Kd.R (Kd.int .u8) 5 w' w.heap.size (fun k_ => some k_ ≠ (s_ : Value).ownBlock ∧ some k_ ≠ (.slice Ao21 t344.length co21 : Value).ownBlock ∧ some k_ ≠ (.slice Ao47 t332.length co47 : Value).ownBlock) (.slice Ao17 t335.length co17) t335) ∧ (Below w.heap.size w w')) ?_ ?_
         rotate_left
         {
         intro hJ4_5_9
         refine join_ (σ := Value) 30 (yx 9 30) (fun s_ => [(133, s_), (134, .string (strOfNums t388))]) (fun s_ w' => (Kd.R (Kd.int .u8) 5 w' w.heap.size (fun k_ => some k_ ≠ (.slice Ao21 t344.length co21 : Value).ownBlock ∧ some k_ ≠ (.slice Ao47 t332.length co47 : Value).ownBlock ∧ some k_ ≠ (.slice Ao17 t335.length co17 : Value).ownBlock) s_ t388) ∧ (Kd.R (Kd.int .u8) 5 w' w.heap.size (fun k_ => some k_ ≠ (s_ : Value).ownBlock ∧ some k_ ≠ (.slice Ao47 t332.length co47 : Value).ownBlock ∧ some k_ ≠ (.slice Ao17 t335.length co17 : Value).ownBlock) (.slice Ao21 t344.length co21) t344) ∧ (Kd.R (Kd.int .u8) 5 w' w.heap.size (fun k_ => some k_ ≠ (s_ : Value).ownBlock ∧ some k_ ≠ (.slice Ao21 t344.length co21 : Value).ownBlock ∧ some k_ ≠ (.slice Ao17 t335.length co17 : Value).ownBlock) (.slice Ao47 t332.length co47) t332) ∧ (Kd.R (Kd.int .u8) 5 w' w.heap.size (fun k_ => some k_ ≠ (s_ : Value).ownBlock ∧ some k_ ≠ (.slice Ao21 t344.length co21 : Value).ownBlock ∧ some k_ ≠ (.slice Ao47 t332.length co47 : Value).ownBlock) (.slice Ao17 t335.length co17) t335) ∧ (Below w.heap.size w w')) ?_ ?_
         rotate_left
         {
         intro hJ4_5
         refine join_ (σ := Value) 30 (rl [5, 1, 4, 29]) (fun s_ => [(133, s_), (138, .string (strOfNums y391))]) (fun s_ w' => (Kd.R (Kd.int .u8) 5 w' w.heap.size (fun k_ => some k_ ≠ (.slice Ao21 t344.length co21 : Value).ownBlock ∧ some k_ ≠ (.slice Ao47 t332.length co47 : Value).ownBlock ∧ some k_ ≠ (.slice Ao17 t335.length co17 : Value).ownBlock) s_ t388) ∧ (Kd.R (Kd.int .u8) 5 w' w.heap.size (fun k_ => some k_ ≠ (s_ : Value).ownBlock ∧ some k_ ≠ (.slice Ao47 t332.length co47 : Value).ownBlock ∧ some k_ ≠ (.slice Ao17 t335.length co17 : Value).ownBlock) (.slice Ao21 t344.length co21) t344) ∧ (Kd.R (Kd.int .u8) 5 w' w.heap.size (fun k_ => some k_ ≠ (s_ : Value).ownBlock ∧ some k_ ≠ (.slice Ao21 t344.length co21 : Value).ownBlock ∧ some k_ ≠ (.slice Ao17 t335.length co17 : Value).ownBlock) (.slice Ao47 t332.length co47) t332) ∧ (Kd.R (Kd.int .u8) 5 w' w.heap.size (fun k_ => some k_ ≠ (s_ : Value).ownBlock ∧ some k_ ≠ (.slice Ao21 t344.length co21 : Value).ownBlock ∧ some k_ ≠ (.slice Ao47 t332.length co47 : Value).ownBlock) (.slice Ao17 t335.length co17) t335) ∧ (Below w.heap.size w w')) ?_ ?_
         rotate_left
         {
         intro hJ4_9
         refine join_ (σ := Value) 31 (rl [5, 1, 3, 30]) (fun s_ => [(133, s_)]) (fun s_ w' => (Kd.R (Kd.int .u8) 5 w' w.heap.size (fun k_ => some k_ ≠ (.slice Ao21 t344.length co21 : Value).ownBlock ∧ some k_ ≠ (.slice Ao47 t332.length co47 : Value).ownBlock ∧ some k_ ≠ (.slice Ao17 t335.length co17 : Value).ownBlock) s_ t388) ∧ (Kd.R (Kd.int .u8) 5 w' w.heap.size (fun k_ => some k_ ≠ (s_ : Value).ownBlock ∧ some k_ ≠ (.slice Ao47 t332.length co47 : Value).ownBlock ∧ some k_ ≠ (.slice Ao17 t335.length co17 : Value).ownBlock) (.slice Ao21 t344.length co21) t344) ∧ (Kd.R (Kd.int .u8) 5 w' w.heap.size (fun k_ => some k_ ≠ (s_ : Value).ownBlock ∧ some k_ ≠ (.slice Ao21 t344.length co21 : Value).ownBlock ∧ some k_ ≠ (.slice Ao17 t335.length co17 : Value).ownBlock) (.slice Ao47 t332.length co47) t332) ∧ (Kd.R (Kd.int .u8) 5 w' w.heap.size (fun k_ => some k_ ≠ (s_ : Value).ownBlock ∧ some k_ ≠ (.slice Ao21 t344.length co21 : Value).ownBlock ∧ some k_ ≠ (.slice Ao47 t332.length co47 : Value).ownBlock) (.slice Ao17 t335.length co17) t335) ∧ (Below w.heap.size w w')) ?_ ?_
         rotate_left
         {
         intro hJ4
         refine join_ (σ := Unit) 31 (rl [4, 2, 4, 29]) (fun s_ => [(138, .string (strOfNums y391))]) (fun s_ w' => (Kd.R (Kd.int .u8) 5 w' w.heap.size (fun k_ => some k_ ≠ (.slice Ao47 t332.length co47 : Value).ownBlock ∧ some k_ ≠ (.slice Ao17 t335.length co17 : Value).ownBlock) (.slice Ao21 t344.length co21) t344) ∧ (Kd.R (Kd.int .u8) 5 w' w.heap.size (fun k_ => some k_ ≠ (.slice Ao21 t344.length co21 : Value).ownBlock ∧ some k_ ≠ (.slice Ao17 t335.length co17 : Value).ownBlock) (.slice Ao47 t332.length co47) t332) ∧ (Kd.R (Kd.int .u8) 5 w' w.heap.size (fun k_ => some k_ ≠ (.slice Ao21 t344.length co21 : Value).ownBlock ∧ some k_ ≠ (.slice Ao47 t332.length co47 : Value).ownBlock) (.slice Ao17 t335.length co17) t335) ∧ (Below w.heap.size w w')) ?_ ?_
         rotate_left
         {
         intro hJ9
         refine two_ (i := 4) (j := 9) (Ni := some 133) (Nj := some 138) (rl [5, 1, 3, 30]) (rl [4, 2, 4, 29]) rfl rfl rfl rfl (two_of HT_.out (by kernel_rfl)) (by decide) (by decide) (fun K hK => ?_) (fun K hK => ?_)
         {
         skip
         refine goes_ Try.func18 (by kernel_rfl) rfl #[.int .i64 t338] (by rfl) rfl rfl z13h ?_
         with_reducible refine (impl_Number.calls kj68 t338 t388 _ A123.out).mono ?_
         rintro e w150 ⟨v389, rfl, ho0, hb⟩
         refine ⟨_, rfl, ?_⟩
         have n0_ := A_ (Kd.R_elder' z13d (Kd.R_base ho0) hb)
         have n1_ := A_ (Kd.R_elder' z13e (Kd.R_base ho0) hb)
         have n2_ := A_ (Kd.R_elder' z13c (Kd.R_base ho0) hb)
         have n3_ := A_ (Kd.R_lower (Kd.R_new' (Kd.R_new' (Kd.R_new' ho0 (Kd.R_lt z13d)) (Kd.R_lt z13e)) (Kd.R_lt z13c)) (below_size z13b))
         have n4_ := A_ (Kd.C_below z13f hb)
         have n5_ := A_ (below_step z13b hb)
         clear HO_4
         clear HO_5
         clear HO_10
         clear HR394
         clear HB
         have HO_4 := n0_
         have HO_5 := n1_
         have HO_10 := n2_
         have HO390 := n3_
         have HR394 := n4_
         have HB := n5_
         clear n0_ n1_ n2_ n3_ n4_ n5_
         refine hK.out _ _ trivial (fun hHeld => ?_)
         clear hK K
         refine norm_ (nz_ 133) ?_
         exact norm_ z13g (hJ4 (v389) _ ⟨z13s, z13n, z13p, z13q, z13b⟩)
         }
         {
         skip
         have hcv150 := Kd.C_string (P := Try.prog) (A := Ao17) (c := co17) Try.underlying22 Try.underlying5 Try.underlying9 z13f; have hcvd151 := fun (nq_ : Nat) => Kd.C_string (P := Try.prog) (A := Ao17) (c := co17) Try.underlying22 Try.underlying5 Try.underlying9 (Kd.C_drewN z13f nq_)
         refine value_ (w1 := ?_) (v := ?_) (by rfl) rfl ?_ ?_
         rotate_left 2
         {
         go_simp
         constructor
         {
         rfl
         }
         {
         rfl
         }
         }
         clear hcv150 hcvd151
         refine hK.out _ _ trivial (fun hHeld => ?_)
         clear hK K
         refine norm_ (nz_ 138) ?_
         exact norm_ z13g (hJ9 () _ ⟨z13c, (by (with_reducible repeat (first | apply Kd.R_alloc | apply Kd.R_drewN | apply Kd.R_drew)); exact Kd.R_mono HO_4.out (fun _ hk => ⟨hk.2, hk.1⟩)), (by (with_reducible repeat (first | apply Kd.R_alloc | apply Kd.R_drewN | apply Kd.R_drew)); exact Kd.R_mono HO_5.out (fun _ hk => ⟨hk.2, hk.1⟩)), z13b⟩)
         }
         }
         {
         skip
         rintro _ w152 ⟨h0_, h1_, h2_, h3_⟩
         have n0_ : Aside0 (Kd.R (Kd.int .u8) 5 w152 w.heap.size (fun k_ => some k_ ≠ (.slice Ao47 t332.length co47 : Value).ownBlock ∧ some k_ ≠ (.slice Ao17 t335.length co17 : Value).ownBlock) (.slice Ao21 t344.length co21) t344) := ⟨h0_⟩
         have n1_ : Aside0 (Kd.R (Kd.int .u8) 5 w152 w.heap.size (fun k_ => some k_ ≠ (.slice Ao21 t344.length co21 : Value).ownBlock ∧ some k_ ≠ (.slice Ao17 t335.length co17 : Value).ownBlock) (.slice Ao47 t332.length co47) t332) := ⟨h1_⟩
         have n2_ : Aside0 (Kd.R (Kd.int .u8) 5 w152 w.heap.size (fun k_ => some k_ ≠ (.slice Ao21 t344.length co21 : Value).ownBlock ∧ some k_ ≠ (.slice Ao47 t332.length co47 : Value).ownBlock) (.slice Ao17 t335.length co17) t335) := ⟨h2_⟩
         have n3_ : Aside0 (Below w.heap.size w w152) := ⟨h3_⟩
         clear HO_4
         clear HO_5
         clear HO_10
         clear HB
         clear h0_ h1_ h2_ h3_
         have HO_10 := n0_
         have HO_4 := n1_
         have HO_5 := n2_
         have HB := n3_
         clear n0_ n1_ n2_ n3_
         have hHeld := trivial
         have HR394 := A_ ((show Kd.C (Kd.int .u8) w152 Ao17 y391.length y391 from z13w))
         refine norm_ (a' := ?_) ?_ ?_
         rotate_left
         exact z13m
         refine one_ (i := 4) (N := some 133) (rl [5, 1, 4, 29]) rfl rfl (one_of HT_.out (by kernel_rfl)) (by decide) (fun K hK => ?_)
         refine goes_ Try.func18 (by kernel_rfl) rfl #[.int .i64 t338] (by rfl) rfl rfl z13h ?_
         with_reducible refine (impl_Number.calls kj68 t338 t388 _ A123.out).mono ?_
         rintro e w153 ⟨v389, rfl, ho0, hb⟩
         refine ⟨_, rfl, ?_⟩
         have n0_ := A_ (Kd.R_elder' z13d (Kd.R_base ho0) hb)
         have n1_ := A_ (Kd.R_elder' z13e (Kd.R_base ho0) hb)
         have n2_ := A_ (Kd.R_elder' z13c (Kd.R_base ho0) hb)
         have n3_ := A_ (Kd.R_lower (Kd.R_new' (Kd.R_new' (Kd.R_new' ho0 (Kd.R_lt z13d)) (Kd.R_lt z13e)) (Kd.R_lt z13c)) (below_size z13b))
         have n4_ := A_ (Kd.C_below z13f hb)
         have n5_ := A_ (below_step z13b hb)
         clear HO_4
         clear HO_5
         clear HO_10
         clear HR394
         clear HB
         have HO_4 := n0_
         have HO_5 := n1_
         have HO_10 := n2_
         have HO390 := n3_
         have HR394 := n4_
         have HB := n5_
         clear n0_ n1_ n2_ n3_ n4_ n5_
         refine hK.out _ _ trivial (fun hHeld => ?_)
         clear hK K
         refine norm_ (nz_ 133) ?_
         exact norm_ z13g (hJ4_9 (v389) _ ⟨z13s, z13n, (by (with_reducible repeat (first | apply Kd.R_alloc | apply Kd.R_drewN | apply Kd.R_drew)); exact Kd.R_mono HO_4.out (fun _ hk => ⟨hk.2, ⟨hk.1.1, hk.1.2⟩⟩)), (by (with_reducible repeat (first | apply Kd.R_alloc | apply Kd.R_drewN | apply Kd.R_drew)); exact Kd.R_mono HO_5.out (fun _ hk => ⟨hk.2, ⟨hk.1.1, hk.1.2⟩⟩)), z13b⟩)
         }
         }
         {
         as_aux_lemma =>
         skip
         rintro v389 w151 ⟨h0_, h1_, h2_, h3_, h4_⟩
         have n0_ : Aside0 (Kd.R (Kd.int .u8) 5 w151 w.heap.size (fun k_ => some k_ ≠ (.slice Ao21 t344.length co21 : Value).ownBlock ∧ some k_ ≠ (.slice Ao47 t332.length co47 : Value).ownBlock ∧ some k_ ≠ (.slice Ao17 t335.length co17 : Value).ownBlock) v389 t388) := ⟨h0_⟩
         have n1_ : Aside0 (Kd.R (Kd.int .u8) 5 w151 w.heap.size (fun k_ => some k_ ≠ (v389 : Value).ownBlock ∧ some k_ ≠ (.slice Ao47 t332.length co47 : Value).ownBlock ∧ some k_ ≠ (.slice Ao17 t335.length co17 : Value).ownBlock) (.slice Ao21 t344.length co21) t344) := ⟨h1_⟩
         have n2_ : Aside0 (Kd.R (Kd.int .u8) 5 w151 w.heap.size (fun k_ => some k_ ≠ (v389 : Value).ownBlock ∧ some k_ ≠ (.slice Ao21 t344.length co21 : Value).ownBlock ∧ some k_ ≠ (.slice Ao17 t335.length co17 : Value).ownBlock) (.slice Ao47 t332.length co47) t332) := ⟨h2_⟩
         have n3_ : Aside0 (Kd.R (Kd.int .u8) 5 w151 w.heap.size (fun k_ => some k_ ≠ (v389 : Value).ownBlock ∧ some k_ ≠ (.slice Ao21 t344.length co21 : Value).ownBlock ∧ some k_ ≠ (.slice Ao47 t332.length co47 : Value).ownBlock) (.slice Ao17 t335.length co17) t335) := ⟨h3_⟩
         have n4_ : Aside0 (Below w.heap.size w w151) := ⟨h4_⟩
         clear HO_4
         clear HO_5
         clear HO_10
         clear HB
         clear h0_ h1_ h2_ h3_ h4_
         have HO390 := n0_
         have HO_10 := n1_
         have HO_4 := n2_
         have HO_5 := n3_
         have HB := n4_
         clear n0_ n1_ n2_ n3_ n4_
         have hHeld := trivial
         have HR394 := A_ ((show Kd.C (Kd.int .u8) w151 Ao17 y391.length y391 from z13w))
         refine norm_ (a' := ?_) ?_ ?_
         rotate_left
         exact z13m
         refine two_ (i := 5) (j := 9) (Ni := some 134) (Nj := some 138) (yx 9 30) (rl [5, 1, 4, 29]) rfl rfl rfl rfl (two_of HT_.out (by kernel_rfl)) (by decide) (by decide) (fun K hK => ?_) (fun K hK => ?_)
         {
         skip
         have hcv152 := own_string (P := Try.prog) Try.underlying22 Try.underlying5 Try.underlying9 (Kd.own_of_R HO390.out)
         refine value_ (w1 := ?_) (v := ?_) (by rfl) rfl ?_ ?_
         rotate_left 2
         {
         go_simp
         constructor
         {
         rfl
         }
         {
         rfl
         }
         }
         clear hcv152
         refine hK.out _ _ trivial (fun hHeld => ?_)
         clear hK K
         refine norm_ (nz_ 134) ?_
         exact norm_ z13g (hJ4_5 (v389) _ ⟨z13l, z13c, z13d, z13e, z13b⟩)
         }
         {
         skip
         have hcv152 := Kd.C_string (P := Try.prog) (A := Ao17) (c := co17) Try.underlying22 Try.underlying5 Try.underlying9 z13f; have hcvd153 := fun (nq_ : Nat) => Kd.C_string (P := Try.prog) (A := Ao17) (c := co17) Try.underlying22 Try.underlying5 Try.underlying9 (Kd.C_drewN z13f nq_)
         refine value_ (w1 := ?_) (v := ?_) (by rfl) rfl ?_ ?_
         rotate_left 2
         {
         go_simp
         constructor
         {
         rfl
         }
         {
         rfl
         }
         }
         clear hcv152 hcvd153
         refine hK.out _ _ trivial (fun hHeld => ?_)
         clear hK K
         refine norm_ (nz_ 138) ?_
         exact norm_ z13g (hJ4_9 (v389) _ ⟨z13l, z13c, z13d, z13e, z13b⟩)
         }
         }
         }
         {
         as_aux_lemma =>
         skip
         rintro v389 w153 ⟨h0_, h1_, h2_, h3_, h4_⟩
         have n0_ : Aside0 (Kd.R (Kd.int .u8) 5 w153 w.heap.size (fun k_ => some k_ ≠ (.slice Ao21 t344.length co21 : Value).ownBlock ∧ some k_ ≠ (.slice Ao47 t332.length co47 : Value).ownBlock ∧ some k_ ≠ (.slice Ao17 t335.length co17 : Value).ownBlock) v389 t388) := ⟨h0_⟩
         have n1_ : Aside0 (Kd.R (Kd.int .u8) 5 w153 w.heap.size (fun k_ => some k_ ≠ (v389 : Value).ownBlock ∧ some k_ ≠ (.slice Ao47 t332.length co47 : Value).ownBlock ∧ some k_ ≠ (.slice Ao17 t335.length co17 : Value).ownBlock) (.slice Ao21 t344.length co21) t344) := ⟨h1_⟩
         have n2_ : Aside0 (Kd.R (Kd.int .u8) 5 w153 w.heap.size (fun k_ => some k_ ≠ (v389 : Value).ownBlock ∧ some k_ ≠ (.slice Ao21 t344.length co21 : Value).ownBlock ∧ some k_ ≠ (.slice Ao17 t335.length co17 : Value).ownBlock) (.slice Ao47 t332.length co47) t332) := ⟨h2_⟩
         have n3_ : Aside0 (Kd.R (Kd.int .u8) 5 w153 w.heap.size (fun k_ => some k_ ≠ (v389 : Value).ownBlock ∧ some k_ ≠ (.slice Ao21 t344.length co21 : Value).ownBlock ∧ some k_ ≠ (.slice Ao47 t332.length co47 : Value).ownBlock) (.slice Ao17 t335.length co17) t335) := ⟨h3_⟩
         have n4_ : Aside0 (Below w.heap.size w w153) := ⟨h4_⟩
         clear HO_4
         clear HO_5
         clear HO_10
         clear HB
         clear h0_ h1_ h2_ h3_ h4_
         have HO390 := n0_
         have HO_10 := n1_
         have HO_4 := n2_
         have HO_5 := n3_
         have HB := n4_
         clear n0_ n1_ n2_ n3_ n4_
         have hHeld := trivial
         have HR394 := A_ ((show Kd.C (Kd.int .u8) w153 Ao17 y391.length y391 from z13w))
         have q155 : (t348 : Int) ≤ ((t344.length : Int) : Int) := of_decide_eq_true z13o
         obtain ⟨i0155, hi0155, _, hsz155, _⟩ := info_parts info5
         have hroom155 : t344.length ≤ co21 := (Kd.R_reads' HO_10.out).2.1
         have hC155 : Kd.C (Kd.int .u8) _ Ao21 t344.length t344 := (Kd.R_reads' HO_10.out).2.2
         have hcut155 := cut_to (P := Try.prog) 22 5 .i64 Try.underlying22 hi0155 Ao21 t344.length co21 t348 (of_decide_eq_true z13o) q155 hroom155
         have hr155 := Kd.C_take (m := (t348 : Int).toNat) hC155 (by omega)
         have hy155 : y398.length = (t348 : Int).toNat := (by rw [Ny398.out, List.length_take]; omega)
         rw [← Ny398.out] at hr155
         rw [← hy155] at hcut155
         have HR401 := A_ hr155
         have HC401 := A_ (show y398.length ≤ co21 from (by omega))
         clear hr155 hC155 hroom155 hi0155 hsz155
         have KY155 := A_ hy155
         clear hy155
         have KL155 := A_ (show (t348 : Int).toNat ≤ t344.length from (by omega))
         replace q155 := eq_true q155
         refine norm_ (a' := ?_) ?_ ?_
         rotate_left
         exact z13m
         refine one_ (i := 5) (N := some 134) (yx 10 29) rfl rfl (one_of HT_.out (by kernel_rfl)) (by decide) (fun K hK => ?_)
         have hcv154 := own_string (P := Try.prog) Try.underlying22 Try.underlying5 Try.underlying9 (Kd.own_of_R HO390.out)
         refine value_ (w1 := ?_) (v := ?_) (by rfl) rfl ?_ ?_
         rotate_left 2
         {
         go_simp
         constructor
         {
         rfl
         }
         {
         rfl
         }
         }
         clear hcv154
         refine hK.out _ _ trivial (fun hHeld => ?_)
         clear hK K
         refine norm_ (nz_ 134) ?_
         refine pu_ 10 (some 139) (yx 11 28) ?_
         refine pu_ 11 (some 140) (yx 12 27) ?_
         refine pu_ 12 (some 141) (yx 13 26) ?_
         refine pu_ 13 (some 142) (yx 14 25) ?_
         refine pu_ 14 (some 143) (yx 15 24) ?_
         refine pu_ 15 (some 144) (yx 16 23) ?_
         refine pu_ 16 (some 145) (yx 17 22) ?_
         refine pu_ 19 (some 148) (rl [17, 2, 1, 19]) ?_
         refine pu_ 20 (some 149) (rl [17, 2, 2, 18]) ?_
         refine pu_ 21 (some 150) (rl [17, 2, 3, 17]) ?_
         exact norm_ z13g (hJ4_5_9 (v389) _ ⟨z13l, z13c, z13d, z13e, z13b⟩)
         }
         }
         {
         as_aux_lemma =>
         skip
         rintro v389 w152 ⟨h0_, h1_, h2_, h3_, h4_⟩
         have n0_ : Aside0 (Kd.R (Kd.int .u8) 5 w152 w.heap.size (fun k_ => some k_ ≠ (.slice Ao21 t344.length co21 : Value).ownBlock ∧ some k_ ≠ (.slice Ao47 t332.length co47 : Value).ownBlock ∧ some k_ ≠ (.slice Ao17 t335.length co17 : Value).ownBlock) v389 t388) := ⟨h0_⟩
         have n1_ : Aside0 (Kd.R (Kd.int .u8) 5 w152 w.heap.size (fun k_ => some k_ ≠ (v389 : Value).ownBlock ∧ some k_ ≠ (.slice Ao47 t332.length co47 : Value).ownBlock ∧ some k_ ≠ (.slice Ao17 t335.length co17 : Value).ownBlock) (.slice Ao21 t344.length co21) t344) := ⟨h1_⟩
         have n2_ : Aside0 (Kd.R (Kd.int .u8) 5 w152 w.heap.size (fun k_ => some k_ ≠ (v389 : Value).ownBlock ∧ some k_ ≠ (.slice Ao21 t344.length co21 : Value).ownBlock ∧ some k_ ≠ (.slice Ao17 t335.length co17 : Value).ownBlock) (.slice Ao47 t332.length co47) t332) := ⟨h2_⟩
         have n3_ : Aside0 (Kd.R (Kd.int .u8) 5 w152 w.heap.size (fun k_ => some k_ ≠ (v389 : Value).ownBlock ∧ some k_ ≠ (.slice Ao21 t344.length co21 : Value).ownBlock ∧ some k_ ≠ (.slice Ao47 t332.length co47 : Value).ownBlock) (.slice Ao17 t335.length co17) t335) := ⟨h3_⟩
         have n4_ : Aside0 (Below w.heap.size w w152) := ⟨h4_⟩
         clear HO_4
         clear HO_5
         clear HO_10
         clear HB
         clear h0_ h1_ h2_ h3_ h4_
         have HO390 := n0_
         have HO_10 := n1_
         have HO_4 := n2_
         have HO_5 := n3_
         have HB := n4_
         clear n0_ n1_ n2_ n3_ n4_
         have hHeld := trivial
         have HR394 := A_ ((show Kd.C (Kd.int .u8) w152 Ao17 y391.length y391 from z13w))
         have q155 : (t348 : Int) ≤ ((t344.length : Int) : Int) := of_decide_eq_true z13o
         obtain ⟨i0155, hi0155, _, hsz155, _⟩ := info_parts info5
         have hroom155 : t344.length ≤ co21 := (Kd.R_reads' HO_10.out).2.1
         have hC155 : Kd.C (Kd.int .u8) _ Ao21 t344.length t344 := (Kd.R_reads' HO_10.out).2.2
         have hcut155 := cut_to (P := Try.prog) 22 5 .i64 Try.underlying22 hi0155 Ao21 t344.length co21 t348 (of_decide_eq_true z13o) q155 hroom155
         have hr155 := Kd.C_take (m := (t348 : Int).toNat) hC155 (by omega)
         have hy155 : y398.length = (t348 : Int).toNat := (by rw [Ny398.out, List.length_take]; omega)
         rw [← Ny398.out] at hr155
         rw [← hy155] at hcut155
         have HR401 := A_ hr155
         have HC401 := A_ (show y398.length ≤ co21 from (by omega))
         clear hr155 hC155 hroom155 hi0155 hsz155
         have KY155 := A_ hy155
         clear hy155
         have KL155 := A_ (show (t348 : Int).toNat ≤ t344.length from (by omega))
         replace q155 := eq_true q155
         refine norm_ (a' := ?_) ?_ ?_
         rotate_left
         exact z13m
         refine one_ (i := 9) (N := some 138) (yx 10 29) rfl rfl (one_of HT_.out (by kernel_rfl)) (by decide) (fun K hK => ?_)
         have hcv153 := Kd.C_string (P := Try.prog) (A := Ao17) (c := co17) Try.underlying22 Try.underlying5 Try.underlying9 z13f; have hcvd154 := fun (nq_ : Nat) => Kd.C_string (P := Try.prog) (A := Ao17) (c := co17) Try.underlying22 Try.underlying5 Try.underlying9 (Kd.C_drewN z13f nq_)
         refine value_ (w1 := ?_) (v := ?_) (by rfl) rfl ?_ ?_
         rotate_left 2
         {
         go_simp
         constructor
         {
         rfl
         }
         {
         rfl
         }
         }
         clear hcv153 hcvd154
         refine hK.out _ _ trivial (fun hHeld => ?_)
         clear hK K
         refine norm_ (nz_ 138) ?_
         refine pu_ 10 (some 139) (yx 11 28) ?_
         refine pu_ 11 (some 140) (yx 12 27) ?_
         refine pu_ 12 (some 141) (yx 13 26) ?_
         refine pu_ 13 (some 142) (yx 14 25) ?_
         refine pu_ 14 (some 143) (yx 15 24) ?_
         refine pu_ 15 (some 144) (yx 16 23) ?_
         refine pu_ 16 (some 145) (yx 17 22) ?_
         refine pu_ 19 (some 148) (rl [17, 2, 1, 19]) ?_
         refine pu_ 20 (some 149) (rl [17, 2, 2, 18]) ?_
         refine pu_ 21 (some 150) (rl [17, 2, 3, 17]) ?_
         exact norm_ z13g (hJ4_5_9 (v389) _ ⟨z13l, z13c, z13d, z13e, z13b⟩)
         }
         }
         {
         as_aux_lemma =>
         skip
         rintro v389 w155 ⟨h0_, h1_, h2_, h3_, h4_⟩
         have n0_ : Aside0 (Kd.R (Kd.int .u8) 5 w155 w.heap.size (fun k_ => some k_ ≠ (.slice Ao21 t344.length co21 : Value).ownBlock ∧ some k_ ≠ (.slice Ao47 t332.length co47 : Value).ownBlock ∧ some k_ ≠ (.slice Ao17 t335.length co17 : Value).ownBlock) v389 t388) := ⟨h0_⟩
         have n1_ : Aside0 (Kd.R (Kd.int .u8) 5 w155 w.heap.size (fun k_ => some k_ ≠ (v389 : Value).ownBlock ∧ some k_ ≠ (.slice Ao47 t332.length co47 : Value).ownBlock ∧ some k_ ≠ (.slice Ao17 t335.length co17 : Value).ownBlock) (.slice Ao21 t344.length co21) t344) := ⟨h1_⟩
         have n2_ : Aside0 (Kd.R (Kd.int .u8) 5 w155 w.heap.size (fun k_ => some k_ ≠ (v389 : Value).ownBlock ∧ some k_ ≠ (.slice Ao21 t344.length co21 : Value).ownBlock ∧ some k_ ≠ (.slice Ao17 t335.length co17 : Value).ownBlock) (.slice Ao47 t332.length co47) t332) := ⟨h2_⟩
         have n3_ : Aside0 (Kd.R (Kd.int .u8) 5 w155 w.heap.size (fun k_ => some k_ ≠ (v389 : Value).ownBlock ∧ some k_ ≠ (.slice Ao21 t344.length co21 : Value).ownBlock ∧ some k_ ≠ (.slice Ao47 t332.length co47 : Value).ownBlock) (.slice Ao17 t335.length co17) t335) := ⟨h3_⟩
         have n4_ : Aside0 (Below w.heap.size w w155) := ⟨h4_⟩
         clear HO_4
         clear HO_5
         clear HO_10
         clear HB
         clear h0_ h1_ h2_ h3_ h4_
         have HO390 := n0_
         have HO_10 := n1_
         have HO_4 := n2_
         have HO_5 := n3_
         have HB := n4_
         clear n0_ n1_ n2_ n3_ n4_
         have hHeld := trivial
         have HR394 := A_ ((show Kd.C (Kd.int .u8) w155 Ao17 y391.length y391 from z13w))
         have HR401 := A_ ((show Kd.C (Kd.int .u8) w155 Ao21 y398.length y398 from z13h1))
         have q156 : (t348 : Int) ≤ ((t344.length : Int) : Int) := of_decide_eq_true z13o
         obtain ⟨i0156, hi0156, _, hsz156, _⟩ := info_parts info5
         have hroom156 : t344.length ≤ co21 := (Kd.R_reads' HO_10.out).2.1
         have hC156 : Kd.C (Kd.int .u8) _ Ao21 t344.length t344 := (Kd.R_reads' HO_10.out).2.2
         have hcut156 := cut_to (P := Try.prog) 22 5 .i64 Try.underlying22 hi0156 Ao21 t344.length co21 t348 (of_decide_eq_true z13o) q156 hroom156
         have hr156 := Kd.C_take (m := (t348 : Int).toNat) hC156 (by omega)
         have hy156 : y398.length = (t348 : Int).toNat := (by rw [Ny398.out, List.length_take]; omega)
         rw [← Ny398.out] at hr156
         rw [← hy156] at hcut156
         have HR401 := A_ hr156
         have HC401 := A_ (show y398.length ≤ co21 from (by omega))
         clear hr156 hC156 hroom156 hi0156 hsz156
         have KY156 := A_ hy156
         clear hy156
         have KL156 := A_ (show (t348 : Int).toNat ≤ t344.length from (by omega))
         replace q156 := eq_true q156
         refine norm_ (a' := ?_) ?_ ?_
         rotate_left
         exact z13m
         refine two_ (i := 17) (j := 22) (Ni := some 146) (Nj := some 151) (rl [18, 1, 3, 17]) (rl [17, 2, 4, 16]) rfl rfl rfl rfl (two_of HT_.out (by kernel_rfl)) (by decide) (by decide) (fun K hK => ?_) (fun K hK => ?_)
         {
         skip
         refine goes_ Try.func23 (by kernel_rfl) rfl #[.string t347] (by rfl) rfl rfl z13h ?_
         with_reducible refine (impl_Text.calls kj68 t347 t395 _ A143.out).mono ?_
         rintro e w157 ⟨v396, rfl, ho0, hb⟩
         refine ⟨_, rfl, ?_⟩
         have n0_ := A_ (Kd.R_elder' z13d (Kd.R_base ho0) hb)
         have n1_ := A_ (Kd.R_elder' z13e (Kd.R_base ho0) hb)
         have n2_ := A_ (Kd.R_elder' z13c (Kd.R_base ho0) hb)
         have n3_ := A_ (Kd.R_elder' z13l (Kd.R_base ho0) hb)
         have n4_ := A_ (Kd.R_lower (Kd.R_new' (Kd.R_new' (Kd.R_new' (Kd.R_new' ho0 (Kd.R_lt z13d)) (Kd.R_lt z13e)) (Kd.R_lt z13c)) (Kd.R_lt z13l)) (below_size z13b))
         have n5_ := A_ (Kd.C_below z13f hb)
         have n6_ := A_ (Kd.C_below z13i hb)
         have n7_ := A_ (Kd.C_below z13i hb)
         have n8_ := A_ (below_step z13b hb)
         clear HO_4
         clear HO_5
         clear HO_10
         clear HO390
         clear HR394
         clear HR401
         clear HR401
         clear HB
         have HO_4 := n0_
         have HO_5 := n1_
         have HO_10 := n2_
         have HO390 := n3_
         have HO397 := n4_
         have HR394 := n5_
         have HR401 := n6_
         have HR401 := n7_
         have HB := n8_
         clear n0_ n1_ n2_ n3_ n4_ n5_ n6_ n7_ n8_
         refine hK.out _ _ trivial (fun hHeld => ?_)
         clear hK K
         refine norm_ (nz_ 146) ?_
         exact norm_ z13g (hJ4_5_9_17 (v389, v396) _ ⟨z13b1, z13a1, z13c1, z13d1, z13e1, z13b⟩)
         }
         {
         skip
         have hcv157 := Kd.C_string (P := Try.prog) (A := Ao21) (c := co21) Try.underlying22 Try.underlying5 Try.underlying9 z13i; have hcvd158 := fun (nq_ : Nat) => Kd.C_string (P := Try.prog) (A := Ao21) (c := co21) Try.underlying22 Try.underlying5 Try.underlying9 (Kd.C_drewN z13i nq_)
         refine value_ (w1 := ?_) (v := ?_) (by rfl) rfl ?_ ?_
         rotate_left 2
         {
         go_simp
         constructor
         {
         rfl
         }
         {
         rfl
         }
         }
         clear hcv157 hcvd158
         refine hK.out _ _ trivial (fun hHeld => ?_)
         clear hK K
         refine norm_ (nz_ 151) ?_
         exact norm_ z13g (hJ4_5_9_22 (v389) _ ⟨z13l, z13c, z13d, z13e, z13b⟩)
         }
         }
         }
         {
         as_aux_lemma =>
         skip
         rintro v389 w157 ⟨h0_, h1_, h2_, h3_, h4_⟩
         have n0_ : Aside0 (Kd.R (Kd.int .u8) 5 w157 w.heap.size (fun k_ => some k_ ≠ (.slice Ao21 t344.length co21 : Value).ownBlock ∧ some k_ ≠ (.slice Ao47 t332.length co47 : Value).ownBlock ∧ some k_ ≠ (.slice Ao17 t335.length co17 : Value).ownBlock) v389 t388) := ⟨h0_⟩
         have n1_ : Aside0 (Kd.R (Kd.int .u8) 5 w157 w.heap.size (fun k_ => some k_ ≠ (v389 : Value).ownBlock ∧ some k_ ≠ (.slice Ao47 t332.length co47 : Value).ownBlock ∧ some k_ ≠ (.slice Ao17 t335.length co17 : Value).ownBlock) (.slice Ao21 t344.length co21) t344) := ⟨h1_⟩
         have n2_ : Aside0 (Kd.R (Kd.int .u8) 5 w157 w.heap.size (fun k_ => some k_ ≠ (v389 : Value).ownBlock ∧ some k_ ≠ (.slice Ao21 t344.length co21 : Value).ownBlock ∧ some k_ ≠ (.slice Ao17 t335.length co17 : Value).ownBlock) (.slice Ao47 t332.length co47) t332) := ⟨h2_⟩
         have n3_ : Aside0 (Kd.R (Kd.int .u8) 5 w157 w.heap.size (fun k_ => some k_ ≠ (v389 : Value).ownBlock ∧ some k_ ≠ (.slice Ao21 t344.length co21 : Value).ownBlock ∧ some k_ ≠ (.slice Ao47 t332.length co47 : Value).ownBlock) (.slice Ao17 t335.length co17) t335) := ⟨h3_⟩
         have n4_ : Aside0 (Below w.heap.size w w157) := ⟨h4_⟩
         clear HO_4
         clear HO_5
         clear HO_10
         clear HB
         clear h0_ h1_ h2_ h3_ h4_
         have HO390 := n0_
         have HO_10 := n1_
         have HO_4 := n2_
         have HO_5 := n3_
         have HB := n4_
         clear n0_ n1_ n2_ n3_ n4_
         have hHeld := trivial
         have HR394 := A_ ((show Kd.C (Kd.int .u8) w157 Ao17 y391.length y391 from z13w))
         have HR401 := A_ ((show Kd.C (Kd.int .u8) w157 Ao21 y398.length y398 from z13h1))
         have q158 : (t348 : Int) ≤ ((t344.length : Int) : Int) := of_decide_eq_true z13o
         obtain ⟨i0158, hi0158, _, hsz158, _⟩ := info_parts info5
         have hroom158 : t344.length ≤ co21 := (Kd.R_reads' HO_10.out).2.1
         have hC158 : Kd.C (Kd.int .u8) _ Ao21 t344.length t344 := (Kd.R_reads' HO_10.out).2.2
         have hcut158 := cut_to (P := Try.prog) 22 5 .i64 Try.underlying22 hi0158 Ao21 t344.length co21 t348 (of_decide_eq_true z13o) q158 hroom158
         have hr158 := Kd.C_take (m := (t348 : Int).toNat) hC158 (by omega)
         have hy158 : y398.length = (t348 : Int).toNat := (by rw [Ny398.out, List.length_take]; omega)
         rw [← Ny398.out] at hr158
         rw [← hy158] at hcut158
         have HR401 := A_ hr158
         have HC401 := A_ (show y398.length ≤ co21 from (by omega))
         clear hr158 hC158 hroom158 hi0158 hsz158
         have KY158 := A_ hy158
         clear hy158
         have KL158 := A_ (show (t348 : Int).toNat ≤ t344.length from (by omega))
         replace q158 := eq_true q158
         refine norm_ (a' := ?_) ?_ ?_
         rotate_left
         exact z13m
         refine one_ (i := 17) (N := some 146) (rl [18, 1, 4, 16]) rfl rfl (one_of HT_.out (by kernel_rfl)) (by decide) (fun K hK => ?_)
         refine goes_ Try.func23 (by kernel_rfl) rfl #[.string t347] (by rfl) rfl rfl z13h ?_
         with_reducible refine (impl_Text.calls kj68 t347 t395 _ A143.out).mono ?_
         rintro e w159 ⟨v396, rfl, ho0, hb⟩
         refine ⟨_, rfl, ?_⟩
         have n0_ := A_ (Kd.R_elder' z13d (Kd.R_base ho0) hb)
         have n1_ := A_ (Kd.R_elder' z13e (Kd.R_base ho0) hb)
         have n2_ := A_ (Kd.R_elder' z13c (Kd.R_base ho0) hb)
         have n3_ := A_ (Kd.R_elder' z13l (Kd.R_base ho0) hb)
         have n4_ := A_ (Kd.R_lower (Kd.R_new' (Kd.R_new' (Kd.R_new' (Kd.R_new' ho0 (Kd.R_lt z13d)) (Kd.R_lt z13e)) (Kd.R_lt z13c)) (Kd.R_lt z13l)) (below_size z13b))
         have n5_ := A_ (Kd.C_below z13f hb)
         have n6_ := A_ (Kd.C_below z13i hb)
         have n7_ := A_ (Kd.C_below z13i hb)
         have n8_ := A_ (below_step z13b hb)
         clear HO_4
         clear HO_5
         clear HO_10
         clear HO390
         clear HR394
         clear HR401
         clear HR401
         clear HB
         have HO_4 := n0_
         have HO_5 := n1_
         have HO_10 := n2_
         have HO390 := n3_
         have HO397 := n4_
         have HR394 := n5_
         have HR401 := n6_
         have HR401 := n7_
         have HB := n8_
         clear n0_ n1_ n2_ n3_ n4_ n5_ n6_ n7_ n8_
         refine hK.out _ _ trivial (fun hHeld => ?_)
         clear hK K
         refine norm_ (nz_ 146) ?_
         exact norm_ z13g (hJ4_5_9_17_22 (v389, v396) _ ⟨z13b1, z13a1, z13c1, z13d1, z13e1, z13b⟩)
         }
         }
         {
         as_aux_lemma =>
         skip
         rintro ⟨v389, v396⟩ w156 ⟨h0_, h1_, h2_, h3_, h4_, h5_⟩
         have n0_ : Aside0 (Kd.R (Kd.int .u8) 5 w156 w.heap.size (fun k_ => some k_ ≠ (v396 : Value).ownBlock ∧ some k_ ≠ (.slice Ao21 t344.length co21 : Value).ownBlock ∧ some k_ ≠ (.slice Ao47 t332.length co47 : Value).ownBlock ∧ some k_ ≠ (.slice Ao17 t335.length co17 : Value).ownBlock) v389 t388) := ⟨h0_⟩
         have n1_ : Aside0 (Kd.R (Kd.int .u8) 5 w156 w.heap.size (fun k_ => some k_ ≠ (v389 : Value).ownBlock ∧ some k_ ≠ (.slice Ao21 t344.length co21 : Value).ownBlock ∧ some k_ ≠ (.slice Ao47 t332.length co47 : Value).ownBlock ∧ some k_ ≠ (.slice Ao17 t335.length co17 : Value).ownBlock) v396 t395) := ⟨h1_⟩
         have n2_ : Aside0 (Kd.R (Kd.int .u8) 5 w156 w.heap.size (fun k_ => some k_ ≠ (v389 : Value).ownBlock ∧ some k_ ≠ (v396 : Value).ownBlock ∧ some k_ ≠ (.slice Ao47 t332.length co47 : Value).ownBlock ∧ some k_ ≠ (.slice Ao17 t335.length co17 : Value).ownBlock) (.slice Ao21 t344.length co21) t344) := ⟨h2_⟩
         have n3_ : Aside0 (Kd.R (Kd.int .u8) 5 w156 w.heap.size (fun k_ => some k_ ≠ (v389 : Value).ownBlock ∧ some k_ ≠ (v396 : Value).ownBlock ∧ some k_ ≠ (.slice Ao21 t344.length co21 : Value).ownBlock ∧ some k_ ≠ (.slice Ao17 t335.length co17 : Value).ownBlock) (.slice Ao47 t332.length co47) t332) := ⟨h3_⟩
         have n4_ : Aside0 (Kd.R (Kd.int .u8) 5 w156 w.heap.size (fun k_ => some k_ ≠ (v389 : Value).ownBlock ∧ some k_ ≠ (v396 : Value).ownBlock ∧ some k_ ≠ (.slice Ao21 t344.length co21 : Value).ownBlock ∧ some k_ ≠ (.slice Ao47 t332.length co47 : Value).ownBlock) (.slice Ao17 t335.length co17) t335) := ⟨h4_⟩
         have n5_ : Aside0 (Below w.heap.size w w156) := ⟨h5_⟩
         clear HO_4
         clear HO_5
         clear HO_10
         clear HB
         clear h0_ h1_ h2_ h3_ h4_ h5_
         have HO390 := n0_
         have HO397 := n1_
         have HO_10 := n2_
         have HO_4 := n3_
         have HO_5 := n4_
         have HB := n5_
         clear n0_ n1_ n2_ n3_ n4_ n5_
         have hHeld := trivial
         have HR394 := A_ ((show Kd.C (Kd.int .u8) w156 Ao17 y391.length y391 from z13w))
         have HR401 := A_ ((show Kd.C (Kd.int .u8) w156 Ao21 y398.length y398 from z13h1))
         have q157 : (t348 : Int) ≤ ((t344.length : Int) : Int) := of_decide_eq_true z13o
         obtain ⟨i0157, hi0157, _, hsz157, _⟩ := info_parts info5
         have hroom157 : t344.length ≤ co21 := (Kd.R_reads' HO_10.out).2.1
         have hC157 : Kd.C (Kd.int .u8) _ Ao21 t344.length t344 := (Kd.R_reads' HO_10.out).2.2
         have hcut157 := cut_to (P := Try.prog) 22 5 .i64 Try.underlying22 hi0157 Ao21 t344.length co21 t348 (of_decide_eq_true z13o) q157 hroom157
         have hr157 := Kd.C_take (m := (t348 : Int).toNat) hC157 (by omega)
         have hy157 : y398.length = (t348 : Int).toNat := (by rw [Ny398.out, List.length_take]; omega)
         rw [← Ny398.out] at hr157
         rw [← hy157] at hcut157
         have HR401 := A_ hr157
         have HC401 := A_ (show y398.length ≤ co21 from (by omega))
         clear hr157 hC157 hroom157 hi0157 hsz157
         have KY157 := A_ hy157
         clear hy157
         have KL157 := A_ (show (t348 : Int).toNat ≤ t344.length from (by omega))
         replace q157 := eq_true q157
         refine norm_ (a' := ?_) ?_ ?_
         rotate_left
         exact z13m
         refine two_ (i := 18) (j := 22) (Ni := some 147) (Nj := some 151) (yx 22 17) (rl [18, 1, 4, 16]) rfl rfl rfl rfl (two_of HT_.out (by kernel_rfl)) (by decide) (by decide) (fun K hK => ?_) (fun K hK => ?_)
         {
         skip
         have hcv158 := own_string (P := Try.prog) Try.underlying22 Try.underlying5 Try.underlying9 (Kd.own_of_R HO397.out)
         refine value_ (w1 := ?_) (v := ?_) (by rfl) rfl ?_ ?_
         rotate_left 2
         {
         go_simp
         constructor
         {
         rfl
         }
         {
         rfl
         }
         }
         clear hcv158
         refine hK.out _ _ trivial (fun hHeld => ?_)
         clear hK K
         refine norm_ (nz_ 147) ?_
         exact norm_ z13g (hJ4_5_9_17_18 (v389, v396) _ ⟨z13l, z13u, z13c, z13d, z13e, z13b⟩)
         }
         {
         skip
         have hcv158 := Kd.C_string (P := Try.prog) (A := Ao21) (c := co21) Try.underlying22 Try.underlying5 Try.underlying9 z13i; have hcvd159 := fun (nq_ : Nat) => Kd.C_string (P := Try.prog) (A := Ao21) (c := co21) Try.underlying22 Try.underlying5 Try.underlying9 (Kd.C_drewN z13i nq_)
         refine value_ (w1 := ?_) (v := ?_) (by rfl) rfl ?_ ?_
         rotate_left 2
         {
         go_simp
         constructor
         {
         rfl
         }
         {
         rfl
         }
         }
         clear hcv158 hcvd159
         refine hK.out _ _ trivial (fun hHeld => ?_)
         clear hK K
         refine norm_ (nz_ 151) ?_
         exact norm_ z13g (hJ4_5_9_17_22 (v389, v396) _ ⟨z13l, z13u, z13c, z13d, z13e, z13b⟩)
         }
         }
         }
         {
         as_aux_lemma =>
         skip
         rintro ⟨v389, v396⟩ w158 ⟨h0_, h1_, h2_, h3_, h4_, h5_⟩
         have n0_ : Aside0 (Kd.R (Kd.int .u8) 5 w158 w.heap.size (fun k_ => some k_ ≠ (v396 : Value).ownBlock ∧ some k_ ≠ (.slice Ao21 t344.length co21 : Value).ownBlock ∧ some k_ ≠ (.slice Ao47 t332.length co47 : Value).ownBlock ∧ some k_ ≠ (.slice Ao17 t335.length co17 : Value).ownBlock) v389 t388) := ⟨h0_⟩
         have n1_ : Aside0 (Kd.R (Kd.int .u8) 5 w158 w.heap.size (fun k_ => some k_ ≠ (v389 : Value).ownBlock ∧ some k_ ≠ (.slice Ao21 t344.length co21 : Value).ownBlock ∧ some k_ ≠ (.slice Ao47 t332.length co47 : Value).ownBlock ∧ some k_ ≠ (.slice Ao17 t335.length co17 : Value).ownBlock) v396 t395) := ⟨h1_⟩
         have n2_ : Aside0 (Kd.R (Kd.int .u8) 5 w158 w.heap.size (fun k_ => some k_ ≠ (v389 : Value).ownBlock ∧ some k_ ≠ (v396 : Value).ownBlock ∧ some k_ ≠ (.slice Ao47 t332.length co47 : Value).ownBlock ∧ some k_ ≠ (.slice Ao17 t335.length co17 : Value).ownBlock) (.slice Ao21 t344.length co21) t344) := ⟨h2_⟩
         have n3_ : Aside0 (Kd.R (Kd.int .u8) 5 w158 w.heap.size (fun k_ => some k_ ≠ (v389 : Value).ownBlock ∧ some k_ ≠ (v396 : Value).ownBlock ∧ some k_ ≠ (.slice Ao21 t344.length co21 : Value).ownBlock ∧ some k_ ≠ (.slice Ao17 t335.length co17 : Value).ownBlock) (.slice Ao47 t332.length co47) t332) := ⟨h3_⟩
         have n4_ : Aside0 (Kd.R (Kd.int .u8) 5 w158 w.heap.size (fun k_ => some k_ ≠ (v389 : Value).ownBlock ∧ some k_ ≠ (v396 : Value).ownBlock ∧ some k_ ≠ (.slice Ao21 t344.length co21 : Value).ownBlock ∧ some k_ ≠ (.slice Ao47 t332.length co47 : Value).ownBlock) (.slice Ao17 t335.length co17) t335) := ⟨h4_⟩
         have n5_ : Aside0 (Below w.heap.size w w158) := ⟨h5_⟩
         clear HO_4
         clear HO_5
         clear HO_10
         clear HB
         clear h0_ h1_ h2_ h3_ h4_ h5_
         have HO390 := n0_
         have HO397 := n1_
         have HO_10 := n2_
         have HO_4 := n3_
         have HO_5 := n4_
         have HB := n5_
         clear n0_ n1_ n2_ n3_ n4_ n5_
         have hHeld := trivial
         have HR394 := A_ ((show Kd.C (Kd.int .u8) w158 Ao17 y391.length y391 from z13w))
         have HR401 := A_ ((show Kd.C (Kd.int .u8) w158 Ao21 y398.length y398 from z13h1))
         have q159 : (t348 : Int) ≤ ((t344.length : Int) : Int) := of_decide_eq_true z13o
         obtain ⟨i0159, hi0159, _, hsz159, _⟩ := info_parts info5
         have hroom159 : t344.length ≤ co21 := (Kd.R_reads' HO_10.out).2.1
         have hC159 : Kd.C (Kd.int .u8) _ Ao21 t344.length t344 := (Kd.R_reads' HO_10.out).2.2
         have hcut159 := cut_to (P := Try.prog) 22 5 .i64 Try.underlying22 hi0159 Ao21 t344.length co21 t348 (of_decide_eq_true z13o) q159 hroom159
         have hr159 := Kd.C_take (m := (t348 : Int).toNat) hC159 (by omega)
         have hy159 : y398.length = (t348 : Int).toNat := (by rw [Ny398.out, List.length_take]; omega)
         rw [← Ny398.out] at hr159
         rw [← hy159] at hcut159
         have HR401 := A_ hr159
         have HC401 := A_ (show y398.length ≤ co21 from (by omega))
         clear hr159 hC159 hroom159 hi0159 hsz159
         have KY159 := A_ hy159
         clear hy159
         have KL159 := A_ (show (t348 : Int).toNat ≤ t344.length from (by omega))
         replace q159 := eq_true q159
         refine norm_ (a' := ?_) ?_ ?_
         rotate_left
         exact z13m
         refine one_ (i := 18) (N := some 147) (yx 23 16) rfl rfl (one_of HT_.out (by kernel_rfl)) (by decide) (fun K hK => ?_)
         have hcv160 := own_string (P := Try.prog) Try.underlying22 Try.underlying5 Try.underlying9 (Kd.own_of_R HO397.out)
         refine value_ (w1 := ?_) (v := ?_) (by rfl) rfl ?_ ?_
         rotate_left 2
         {
         go_simp
         constructor
         {
         rfl
         }
         {
         rfl
         }
         }
         clear hcv160
         refine hK.out _ _ trivial (fun hHeld => ?_)
         clear hK K
         refine norm_ (nz_ 147) ?_
         exact norm_ z13g (hJ4_5_9_17_18_22 (v389, v396) _ ⟨z13l, z13u, z13c, z13d, z13e, z13b⟩)
         }
         }
         {
         as_aux_lemma =>
         skip
         rintro ⟨v389, v396⟩ w157 ⟨h0_, h1_, h2_, h3_, h4_, h5_⟩
         have n0_ : Aside0 (Kd.R (Kd.int .u8) 5 w157 w.heap.size (fun k_ => some k_ ≠ (v396 : Value).ownBlock ∧ some k_ ≠ (.slice Ao21 t344.length co21 : Value).ownBlock ∧ some k_ ≠ (.slice Ao47 t332.length co47 : Value).ownBlock ∧ some k_ ≠ (.slice Ao17 t335.length co17 : Value).ownBlock) v389 t388) := ⟨h0_⟩
         have n1_ : Aside0 (Kd.R (Kd.int .u8) 5 w157 w.heap.size (fun k_ => some k_ ≠ (v389 : Value).ownBlock ∧ some k_ ≠ (.slice Ao21 t344.length co21 : Value).ownBlock ∧ some k_ ≠ (.slice Ao47 t332.length co47 : Value).ownBlock ∧ some k_ ≠ (.slice Ao17 t335.length co17 : Value).ownBlock) v396 t395) := ⟨h1_⟩
         have n2_ : Aside0 (Kd.R (Kd.int .u8) 5 w157 w.heap.size (fun k_ => some k_ ≠ (v389 : Value).ownBlock ∧ some k_ ≠ (v396 : Value).ownBlock ∧ some k_ ≠ (.slice Ao47 t332.length co47 : Value).ownBlock ∧ some k_ ≠ (.slice Ao17 t335.length co17 : Value).ownBlock) (.slice Ao21 t344.length co21) t344) := ⟨h2_⟩
         have n3_ : Aside0 (Kd.R (Kd.int .u8) 5 w157 w.heap.size (fun k_ => some k_ ≠ (v389 : Value).ownBlock ∧ some k_ ≠ (v396 : Value).ownBlock ∧ some k_ ≠ (.slice Ao21 t344.length co21 : Value).ownBlock ∧ some k_ ≠ (.slice Ao17 t335.length co17 : Value).ownBlock) (.slice Ao47 t332.length co47) t332) := ⟨h3_⟩
         have n4_ : Aside0 (Kd.R (Kd.int .u8) 5 w157 w.heap.size (fun k_ => some k_ ≠ (v389 : Value).ownBlock ∧ some k_ ≠ (v396 : Value).ownBlock ∧ some k_ ≠ (.slice Ao21 t344.length co21 : Value).ownBlock ∧ some k_ ≠ (.slice Ao47 t332.length co47 : Value).ownBlock) (.slice Ao17 t335.length co17) t335) := ⟨h4_⟩
         have n5_ : Aside0 (Below w.heap.size w w157) := ⟨h5_⟩
         clear HO_4
         clear HO_5
         clear HO_10
         clear HB
         clear h0_ h1_ h2_ h3_ h4_ h5_
         have HO390 := n0_
         have HO397 := n1_
         have HO_10 := n2_
         have HO_4 := n3_
         have HO_5 := n4_
         have HB := n5_
         clear n0_ n1_ n2_ n3_ n4_ n5_
         have hHeld := trivial
         have HR394 := A_ ((show Kd.C (Kd.int .u8) w157 Ao17 y391.length y391 from z13w))
         have HR401 := A_ ((show Kd.C (Kd.int .u8) w157 Ao21 y398.length y398 from z13h1))
         have q158 : (t348 : Int) ≤ ((t344.length : Int) : Int) := of_decide_eq_true z13o
         obtain ⟨i0158, hi0158, _, hsz158, _⟩ := info_parts info5
         have hroom158 : t344.length ≤ co21 := (Kd.R_reads' HO_10.out).2.1
         have hC158 : Kd.C (Kd.int .u8) _ Ao21 t344.length t344 := (Kd.R_reads' HO_10.out).2.2
         have hcut158 := cut_to (P := Try.prog) 22 5 .i64 Try.underlying22 hi0158 Ao21 t344.length co21 t348 (of_decide_eq_true z13o) q158 hroom158
         have hr158 := Kd.C_take (m := (t348 : Int).toNat) hC158 (by omega)
         have hy158 : y398.length = (t348 : Int).toNat := (by rw [Ny398.out, List.length_take]; omega)
         rw [← Ny398.out] at hr158
         rw [← hy158] at hcut158
         have HR401 := A_ hr158
         have HC401 := A_ (show y398.length ≤ co21 from (by omega))
         clear hr158 hC158 hroom158 hi0158 hsz158
         have KY158 := A_ hy158
         clear hy158
         have KL158 := A_ (show (t348 : Int).toNat ≤ t344.length from (by omega))
         replace q158 := eq_true q158
         refine norm_ (a' := ?_) ?_ ?_
         rotate_left
         exact z13m
         refine one_ (i := 22) (N := some 151) (yx 23 16) rfl rfl (one_of HT_.out (by kernel_rfl)) (by decide) (fun K hK => ?_)
         have hcv159 := Kd.C_string (P := Try.prog) (A := Ao21) (c := co21) Try.underlying22 Try.underlying5 Try.underlying9 z13i; have hcvd160 := fun (nq_ : Nat) => Kd.C_string (P := Try.prog) (A := Ao21) (c := co21) Try.underlying22 Try.underlying5 Try.underlying9 (Kd.C_drewN z13i nq_)
         refine value_ (w1 := ?_) (v := ?_) (by rfl) rfl ?_ ?_
         rotate_left 2
         {
         go_simp
         constructor
         {
         rfl
         }
         {
         rfl
         }
         }
         clear hcv159 hcvd160
         refine hK.out _ _ trivial (fun hHeld => ?_)
         clear hK K
         refine norm_ (nz_ 151) ?_
         exact norm_ z13g (hJ4_5_9_17_18_22 (v389, v396) _ ⟨z13l, z13u, z13c, z13d, z13e, z13b⟩)
         }
         }
         rintro ⟨v389, v396⟩ w159 ⟨h0_, h1_, h2_, h3_, h4_, h5_⟩
         have n0_ : Aside0 (Kd.R (Kd.int .u8) 5 w159 w.heap.size (fun k_ => some k_ ≠ (v396 : Value).ownBlock ∧ some k_ ≠ (.slice Ao21 t344.length co21 : Value).ownBlock ∧ some k_ ≠ (.slice Ao47 t332.length co47 : Value).ownBlock ∧ some k_ ≠ (.slice Ao17 t335.length co17 : Value).ownBlock) v389 t388) := ⟨h0_⟩
         have n1_ : Aside0 (Kd.R (Kd.int .u8) 5 w159 w.heap.size (fun k_ => some k_ ≠ (v389 : Value).ownBlock ∧ some k_ ≠ (.slice Ao21 t344.length co21 : Value).ownBlock ∧ some k_ ≠ (.slice Ao47 t332.length co47 : Value).ownBlock ∧ some k_ ≠ (.slice Ao17 t335.length co17 : Value).ownBlock) v396 t395) := ⟨h1_⟩
         have n2_ : Aside0 (Kd.R (Kd.int .u8) 5 w159 w.heap.size (fun k_ => some k_ ≠ (v389 : Value).ownBlock ∧ some k_ ≠ (v396 : Value).ownBlock ∧ some k_ ≠ (.slice Ao47 t332.length co47 : Value).ownBlock ∧ some k_ ≠ (.slice Ao17 t335.length co17 : Value).ownBlock) (.slice Ao21 t344.length co21) t344) := ⟨h2_⟩
         have n3_ : Aside0 (Kd.R (Kd.int .u8) 5 w159 w.heap.size (fun k_ => some k_ ≠ (v389 : Value).ownBlock ∧ some k_ ≠ (v396 : Value).ownBlock ∧ some k_ ≠ (.slice Ao21 t344.length co21 : Value).ownBlock ∧ some k_ ≠ (.slice Ao17 t335.length co17 : Value).ownBlock) (.slice Ao47 t332.length co47) t332) := ⟨h3_⟩
         have n4_ : Aside0 (Kd.R (Kd.int .u8) 5 w159 w.heap.size (fun k_ => some k_ ≠ (v389 : Value).ownBlock ∧ some k_ ≠ (v396 : Value).ownBlock ∧ some k_ ≠ (.slice Ao21 t344.length co21 : Value).ownBlock ∧ some k_ ≠ (.slice Ao47 t332.length co47 : Value).ownBlock) (.slice Ao17 t335.length co17) t335) := ⟨h4_⟩
         have n5_ : Aside0 (Below w.heap.size w w159) := ⟨h5_⟩
         clear HO_4
         clear HO_5
         clear HO_10
         clear HB
         clear h0_ h1_ h2_ h3_ h4_ h5_
         have HO390 := n0_
         have HO397 := n1_
         have HO_10 := n2_
         have HO_4 := n3_
         have HO_5 := n4_
         have HB := n5_
         clear n0_ n1_ n2_ n3_ n4_ n5_
         have hHeld := trivial
         have HR394 := A_ ((show Kd.C (Kd.int .u8) w159 Ao17 y391.length y391 from z13w))
         have HR401 := A_ ((show Kd.C (Kd.int .u8) w159 Ao21 y398.length y398 from z13h1))
         have q160 : (t348 : Int) ≤ ((t344.length : Int) : Int) := of_decide_eq_true z13o
         obtain ⟨i0160, hi0160, _, hsz160, _⟩ := info_parts info5
         have hroom160 : t344.length ≤ co21 := (Kd.R_reads' HO_10.out).2.1
         have hC160 : Kd.C (Kd.int .u8) _ Ao21 t344.length t344 := (Kd.R_reads' HO_10.out).2.2
         have hcut160 := cut_to (P := Try.prog) 22 5 .i64 Try.underlying22 hi0160 Ao21 t344.length co21 t348 (of_decide_eq_true z13o) q160 hroom160
         have hr160 := Kd.C_take (m := (t348 : Int).toNat) hC160 (by omega)
         have hy160 : y398.length = (t348 : Int).toNat := (by rw [Ny398.out, List.length_take]; omega)
         rw [← Ny398.out] at hr160
         rw [← hy160] at hcut160
         have HR401 := A_ hr160
         have HC401 := A_ (show y398.length ≤ co21 from (by omega))
         clear hr160 hC160 hroom160 hi0160 hsz160
         have KY160 := A_ hy160
         clear hy160
         have KL160 := A_ (show (t348 : Int).toNat ≤ t344.length from (by omega))
         replace q160 := eq_true q160
         refine norm_ (a' := ?_) ?_ ?_
         rotate_left
         exact z13m
         have H := H0_.out
         clear H0_
         by_cases c146 : (strOfNums t395).toList = (strOfNums y398).toList
         {
         rw [if_pos c146] at H
         have c146b0 : ((strOfNums t395).toList == (strOfNums y398).toList) = true := beq_iff_eq.mpr c146
         have c146b1 : ((strOfNums t395).toList != (strOfNums y398).toList) = false := bne_eq_false_iff_eq.mpr c146
         clear c146
         by_cases c147 : t331 ≥ 0
         {
         rw [if_pos c147] at H
         have c147b0 : decide (0 ≤ t331) = true := decide_eq_true c147
         clear c147
         obtain rfl := Option.some.inj H
         refine pu_ 23 (some 152) (yx 24 15) ?_
         refine pu_ 24 (some 153) (yx 25 14) ?_
         refine pu_ 25 (some 154) (yx 26 13) ?_
         refine pu_ 26 (some 155) (yx 27 12) ?_
         refine pu_ 27 (some 156) (yx 28 11) ?_
         refine pu_ 28 (some 157) (yx 29 10) ?_
         refine pu_ 29 (some 158) (yx 30 9) ?_
         refine pu_ 30 (some 159) (yx 31 8) ?_
         refine pu_ 31 (some 160) (yx 32 7) ?_
         refine pu_ 32 (some 161) (yx 33 6) ?_
         refine pu_ 33 (some 162) (yx 34 5) ?_
         refine pu_ 34 (some 163) (yx 35 4) ?_
         refine pu_ 35 (some 164) (yx 36 3) ?_
         refine pu_ 36 (some 165) (yx 37 2) ?_
         refine pu_ 37 (some 166) (yx 38 1) ?_
         refine pu_ 38 (some 2) (yx 39 0) ?_
         refine done_ (done_of HT_.out (by kernel_rfl)) ?_
         try go_wp2
         go_ret
         exact ⟨by first | rfl | (simp [errW_none, errW_some] <;> rfl) | (simp [*, errW_none, errW_some] <;> rfl), by repeat (first | (with_reducible first | exact HB.out | apply below_alloc | apply pw_below_drewN | apply below_drew1) | exact HB.out)⟩
         }
         {
         rw [if_neg c147] at H
         have c147b0 : decide (0 ≤ t331) = false := decide_eq_false c147
         clear c147
         obtain rfl := Option.some.inj H
         refine pu_ 23 (some 152) (yx 24 15) ?_
         refine pu_ 24 (some 153) (yx 25 14) ?_
         refine pu_ 25 (some 154) (yx 26 13) ?_
         refine pu_ 26 (some 155) (yx 27 12) ?_
         refine pu_ 27 (some 156) (yx 28 11) ?_
         refine pu_ 28 (some 157) (yx 29 10) ?_
         refine pu_ 29 (some 158) (yx 30 9) ?_
         refine pu_ 30 (some 159) (yx 31 8) ?_
         refine pu_ 31 (some 160) (yx 32 7) ?_
         refine pu_ 32 (some 161) (yx 33 6) ?_
         refine pn_ 33 (some 162) (yx 34 5) ?_
         refine pn_ 34 (some 163) (yx 35 4) ?_
         refine pu_ 35 (some 164) (yx 36 3) ?_
         refine pu_ 36 (some 165) (yx 37 2) ?_
         refine pu_ 37 (some 166) (yx 38 1) ?_
         refine pu_ 38 (some 2) (yx 39 0) ?_
         refine done_ (done_of HT_.out (by kernel_rfl)) ?_
         try go_wp2
         go_ret
         exact ⟨by first | rfl | (simp [errW_none, errW_some] <;> rfl) | (simp [*, errW_none, errW_some] <;> rfl), by repeat (first | (with_reducible first | exact HB.out | apply below_alloc | apply pw_below_drewN | apply below_drew1) | exact HB.out)⟩
         }
         }
         {
         rw [if_neg c146] at H
         have c146b0 : ((strOfNums t395).toList == (strOfNums y398).toList) = false := beq_eq_false_iff_ne.mpr c146
         have c146b1 : ((strOfNums t395).toList != (strOfNums y398).toList) = true := bne_iff_ne.mpr c146
         obtain rfl := Option.some.inj H
         refine pu_ 23 (some 152) (yx 24 15) ?_
         refine pu_ 24 (some 153) (yx 25 14) ?_
         refine pu_ 25 (some 154) (yx 26 13) ?_
         refine pu_ 26 (some 155) (yx 27 12) ?_
         refine pn_ 27 (some 156) (yx 28 11) ?_
         refine pn_ 28 (some 157) (yx 29 10) ?_
         refine pn_ 29 (some 158) (yx 30 9) ?_
         refine pn_ 30 (some 159) (yx 31 8) ?_
         refine pn_ 31 (some 160) (yx 32 7) ?_
         refine pn_ 32 (some 161) (yx 33 6) ?_
         refine pn_ 33 (some 162) (yx 34 5) ?_
         refine pn_ 34 (some 163) (yx 35 4) ?_
         refine pn_ 35 (some 164) (yx 36 3) ?_
         refine pn_ 36 (some 165) (yx 37 2) ?_
         refine pu_ 37 (some 166) (yx 38 1) ?_
         refine pu_ 38 (some 2) (yx 39 0) ?_
         refine done_ (done_of HT_.out (by kernel_rfl)) ?_
         try go_wp2
         go_ret
         exact ⟨by first | rfl | (simp [errW_none, errW_some] <;> rfl) | (simp [*, errW_none, errW_some] <;> rfl), by repeat (first | (with_reducible first | exact HB.out | apply below_alloc | apply pw_below_drewN | apply below_drew1) | exact HB.out)⟩
         }
         }
         {
         rw [if_neg c145] at H
         exact absurd H (by simp)
         }
         }
         {
         rw [if_neg c144] at H
         exact absurd H (by simp)
         }
         }
         }
         {
         as_aux_lemma =>
         rw [if_neg c126] at H
         have c126b0 : ((strOfNums t388).toList == (strOfNums y391).toList) = false := beq_eq_false_iff_ne.mpr c126
         have c126b1 : ((strOfNums t388).toList != (strOfNums y391).toList) = true := bne_iff_ne.mpr c126
         obtain rfl := Option.some.inj H
         try go_wp2
         replace HO_4 := A_ (Kd.R_drew HO_4.out)
         replace HO_5 := A_ (Kd.R_drew HO_5.out)
         replace HO_10 := A_ (Kd.R_drew HO_10.out)
         replace HB := A_ (below_drew1 HB.out)
         have q188 : (t339 : Int) ≤ ((t335.length : Int) : Int) := of_decide_eq_true z13o
         obtain ⟨i0188, hi0188, _, hsz188, _⟩ := info_parts info5
         have hroom188 : t335.length ≤ co17 := (Kd.R_reads' HO_5.out).2.1
         have hC188 : Kd.C (Kd.int .u8) _ Ao17 t335.length t335 := (Kd.R_reads' HO_5.out).2.2
         have hcut188 := cut_to (P := Try.prog) 22 5 .i64 Try.underlying22 hi0188 Ao17 t335.length co17 t339 (of_decide_eq_true z13o) q188 hroom188
         have hr188 := Kd.C_take (m := (t339 : Int).toNat) hC188 (by omega)
         have hy188 : y391.length = (t339 : Int).toNat := (by rw [Ny391.out, List.length_take]; omega)
         rw [← Ny391.out] at hr188
         rw [← hy188] at hcut188
         have HR394 := A_ hr188
         have HC394 := A_ (show y391.length ≤ co17 from (by omega))
         clear hr188 hC188 hroom188 hi0188 hsz188
         have KY188 := A_ hy188
         clear hy188
         have KL188 := A_ (show (t339 : Int).toNat ≤ t335.length from (by omega))
         replace q188 := eq_true q188
         refine start_ (n := 39) (S := fun w' => True) (ds := []) (yx 0 39) (by kernel_rfl) rfl rfl trivial (fun hHeld => ?_); refine with_tabW laws_FnRows.tab25 laws_FnRows.bits25 (fun HT_ HW_ => ?_)
         generalize wc.drew = w187 at HO_4 HO_5 HO_10 HB HR394 hHeld ⊢
         refine pu_ 0 (some 129) (yx 1 38) ?_
         refine pu_ 1 (some 130) (yx 2 37) ?_
         refine pu_ 2 (some 131) (yx 3 36) ?_
         refine pu_ 3 (some 132) (yx 4 35) ?_
         refine pu_ 6 (some 135) (rl [4, 2, 1, 32]) ?_
         refine pu_ 7 (some 136) (rl [4, 2, 2, 31]) ?_
         refine pu_ 8 (some 137) (rl [4, 2, 3, 30]) ?_
         refine join_ (σ := Value) 29 (yx 10 29) (fun s_ => [(133, s_), (134, .string (strOfNums t388)), (138, .string (strOfNums y391))]) (fun s_ w' => (Kd.R (Kd.int .u8) 5 w' w.heap.size (fun k_ => some k_ ≠ (.slice Ao21 t344.length co21 : Value).ownBlock ∧ some k_ ≠ (.slice Ao47 t332.length co47 : Value).ownBlock ∧ some k_ ≠ (.slice Ao17 t335.length co17 : Value).ownBlock) s_ t388) ∧ (Kd.R (Kd.int .u8) 5 w' w.heap.size (fun k_ => some k_ ≠ (s_ : Value).ownBlock ∧ some k_ ≠ (.slice Ao47 t332.length co47 : Value).ownBlock ∧ some k_ ≠ (.slice Ao17 t335.length co17 : Value).ownBlock) (.slice Ao21 t344.length co21) t344) ∧ (Kd.R (Kd.int .u8) 5 w' w.heap.size (fun k_ => some k_ ≠ (s_ : Value).ownBlock ∧ some k_ ≠ (.slice Ao21 t344.length co21 : Value).ownBlock ∧ some k_ ≠ (.slice Ao17 t335.length co17 : Value).ownBlock) (.slice Ao47 t332.length co47) t332) ∧ (Kd.R (Kd.int .u8) 5 w' w.heap.size (fun k_ => some k_ ≠ (s_ : Value).ownBlock ∧ some k_ ≠ (.slice Ao21 t344.length co21 : Value).ownBlock ∧ some k_ ≠ (.slice Ao47 t332.length co47 : Value).ownBlock) (.slice Ao17 t335.length co17) t335) ∧ (Below w.heap.size w w')) ?_ ?_
         rotate_left
         {
         intro hCont
         refine two_ (i := 4) (j := 9) (Ni := some 133) (Nj := some 138) (rl [5, 1, 3, 30]) (rl [4, 2, 4, 29]) rfl rfl rfl rfl (two_of HT_.out (by kernel_rfl)) (by decide) (by decide) (fun K hK => ?_) (fun K hK => ?_)
         {
         as_aux_lemma =>
         skip
         refine goes_ Try.func18 (by kernel_rfl) rfl #[.int .i64 t338] (by rfl) rfl rfl z13h ?_
         with_reducible refine (impl_Number.calls kj68 t338 t388 _ A123.out).mono ?_
         rintro e w189 ⟨v389, rfl, ho0, hb⟩
         refine ⟨_, rfl, ?_⟩
         have n0_ := A_ (Kd.R_elder' z13d (Kd.R_base ho0) hb)
         have n1_ := A_ (Kd.R_elder' z13e (Kd.R_base ho0) hb)
         have n2_ := A_ (Kd.R_elder' z13c (Kd.R_base ho0) hb)
         have n3_ := A_ (Kd.R_lower (Kd.R_new' (Kd.R_new' (Kd.R_new' ho0 (Kd.R_lt z13d)) (Kd.R_lt z13e)) (Kd.R_lt z13c)) (below_size z13b))
         have n4_ := A_ (Kd.C_below z13f hb)
         have n5_ := A_ (below_step z13b hb)
         clear HO_4
         clear HO_5
         clear HO_10
         clear HR394
         clear HB
         have HO_4 := n0_
         have HO_5 := n1_
         have HO_10 := n2_
         have HO390 := n3_
         have HR394 := n4_
         have HB := n5_
         clear n0_ n1_ n2_ n3_ n4_ n5_
         refine hK.out _ _ trivial (fun hHeld => ?_)
         clear hK K
         refine norm_ (nz_ 133) ?_
         refine two_ (i := 5) (j := 9) (Ni := some 134) (Nj := some 138) (yx 9 30) (rl [5, 1, 4, 29]) rfl rfl rfl rfl (two_of HT_.out (by kernel_rfl)) (by decide) (by decide) (fun K hK => ?_) (fun K hK => ?_)
         {
         skip
         have hcv190 := own_string (P := Try.prog) Try.underlying22 Try.underlying5 Try.underlying9 (Kd.own_of_R HO390.out)
         refine value_ (w1 := ?_) (v := ?_) (by rfl) rfl ?_ ?_
         rotate_left 2
         {
         go_simp
         constructor
         {
         rfl
         }
         {
         rfl
         }
         }
         clear hcv190
         refine hK.out _ _ trivial (fun hHeld => ?_)
         clear hK K
         refine norm_ (nz_ 134) ?_
         refine one_ (i := 9) (N := some 138) (yx 10 29) rfl rfl (one_of HT_.out (by kernel_rfl)) (by decide) (fun K hK => ?_)
         have hcv191 := Kd.C_string (P := Try.prog) (A := Ao17) (c := co17) Try.underlying22 Try.underlying5 Try.underlying9 z13f; have hcvd192 := fun (nq_ : Nat) => Kd.C_string (P := Try.prog) (A := Ao17) (c := co17) Try.underlying22 Try.underlying5 Try.underlying9 (Kd.C_drewN z13f nq_)
         refine value_ (w1 := ?_) (v := ?_) (by rfl) rfl ?_ ?_
         rotate_left 2
         {
         go_simp
         constructor
         {
         rfl
         }
         {
         rfl
         }
         }
         clear hcv191 hcvd192
         refine hK.out _ _ trivial (fun hHeld => ?_)
         clear hK K
         refine norm_ (nz_ 138) ?_
         exact norm_ z13r (hCont (v389) _ ⟨z13s, z13n, z13p, z13q, z13b⟩)
         }
         {
         skip
         have hcv190 := Kd.C_string (P := Try.prog) (A := Ao17) (c := co17) Try.underlying22 Try.underlying5 Try.underlying9 z13f; have hcvd191 := fun (nq_ : Nat) => Kd.C_string (P := Try.prog) (A := Ao17) (c := co17) Try.underlying22 Try.underlying5 Try.underlying9 (Kd.C_drewN z13f nq_)
         refine value_ (w1 := ?_) (v := ?_) (by rfl) rfl ?_ ?_
         rotate_left 2
         {
         go_simp
         constructor
         {
         rfl
         }
         {
         rfl
         }
         }
         clear hcv190 hcvd191
         refine hK.out _ _ trivial (fun hHeld => ?_)
         clear hK K
         refine norm_ (nz_ 138) ?_
         refine one_ (i := 5) (N := some 134) (yx 10 29) rfl rfl (one_of HT_.out (by kernel_rfl)) (by decide) (fun K hK => ?_)
         have hcv192 := own_string (P := Try.prog) Try.underlying22 Try.underlying5 Try.underlying9 (Kd.own_of_R HO390.out)
         refine value_ (w1 := ?_) (v := ?_) (by rfl) rfl ?_ ?_
         rotate_left 2
         {
         go_simp
         constructor
         {
         rfl
         }
         {
         rfl
         }
         }
         clear hcv192
         refine hK.out _ _ trivial (fun hHeld => ?_)
         clear hK K
         refine norm_ (nz_ 134) ?_
         exact norm_ z13r (hCont (v389) _ ⟨z13s, z13n, z13p, z13q, z13b⟩)
         }
         }
         {
         as_aux_lemma =>
         skip
         have hcv189 := Kd.C_string (P := Try.prog) (A := Ao17) (c := co17) Try.underlying22 Try.underlying5 Try.underlying9 z13f; have hcvd190 := fun (nq_ : Nat) => Kd.C_string (P := Try.prog) (A := Ao17) (c := co17) Try.underlying22 Try.underlying5 Try.underlying9 (Kd.C_drewN z13f nq_)
         refine value_ (w1 := ?_) (v := ?_) (by rfl) rfl ?_ ?_
         rotate_left 2
         {
         go_simp
         constructor
         {
         rfl
         }
         {
         rfl
         }
         }
         clear hcv189 hcvd190
         refine hK.out _ _ trivial (fun hHeld => ?_)
         clear hK K
         refine norm_ (nz_ 138) ?_
         refine one_ (i := 4) (N := some 133) (rl [5, 1, 4, 29]) rfl rfl (one_of HT_.out (by kernel_rfl)) (by decide) (fun K hK => ?_)
         refine goes_ Try.func18 (by kernel_rfl) rfl #[.int .i64 t338] (by rfl) rfl rfl z13h ?_
         with_reducible refine (impl_Number.calls kj68 t338 t388 _ A123.out).mono ?_
         rintro e w191 ⟨v389, rfl, ho0, hb⟩
         refine ⟨_, rfl, ?_⟩
         have n0_ := A_ (Kd.R_elder' z13d (Kd.R_base ho0) hb)
         have n1_ := A_ (Kd.R_elder' z13e (Kd.R_base ho0) hb)
         have n2_ := A_ (Kd.R_elder' z13c (Kd.R_base ho0) hb)
         have n3_ := A_ (Kd.R_lower (Kd.R_new' (Kd.R_new' (Kd.R_new' ho0 (Kd.R_lt z13d)) (Kd.R_lt z13e)) (Kd.R_lt z13c)) (below_size z13b))
         have n4_ := A_ (Kd.C_below z13f hb)
         have n5_ := A_ (below_step z13b hb)
         clear HO_4
         clear HO_5
         clear HO_10
         clear HR394
         clear HB
         have HO_4 := n0_
         have HO_5 := n1_
         have HO_10 := n2_
         have HO390 := n3_
         have HR394 := n4_
         have HB := n5_
         clear n0_ n1_ n2_ n3_ n4_ n5_
         refine hK.out _ _ trivial (fun hHeld => ?_)
         clear hK K
         refine norm_ (nz_ 133) ?_
         refine one_ (i := 5) (N := some 134) (yx 10 29) rfl rfl (one_of HT_.out (by kernel_rfl)) (by decide) (fun K hK => ?_)
         have hcv192 := own_string (P := Try.prog) Try.underlying22 Try.underlying5 Try.underlying9 (Kd.own_of_R HO390.out)
         refine value_ (w1 := ?_) (v := ?_) (by rfl) rfl ?_ ?_
         rotate_left 2
         {
         go_simp
         constructor
         {
         rfl
         }
         {
         rfl
         }
         }
         clear hcv192
         refine hK.out _ _ trivial (fun hHeld => ?_)
         clear hK K
         refine norm_ (nz_ 134) ?_
         exact norm_ z13r (hCont (v389) _ ⟨z13s, z13n, z13p, z13q, z13b⟩)
         }
         }
         rintro v389 w193 ⟨h0_, h1_, h2_, h3_, h4_⟩
         have n0_ : Aside0 (Kd.R (Kd.int .u8) 5 w193 w.heap.size (fun k_ => some k_ ≠ (.slice Ao21 t344.length co21 : Value).ownBlock ∧ some k_ ≠ (.slice Ao47 t332.length co47 : Value).ownBlock ∧ some k_ ≠ (.slice Ao17 t335.length co17 : Value).ownBlock) v389 t388) := ⟨h0_⟩
         have n1_ : Aside0 (Kd.R (Kd.int .u8) 5 w193 w.heap.size (fun k_ => some k_ ≠ (v389 : Value).ownBlock ∧ some k_ ≠ (.slice Ao47 t332.length co47 : Value).ownBlock ∧ some k_ ≠ (.slice Ao17 t335.length co17 : Value).ownBlock) (.slice Ao21 t344.length co21) t344) := ⟨h1_⟩
         have n2_ : Aside0 (Kd.R (Kd.int .u8) 5 w193 w.heap.size (fun k_ => some k_ ≠ (v389 : Value).ownBlock ∧ some k_ ≠ (.slice Ao21 t344.length co21 : Value).ownBlock ∧ some k_ ≠ (.slice Ao17 t335.length co17 : Value).ownBlock) (.slice Ao47 t332.length co47) t332) := ⟨h2_⟩
         have n3_ : Aside0 (Kd.R (Kd.int .u8) 5 w193 w.heap.size (fun k_ => some k_ ≠ (v389 : Value).ownBlock ∧ some k_ ≠ (.slice Ao21 t344.length co21 : Value).ownBlock ∧ some k_ ≠ (.slice Ao47 t332.length co47 : Value).ownBlock) (.slice Ao17 t335.length co17) t335) := ⟨h3_⟩
         have n4_ : Aside0 (Below w.heap.size w w193) := ⟨h4_⟩
         clear HO_4
         clear HO_5
         clear HO_10
         clear HB
         clear h0_ h1_ h2_ h3_ h4_
         have HO390 := n0_
         have HO_10 := n1_
         have HO_4 := n2_
         have HO_5 := n3_
         have HB := n4_
         clear n0_ n1_ n2_ n3_ n4_
         have hHeld := trivial
         have HR394 := A_ ((show Kd.C (Kd.int .u8) w193 Ao17 y391.length y391 from (by rw [Ny391.out]; exact Kd.C_take (m := (t339 : Int).toNat) ((Kd.R_reads' (HO_5.out)).2.2) KL188.out)))
         refine norm_ (a' := ?_) ?_ ?_
         rotate_left
         exact z13m
         refine pu_ 10 (some 139) (yx 11 28) ?_
         refine pu_ 11 (some 140) (yx 12 27) ?_
         refine pu_ 12 (some 141) (yx 13 26) ?_
         refine pn_ 13 (some 142) (yx 14 25) ?_
         refine pn_ 14 (some 143) (yx 15 24) ?_
         refine pn_ 15 (some 144) (yx 16 23) ?_
         refine pn_ 16 (some 145) (yx 17 22) ?_
         refine pn_ 17 (some 146) (yx 18 21) ?_
         refine pn_ 18 (some 147) (yx 19 20) ?_
         refine pn_ 19 (some 148) (yx 20 19) ?_
         refine pn_ 20 (some 149) (yx 21 18) ?_
         refine pn_ 21 (some 150) (yx 22 17) ?_
         refine pn_ 22 (some 151) (yx 23 16) ?_
         refine pn_ 23 (some 152) (yx 24 15) ?_
         refine pn_ 24 (some 153) (yx 25 14) ?_
         refine pu_ 25 (some 154) (yx 26 13) ?_
         refine pu_ 26 (some 155) (yx 27 12) ?_
         refine pn_ 27 (some 156) (yx 28 11) ?_
         refine pn_ 28 (some 157) (yx 29 10) ?_
         refine pn_ 29 (some 158) (yx 30 9) ?_
         refine pn_ 30 (some 159) (yx 31 8) ?_
         refine pn_ 31 (some 160) (yx 32 7) ?_
         refine pn_ 32 (some 161) (yx 33 6) ?_
         refine pn_ 33 (some 162) (yx 34 5) ?_
         refine pn_ 34 (some 163) (yx 35 4) ?_
         refine pn_ 35 (some 164) (yx 36 3) ?_
         refine pn_ 36 (some 165) (yx 37 2) ?_
         refine pu_ 37 (some 166) (yx 38 1) ?_
         refine pu_ 38 (some 2) (yx 39 0) ?_
         refine done_ (done_of HT_.out (by kernel_rfl)) ?_
         try go_wp2
         go_ret
         exact ⟨by first | rfl | (simp [errW_none, errW_some] <;> rfl) | (simp [*, errW_none, errW_some] <;> rfl), by repeat (first | (with_reducible first | exact HB.out | apply below_alloc | apply pw_below_drewN | apply below_drew1) | exact HB.out)⟩
         }
         }
         {
         rw [if_neg c125] at H
         exact absurd H (by simp)
         }
         }
         {
         rw [if_neg c124] at H
         exact absurd H (by simp)
         
         }
         }
     }
   }
 }
/-- THE ONE PURE STATEMENT of laws_FnRows: yours. -/
def laws_FnRows.Pure : Prop := ∀ (l0 : List Int), l0.length ≤ maxLen → l0.length * 1 ≤ 140737488351232 → (∀ x ∈ l0, (Lit.int .u8 x).wf = true) → ∃ k, laws_FnRows.f k l0 = some true
theorem laws_FnRows.walk (P : laws_FnRows.Pure) (a0 : Option Addr) (len0 cap0 : Nat) (z0 : List Int) (w : World) (w0 : (a0 = none ∧ len0 = 0 ∧ cap0 = 0 ∧ z0 = []) ∨ ∃ x, a0 = some x ∧ len0 ≤ cap0 ∧ cap0 ≤ maxLen ∧ z0.length = cap0 ∧ (∀ i, i < z0.length → w.cell? (x.add i) = some (.int .u8 (z0.getD i 0))) ∧ ∀ n ∈ z0, (Lit.int .u8 n).wf = true) (y0 : len0 * 1 ≤ 140737488351232) :
  Calls Try.prog 13 #[.slice a0 len0 cap0] w fun e w' => e = .returned (.bool true) ∧ Below w.heap.size w w' := by
 obtain ⟨l0, rfl, hr0, hm0, hw0, hc0⟩ := ReadsInt.ofRowC w0
 obtain ⟨k, h⟩ := P l0 hm0 y0 hw0
 refine (laws_FnRows.calls k _ _ l0 true w (Kd.C_of_reads (d := (0 : Int)) (h1 := fun _ => rfl) hr0) hc0 h).mono ?_
 rintro e w' ⟨rfl, hd⟩
 exact ⟨rfl, hd⟩

end Go.Proofs.Ythkhfmomibfkjaa.PFnRows

-- by a program of this session (wip/print/run.py) for this claim
import Derived.Test.YthkhfmomibfkjaaPFnTextsx0
import Derived.Test.YthkhfmomibfkjaaPFnTextsx1
import Derived.Test.YthkhfmomibfkjaaPFnTextsx2
import Derived.Test.YthkhfmomibfkjaaPFnTextsx4
import Derived.Test.YthkhfmomibfkjaaPFnTextsx5
import Derived.Test.YthkhfmomibfkjaaPFnTextsx7
namespace Go.Proofs.Ythkhfmomibfkjaa.PFnTexts
open Go.RowKit Go.Proofs.YthkhfmomibfkjaaW.PrintWords Go.Proofs.YthkhfmomibfkjaaW.PrintLast Go.Proofs.YthkhfmomibfkjaaW.PrintMore
attribute [local go_sem] max2_int min2_int max_two min_two max_three min_three max_four min_four   -- for this text's walks alone
set_option linter.unusedVariables false
set_option linter.unusedSimpArgs false

/-! ### laws_FnTexts: function 14 -/
theorem z14a {p_ : Prop} (h_ : p_ := by simp only [Act.put, List.setIfInBounds_toArray, List.set_cons_zero, List.set_cons_succ, i64_w, i32_w]; rfl) : p_ := h_
theorem z14b {p_ : Prop} (h_ : p_ := by repeat (first | (with_reducible first | exact HB.out | apply below_alloc | apply pw_below_drewN | apply below_drew1) | exact HB.out)) : p_ := h_
theorem z14c {p_ : Prop} (h_ : p_ := by (try simp only [List.map_toArray, List.map_cons, List.map_nil]); first | done | rfl | (simp only [List.length_drop, List.length_take]; rfl)) : p_ := h_
theorem z14d {p_ : Prop} (h_ : p_ := by (with_reducible repeat (first | apply Kd.R_alloc | apply Kd.R_drewN | apply Kd.R_drew)); exact HO_3.out) : p_ := h_
theorem z14e {p_ : Prop} (h_ : p_ := by (with_reducible repeat (first | apply Kd.R_alloc | apply Kd.R_drewN | apply Kd.R_drew)); exact HO_6.out) : p_ := h_
theorem z14f {p_ : Prop} (h_ : p_ := by repeat (first | (with_reducible exact HR409.out) | (with_reducible refine Kd.C_alloc ?_ _) | (with_reducible refine Kd.C_drewN ?_ _) | (with_reducible refine Kd.C_drew ?_) | exact HR409.out)) : p_ := h_
theorem z14g {p_ : Prop} (h_ : p_ := by (with_reducible repeat (first | apply Kd.R_alloc | apply Kd.R_drewN | apply Kd.R_drew)); exact HO_4.out) : p_ := h_
theorem z14h {p_ : Prop} (h_ : p_ := by (with_reducible repeat (first | apply Kd.R_alloc | apply Kd.R_drewN | apply Kd.R_drew)); exact HO_5.out) : p_ := h_
theorem z14i {p_ : Prop} (h_ : p_ := by (with_reducible repeat (first | apply Kd.R_alloc | apply Kd.R_drewN | apply Kd.R_drew)); exact HO404.out) : p_ := h_
theorem z14j {p_ : Prop} (h_ : p_ := by repeat (first | exact (Kd.C_below HR0.out HB.out) | (with_reducible refine Kd.C_alloc ?_ _) | (with_reducible refine Kd.C_drewN ?_ _) | (with_reducible refine Kd.C_drew ?_))) : p_ := h_
theorem z14k {p_ : Prop} (h_ : p_ := by repeat (first | exact (Kd.R_reads' HO_4.out).2.2 | (with_reducible refine Kd.C_alloc ?_ _) | (with_reducible refine Kd.C_drewN ?_ _) | (with_reducible refine Kd.C_drew ?_))) : p_ := h_
theorem z14l {p_ : Prop} (h_ : p_ := by simp only [putAll, Act.put, List.setIfInBounds_toArray, List.set_cons_zero, List.set_cons_succ]) : p_ := h_
theorem z14m {p_ : Prop} (h_ : p_ := by (with_reducible repeat (first | apply Kd.R_alloc | apply Kd.R_drewN | apply Kd.R_drew)); exact HO382.out) : p_ := h_
theorem z14n {p_ : Prop} (h_ : p_ := by (with_reducible repeat (first | apply Kd.R_alloc | apply Kd.R_drewN | apply Kd.R_drew)); exact HO385.out) : p_ := h_
theorem z14o {p_ : Prop} (h_ : p_ := by (with_reducible repeat (first | apply Kd.R_alloc | apply Kd.R_drewN | apply Kd.R_drew)); exact HO413.out) : p_ := h_
theorem z14p {p_ : Prop} (h_ : p_ := by (with_reducible repeat (first | apply Kd.R_alloc | apply Kd.R_drewN | apply Kd.R_drew)); exact Kd.R_mono HO_4.out (fun _ hk => ⟨hk.2, hk.1⟩)) : p_ := h_
theorem z14q {p_ : Prop} (h_ : p_ := by (with_reducible repeat (first | apply Kd.R_alloc | apply Kd.R_drewN | apply Kd.R_drew)); exact Kd.R_mono HO_5.out (fun _ hk => ⟨hk.2, hk.1⟩)) : p_ := h_
theorem z14r {p_ : Prop} (h_ : p_ := by first | (with_reducible assumption) | assumption) : p_ := h_
theorem z14s {p_ : Prop} (h_ : p_ := by repeat (first | exact (Kd.R_reads' HO404.out).2.2 | (with_reducible refine Kd.C_alloc ?_ _) | (with_reducible refine Kd.C_drewN ?_ _) | (with_reducible refine Kd.C_drew ?_))) : p_ := h_
theorem z14t {p_ : Prop} (h_ : p_ := by (with_reducible repeat (first | apply Kd.R_alloc | apply Kd.R_drewN | apply Kd.R_drew)); exact HO388.out) : p_ := h_
theorem z14u {p_ : Prop} (h_ : p_ := by repeat (first | exact (Kd.R_reads' HO_3.out).2.2 | (with_reducible refine Kd.C_alloc ?_ _) | (with_reducible refine Kd.C_drewN ?_ _) | (with_reducible refine Kd.C_drew ?_))) : p_ := h_
theorem z14v {p_ : Prop} (h_ : p_ := by repeat (first | exact (Kd.R_reads' HO_6.out).2.2 | (with_reducible refine Kd.C_alloc ?_ _) | (with_reducible refine Kd.C_drewN ?_ _) | (with_reducible refine Kd.C_drew ?_))) : p_ := h_
def laws_FnTexts.j0 : Nat → List Int → List ByteArray → List Int → List Int → List ByteArray → Bool → Bool → Option (Bool)
 | 0, _, _, _, _, _, _, _ => none
 | k + 1, x0, x3, x4, x5, x6, x7, x48 => if x48 = true then (some false) else (if (x4.length : Int) > 0 then ((impl_ReadTexts.f k x4).bind fun bt401 => ((laws_pick.f k x0 1 (x4.length : Int)).bind fun t405 => (if 0 ≤ t405 then (if t405 ≤ (x4.length : Int) then ((impl_ReadTexts.f k (x4.take (t405 : Int).toNat)).bind fun bt410 => (if bt401.2 = true then (if bt410.2 = true then (some false) else ((laws_likeTexts.f k bt401.1 x3).bind fun t414 => (if t414 = true then (if x7 = true then ((impl_Texts.f k x6).bind fun t415 => (some ((strOfNums t415).toList == (strOfNums x5).toList))) else (if (x6.length : Int) = 0 then (some true) else (some false))) else (some false)))) else (some false))) else (none)) else (none)))) else (if x7 = true then ((impl_Texts.f k x6).bind fun t418 => (some ((strOfNums t418).toList == (strOfNums x5).toList))) else (if (x6.length : Int) = 0 then (some true) else (some false))))
def laws_FnTexts.f (k : Nat) (l0 : List Int) : Option (Bool) := (laws_big.f l0).bind fun t379 => (if t379 = true then (some true) else ((spec_DrawTexts.f k l0).bind fun t380 => ((impl_Texts.f k t380).bind fun t383 => ((spec_DrawReadTexts.f k l0).bind fun t386 => ((impl_ReadTexts.f k t386).bind fun bt389 => ((spec_ReadTexts.f k t386).bind fun bt393 => (if (bt389.2 != bt393.2) = true then (laws_FnTexts.j0 k l0 t380 t383 t386 bt389.1 bt389.2 true) else ((laws_likeTexts.f k bt389.1 bt393.1).bind fun t397 => (if t397 = true then ((spec_Texts.f k t380).bind fun t398 => (laws_FnTexts.j0 k l0 t380 t383 t386 bt389.1 bt389.2 ((strOfNums t383).toList != (strOfNums t398).toList))) else (laws_FnTexts.j0 k l0 t380 t383 t386 bt389.1 bt389.2 true))))))))))
theorem laws_FnTexts.mono_l : ∀ k, (∀ y0 y1 y2 y3 y4 y5 y6, LeO (laws_FnTexts.j0 k y0 y1 y2 y3 y4 y5 y6) (laws_FnTexts.j0 (k + 1) y0 y1 y2 y3 y4 y5 y6))
 | 0 => fun _ _ _ _ _ _ _ r h => by simp [laws_FnTexts.j0] at h
 | k + 1 => by
  have ih0 := laws_FnTexts.mono_l k
  {
  intro y0 y1 y2 y3 y4 y5 y6
  unfold laws_FnTexts.j0
  repeat' first
  | (with_reducible exact ih0 _ _ _ _ _ _ _)
  | (with_reducible exact impl_ReadTexts.mono _ _)
  | (with_reducible exact impl_Texts.mono _ _)
  | (with_reducible exact laws_likeTexts.mono _ _ _)
  | (with_reducible exact laws_pick.mono _ _ _ _)
  | (with_reducible exact spec_DrawReadTexts.mono _ _)
  | (with_reducible exact spec_DrawTexts.mono _ _)
  | (with_reducible exact spec_ReadTexts.mono _ _)
  | (with_reducible exact spec_Texts.mono _ _)
  | (with_reducible exact LeO.refl _)
  | (with_reducible exact LeO.none _)
  | (with_reducible refine LeO.ite ?_ ?_)
  | (with_reducible refine LeO.bind ?_ (fun _ => ?_))
  | exact ih0 _ _ _ _ _ _ _
  | exact impl_ReadTexts.mono _ _
  | exact impl_Texts.mono _ _
  | exact laws_likeTexts.mono _ _ _
  | exact laws_pick.mono _ _ _ _
  | exact spec_DrawReadTexts.mono _ _
  | exact spec_DrawTexts.mono _ _
  | exact spec_ReadTexts.mono _ _
  | exact spec_Texts.mono _ _
  | exact LeO.none _
  | refine LeO.ite ?_ ?_
  | refine LeO.bind ?_ (fun _ => ?_)
  }
theorem laws_FnTexts.mono : ∀ a0 k, LeO (laws_FnTexts.f k a0) (laws_FnTexts.f (k + 1) a0) := by
 intro a0 k
 have ih0 := laws_FnTexts.mono_l k
 unfold laws_FnTexts.f
 repeat' first
   | (with_reducible exact ih0 _ _ _ _ _ _ _)
   | (with_reducible exact impl_ReadTexts.mono _ _)
   | (with_reducible exact impl_Texts.mono _ _)
   | (with_reducible exact laws_likeTexts.mono _ _ _)
   | (with_reducible exact laws_pick.mono _ _ _ _)
   | (with_reducible exact spec_DrawReadTexts.mono _ _)
   | (with_reducible exact spec_DrawTexts.mono _ _)
   | (with_reducible exact spec_ReadTexts.mono _ _)
   | (with_reducible exact spec_Texts.mono _ _)
   | (with_reducible exact LeO.refl _)
   | (with_reducible exact LeO.none _)
   | (with_reducible refine LeO.ite ?_ ?_)
   | (with_reducible refine LeO.bind ?_ (fun _ => ?_))
   | exact ih0 _ _ _ _ _ _ _
   | exact impl_ReadTexts.mono _ _
   | exact impl_Texts.mono _ _
   | exact laws_likeTexts.mono _ _ _
   | exact laws_pick.mono _ _ _ _
   | exact spec_DrawReadTexts.mono _ _
   | exact spec_DrawTexts.mono _ _
   | exact spec_ReadTexts.mono _ _
   | exact spec_Texts.mono _ _
   | exact LeO.none _
   | refine LeO.ite ?_ ?_
   | refine LeO.bind ?_ (fun _ => ?_)
def laws_FnTexts.T8 : Bool × List (List Nat × List Nat) := (true, [([], []), ([], []), ([0, 1], [0, 1]), ([2], [2]), ([3], [3]), ([3], [3]), ([4, 5, 3, 3], [3, 4, 5]), ([6, 3], [3, 6]), ([3, 7], [3, 7]), ([8, 6], [8]), ([9], [9]), ([10, 9], [9, 10]), ([9], [9]), ([12, 9, 9], [9, 12]), ([13, 9], [9, 13]), ([11, 14, 9], [9, 11, 14]), ([9, 15], [9, 15])])
def laws_FnTexts.B8 : List Nat := [0, 0, 3, 7, 15, 15, 63, 127, 255, 511, 1023, 2047, 1023, 5119, 13311, 32767, 65535]
theorem laws_FnTexts.tab8 : rtab .any (opsOf Try.f14 8) = laws_FnTexts.T8 := by kernel_rfl
theorem laws_FnTexts.bits8 : waitsOk laws_FnTexts.T8.2 laws_FnTexts.B8 = true := by kernel_rfl
def laws_FnTexts.T15 : Bool × List (List Nat × List Nat) := (true, [([], []), ([0], [0]), ([1], [1]), ([2], [2]), ([3, 2], [2, 3]), ([4, 2], [2, 4]), ([2, 5], [2, 5]), ([6, 2], [6]), ([7], [7]), ([8, 7, 7], [7, 8]), ([9], [9]), ([10, 9, 9], [9, 10]), ([11, 9], [9, 11]), ([9], [9]), ([13, 9], [9, 13]), ([12, 14, 9], [9, 12, 14]), ([9, 15, 7], [7, 9, 15]), ([7, 16], [7, 16]), ([17, 11, 0, 1, 2, 3, 4, 5, 6, 7, 8, 9, 10, 11, 12, 13, 14, 15, 16, 17], [17])])
def laws_FnTexts.B15 : List Nat := [0, 1, 3, 7, 15, 31, 63, 127, 255, 511, 1023, 2047, 4095, 1023, 9215, 32767, 65535, 131071, 262143]
theorem laws_FnTexts.tab15 : rtab .any (opsOf Try.f14 15) = laws_FnTexts.T15 := by kernel_rfl
theorem laws_FnTexts.bits15 : waitsOk laws_FnTexts.T15.2 laws_FnTexts.B15 = true := by kernel_rfl
set_option maxHeartbeats 8000000 in
set_option maxRecDepth 100000 in
theorem laws_FnTexts.calls (k : Nat) (A0 : Option Addr) (c0 : Nat) (l0 : List Int) (r : Bool) (w : World) (hr0 : Kd.C (Kd.int .u8) w A0 l0.length l0) (hc0 : l0.length ≤ c0) (h : laws_FnTexts.f k l0 = some r) :
  Calls Try.prog 14 #[.slice A0 l0.length c0] w fun e w' => e = .returned (.bool r) ∧ Below w.heap.size w w' := by
 have HR0 := Aside0.mk hr0
 have HC0 := Aside0.mk hc0
 clear hr0 hc0
 have HB := Aside0.mk (Below.refl w.heap.size w)
 have H : ((laws_big.f l0).bind fun t379 => (if t379 = true then (some true) else ((spec_DrawTexts.f k l0).bind fun t380 => ((impl_Texts.f k t380).bind fun t383 => ((spec_DrawReadTexts.f k l0).bind fun t386 => ((impl_ReadTexts.f k t386).bind fun bt389 => ((spec_ReadTexts.f k t386).bind fun bt393 => (if (bt389.2 != bt393.2) = true then (laws_FnTexts.j0 k l0 t380 t383 t386 bt389.1 bt389.2 true) else ((laws_likeTexts.f k bt389.1 bt393.1).bind fun t397 => (if t397 = true then ((spec_Texts.f k t380).bind fun t398 => (laws_FnTexts.j0 k l0 t380 t383 t386 bt389.1 bt389.2 ((strOfNums t383).toList != (strOfNums t398).toList))) else (laws_FnTexts.j0 k l0 t380 t383 t386 bt389.1 bt389.2 true))))))))))) = some r := h
 clear h
 replace H := Option.bind_eq_some_iff.mp H
 obtain ⟨t379, A20, H⟩ := H
 replace H : (if t379 = true then (some true) else ((spec_DrawTexts.f k l0).bind fun t380 => ((impl_Texts.f k t380).bind fun t383 => ((spec_DrawReadTexts.f k l0).bind fun t386 => ((impl_ReadTexts.f k t386).bind fun bt389 => ((spec_ReadTexts.f k t386).bind fun bt393 => (if (bt389.2 != bt393.2) = true then (laws_FnTexts.j0 k l0 t380 t383 t386 bt389.1 bt389.2 true) else ((laws_likeTexts.f k bt389.1 bt393.1).bind fun t397 => (if t397 = true then ((spec_Texts.f k t380).bind fun t398 => (laws_FnTexts.j0 k l0 t380 t383 t386 bt389.1 bt389.2 ((strOfNums t383).toList != (strOfNums t398).toList))) else (laws_FnTexts.j0 k l0 t380 t383 t386 bt389.1 bt389.2 true)))))))))) = some r := H
 have A2 := Aside0.mk A20
 clear A20
 by_cases c3 : t379 = true
 {
 subst c3
 have H1 : (some true) = some r := by rw [if_pos rfl] at H; exact H
 clear H
 have H := H1
 clear H1
 obtain rfl := Option.some.inj H
 go_enter Try.func14, Try.ntmps14
 go_wp2_with (first | ((with_reducible refine gate_callee (f := 52) rfl ?_); refine goesL_ (some 15) rfl rfl Try.func52 (by kernel_rfl) rfl #[.slice A0 l0.length c0] rfl z14c ?_; (with_reducible refine (laws_big.calls _ _ l0 true _ ?side1 ?side2 A2.out).mono ?_); (case side1 => exact (by repeat (first | exact HR0.out | (with_reducible refine Kd.C_alloc ?_ _) | (with_reducible refine Kd.C_drewN ?_ _) | (with_reducible refine Kd.C_drew ?_)))); (case side2 => exact HC0.out); rintro e w' ⟨rfl, ⟨nd, rfl⟩⟩; refine ⟨_, rfl, ?_⟩))
 go_ret
 exact ⟨by first | rfl | (simp [errW_none, errW_some] <;> rfl) | (simp [*, errW_none, errW_some] <;> rfl), by repeat (first | (with_reducible first | exact HB.out | apply below_alloc | apply pw_below_drewN | apply below_drew1) | exact HB.out)⟩
 }
 {
 replace c3 := Bool.eq_false_iff.mpr c3
 subst c3
 have H1 : ((spec_DrawTexts.f k l0).bind fun t380 => ((impl_Texts.f k t380).bind fun t383 => ((spec_DrawReadTexts.f k l0).bind fun t386 => ((impl_ReadTexts.f k t386).bind fun bt389 => ((spec_ReadTexts.f k t386).bind fun bt393 => (if (bt389.2 != bt393.2) = true then (laws_FnTexts.j0 k l0 t380 t383 t386 bt389.1 bt389.2 true) else ((laws_likeTexts.f k bt389.1 bt393.1).bind fun t397 => (if t397 = true then ((spec_Texts.f k t380).bind fun t398 => (laws_FnTexts.j0 k l0 t380 t383 t386 bt389.1 bt389.2 ((strOfNums t383).toList != (strOfNums t398).toList))) else (laws_FnTexts.j0 k l0 t380 t383 t386 bt389.1 bt389.2 true))))))))) = some r := by rw [if_neg (show ¬ (false = true) by decide)] at H; exact H
 clear H
 have H := H1
 clear H1
 replace H := Option.bind_eq_some_iff.mp H
 obtain ⟨t380, A40, H⟩ := H
 replace H : ((impl_Texts.f k t380).bind fun t383 => ((spec_DrawReadTexts.f k l0).bind fun t386 => ((impl_ReadTexts.f k t386).bind fun bt389 => ((spec_ReadTexts.f k t386).bind fun bt393 => (if (bt389.2 != bt393.2) = true then (laws_FnTexts.j0 k l0 t380 t383 t386 bt389.1 bt389.2 true) else ((laws_likeTexts.f k bt389.1 bt393.1).bind fun t397 => (if t397 = true then ((spec_Texts.f k t380).bind fun t398 => (laws_FnTexts.j0 k l0 t380 t383 t386 bt389.1 bt389.2 ((strOfNums t383).toList != (strOfNums t398).toList))) else (laws_FnTexts.j0 k l0 t380 t383 t386 bt389.1 bt389.2 true)))))))) = some r := H
 have A4 := Aside0.mk A40
 clear A40
 replace H := Option.bind_eq_some_iff.mp H
 obtain ⟨t383, A50, H⟩ := H
 replace H : ((spec_DrawReadTexts.f k l0).bind fun t386 => ((impl_ReadTexts.f k t386).bind fun bt389 => ((spec_ReadTexts.f k t386).bind fun bt393 => (if (bt389.2 != bt393.2) = true then (laws_FnTexts.j0 k l0 t380 t383 t386 bt389.1 bt389.2 true) else ((laws_likeTexts.f k bt389.1 bt393.1).bind fun t397 => (if t397 = true then ((spec_Texts.f k t380).bind fun t398 => (laws_FnTexts.j0 k l0 t380 t383 t386 bt389.1 bt389.2 ((strOfNums t383).toList != (strOfNums t398).toList))) else (laws_FnTexts.j0 k l0 t380 t383 t386 bt389.1 bt389.2 true))))))) = some r := H
 have A5 := Aside0.mk A50
 clear A50
 replace H := Option.bind_eq_some_iff.mp H
 obtain ⟨t386, A60, H⟩ := H
 replace H : ((impl_ReadTexts.f k t386).bind fun bt389 => ((spec_ReadTexts.f k t386).bind fun bt393 => (if (bt389.2 != bt393.2) = true then (laws_FnTexts.j0 k l0 t380 t383 t386 bt389.1 bt389.2 true) else ((laws_likeTexts.f k bt389.1 bt393.1).bind fun t397 => (if t397 = true then ((spec_Texts.f k t380).bind fun t398 => (laws_FnTexts.j0 k l0 t380 t383 t386 bt389.1 bt389.2 ((strOfNums t383).toList != (strOfNums t398).toList))) else (laws_FnTexts.j0 k l0 t380 t383 t386 bt389.1 bt389.2 true)))))) = some r := H
 have A6 := Aside0.mk A60
 clear A60
 replace H := Option.bind_eq_some_iff.mp H
 obtain ⟨⟨t389, t390⟩, A70, H⟩ := H
 replace H : ((spec_ReadTexts.f k t386).bind fun bt393 => (if (t390 != bt393.2) = true then (laws_FnTexts.j0 k l0 t380 t383 t386 t389 t390 true) else ((laws_likeTexts.f k t389 bt393.1).bind fun t397 => (if t397 = true then ((spec_Texts.f k t380).bind fun t398 => (laws_FnTexts.j0 k l0 t380 t383 t386 t389 t390 ((strOfNums t383).toList != (strOfNums t398).toList))) else (laws_FnTexts.j0 k l0 t380 t383 t386 t389 t390 true))))) = some r := H
 have A7 := Aside0.mk A70
 clear A70
 replace H := Option.bind_eq_some_iff.mp H
 obtain ⟨⟨t393, t394⟩, A80, H⟩ := H
 replace H : (if (t390 != t394) = true then (laws_FnTexts.j0 k l0 t380 t383 t386 t389 t390 true) else ((laws_likeTexts.f k t389 t393).bind fun t397 => (if t397 = true then ((spec_Texts.f k t380).bind fun t398 => (laws_FnTexts.j0 k l0 t380 t383 t386 t389 t390 ((strOfNums t383).toList != (strOfNums t398).toList))) else (laws_FnTexts.j0 k l0 t380 t383 t386 t389 t390 true)))) = some r := H
 have A8 := Aside0.mk A80
 clear A80
 have HC9 := Aside0.mk H
 clear H
 go_enter Try.func14, Try.ntmps14
 go_upto_region 8 with (first | ((with_reducible refine gate_callee (f := 52) rfl ?_); refine goesL_ (some 15) rfl rfl Try.func52 (by kernel_rfl) rfl #[.slice A0 l0.length c0] rfl z14c ?_; (with_reducible refine (laws_big.calls _ _ l0 false _ ?side1 ?side2 A2.out).mono ?_); (case side1 => exact (by repeat (first | exact HR0.out | (with_reducible refine Kd.C_alloc ?_ _) | (with_reducible refine Kd.C_drewN ?_ _) | (with_reducible refine Kd.C_drew ?_)))); (case side2 => exact HC0.out); rintro e w' ⟨rfl, ⟨nd, rfl⟩⟩; refine ⟨_, rfl, ?_⟩) | ((with_reducible refine gate_callee (f := 59) rfl ?_); refine goesL_ (some 17) rfl rfl Try.func59 (by kernel_rfl) rfl #[.slice A0 l0.length c0] rfl z14c ?_; (with_reducible refine (spec_DrawTexts.calls k _ _ l0 t380 _ ?side1 ?side2 A4.out).mono ?_); (case side1 => exact (by repeat (first | exact HR0.out | (with_reducible refine Kd.C_alloc ?_ _) | (with_reducible refine Kd.C_drewN ?_ _) | (with_reducible refine Kd.C_drew ?_)))); (case side2 => exact HC0.out); rintro e w10 ⟨v381, rfl, ho0, hb⟩; refine ⟨_, rfl, ?_⟩; have n0_ := Aside0.mk (Kd.R_lower ho0 (below_size z14b)); have n1_ := Aside0.mk (below_step z14b hb); clear HB; have HO382 := n0_; have HB := n1_; clear n0_ n1_; (try clear hb); (try clear hb2); (try clear hk); (try clear hi); (try clear ho0); obtain ⟨Ao11, co11, eo11⟩ := Kd.R_slice HO382.out; subst eo11) | ((with_reducible refine gate_callee (f := 30) rfl ?_); refine goesL_ (some 19) rfl rfl Try.func30 (by kernel_rfl) rfl #[.slice Ao11 t380.length co11] rfl z14c ?_; (with_reducible refine (impl_Texts.calls k _ _ t380 t383 _ ?side1 ?side2 A5.out).mono ?_); (case side1 => exact (by repeat (first | exact (Kd.R_reads' HO382.out).2.2 | (with_reducible refine Kd.C_alloc ?_ _) | (with_reducible refine Kd.C_drewN ?_ _) | (with_reducible refine Kd.C_drew ?_)))); (case side2 => exact (Kd.R_reads' HO382.out).2.1); rintro e w12 ⟨v384, rfl, ho0, hb⟩; refine ⟨_, rfl, ?_⟩; have n0_ := Aside0.mk (Kd.R_below z14m hb); have n1_ := Aside0.mk (Kd.R_lower ho0 (below_size z14b)); have n2_ := Aside0.mk (below_step z14b hb); clear HO382; clear HB; have HO382 := n0_; have HO385 := n1_; have HB := n2_; clear n0_ n1_ n2_; (try clear hb); (try clear hb2); (try clear hk); (try clear hi); (try clear ho0)) | ((with_reducible refine gate_callee (f := 60) rfl ?_); refine goesL_ (some 21) rfl rfl Try.func60 (by kernel_rfl) rfl #[.slice A0 l0.length c0] rfl z14c ?_; (with_reducible refine (spec_DrawReadTexts.calls k _ _ l0 t386 _ ?side1 ?side2 A6.out).mono ?_); (case side1 => exact z14j); (case side2 => exact HC0.out); rintro e w13 ⟨v387, rfl, ho0, hb⟩; refine ⟨_, rfl, ?_⟩; have n0_ := Aside0.mk (Kd.R_below z14m hb); have n1_ := Aside0.mk (Kd.R_elder' z14n (Kd.R_base ho0) hb); have n2_ := Aside0.mk (Kd.R_lower (Kd.R_new' ho0 (Kd.R_lt z14n)) (below_size z14b)); have n3_ := Aside0.mk (below_step z14b hb); clear HO382; clear HO385; clear HB; have HO382 := n0_; have HO385 := n1_; have HO388 := n2_; have HB := n3_; clear n0_ n1_ n2_ n3_; (try clear hb); (try clear hb2); (try clear hk); (try clear hi); (try clear ho0); obtain ⟨Ao14, co14, eo14⟩ := Kd.R_slice HO388.out; subst eo14) | ((with_reducible refine gate_callee (f := 34) rfl ?_); refine goesL_ (some 24) rfl rfl Try.func34 (by kernel_rfl) rfl #[.slice Ao14 t386.length co14] rfl z14c ?_; (with_reducible refine (impl_ReadTexts.calls k _ _ t386 t389 t390 _ ?side1 ?side2 A7.out).mono ?_); (case side1 => exact (by repeat (first | exact (Kd.R_reads' HO388.out).2.2 | (with_reducible refine Kd.C_alloc ?_ _) | (with_reducible refine Kd.C_drewN ?_ _) | (with_reducible refine Kd.C_drew ?_)))); (case side2 => exact (Kd.R_reads' HO388.out).2.1); rintro e w15 ⟨v391, rfl, ho0, hb⟩; refine ⟨_, rfl, ?_⟩; have n0_ := Aside0.mk (Kd.R_elder' z14m (Kd.R_base ho0) hb); have n1_ := Aside0.mk (Kd.R_below z14n hb); have n2_ := Aside0.mk (Kd.R_below z14t hb); have n3_ := Aside0.mk (Kd.R_lower (Kd.R_new' ho0 (Kd.R_lt z14m)) (below_size z14b)); have n4_ := Aside0.mk (below_step z14b hb); clear HO382; clear HO385; clear HO388; clear HB; have HO382 := n0_; have HO385 := n1_; have HO388 := n2_; have HO392 := n3_; have HB := n4_; clear n0_ n1_ n2_ n3_ n4_; (try clear hb); (try clear hb2); (try clear hk); (try clear hi); (try clear ho0)) | ((with_reducible refine gate_callee (f := 33) rfl ?_); refine goesL_ (some 29) rfl rfl Try.func33 (by kernel_rfl) rfl #[.slice Ao14 t386.length co14] rfl z14c ?_; (with_reducible refine (spec_ReadTexts.calls k _ _ t386 t393 t394 _ ?side1 ?side2 A8.out).mono ?_); (case side1 => exact (by repeat (first | exact (Kd.R_reads' HO388.out).2.2 | (with_reducible refine Kd.C_alloc ?_ _) | (with_reducible refine Kd.C_drewN ?_ _) | (with_reducible refine Kd.C_drew ?_)))); (case side2 => exact (Kd.R_reads' HO388.out).2.1); rintro e w16 ⟨v395, rfl, ho0, hb⟩; refine ⟨_, rfl, ?_⟩; have n0_ := Aside0.mk (Kd.R_elder' z14m (Kd.R_base ho0) hb); have n1_ := Aside0.mk (Kd.R_below z14n hb); have n2_ := Aside0.mk (Kd.R_below z14t hb); have n3_ := Aside0.mk (Kd.R_elder' (by (with_reducible repeat (first | apply Kd.R_alloc | apply Kd.R_drewN | apply Kd.R_drew)); exact HO392.out) (Kd.R_base ho0) hb); have n4_ := Aside0.mk (Kd.R_lower (Kd.R_new' (Kd.R_new' ho0 (Kd.R_lt z14m)) (Kd.R_lt (by (with_reducible repeat (first | apply Kd.R_alloc | apply Kd.R_drewN | apply Kd.R_drew)); exact HO392.out))) (below_size z14b)); have n5_ := Aside0.mk (below_step z14b hb); clear HO382; clear HO385; clear HO388; clear HO392; clear HB; have HO382 := n0_; have HO385 := n1_; have HO388 := n2_; have HO392 := n3_; have HO396 := n4_; have HB := n5_; clear n0_ n1_ n2_ n3_ n4_ n5_; (try clear hb); (try clear hb2); (try clear hk); (try clear hi); (try clear ho0)))
 (try simp only [Act.put, List.setIfInBounds_toArray, List.set_cons_zero, List.set_cons_succ])
 go_cut [48] (fun v48 wc => ∃ (kq : Nat) (x48_8 : Bool), v48 = .bool x48_8 ∧ Aside0 (laws_FnTexts.j0 kq l0 t380 t383 t386 t389 t390 x48_8 = some r) ∧ Aside0 (kq ≤ k) ∧ Aside0 (Kd.R Kd.string 9 wc w.heap.size (fun k_ => some k_ ≠ (v391 : Value).ownBlock) (.slice Ao11 t380.length co11) t380) ∧ Aside0 (Kd.R (Kd.int .u8) 5 wc w.heap.size (fun k_ => some k_ ≠ ((.slice Ao14 t386.length co14) : Value).ownBlock) v384 t383) ∧ Aside0 (Kd.R (Kd.int .u8) 5 wc w.heap.size (fun k_ => some k_ ≠ (v384 : Value).ownBlock) (.slice Ao14 t386.length co14) t386) ∧ Aside0 (Kd.R Kd.string 9 wc w.heap.size (fun k_ => some k_ ≠ ((.slice Ao11 t380.length co11) : Value).ownBlock) v391 t389) ∧ Aside0 (Below w.heap.size w wc))
 case first =>
  have H := HC9.out
  clear HC9
  by_cases c17 : (t390 != t394) = true
  {
  rw [if_pos c17] at H
  have c17b0 : (t390 != t394) = true := c17
  (try (have c17b1 : decide (t390 = t394) = false := by simpa using c17))
  (try (have c17b2 : (t390 == t394) = false := by simpa using c17))
  (try (have c17b3 : ¬ (t390 = t394) := by simpa using c17))
  clear c17
  (first | rw [c17b0] | (simp only [i64_w, i32_w]; rw [c17b0]) | skip)
  have H' := Aside0.mk H
  clear H
  try go_wp2
  have n0_ := Aside0.mk (Kd.R_drew HO382.out)
  have n1_ := Aside0.mk (Kd.R_drew HO385.out)
  have n2_ := Aside0.mk (Kd.R_drew HO388.out)
  have n3_ := Aside0.mk (Kd.R_drew HO392.out)
  have n4_ := Aside0.mk (Kd.R_drew HO396.out)
  have n5_ := Aside0.mk (below_drew1 HB.out)
  clear HO382
  clear HO385
  clear HO388
  clear HO392
  clear HO396
  clear HB
  have HO382 := n0_
  have HO385 := n1_
  have HO388 := n2_
  have HO392 := n3_
  have HO396 := n4_
  have HB := n5_
  clear n0_ n1_ n2_ n3_ n4_ n5_
  refine start_ (n := 17) (S := fun w' => True) (ds := []) #[false, false, false, false, false, false, false, false, false, false, false, false, false, false, false, false, false] (by kernel_rfl) rfl rfl trivial (fun hHeld => ?_); refine with_tabW laws_FnTexts.tab8 laws_FnTexts.bits8 (fun HT_ HW_ => ?_)
  generalize w16.drew = w18 at HO382 HO385 HO388 HO392 HO396 HB hHeld ⊢
  refine pure_ (i := 0) (N := some 32) (v := _) (a' := _) #[true, false, false, false, false, false, false, false, false, false, false, false, false, false, false, false, false] rfl rfl (any_of HT_.out (by kernel_rfl)) (fun _ _ _ h => h) (Or.inl ⟨by rfl, (by intro w'; go_simp; with_reducible rfl)⟩) z14a ?_
  refine pure_ (i := 1) (N := some 33) (v := _) (a' := _) #[true, true, false, false, false, false, false, false, false, false, false, false, false, false, false, false, false] rfl rfl (any_of HT_.out (by kernel_rfl)) (fun _ _ _ h => h) (Or.inl ⟨by rfl, (by intro w'; go_simp; with_reducible rfl)⟩) z14a ?_
  refine pure_ (i := 2) (N := some 34) (v := _) (a' := _) #[true, true, true, false, false, false, false, false, false, false, false, false, false, false, false, false, false] rfl rfl (any_of HT_.out (by kernel_rfl)) (fun _ _ _ h => h) (Or.inl ⟨by rfl, (by intro w'; go_simp; with_reducible rfl)⟩) z14a ?_
  refine pure_ (i := 3) (N := some 35) (v := _) (a' := _) #[true, true, true, true, false, false, false, false, false, false, false, false, false, false, false, false, false] rfl rfl (any_of HT_.out (by kernel_rfl)) (fun _ _ _ h => h) (Or.inl ⟨by rfl, (by intro w'; go_simp; with_reducible rfl)⟩) z14a ?_
  refine pure_ (i := 4) (N := some 36) (v := undef) (a' := ?_) #[true, true, true, true, true, false, false, false, false, false, false, false, false, false, false, false, false] rfl rfl (any_of HT_.out (by kernel_rfl)) (fun _ _ _ h => h) (Or.inr ⟨by rfl, rfl⟩) ?_ ?_
  rotate_left
  exact z14a
  refine pure_ (i := 5) (N := some 37) (v := undef) (a' := ?_) #[true, true, true, true, true, true, false, false, false, false, false, false, false, false, false, false, false] rfl rfl (any_of HT_.out (by kernel_rfl)) (fun _ _ _ h => h) (Or.inr ⟨by rfl, rfl⟩) ?_ ?_
  rotate_left
  exact z14a
  refine pure_ (i := 6) (N := some 38) (v := undef) (a' := ?_) #[true, true, true, true, true, true, true, false, false, false, false, false, false, false, false, false, false] rfl rfl (any_of HT_.out (by kernel_rfl)) (fun _ _ _ h => h) (Or.inr ⟨by rfl, rfl⟩) ?_ ?_
  rotate_left
  exact z14a
  refine pure_ (i := 7) (N := some 39) (v := undef) (a' := ?_) #[true, true, true, true, true, true, true, true, false, false, false, false, false, false, false, false, false] rfl rfl (any_of HT_.out (by kernel_rfl)) (fun _ _ _ h => h) (Or.inr ⟨by rfl, rfl⟩) ?_ ?_
  rotate_left
  exact z14a
  refine pure_ (i := 8) (N := some 40) (v := _) (a' := _) #[true, true, true, true, true, true, true, true, true, false, false, false, false, false, false, false, false] rfl rfl (any_of HT_.out (by kernel_rfl)) (fun _ _ _ h => h) (Or.inl ⟨by rfl, (by intro w'; go_simp; with_reducible rfl)⟩) z14a ?_
  refine pure_ (i := 9) (N := some 41) (v := _) (a' := _) #[true, true, true, true, true, true, true, true, true, true, false, false, false, false, false, false, false] rfl rfl (any_of HT_.out (by kernel_rfl)) (fun _ _ _ h => h) (Or.inl ⟨by rfl, (by intro w'; go_simp; with_reducible rfl)⟩) z14a ?_
  refine pure_ (i := 10) (N := some 42) (v := undef) (a' := ?_) #[true, true, true, true, true, true, true, true, true, true, true, false, false, false, false, false, false] rfl rfl (any_of HT_.out (by kernel_rfl)) (fun _ _ _ h => h) (Or.inr ⟨by rfl, rfl⟩) ?_ ?_
  rotate_left
  exact z14a
  refine pure_ (i := 11) (N := some 43) (v := undef) (a' := ?_) #[true, true, true, true, true, true, true, true, true, true, true, true, false, false, false, false, false] rfl rfl (any_of HT_.out (by kernel_rfl)) (fun _ _ _ h => h) (Or.inr ⟨by rfl, rfl⟩) ?_ ?_
  rotate_left
  exact z14a
  refine pure_ (i := 12) (N := some 44) (v := undef) (a' := ?_) #[true, true, true, true, true, true, true, true, true, true, true, true, true, false, false, false, false] rfl rfl (any_of HT_.out (by kernel_rfl)) (fun _ _ _ h => h) (Or.inr ⟨by rfl, rfl⟩) ?_ ?_
  rotate_left
  exact z14a
  refine pure_ (i := 13) (N := some 45) (v := undef) (a' := ?_) #[true, true, true, true, true, true, true, true, true, true, true, true, true, true, false, false, false] rfl rfl (any_of HT_.out (by kernel_rfl)) (fun _ _ _ h => h) (Or.inr ⟨by rfl, rfl⟩) ?_ ?_
  rotate_left
  exact z14a
  refine pure_ (i := 14) (N := some 46) (v := undef) (a' := ?_) #[true, true, true, true, true, true, true, true, true, true, true, true, true, true, true, false, false] rfl rfl (any_of HT_.out (by kernel_rfl)) (fun _ _ _ h => h) (Or.inr ⟨by rfl, rfl⟩) ?_ ?_
  rotate_left
  exact z14a
  refine pure_ (i := 15) (N := some 47) (v := undef) (a' := ?_) #[true, true, true, true, true, true, true, true, true, true, true, true, true, true, true, true, false] rfl rfl (any_of HT_.out (by kernel_rfl)) (fun _ _ _ h => h) (Or.inr ⟨by rfl, rfl⟩) ?_ ?_
  rotate_left
  exact z14a
  refine pure_ (i := 16) (N := some 48) (v := _) (a' := _) #[true, true, true, true, true, true, true, true, true, true, true, true, true, true, true, true, true] rfl rfl (any_of HT_.out (by kernel_rfl)) (fun _ _ _ h => h) (Or.inl ⟨by rfl, (by intro w'; go_simp; with_reducible rfl)⟩) z14a ?_
  refine done_ (done_of HT_.out (by kernel_rfl)) ?_
  try go_wp2
  go_meet
  case rel => exact ⟨_, (true), (by first | rfl | (simp; done) | (simp [*]; done)), H', ⟨by first | omega | exact Nat.le_refl _⟩, ⟨by (with_reducible repeat (first | apply Kd.R_alloc | apply Kd.R_drewN | apply Kd.R_drew)); exact Kd.R_mono HO382.out (fun _ hk => hk.1.2)⟩, ⟨by (with_reducible repeat (first | apply Kd.R_alloc | apply Kd.R_drewN | apply Kd.R_drew)); exact Kd.R_mono HO385.out (fun _ hk => hk.2)⟩, ⟨by (with_reducible repeat (first | apply Kd.R_alloc | apply Kd.R_drewN | apply Kd.R_drew)); exact Kd.R_mono HO388.out (fun _ hk => hk.2)⟩, ⟨by (with_reducible repeat (first | apply Kd.R_alloc | apply Kd.R_drewN | apply Kd.R_drew)); exact Kd.R_mono HO392.out (fun _ hk => hk.1.2)⟩, ⟨by repeat (first | (with_reducible first | exact HB.out | apply below_alloc | apply pw_below_drewN | apply below_drew1) | exact HB.out)⟩⟩
  }
  {
  rw [if_neg c17] at H
  have c17b0 : (t390 != t394) = false := by simpa using c17
  (try (have c17b1 : decide (t390 = t394) = true := by simpa using c17))
  (try (have c17b2 : (t390 == t394) = true := by simpa using c17))
  clear c17
  (first | rw [c17b0] | (simp only [i64_w, i32_w]; rw [c17b0]) | skip)
  replace H := Option.bind_eq_some_iff.mp H
  obtain ⟨t397, A190, H⟩ := H
  replace H : (if t397 = true then ((spec_Texts.f k t380).bind fun t398 => (laws_FnTexts.j0 k l0 t380 t383 t386 t389 t390 ((strOfNums t383).toList != (strOfNums t398).toList))) else (laws_FnTexts.j0 k l0 t380 t383 t386 t389 t390 true)) = some r := H
  have A19 := Aside0.mk A190
  clear A190
  by_cases c20 : t397 = true
  {
  subst c20
  have H1 : ((spec_Texts.f k t380).bind fun t398 => (laws_FnTexts.j0 k l0 t380 t383 t386 t389 t390 ((strOfNums t383).toList != (strOfNums t398).toList))) = some r := by rw [if_pos rfl] at H; exact H
  clear H
  have H := H1
  clear H1
  replace H := Option.bind_eq_some_iff.mp H
  obtain ⟨t398, A210, H⟩ := H
  replace H : (laws_FnTexts.j0 k l0 t380 t383 t386 t389 t390 ((strOfNums t383).toList != (strOfNums t398).toList)) = some r := H
  have A21 := Aside0.mk A210
  clear A210
  have H' := Aside0.mk H
  clear H
  obtain ⟨Ao22, co22, eo22⟩ := Kd.R_slice HO392.out
  subst eo22
  obtain ⟨Ao23, co23, eo23⟩ := Kd.R_slice HO396.out
  subst eo23
  try go_wp2
  have n0_ := Aside0.mk (Kd.R_drew HO382.out)
  have n1_ := Aside0.mk (Kd.R_drew HO385.out)
  have n2_ := Aside0.mk (Kd.R_drew HO388.out)
  have n3_ := Aside0.mk (Kd.R_drew HO392.out)
  have n4_ := Aside0.mk (Kd.R_drew HO396.out)
  have n5_ := Aside0.mk (below_drew1 HB.out)
  clear HO382
  clear HO385
  clear HO388
  clear HO392
  clear HO396
  clear HB
  have HO382 := n0_
  have HO385 := n1_
  have HO388 := n2_
  have HO392 := n3_
  have HO396 := n4_
  have HB := n5_
  clear n0_ n1_ n2_ n3_ n4_ n5_
  refine start_ (n := 17) (S := fun w' => True) (ds := []) #[false, false, false, false, false, false, false, false, false, false, false, false, false, false, false, false, false] (by kernel_rfl) rfl rfl trivial (fun hHeld => ?_); refine with_tabW laws_FnTexts.tab8 laws_FnTexts.bits8 (fun HT_ HW_ => ?_)
  generalize w16.drew = w24 at HO382 HO385 HO388 HO392 HO396 HB hHeld ⊢
  refine pure_ (i := 0) (N := some 32) (v := _) (a' := _) #[true, false, false, false, false, false, false, false, false, false, false, false, false, false, false, false, false] rfl rfl (any_of HT_.out (by kernel_rfl)) (fun _ _ _ h => h) (Or.inl ⟨by rfl, (by intro w'; go_simp; with_reducible rfl)⟩) z14a ?_
  refine pure_ (i := 1) (N := some 33) (v := _) (a' := _) #[true, true, false, false, false, false, false, false, false, false, false, false, false, false, false, false, false] rfl rfl (any_of HT_.out (by kernel_rfl)) (fun _ _ _ h => h) (Or.inl ⟨by rfl, (by intro w'; go_simp; with_reducible rfl)⟩) z14a ?_
  refine pure_ (i := 2) (N := some 34) (v := _) (a' := _) #[true, true, true, false, false, false, false, false, false, false, false, false, false, false, false, false, false] rfl rfl (any_of HT_.out (by kernel_rfl)) (fun _ _ _ h => h) (Or.inl ⟨by rfl, (by intro w'; go_simp; with_reducible rfl)⟩) z14a ?_
  refine pure_ (i := 3) (N := some 35) (v := _) (a' := _) #[true, true, true, true, false, false, false, false, false, false, false, false, false, false, false, false, false] rfl rfl (any_of HT_.out (by kernel_rfl)) (fun _ _ _ h => h) (Or.inl ⟨by rfl, (by intro w'; go_simp; with_reducible rfl)⟩) z14a ?_
  refine pure_ (i := 4) (N := some 36) (v := _) (a' := _) #[true, true, true, true, true, false, false, false, false, false, false, false, false, false, false, false, false] rfl rfl (any_of HT_.out (by kernel_rfl)) (fun _ _ _ h => h) (Or.inl ⟨by rfl, (by intro w'; go_simp; with_reducible rfl)⟩) z14a ?_
  refine pure_ (i := 5) (N := some 37) (v := _) (a' := _) #[true, true, true, true, true, true, false, false, false, false, false, false, false, false, false, false, false] rfl rfl (any_of HT_.out (by kernel_rfl)) (fun _ _ _ h => h) (Or.inl ⟨by rfl, (by intro w'; go_simp; with_reducible rfl)⟩) z14a ?_
  refine one_ (i := 6) (N := some 38) #[true, true, true, true, true, true, true, false, false, false, false, false, false, false, false, false, false] rfl rfl (one_of HT_.out (by kernel_rfl)) (by decide) (fun K hK => ?_)
  refine goes_ Try.func61 (by kernel_rfl) rfl #[.slice Ao22 t389.length co22, .slice Ao23 t393.length co23] (by rfl) rfl rfl z14c ?_
  with_reducible refine (laws_likeTexts.calls k _ _ t389 _ _ t393 true _ ?side1 ?side2 ?side3 ?side4 A19.out).mono ?_
  (case side1 => exact (by repeat (first | exact (Kd.R_reads' HO392.out).2.2 | (with_reducible refine Kd.C_alloc ?_ _) | (with_reducible refine Kd.C_drewN ?_ _) | (with_reducible refine Kd.C_drew ?_))))
  (case side2 => exact (Kd.R_reads' HO392.out).2.1)
  (case side3 => exact (by repeat (first | exact (Kd.R_reads' HO396.out).2.2 | (with_reducible refine Kd.C_alloc ?_ _) | (with_reducible refine Kd.C_drewN ?_ _) | (with_reducible refine Kd.C_drew ?_))))
  (case side4 => exact (Kd.R_reads' HO396.out).2.1)
  rintro e w' ⟨rfl, ⟨nd, rfl⟩⟩
  refine ⟨_, rfl, ?_⟩
  refine hK.out _ _ trivial (fun hHeld => ?_)
  clear hK K
  refine norm_ (a' := ?_) ?_ ?_
  rotate_left
  {
  show Act.put _ (some 38) _ = _
  simp only [Act.put, List.setIfInBounds_toArray, List.set_cons_zero, List.set_cons_succ, i64_w, i32_w]
  rfl
  }
  refine pure_ (i := 7) (N := some 39) (v := _) (a' := _) #[true, true, true, true, true, true, true, true, false, false, false, false, false, false, false, false, false] rfl rfl (any_of HT_.out (by kernel_rfl)) (fun _ _ _ h => h) (Or.inl ⟨by rfl, (by intro w'; go_simp; with_reducible rfl)⟩) z14a ?_
  refine pure_ (i := 8) (N := some 40) (v := _) (a' := _) #[true, true, true, true, true, true, true, true, true, false, false, false, false, false, false, false, false] rfl rfl (any_of HT_.out (by kernel_rfl)) (fun _ _ _ h => h) (Or.inl ⟨by rfl, (by intro w'; go_simp; with_reducible rfl)⟩) z14a ?_
  refine pure_ (i := 9) (N := some 41) (v := _) (a' := _) #[true, true, true, true, true, true, true, true, true, true, false, false, false, false, false, false, false] rfl rfl (any_of HT_.out (by kernel_rfl)) (fun _ _ _ h => h) (Or.inl ⟨by rfl, (by intro w'; go_simp; with_reducible rfl)⟩) z14a ?_
  refine pure_ (i := 10) (N := some 42) (v := _) (a' := _) #[true, true, true, true, true, true, true, true, true, true, true, false, false, false, false, false, false] rfl rfl (any_of HT_.out (by kernel_rfl)) (fun _ _ _ h => h) (Or.inl ⟨by rfl, (by intro w'; go_simp; with_reducible rfl)⟩) z14a ?_
  refine pure_ (i := 12) (N := some 44) (v := _) (a' := _) #[true, true, true, true, true, true, true, true, true, true, true, false, true, false, false, false, false] rfl rfl (any_of HT_.out (by kernel_rfl)) (fun _ _ _ h => h) (Or.inl ⟨by rfl, (by intro w'; go_simp; with_reducible rfl)⟩) z14a ?_
  refine join_ (σ := Value) 2 #[true, true, true, true, true, true, true, true, true, true, true, true, true, true, true, false, false] (fun s_ => [(43, .string (strOfNums t383)), (45, s_), (46, .string (strOfNums t398))]) (fun s_ w' => (Kd.R Kd.string 9 w' w.heap.size (fun k_ => some k_ ≠ (.slice Ao22 t389.length co22 : Value).ownBlock ∧ some k_ ≠ (.slice Ao23 t393.length co23 : Value).ownBlock) (.slice Ao11 t380.length co11) t380) ∧ (Kd.R (Kd.int .u8) 5 w' w.heap.size (fun k_ => some k_ ≠ (.slice Ao14 t386.length co14 : Value).ownBlock ∧ some k_ ≠ (s_ : Value).ownBlock) v384 t383) ∧ (Kd.R (Kd.int .u8) 5 w' w.heap.size (fun k_ => some k_ ≠ (v384 : Value).ownBlock ∧ some k_ ≠ (s_ : Value).ownBlock) (.slice Ao14 t386.length co14) t386) ∧ (Kd.R Kd.string 9 w' w.heap.size (fun k_ => some k_ ≠ (.slice Ao11 t380.length co11 : Value).ownBlock ∧ some k_ ≠ (.slice Ao23 t393.length co23 : Value).ownBlock) (.slice Ao22 t389.length co22) t389) ∧ (Kd.R Kd.string 9 w' w.heap.size (fun k_ => some k_ ≠ (.slice Ao11 t380.length co11 : Value).ownBlock ∧ some k_ ≠ (.slice Ao22 t389.length co22 : Value).ownBlock) (.slice Ao23 t393.length co23) t393) ∧ (Kd.R (Kd.int .u8) 5 w' w.heap.size (fun k_ => some k_ ≠ (v384 : Value).ownBlock ∧ some k_ ≠ (.slice Ao14 t386.length co14 : Value).ownBlock) s_ t398) ∧ (Below w.heap.size w w')) ?_ ?_
  rotate_left
  {
  intro hCont
  refine two_ (i := 11) (j := 13) (Ni := some 43) (Nj := some 45) #[true, true, true, true, true, true, true, true, true, true, true, true, true, false, false, false, false] #[true, true, true, true, true, true, true, true, true, true, true, false, true, true, false, false, false] rfl rfl rfl rfl (two_of HT_.out (by kernel_rfl)) (by decide) (by decide) (fun K hK => ?_) (fun K hK => ?_)
  {
  skip
  have hcv25 := own_string (P := Try.prog) Try.underlying22 Try.underlying5 Try.underlying9 (Kd.own_of_R HO385.out); have hcv25d := fun (nq_ : Nat) => own_string (P := Try.prog) Try.underlying22 Try.underlying5 Try.underlying9 (Kd.own_of_R (Kd.R_drewN HO385.out nq_))
  refine value_ (w1 := ?_) (v := ?_) (by rfl) rfl ?_ ?_
  rotate_left 2
  {
  go_simp
  constructor
  {
  rfl
  }
  {
  rfl
  }
  }
  clear hcv25 hcv25d
  refine hK.out _ _ trivial (fun hHeld => ?_)
  clear hK K
  refine norm_ (a' := ?_) ?_ ?_
  rotate_left
  {
  show Act.put _ (some 43) _ = _
  simp only [Act.put, List.setIfInBounds_toArray, List.set_cons_zero, List.set_cons_succ, i64_w, i32_w]
  rfl
  }
  refine one_ (i := 13) (N := some 45) #[true, true, true, true, true, true, true, true, true, true, true, true, true, true, false, false, false] rfl rfl (one_of HT_.out (by kernel_rfl)) (by decide) (fun K hK => ?_)
  refine goes_ Try.func28 (by kernel_rfl) rfl #[.slice Ao11 t380.length co11] (by rfl) rfl rfl z14c ?_
  with_reducible refine (spec_Texts.calls k _ _ t380 t398 _ ?side1 ?side2 A21.out).mono ?_
  (case side1 => exact (by repeat (first | exact (Kd.R_reads' HO382.out).2.2 | (with_reducible refine Kd.C_alloc ?_ _) | (with_reducible refine Kd.C_drewN ?_ _) | (with_reducible refine Kd.C_drew ?_))))
  (case side2 => exact (Kd.R_reads' HO382.out).2.1)
  rintro e w26 ⟨v399, rfl, ho0, hb⟩
  refine ⟨_, rfl, ?_⟩
  have n0_ := Aside0.mk (Kd.R_below z14m hb)
  have n1_ := Aside0.mk (Kd.R_elder' z14n (Kd.R_base ho0) hb)
  have n2_ := Aside0.mk (Kd.R_elder' z14t (Kd.R_base ho0) hb)
  have n3_ := Aside0.mk (Kd.R_below (by (with_reducible repeat (first | apply Kd.R_alloc | apply Kd.R_drewN | apply Kd.R_drew)); exact HO392.out) hb)
  have n4_ := Aside0.mk (Kd.R_below (by (with_reducible repeat (first | apply Kd.R_alloc | apply Kd.R_drewN | apply Kd.R_drew)); exact HO396.out) hb)
  have n5_ := Aside0.mk (Kd.R_lower (Kd.R_new' (Kd.R_new' ho0 (Kd.R_lt z14n)) (Kd.R_lt z14t)) (below_size z14b))
  have n6_ := Aside0.mk (below_step z14b hb)
  clear HO382
  clear HO385
  clear HO388
  clear HO392
  clear HO396
  clear HB
  have HO382 := n0_
  have HO385 := n1_
  have HO388 := n2_
  have HO392 := n3_
  have HO396 := n4_
  have HO400 := n5_
  have HB := n6_
  clear n0_ n1_ n2_ n3_ n4_ n5_ n6_
  (try clear hb)
  (try clear hb2)
  (try clear hk)
  (try clear hi)
  (try clear ho0)
  refine hK.out _ _ trivial (fun hHeld => ?_)
  clear hK K
  refine norm_ (a' := ?_) ?_ ?_
  rotate_left
  {
  show Act.put _ (some 45) _ = _
  simp only [Act.put, List.setIfInBounds_toArray, List.set_cons_zero, List.set_cons_succ, i64_w, i32_w]
  rfl
  }
  refine one_ (i := 14) (N := some 46) #[true, true, true, true, true, true, true, true, true, true, true, true, true, true, true, false, false] rfl rfl (one_of HT_.out (by kernel_rfl)) (by decide) (fun K hK => ?_)
  have hcv27 := own_string (P := Try.prog) Try.underlying22 Try.underlying5 Try.underlying9 (Kd.own_of_R HO400.out)
  refine value_ (w1 := ?_) (v := ?_) (by rfl) rfl ?_ ?_
  rotate_left 2
  {
  go_simp
  constructor
  {
  rfl
  }
  {
  rfl
  }
  }
  clear hcv27
  refine hK.out _ _ trivial (fun hHeld => ?_)
  clear hK K
  refine norm_ (a' := ?_) ?_ ?_
  rotate_left
  {
  show Act.put _ (some 46) _ = _
  simp only [Act.put, List.setIfInBounds_toArray, List.set_cons_zero, List.set_cons_succ, i64_w, i32_w]
  rfl
  }
  exact norm_ z14l (hCont (v399) _ ⟨(by (with_reducible repeat (first | apply Kd.R_alloc | apply Kd.R_drewN | apply Kd.R_drew)); exact Kd.R_mono HO382.out (fun _ hk => ⟨hk.1.2, hk.2⟩)), (by (with_reducible repeat (first | apply Kd.R_alloc | apply Kd.R_drewN | apply Kd.R_drew)); exact Kd.R_mono HO385.out (fun _ hk => ⟨hk.1.2, hk.2⟩)), (by (with_reducible repeat (first | apply Kd.R_alloc | apply Kd.R_drewN | apply Kd.R_drew)); exact Kd.R_mono HO388.out (fun _ hk => ⟨hk.1.2, hk.2⟩)), (by (with_reducible repeat (first | apply Kd.R_alloc | apply Kd.R_drewN | apply Kd.R_drew)); exact Kd.R_mono HO392.out (fun _ hk => ⟨hk.1.2, hk.2⟩)), (by (with_reducible repeat (first | apply Kd.R_alloc | apply Kd.R_drewN | apply Kd.R_drew)); exact Kd.R_mono HO396.out (fun _ hk => ⟨hk.1.2, hk.2⟩)), (by (with_reducible repeat (first | apply Kd.R_alloc | apply Kd.R_drewN | apply Kd.R_drew)); exact Kd.R_mono HO400.out (fun _ hk => ⟨hk.1.2, hk.2⟩)), z14b⟩)
  }
  {
  skip
  refine goes_ Try.func28 (by kernel_rfl) rfl #[.slice Ao11 t380.length co11] (by rfl) rfl rfl z14c ?_
  with_reducible refine (spec_Texts.calls k _ _ t380 t398 _ ?side1 ?side2 A21.out).mono ?_
  (case side1 => exact (by repeat (first | exact (Kd.R_reads' HO382.out).2.2 | (with_reducible refine Kd.C_alloc ?_ _) | (with_reducible refine Kd.C_drewN ?_ _) | (with_reducible refine Kd.C_drew ?_))))
  (case side2 => exact (Kd.R_reads' HO382.out).2.1)
  rintro e w25 ⟨v399, rfl, ho0, hb⟩
  refine ⟨_, rfl, ?_⟩
  have n0_ := Aside0.mk (Kd.R_below z14m hb)
  have n1_ := Aside0.mk (Kd.R_elder' z14n (Kd.R_base ho0) hb)
  have n2_ := Aside0.mk (Kd.R_elder' z14t (Kd.R_base ho0) hb)
  have n3_ := Aside0.mk (Kd.R_below (by (with_reducible repeat (first | apply Kd.R_alloc | apply Kd.R_drewN | apply Kd.R_drew)); exact HO392.out) hb)
  have n4_ := Aside0.mk (Kd.R_below (by (with_reducible repeat (first | apply Kd.R_alloc | apply Kd.R_drewN | apply Kd.R_drew)); exact HO396.out) hb)
  have n5_ := Aside0.mk (Kd.R_lower (Kd.R_new' (Kd.R_new' ho0 (Kd.R_lt z14n)) (Kd.R_lt z14t)) (below_size z14b))
  have n6_ := Aside0.mk (below_step z14b hb)
  clear HO382
  clear HO385
  clear HO388
  clear HO392
  clear HO396
  clear HB
  have HO382 := n0_
  have HO385 := n1_
  have HO388 := n2_
  have HO392 := n3_
  have HO396 := n4_
  have HO400 := n5_
  have HB := n6_
  clear n0_ n1_ n2_ n3_ n4_ n5_ n6_
  (try clear hb)
  (try clear hb2)
  (try clear hk)
  (try clear hi)
  (try clear ho0)
  refine hK.out _ _ trivial (fun hHeld => ?_)
  clear hK K
  refine norm_ (a' := ?_) ?_ ?_
  rotate_left
  {
  show Act.put _ (some 45) _ = _
  simp only [Act.put, List.setIfInBounds_toArray, List.set_cons_zero, List.set_cons_succ, i64_w, i32_w]
  rfl
  }
  refine two_ (i := 11) (j := 14) (Ni := some 43) (Nj := some 46) #[true, true, true, true, true, true, true, true, true, true, true, true, true, true, false, false, false] #[true, true, true, true, true, true, true, true, true, true, true, false, true, true, true, false, false] rfl rfl rfl rfl (two_of HT_.out (by kernel_rfl)) (by decide) (by decide) (fun K hK => ?_) (fun K hK => ?_)
  {
  skip
  have hcv26 := own_string (P := Try.prog) Try.underlying22 Try.underlying5 Try.underlying9 (Kd.own_of_R HO385.out); have hcv26d := fun (nq_ : Nat) => own_string (P := Try.prog) Try.underlying22 Try.underlying5 Try.underlying9 (Kd.own_of_R (Kd.R_drewN HO385.out nq_))
  refine value_ (w1 := ?_) (v := ?_) (by rfl) rfl ?_ ?_
  rotate_left 2
  {
  go_simp
  constructor
  {
  rfl
  }
  {
  rfl
  }
  }
  clear hcv26 hcv26d
  refine hK.out _ _ trivial (fun hHeld => ?_)
  clear hK K
  refine norm_ (a' := ?_) ?_ ?_
  rotate_left
  {
  show Act.put _ (some 43) _ = _
  simp only [Act.put, List.setIfInBounds_toArray, List.set_cons_zero, List.set_cons_succ, i64_w, i32_w]
  rfl
  }
  refine one_ (i := 14) (N := some 46) #[true, true, true, true, true, true, true, true, true, true, true, true, true, true, true, false, false] rfl rfl (one_of HT_.out (by kernel_rfl)) (by decide) (fun K hK => ?_)
  have hcv27 := own_string (P := Try.prog) Try.underlying22 Try.underlying5 Try.underlying9 (Kd.own_of_R HO400.out)
  refine value_ (w1 := ?_) (v := ?_) (by rfl) rfl ?_ ?_
  rotate_left 2
  {
  go_simp
  constructor
  {
  rfl
  }
  {
  rfl
  }
  }
  clear hcv27
  refine hK.out _ _ trivial (fun hHeld => ?_)
  clear hK K
  refine norm_ (a' := ?_) ?_ ?_
  rotate_left
  {
  show Act.put _ (some 46) _ = _
  simp only [Act.put, List.setIfInBounds_toArray, List.set_cons_zero, List.set_cons_succ, i64_w, i32_w]
  rfl
  }
  exact norm_ z14l (hCont (v399) _ ⟨(by (with_reducible repeat (first | apply Kd.R_alloc | apply Kd.R_drewN | apply Kd.R_drew)); exact Kd.R_mono HO382.out (fun _ hk => ⟨hk.1.2, hk.2⟩)), (by (with_reducible repeat (first | apply Kd.R_alloc | apply Kd.R_drewN | apply Kd.R_drew)); exact Kd.R_mono HO385.out (fun _ hk => ⟨hk.1.2, hk.2⟩)), (by (with_reducible repeat (first | apply Kd.R_alloc | apply Kd.R_drewN | apply Kd.R_drew)); exact Kd.R_mono HO388.out (fun _ hk => ⟨hk.1.2, hk.2⟩)), (by (with_reducible repeat (first | apply Kd.R_alloc | apply Kd.R_drewN | apply Kd.R_drew)); exact Kd.R_mono HO392.out (fun _ hk => ⟨hk.1.2, hk.2⟩)), (by (with_reducible repeat (first | apply Kd.R_alloc | apply Kd.R_drewN | apply Kd.R_drew)); exact Kd.R_mono HO396.out (fun _ hk => ⟨hk.1.2, hk.2⟩)), (by (with_reducible repeat (first | apply Kd.R_alloc | apply Kd.R_drewN | apply Kd.R_drew)); exact Kd.R_mono HO400.out (fun _ hk => ⟨hk.1.2, hk.2⟩)), z14b⟩)
  }
  {
  skip
  have hcv26 := own_string (P := Try.prog) Try.underlying22 Try.underlying5 Try.underlying9 (Kd.own_of_R HO400.out)
  refine value_ (w1 := ?_) (v := ?_) (by rfl) rfl ?_ ?_
  rotate_left 2
  {
  go_simp
  constructor
  {
  rfl
  }
  {
  rfl
  }
  }
  clear hcv26
  refine hK.out _ _ trivial (fun hHeld => ?_)
  clear hK K
  refine norm_ (a' := ?_) ?_ ?_
  rotate_left
  {
  show Act.put _ (some 46) _ = _
  simp only [Act.put, List.setIfInBounds_toArray, List.set_cons_zero, List.set_cons_succ, i64_w, i32_w]
  rfl
  }
  refine one_ (i := 11) (N := some 43) #[true, true, true, true, true, true, true, true, true, true, true, true, true, true, true, false, false] rfl rfl (one_of HT_.out (by kernel_rfl)) (by decide) (fun K hK => ?_)
  have hcv27 := own_string (P := Try.prog) Try.underlying22 Try.underlying5 Try.underlying9 (Kd.own_of_R HO385.out); have hcv27d := fun (nq_ : Nat) => own_string (P := Try.prog) Try.underlying22 Try.underlying5 Try.underlying9 (Kd.own_of_R (Kd.R_drewN HO385.out nq_))
  refine value_ (w1 := ?_) (v := ?_) (by rfl) rfl ?_ ?_
  rotate_left 2
  {
  go_simp
  constructor
  {
  rfl
  }
  {
  rfl
  }
  }
  clear hcv27 hcv27d
  refine hK.out _ _ trivial (fun hHeld => ?_)
  clear hK K
  refine norm_ (a' := ?_) ?_ ?_
  rotate_left
  {
  show Act.put _ (some 43) _ = _
  simp only [Act.put, List.setIfInBounds_toArray, List.set_cons_zero, List.set_cons_succ, i64_w, i32_w]
  rfl
  }
  exact norm_ z14l (hCont (v399) _ ⟨(by (with_reducible repeat (first | apply Kd.R_alloc | apply Kd.R_drewN | apply Kd.R_drew)); exact Kd.R_mono HO382.out (fun _ hk => ⟨hk.1.2, hk.2⟩)), (by (with_reducible repeat (first | apply Kd.R_alloc | apply Kd.R_drewN | apply Kd.R_drew)); exact Kd.R_mono HO385.out (fun _ hk => ⟨hk.1.2, hk.2⟩)), (by (with_reducible repeat (first | apply Kd.R_alloc | apply Kd.R_drewN | apply Kd.R_drew)); exact Kd.R_mono HO388.out (fun _ hk => ⟨hk.1.2, hk.2⟩)), (by (with_reducible repeat (first | apply Kd.R_alloc | apply Kd.R_drewN | apply Kd.R_drew)); exact Kd.R_mono HO392.out (fun _ hk => ⟨hk.1.2, hk.2⟩)), (by (with_reducible repeat (first | apply Kd.R_alloc | apply Kd.R_drewN | apply Kd.R_drew)); exact Kd.R_mono HO396.out (fun _ hk => ⟨hk.1.2, hk.2⟩)), (by (with_reducible repeat (first | apply Kd.R_alloc | apply Kd.R_drewN | apply Kd.R_drew)); exact Kd.R_mono HO400.out (fun _ hk => ⟨hk.1.2, hk.2⟩)), z14b⟩)
  }
  }
  }
  rintro v399 w28 ⟨h0_, h1_, h2_, h3_, h4_, h5_, h6_⟩
  have n0_ : Aside0 (Kd.R Kd.string 9 w28 w.heap.size (fun k_ => some k_ ≠ (.slice Ao22 t389.length co22 : Value).ownBlock ∧ some k_ ≠ (.slice Ao23 t393.length co23 : Value).ownBlock) (.slice Ao11 t380.length co11) t380) := ⟨h0_⟩
  have n1_ : Aside0 (Kd.R (Kd.int .u8) 5 w28 w.heap.size (fun k_ => some k_ ≠ (.slice Ao14 t386.length co14 : Value).ownBlock ∧ some k_ ≠ (v399 : Value).ownBlock) v384 t383) := ⟨h1_⟩
  have n2_ : Aside0 (Kd.R (Kd.int .u8) 5 w28 w.heap.size (fun k_ => some k_ ≠ (v384 : Value).ownBlock ∧ some k_ ≠ (v399 : Value).ownBlock) (.slice Ao14 t386.length co14) t386) := ⟨h2_⟩
  have n3_ : Aside0 (Kd.R Kd.string 9 w28 w.heap.size (fun k_ => some k_ ≠ (.slice Ao11 t380.length co11 : Value).ownBlock ∧ some k_ ≠ (.slice Ao23 t393.length co23 : Value).ownBlock) (.slice Ao22 t389.length co22) t389) := ⟨h3_⟩
  have n4_ : Aside0 (Kd.R Kd.string 9 w28 w.heap.size (fun k_ => some k_ ≠ (.slice Ao11 t380.length co11 : Value).ownBlock ∧ some k_ ≠ (.slice Ao22 t389.length co22 : Value).ownBlock) (.slice Ao23 t393.length co23) t393) := ⟨h4_⟩
  have n5_ : Aside0 (Kd.R (Kd.int .u8) 5 w28 w.heap.size (fun k_ => some k_ ≠ (v384 : Value).ownBlock ∧ some k_ ≠ (.slice Ao14 t386.length co14 : Value).ownBlock) v399 t398) := ⟨h5_⟩
  have n6_ : Aside0 (Below w.heap.size w w28) := ⟨h6_⟩
  clear HO382
  clear HO385
  clear HO388
  clear HO392
  clear HO396
  clear HB
  clear h0_ h1_ h2_ h3_ h4_ h5_ h6_
  have HO382 := n0_
  have HO385 := n1_
  have HO388 := n2_
  have HO392 := n3_
  have HO396 := n4_
  have HO400 := n5_
  have HB := n6_
  clear n0_ n1_ n2_ n3_ n4_ n5_ n6_
  have hHeld := trivial
  refine norm_ (a' := ?_) ?_ ?_
  rotate_left
  exact (by simp only [putAll, Act.put, List.setIfInBounds_toArray, List.set_cons_zero, List.set_cons_succ]; rfl)
  refine pure_ (i := 15) (N := some 47) (v := _) (a' := _) #[true, true, true, true, true, true, true, true, true, true, true, true, true, true, true, true, false] rfl rfl (any_of HT_.out (by kernel_rfl)) (fun _ _ _ h => h) (Or.inl ⟨by rfl, (by intro w'; go_simp; with_reducible rfl)⟩) z14a ?_
  refine pure_ (i := 16) (N := some 48) (v := _) (a' := _) #[true, true, true, true, true, true, true, true, true, true, true, true, true, true, true, true, true] rfl rfl (any_of HT_.out (by kernel_rfl)) (fun _ _ _ h => h) (Or.inl ⟨by rfl, (by intro w'; go_simp; with_reducible rfl)⟩) z14a ?_
  refine done_ (done_of HT_.out (by kernel_rfl)) ?_
  try go_wp2
  go_meet
  case rel => exact ⟨_, (((strOfNums t383).toList != (strOfNums t398).toList)), (by first | rfl | (simp; done) | (simp [*]; done)), H', ⟨by first | omega | exact Nat.le_refl _⟩, ⟨by (with_reducible repeat (first | apply Kd.R_alloc | apply Kd.R_drewN | apply Kd.R_drew)); exact Kd.R_mono HO382.out (fun _ hk => hk.1)⟩, ⟨by (with_reducible repeat (first | apply Kd.R_alloc | apply Kd.R_drewN | apply Kd.R_drew)); exact Kd.R_mono HO385.out (fun _ hk => hk.1)⟩, ⟨by (with_reducible repeat (first | apply Kd.R_alloc | apply Kd.R_drewN | apply Kd.R_drew)); exact Kd.R_mono HO388.out (fun _ hk => hk.1)⟩, ⟨by (with_reducible repeat (first | apply Kd.R_alloc | apply Kd.R_drewN | apply Kd.R_drew)); exact Kd.R_mono HO392.out (fun _ hk => hk.1)⟩, ⟨by repeat (first | (with_reducible first | exact HB.out | apply below_alloc | apply pw_below_drewN | apply below_drew1) | exact HB.out)⟩⟩
  }
  {
  replace c20 := Bool.eq_false_iff.mpr c20
  subst c20
  have H1 : (laws_FnTexts.j0 k l0 t380 t383 t386 t389 t390 true) = some r := by rw [if_neg (show ¬ (false = true) by decide)] at H; exact H
  clear H
  have H := H1
  clear H1
  have H' := Aside0.mk H
  clear H
  try go_wp2
  have n0_ := Aside0.mk (Kd.R_drew HO382.out)
  have n1_ := Aside0.mk (Kd.R_drew HO385.out)
  have n2_ := Aside0.mk (Kd.R_drew HO388.out)
  have n3_ := Aside0.mk (Kd.R_drew HO392.out)
  have n4_ := Aside0.mk (Kd.R_drew HO396.out)
  have n5_ := Aside0.mk (below_drew1 HB.out)
  clear HO382
  clear HO385
  clear HO388
  clear HO392
  clear HO396
  clear HB
  have HO382 := n0_
  have HO385 := n1_
  have HO388 := n2_
  have HO392 := n3_
  have HO396 := n4_
  have HB := n5_
  clear n0_ n1_ n2_ n3_ n4_ n5_
  obtain ⟨Ao30, co30, eo30⟩ := Kd.R_slice HO392.out
  (first | subst eo30 | (injection eo30 with f1_ f2_ f3_; have f4_ := f1_.symm; have f5_ := f3_.symm; clear f1_ f2_ f3_; subst f4_; subst f5_))
  obtain ⟨Ao31, co31, eo31⟩ := Kd.R_slice HO396.out
  (first | subst eo31 | (injection eo31 with f1_ f2_ f3_; have f4_ := f1_.symm; have f5_ := f3_.symm; clear f1_ f2_ f3_; subst f4_; subst f5_))
  refine start_ (n := 17) (S := fun w' => True) (ds := []) #[false, false, false, false, false, false, false, false, false, false, false, false, false, false, false, false, false] (by kernel_rfl) rfl rfl trivial (fun hHeld => ?_); refine with_tabW laws_FnTexts.tab8 laws_FnTexts.bits8 (fun HT_ HW_ => ?_)
  generalize w16.drew = w29 at HO382 HO385 HO388 HO392 HO396 HB hHeld ⊢
  refine pure_ (i := 0) (N := some 32) (v := _) (a' := _) #[true, false, false, false, false, false, false, false, false, false, false, false, false, false, false, false, false] rfl rfl (any_of HT_.out (by kernel_rfl)) (fun _ _ _ h => h) (Or.inl ⟨by rfl, (by intro w'; go_simp; with_reducible rfl)⟩) z14a ?_
  refine pure_ (i := 1) (N := some 33) (v := _) (a' := _) #[true, true, false, false, false, false, false, false, false, false, false, false, false, false, false, false, false] rfl rfl (any_of HT_.out (by kernel_rfl)) (fun _ _ _ h => h) (Or.inl ⟨by rfl, (by intro w'; go_simp; with_reducible rfl)⟩) z14a ?_
  refine pure_ (i := 2) (N := some 34) (v := _) (a' := _) #[true, true, true, false, false, false, false, false, false, false, false, false, false, false, false, false, false] rfl rfl (any_of HT_.out (by kernel_rfl)) (fun _ _ _ h => h) (Or.inl ⟨by rfl, (by intro w'; go_simp; with_reducible rfl)⟩) z14a ?_
  refine pure_ (i := 3) (N := some 35) (v := _) (a' := _) #[true, true, true, true, false, false, false, false, false, false, false, false, false, false, false, false, false] rfl rfl (any_of HT_.out (by kernel_rfl)) (fun _ _ _ h => h) (Or.inl ⟨by rfl, (by intro w'; go_simp; with_reducible rfl)⟩) z14a ?_
  refine pure_ (i := 4) (N := some 36) (v := _) (a' := _) #[true, true, true, true, true, false, false, false, false, false, false, false, false, false, false, false, false] rfl rfl (any_of HT_.out (by kernel_rfl)) (fun _ _ _ h => h) (Or.inl ⟨by rfl, (by intro w'; go_simp; with_reducible rfl)⟩) z14a ?_
  refine pure_ (i := 5) (N := some 37) (v := _) (a' := _) #[true, true, true, true, true, true, false, false, false, false, false, false, false, false, false, false, false] rfl rfl (any_of HT_.out (by kernel_rfl)) (fun _ _ _ h => h) (Or.inl ⟨by rfl, (by intro w'; go_simp; with_reducible rfl)⟩) z14a ?_
  refine one_ (i := 6) (N := some 38) #[true, true, true, true, true, true, true, false, false, false, false, false, false, false, false, false, false] rfl rfl (one_of HT_.out (by kernel_rfl)) (by decide) (fun K hK => ?_)
  refine goes_ Try.func61 (by kernel_rfl) rfl #[.slice Ao30 t389.length co30, .slice Ao31 t393.length co31] (by rfl) rfl rfl z14c ?_
  with_reducible refine (laws_likeTexts.calls k _ _ t389 _ _ t393 false _ ?side1 ?side2 ?side3 ?side4 A19.out).mono ?_
  (case side1 => exact (by repeat (first | exact (Kd.R_reads' HO392.out).2.2 | (with_reducible refine Kd.C_alloc ?_ _) | (with_reducible refine Kd.C_drewN ?_ _) | (with_reducible refine Kd.C_drew ?_))))
  (case side2 => exact (Kd.R_reads' HO392.out).2.1)
  (case side3 => exact (by repeat (first | exact (Kd.R_reads' HO396.out).2.2 | (with_reducible refine Kd.C_alloc ?_ _) | (with_reducible refine Kd.C_drewN ?_ _) | (with_reducible refine Kd.C_drew ?_))))
  (case side4 => exact (Kd.R_reads' HO396.out).2.1)
  rintro e w' ⟨rfl, ⟨nd, rfl⟩⟩
  refine ⟨_, rfl, ?_⟩
  refine hK.out _ _ trivial (fun hHeld => ?_)
  clear hK K
  refine norm_ (a' := ?_) ?_ ?_
  rotate_left
  {
  show Act.put _ (some 38) _ = _
  simp only [Act.put, List.setIfInBounds_toArray, List.set_cons_zero, List.set_cons_succ, i64_w, i32_w]
  rfl
  }
  refine pure_ (i := 7) (N := some 39) (v := _) (a' := _) #[true, true, true, true, true, true, true, true, false, false, false, false, false, false, false, false, false] rfl rfl (any_of HT_.out (by kernel_rfl)) (fun _ _ _ h => h) (Or.inl ⟨by rfl, (by intro w'; go_simp; with_reducible rfl)⟩) z14a ?_
  refine pure_ (i := 8) (N := some 40) (v := _) (a' := _) #[true, true, true, true, true, true, true, true, true, false, false, false, false, false, false, false, false] rfl rfl (any_of HT_.out (by kernel_rfl)) (fun _ _ _ h => h) (Or.inl ⟨by rfl, (by intro w'; go_simp; with_reducible rfl)⟩) z14a ?_
  refine pure_ (i := 9) (N := some 41) (v := _) (a' := _) #[true, true, true, true, true, true, true, true, true, true, false, false, false, false, false, false, false] rfl rfl (any_of HT_.out (by kernel_rfl)) (fun _ _ _ h => h) (Or.inl ⟨by rfl, (by intro w'; go_simp; with_reducible rfl)⟩) z14a ?_
  refine pure_ (i := 10) (N := some 42) (v := undef) (a' := ?_) #[true, true, true, true, true, true, true, true, true, true, true, false, false, false, false, false, false] rfl rfl (any_of HT_.out (by kernel_rfl)) (fun _ _ _ h => h) (Or.inr ⟨by rfl, rfl⟩) ?_ ?_
  rotate_left
  exact z14a
  refine pure_ (i := 11) (N := some 43) (v := undef) (a' := ?_) #[true, true, true, true, true, true, true, true, true, true, true, true, false, false, false, false, false] rfl rfl (any_of HT_.out (by kernel_rfl)) (fun _ _ _ h => h) (Or.inr ⟨by rfl, rfl⟩) ?_ ?_
  rotate_left
  exact z14a
  refine pure_ (i := 12) (N := some 44) (v := undef) (a' := ?_) #[true, true, true, true, true, true, true, true, true, true, true, true, true, false, false, false, false] rfl rfl (any_of HT_.out (by kernel_rfl)) (fun _ _ _ h => h) (Or.inr ⟨by rfl, rfl⟩) ?_ ?_
  rotate_left
  exact z14a
  refine pure_ (i := 13) (N := some 45) (v := undef) (a' := ?_) #[true, true, true, true, true, true, true, true, true, true, true, true, true, true, false, false, false] rfl rfl (any_of HT_.out (by kernel_rfl)) (fun _ _ _ h => h) (Or.inr ⟨by rfl, rfl⟩) ?_ ?_
  rotate_left
  exact z14a
  refine pure_ (i := 14) (N := some 46) (v := undef) (a' := ?_) #[true, true, true, true, true, true, true, true, true, true, true, true, true, true, true, false, false] rfl rfl (any_of HT_.out (by kernel_rfl)) (fun _ _ _ h => h) (Or.inr ⟨by rfl, rfl⟩) ?_ ?_
  rotate_left
  exact z14a
  refine pure_ (i := 15) (N := some 47) (v := undef) (a' := ?_) #[true, true, true, true, true, true, true, true, true, true, true, true, true, true, true, true, false] rfl rfl (any_of HT_.out (by kernel_rfl)) (fun _ _ _ h => h) (Or.inr ⟨by rfl, rfl⟩) ?_ ?_
  rotate_left
  exact z14a
  refine pure_ (i := 16) (N := some 48) (v := _) (a' := _) #[true, true, true, true, true, true, true, true, true, true, true, true, true, true, true, true, true] rfl rfl (any_of HT_.out (by kernel_rfl)) (fun _ _ _ h => h) (Or.inl ⟨by rfl, (by intro w'; go_simp; with_reducible rfl)⟩) z14a ?_
  refine done_ (done_of HT_.out (by kernel_rfl)) ?_
  try go_wp2
  go_meet
  case rel => exact ⟨_, (true), (by first | rfl | (simp; done) | (simp [*]; done)), H', ⟨by first | omega | exact Nat.le_refl _⟩, ⟨by (with_reducible repeat (first | apply Kd.R_alloc | apply Kd.R_drewN | apply Kd.R_drew)); exact Kd.R_mono HO382.out (fun _ hk => hk.1.2)⟩, ⟨by (with_reducible repeat (first | apply Kd.R_alloc | apply Kd.R_drewN | apply Kd.R_drew)); exact Kd.R_mono HO385.out (fun _ hk => hk.2)⟩, ⟨by (with_reducible repeat (first | apply Kd.R_alloc | apply Kd.R_drewN | apply Kd.R_drew)); exact Kd.R_mono HO388.out (fun _ hk => hk.2)⟩, ⟨by (with_reducible repeat (first | apply Kd.R_alloc | apply Kd.R_drewN | apply Kd.R_drew)); exact Kd.R_mono HO392.out (fun _ hk => hk.1.2)⟩, ⟨by repeat (first | (with_reducible first | exact HB.out | apply below_alloc | apply pw_below_drewN | apply below_drew1) | exact HB.out)⟩⟩
  }
  }
 case rest =>
  clear HC9
  try clear c1
  try clear c2
  try clear p2
  try clear hcv2
  try clear c6
  try clear c17
  try clear c17b0
  try clear c17b1
  try clear c17b2
  try clear c20
  try clear hcv25
  try clear hcv26
  try clear hcv27
  try clear c28
  obtain ⟨kq, x48_8, rfl, HA, HJ8, HO_3, HO_4, HO_5, HO_6, HB⟩ := hcut
  cases kq with
  | zero => exact absurd HA.out (by simp [laws_FnTexts.j0])
  | succ kj8 =>
   have H := HA.out
   clear HA
   simp only [laws_FnTexts.j0] at H
   by_cases c32 : x48_8 = true
   {
   subst c32
   have H1 : (some false) = some r := by rw [if_pos rfl] at H; exact H
   clear H
   have H := H1
   clear H1
   obtain rfl := Option.some.inj H
   go_wp2
   go_ret
   exact ⟨by first | rfl | (simp [errW_none, errW_some] <;> rfl) | (simp [*, errW_none, errW_some] <;> rfl), by repeat (first | (with_reducible first | exact HB.out | apply below_alloc | apply pw_below_drewN | apply below_drew1) | exact HB.out)⟩
   }
   {
   replace c32 := Bool.eq_false_iff.mpr c32
   subst c32
   have H1 : (if (t383.length : Int) > 0 then ((impl_ReadTexts.f kj8 t383).bind fun bt401 => ((laws_pick.f kj8 l0 1 (t383.length : Int)).bind fun t405 => (if 0 ≤ t405 then (if t405 ≤ (t383.length : Int) then ((impl_ReadTexts.f kj8 (t383.take (t405 : Int).toNat)).bind fun bt410 => (if bt401.2 = true then (if bt410.2 = true then (some false) else ((laws_likeTexts.f kj8 bt401.1 t380).bind fun t414 => (if t414 = true then (if t390 = true then ((impl_Texts.f kj8 t389).bind fun t415 => (some ((strOfNums t415).toList == (strOfNums t386).toList))) else (if (t389.length : Int) = 0 then (some true) else (some false))) else (some false)))) else (some false))) else (none)) else (none)))) else (if t390 = true then ((impl_Texts.f kj8 t389).bind fun t418 => (some ((strOfNums t418).toList == (strOfNums t386).toList))) else (if (t389.length : Int) = 0 then (some true) else (some false)))) = some r := by rw [if_neg (show ¬ (false = true) by decide)] at H; exact H
   clear H
   have H := H1
   clear H1
   by_cases c33 : (t383.length : Int) > 0
   {
   rw [if_pos c33] at H
   have c33b0 : decide (0 < (t383.length : Int)) = true := decide_eq_true c33
   have c33b1 : decide (0 < t383.length) = true := decide_eq_true (by omega)
   clear c33
   replace H := Option.bind_eq_some_iff.mp H
   obtain ⟨⟨t401, t402⟩, A340, H⟩ := H
   replace H : ((laws_pick.f kj8 l0 1 (t383.length : Int)).bind fun t405 => (if 0 ≤ t405 then (if t405 ≤ (t383.length : Int) then ((impl_ReadTexts.f kj8 (t383.take (t405 : Int).toNat)).bind fun bt410 => (if t402 = true then (if bt410.2 = true then (some false) else ((laws_likeTexts.f kj8 t401 t380).bind fun t414 => (if t414 = true then (if t390 = true then ((impl_Texts.f kj8 t389).bind fun t415 => (some ((strOfNums t415).toList == (strOfNums t386).toList))) else (if (t389.length : Int) = 0 then (some true) else (some false))) else (some false)))) else (some false))) else (none)) else (none))) = some r := H
   have A34 := Aside0.mk A340
   clear A340
   replace H := Option.bind_eq_some_iff.mp H
   obtain ⟨t405, A350, H⟩ := H
   replace H : (if 0 ≤ t405 then (if t405 ≤ (t383.length : Int) then ((impl_ReadTexts.f kj8 (t383.take (t405 : Int).toNat)).bind fun bt410 => (if t402 = true then (if bt410.2 = true then (some false) else ((laws_likeTexts.f kj8 t401 t380).bind fun t414 => (if t414 = true then (if t390 = true then ((impl_Texts.f kj8 t389).bind fun t415 => (some ((strOfNums t415).toList == (strOfNums t386).toList))) else (if (t389.length : Int) = 0 then (some true) else (some false))) else (some false)))) else (some false))) else (none)) else (none)) = some r := H
   have A35 := Aside0.mk A350
   clear A350
   by_cases c36 : 0 ≤ t405
   {
   rw [if_pos c36] at H
   have c36b0 := eq_true c36
   have c36b1 : decide (0 ≤ t405) = true := decide_eq_true c36
   clear c36
   by_cases c37 : t405 ≤ (t383.length : Int)
   {
   rw [if_pos c37] at H
   have c37b0 := eq_true c37
   have c37b1 : decide (t405 ≤ (t383.length : Int)) = true := decide_eq_true c37
   clear c37
   obtain ⟨y406, hy406⟩ : ∃ y_ : List Int, y_ = (t383.take (t405 : Int).toNat) := ⟨_, rfl⟩
   replace H : ((impl_ReadTexts.f kj8 y406).bind fun bt410 => (if t402 = true then (if bt410.2 = true then (some false) else ((laws_likeTexts.f kj8 t401 t380).bind fun t414 => (if t414 = true then (if t390 = true then ((impl_Texts.f kj8 t389).bind fun t415 => (some ((strOfNums t415).toList == (strOfNums t386).toList))) else (if (t389.length : Int) = 0 then (some true) else (some false))) else (some false)))) else (some false))) = some r := by first | (rw [hy406]; with_reducible exact H) | (have H2_ := (Option.bind_some _ _).symm.trans H; rw [hy406]; with_reducible exact H2_) | (have H2_ := (Option.bind_some _ _).symm.trans H; with_reducible exact H2_) | with_reducible exact H | (rw [hy406]; exact H) | exact H
   have Ny406 := Aside0.mk hy406
   clear hy406
   replace H := Option.bind_eq_some_iff.mp H
   obtain ⟨⟨t410, t411⟩, A380, H⟩ := H
   replace H : (if t402 = true then (if t411 = true then (some false) else ((laws_likeTexts.f kj8 t401 t380).bind fun t414 => (if t414 = true then (if t390 = true then ((impl_Texts.f kj8 t389).bind fun t415 => (some ((strOfNums t415).toList == (strOfNums t386).toList))) else (if (t389.length : Int) = 0 then (some true) else (some false))) else (some false)))) else (some false)) = some r := H
   have A38 := Aside0.mk A380
   clear A380
   by_cases c39 : t402 = true
   {
   subst c39
   have H1 : (if t411 = true then (some false) else ((laws_likeTexts.f kj8 t401 t380).bind fun t414 => (if t414 = true then (if t390 = true then ((impl_Texts.f kj8 t389).bind fun t415 => (some ((strOfNums t415).toList == (strOfNums t386).toList))) else (if (t389.length : Int) = 0 then (some true) else (some false))) else (some false)))) = some r := by rw [if_pos rfl] at H; exact H
   clear H
   have H := H1
   clear H1
   by_cases c40 : t411 = true
   {
   subst c40
   have H1 : (some false) = some r := by rw [if_pos rfl] at H; exact H
   clear H
   have H := H1
   clear H1
   obtain rfl := Option.some.inj H
   obtain ⟨Ao41, co41, eo41⟩ := Kd.R_slice HO_4.out
   subst eo41
   go_wp2_with (first | ((with_reducible refine gate_callee (f := 34) rfl ?_); refine goesL_ (some 54) rfl rfl Try.func34 (by kernel_rfl) rfl #[.slice Ao41 t383.length co41] rfl z14c ?_; (with_reducible refine (impl_ReadTexts.calls kj8 _ _ t383 t401 true _ ?side1 ?side2 A34.out).mono ?_); (case side1 => exact z14k); (case side2 => exact (Kd.R_reads' HO_4.out).2.1); rintro e w42 ⟨v403, rfl, ho0, hb⟩; refine ⟨_, rfl, ?_⟩; have n0_ := Aside0.mk (Kd.R_elder' z14d (Kd.R_base ho0) hb); have n1_ := Aside0.mk (Kd.R_below z14g hb); have n2_ := Aside0.mk (Kd.R_below z14h hb); have n3_ := Aside0.mk (Kd.R_elder' z14e (Kd.R_base ho0) hb); have n4_ := Aside0.mk (Kd.R_lower (Kd.R_new' (Kd.R_new' ho0 (Kd.R_lt z14d)) (Kd.R_lt z14e)) (below_size z14b)); have n5_ := Aside0.mk (below_step z14b hb); clear HO_3; clear HO_4; clear HO_5; clear HO_6; clear HB; have HO_3 := n0_; have HO_4 := n1_; have HO_5 := n2_; have HO_6 := n3_; have HO404 := n4_; have HB := n5_; clear n0_ n1_ n2_ n3_ n4_ n5_; (try clear hb); (try clear hb2); (try clear hk); (try clear hi); (try clear ho0)) | ((with_reducible refine gate_callee (f := 62) rfl ?_); refine goesL_ (some 62) rfl rfl Try.func62 (by kernel_rfl) rfl #[.slice A0 l0.length c0, .int .i64 1, .int .i64 (t383.length : Int)] rfl z14c ?_; (with_reducible refine (laws_pick.calls kj8 _ _ l0 1 (t383.length : Int) t405 _ ?side1 ?side2 A35.out).mono ?_); (case side1 => exact z14j); (case side2 => exact HC0.out); rintro e w' ⟨rfl, ⟨nd, rfl⟩⟩; refine ⟨_, rfl, ?_⟩; have q43 : (t405 : Int) ≤ ((t383.length : Int) : Int) := of_decide_eq_true z14r; obtain ⟨i043, hi043, _, hsz43, _⟩ := info_parts info5; have hroom43 : t383.length ≤ co41 := (Kd.R_reads' HO_4.out).2.1; have hC43 : Kd.C (Kd.int .u8) _ Ao41 t383.length t383 := (Kd.R_reads' HO_4.out).2.2; have hcut43 := cut_to (P := Try.prog) 22 5 .i64 Try.underlying22 hi043 Ao41 t383.length co41 t405 (of_decide_eq_true z14r) q43 hroom43; have hr43 := Kd.C_take (m := (t405 : Int).toNat) hC43 (by omega); have hy43 : y406.length = (t405 : Int).toNat := (by rw [Ny406.out, List.length_take]; omega); rw [← Ny406.out] at hr43; rw [← hy43] at hcut43; have HR409 := Aside0.mk hr43; have HC409 := Aside0.mk (show y406.length ≤ co41 from (by omega)); clear hr43 hC43 hroom43 hi043 hsz43; have KY43 := Aside0.mk hy43; clear hy43; have KL43 := Aside0.mk (show (t405 : Int).toNat ≤ t383.length from (by omega)); replace q43 := eq_true q43) | ((with_reducible refine gate_callee (f := 34) rfl ?_); refine goesL_ (some 64) rfl rfl Try.func34 (by kernel_rfl) rfl #[.slice Ao41 y406.length co41] rfl z14c ?_; (with_reducible refine (impl_ReadTexts.calls kj8 _ _ y406 t410 true _ ?side1 ?side2 A38.out).mono ?_); (case side1 => repeat (first | exact z14f | (with_reducible refine Kd.C_alloc ?_ _) | (with_reducible refine Kd.C_drewN ?_ _) | (with_reducible refine Kd.C_drew ?_))); (case side2 => exact HC409.out); rintro e w44 ⟨v412, rfl, ho0, hb⟩; refine ⟨_, rfl, ?_⟩; have n0_ := Aside0.mk (Kd.R_elder' z14d (Kd.R_base ho0) hb); have n1_ := Aside0.mk (Kd.R_below z14g hb); have n2_ := Aside0.mk (Kd.R_below z14h hb); have n3_ := Aside0.mk (Kd.R_elder' z14e (Kd.R_base ho0) hb); have n4_ := Aside0.mk (Kd.R_elder' z14i (Kd.R_base ho0) hb); have n5_ := Aside0.mk (Kd.R_lower (Kd.R_new' (Kd.R_new' (Kd.R_new' ho0 (Kd.R_lt z14d)) (Kd.R_lt z14e)) (Kd.R_lt z14i)) (below_size z14b)); have n6_ := Aside0.mk (Kd.C_below z14f hb); have n7_ := Aside0.mk (below_step z14b hb); clear HO_3; clear HO_4; clear HO_5; clear HO_6; clear HO404; clear HR409; clear HB; have HO_3 := n0_; have HO_4 := n1_; have HO_5 := n2_; have HO_6 := n3_; have HO404 := n4_; have HO413 := n5_; have HR409 := n6_; have HB := n7_; clear n0_ n1_ n2_ n3_ n4_ n5_ n6_ n7_; (try clear hb); (try clear hb2); (try clear hk); (try clear hi); (try clear ho0)))
   go_ret
   exact ⟨by first | rfl | (simp [errW_none, errW_some] <;> rfl) | (simp [*, errW_none, errW_some] <;> rfl), by repeat (first | (with_reducible first | exact HB.out | apply below_alloc | apply pw_below_drewN | apply below_drew1) | exact HB.out)⟩
   }
   {
   replace c40 := Bool.eq_false_iff.mpr c40
   subst c40
   have H1 : ((laws_likeTexts.f kj8 t401 t380).bind fun t414 => (if t414 = true then (if t390 = true then ((impl_Texts.f kj8 t389).bind fun t415 => (some ((strOfNums t415).toList == (strOfNums t386).toList))) else (if (t389.length : Int) = 0 then (some true) else (some false))) else (some false))) = some r := by rw [if_neg (show ¬ (false = true) by decide)] at H; exact H
   clear H
   have H := H1
   clear H1
   replace H := Option.bind_eq_some_iff.mp H
   obtain ⟨t414, A450, H⟩ := H
   replace H : (if t414 = true then (if t390 = true then ((impl_Texts.f kj8 t389).bind fun t415 => (some ((strOfNums t415).toList == (strOfNums t386).toList))) else (if (t389.length : Int) = 0 then (some true) else (some false))) else (some false)) = some r := H
   have A45 := Aside0.mk A450
   clear A450
   by_cases c46 : t414 = true
   {
   subst c46
   have H1 : (if t390 = true then ((impl_Texts.f kj8 t389).bind fun t415 => (some ((strOfNums t415).toList == (strOfNums t386).toList))) else (if (t389.length : Int) = 0 then (some true) else (some false))) = some r := by rw [if_pos rfl] at H; exact H
   clear H
   have H := H1
   clear H1
   by_cases c47 : t390 = true
   {
   subst c47
   have H1 : ((impl_Texts.f kj8 t389).bind fun t415 => (some ((strOfNums t415).toList == (strOfNums t386).toList))) = some r := by rw [if_pos rfl] at H; exact H
   clear H
   have H := H1
   clear H1
   replace H := Option.bind_eq_some_iff.mp H
   obtain ⟨t415, A480, H⟩ := H
   replace H : (some ((strOfNums t415).toList == (strOfNums t386).toList)) = some r := H
   have A48 := Aside0.mk A480
   clear A480
   obtain rfl := Option.some.inj H
   obtain ⟨Ao49, co49, eo49⟩ := Kd.R_slice HO_4.out
   subst eo49
   try go_wp2_with (first | ((with_reducible refine gate_callee (f := 34) rfl ?_); refine goesL_ (some 54) rfl rfl Try.func34 (by kernel_rfl) rfl #[.slice Ao49 t383.length co49] rfl z14c ?_; (with_reducible refine (impl_ReadTexts.calls kj8 _ _ t383 t401 true _ ?side1 ?side2 A34.out).mono ?_); (case side1 => exact z14k); (case side2 => exact (Kd.R_reads' HO_4.out).2.1); rintro e w50 ⟨v403, rfl, ho0, hb⟩; refine ⟨_, rfl, ?_⟩; have n0_ := Aside0.mk (Kd.R_elder' z14d (Kd.R_base ho0) hb); have n1_ := Aside0.mk (Kd.R_below z14g hb); have n2_ := Aside0.mk (Kd.R_below z14h hb); have n3_ := Aside0.mk (Kd.R_elder' z14e (Kd.R_base ho0) hb); have n4_ := Aside0.mk (Kd.R_lower (Kd.R_new' (Kd.R_new' ho0 (Kd.R_lt z14d)) (Kd.R_lt z14e)) (below_size z14b)); have n5_ := Aside0.mk (below_step z14b hb); clear HO_3; clear HO_4; clear HO_5; clear HO_6; clear HB; have HO_3 := n0_; have HO_4 := n1_; have HO_5 := n2_; have HO_6 := n3_; have HO404 := n4_; have HB := n5_; clear n0_ n1_ n2_ n3_ n4_ n5_; (try clear hb); (try clear hb2); (try clear hk); (try clear hi); (try clear ho0)) | ((with_reducible refine gate_callee (f := 62) rfl ?_); refine goesL_ (some 62) rfl rfl Try.func62 (by kernel_rfl) rfl #[.slice A0 l0.length c0, .int .i64 1, .int .i64 (t383.length : Int)] rfl z14c ?_; (with_reducible refine (laws_pick.calls kj8 _ _ l0 1 (t383.length : Int) t405 _ ?side1 ?side2 A35.out).mono ?_); (case side1 => exact z14j); (case side2 => exact HC0.out); rintro e w' ⟨rfl, ⟨nd, rfl⟩⟩; refine ⟨_, rfl, ?_⟩; have q51 : (t405 : Int) ≤ ((t383.length : Int) : Int) := of_decide_eq_true z14r; obtain ⟨i051, hi051, _, hsz51, _⟩ := info_parts info5; have hroom51 : t383.length ≤ co49 := (Kd.R_reads' HO_4.out).2.1; have hC51 : Kd.C (Kd.int .u8) _ Ao49 t383.length t383 := (Kd.R_reads' HO_4.out).2.2; have hcut51 := cut_to (P := Try.prog) 22 5 .i64 Try.underlying22 hi051 Ao49 t383.length co49 t405 (of_decide_eq_true z14r) q51 hroom51; have hr51 := Kd.C_take (m := (t405 : Int).toNat) hC51 (by omega); have hy51 : y406.length = (t405 : Int).toNat := (by rw [Ny406.out, List.length_take]; omega); rw [← Ny406.out] at hr51; rw [← hy51] at hcut51; have HR409 := Aside0.mk hr51; have HC409 := Aside0.mk (show y406.length ≤ co49 from (by omega)); clear hr51 hC51 hroom51 hi051 hsz51; have KY51 := Aside0.mk hy51; clear hy51; have KL51 := Aside0.mk (show (t405 : Int).toNat ≤ t383.length from (by omega)); replace q51 := eq_true q51) | ((with_reducible refine gate_callee (f := 34) rfl ?_); refine goesL_ (some 64) rfl rfl Try.func34 (by kernel_rfl) rfl #[.slice Ao49 y406.length co49] rfl z14c ?_; (with_reducible refine (impl_ReadTexts.calls kj8 _ _ y406 t410 false _ ?side1 ?side2 A38.out).mono ?_); (case side1 => repeat (first | exact z14f | (with_reducible refine Kd.C_alloc ?_ _) | (with_reducible refine Kd.C_drewN ?_ _) | (with_reducible refine Kd.C_drew ?_))); (case side2 => exact HC409.out); rintro e w52 ⟨v412, rfl, ho0, hb⟩; refine ⟨_, rfl, ?_⟩; have n0_ := Aside0.mk (Kd.R_elder' z14d (Kd.R_base ho0) hb); have n1_ := Aside0.mk (Kd.R_below z14g hb); have n2_ := Aside0.mk (Kd.R_below z14h hb); have n3_ := Aside0.mk (Kd.R_elder' z14e (Kd.R_base ho0) hb); have n4_ := Aside0.mk (Kd.R_elder' z14i (Kd.R_base ho0) hb); have n5_ := Aside0.mk (Kd.R_lower (Kd.R_new' (Kd.R_new' (Kd.R_new' ho0 (Kd.R_lt z14d)) (Kd.R_lt z14e)) (Kd.R_lt z14i)) (below_size z14b)); have n6_ := Aside0.mk (Kd.C_below z14f hb); have n7_ := Aside0.mk (below_step z14b hb); clear HO_3; clear HO_4; clear HO_5; clear HO_6; clear HO404; clear HR409; clear HB; have HO_3 := n0_; have HO_4 := n1_; have HO_5 := n2_; have HO_6 := n3_; have HO404 := n4_; have HO413 := n5_; have HR409 := n6_; have HB := n7_; clear n0_ n1_ n2_ n3_ n4_ n5_ n6_ n7_; (try clear hb); (try clear hb2); (try clear hk); (try clear hi); (try clear ho0); obtain ⟨Ao53, co53, eo53⟩ := Kd.R_slice HO404.out; subst eo53) | (go_at_call 61; (with_reducible refine (laws_likeTexts.calls kj8 _ _ t401 _ _ t380 true _ ?side1 ?side2 ?side3 ?side4 A45.out).mono ?_); (case side1 => exact z14s); (case side2 => exact (Kd.R_reads' HO404.out).2.1); (case side3 => exact z14u); (case side4 => exact (Kd.R_reads' HO_3.out).2.1); rintro e w' ⟨rfl, ⟨nd, rfl⟩⟩; obtain ⟨Ao54, co54, eo54⟩ := Kd.R_slice HO_6.out; subst eo54))
   have n0_ : Aside0 (Kd.R Kd.string 9 w52 w.heap.size (fun k_ => some k_ ≠ (v412 : Value).ownBlock ∧ some k_ ≠ (.slice Ao11 t380.length co11 : Value).ownBlock ∧ some k_ ≠ (.slice Ao54 t389.length co54 : Value).ownBlock) (.slice Ao53 t401.length co53) t401) := ⟨(by (with_reducible repeat (first | apply Kd.R_alloc | apply Kd.R_drewN | apply Kd.R_drew)); exact Kd.R_mono HO404.out (fun _ hk => ⟨hk.2, ⟨hk.1.1.2, hk.1.2⟩⟩))⟩
   have n1_ : Aside0 (Kd.R Kd.string 9 w52 w.heap.size (fun k_ => some k_ ≠ (.slice Ao53 t401.length co53 : Value).ownBlock ∧ some k_ ≠ (.slice Ao11 t380.length co11 : Value).ownBlock ∧ some k_ ≠ (.slice Ao54 t389.length co54 : Value).ownBlock) v412 t410) := ⟨(by (with_reducible repeat (first | apply Kd.R_alloc | apply Kd.R_drewN | apply Kd.R_drew)); exact Kd.R_mono HO413.out (fun _ hk => ⟨hk.2, ⟨hk.1.1.2, hk.1.2⟩⟩))⟩
   have n2_ : Aside0 (Kd.R Kd.string 9 w52 w.heap.size (fun k_ => some k_ ≠ (.slice Ao53 t401.length co53 : Value).ownBlock ∧ some k_ ≠ (v412 : Value).ownBlock ∧ some k_ ≠ (.slice Ao54 t389.length co54 : Value).ownBlock) (.slice Ao11 t380.length co11) t380) := ⟨(by (with_reducible repeat (first | apply Kd.R_alloc | apply Kd.R_drewN | apply Kd.R_drew)); exact Kd.R_mono HO_3.out (fun _ hk => ⟨hk.1.2, ⟨hk.2, hk.1.1⟩⟩))⟩
   have n3_ : Aside0 (Kd.R Kd.string 9 w52 w.heap.size (fun k_ => some k_ ≠ (.slice Ao53 t401.length co53 : Value).ownBlock ∧ some k_ ≠ (v412 : Value).ownBlock ∧ some k_ ≠ (.slice Ao11 t380.length co11 : Value).ownBlock) (.slice Ao54 t389.length co54) t389) := ⟨(by (with_reducible repeat (first | apply Kd.R_alloc | apply Kd.R_drewN | apply Kd.R_drew)); exact Kd.R_mono HO_6.out (fun _ hk => ⟨hk.1.2, ⟨hk.2, hk.1.1⟩⟩))⟩
   clear HO404 HO413 HO_3 HO_6
   have HO404 := n0_
   have HO413 := n1_
   have HO_3 := n2_
   have HO_6 := n3_
   clear n0_ n1_ n2_ n3_
   (try (rw [drewN_self w52]; generalize hq_ : World.drewN w52 _ = w52; have n0_ : Aside0 (Kd.R Kd.string 9 w52 w.heap.size (fun k_ => some k_ ≠ (v412 : Value).ownBlock ∧ some k_ ≠ (.slice Ao11 t380.length co11 : Value).ownBlock ∧ some k_ ≠ (.slice Ao54 t389.length co54 : Value).ownBlock) (.slice Ao53 t401.length co53) t401) := ⟨by rw [← hq_]; exact z14i⟩; have n1_ : Aside0 (Kd.R Kd.string 9 w52 w.heap.size (fun k_ => some k_ ≠ (.slice Ao53 t401.length co53 : Value).ownBlock ∧ some k_ ≠ (.slice Ao11 t380.length co11 : Value).ownBlock ∧ some k_ ≠ (.slice Ao54 t389.length co54 : Value).ownBlock) v412 t410) := ⟨by rw [← hq_]; exact z14o⟩; have n2_ : Aside0 (Kd.R Kd.string 9 w52 w.heap.size (fun k_ => some k_ ≠ (.slice Ao53 t401.length co53 : Value).ownBlock ∧ some k_ ≠ (v412 : Value).ownBlock ∧ some k_ ≠ (.slice Ao54 t389.length co54 : Value).ownBlock) (.slice Ao11 t380.length co11) t380) := ⟨by rw [← hq_]; exact z14d⟩; have n3_ : Aside0 (Kd.R (Kd.int .u8) 5 w52 w.heap.size (fun k_ => some k_ ≠ (.slice Ao14 t386.length co14 : Value).ownBlock) (.slice Ao49 t383.length co49) t383) := ⟨by rw [← hq_]; exact z14g⟩; have n4_ : Aside0 (Kd.R (Kd.int .u8) 5 w52 w.heap.size (fun k_ => some k_ ≠ (.slice Ao49 t383.length co49 : Value).ownBlock) (.slice Ao14 t386.length co14) t386) := ⟨by rw [← hq_]; exact z14h⟩; have n5_ : Aside0 (Kd.R Kd.string 9 w52 w.heap.size (fun k_ => some k_ ≠ (.slice Ao53 t401.length co53 : Value).ownBlock ∧ some k_ ≠ (v412 : Value).ownBlock ∧ some k_ ≠ (.slice Ao11 t380.length co11 : Value).ownBlock) (.slice Ao54 t389.length co54) t389) := ⟨by rw [← hq_]; exact z14e⟩; have n6_ : Aside0 (Below w.heap.size w w52) := ⟨by rw [← hq_]; exact z14b⟩; have n7_ : Aside0 (Kd.C (Kd.int .u8) w52 Ao49 y406.length y406) := ⟨by rw [← hq_]; exact z14f⟩; clear HO404 HO413 HO_3 HO_4 HO_5 HO_6 HB HR409 hq_; have HO404 := n0_; have HO413 := n1_; have HO_3 := n2_; have HO_4 := n3_; have HO_5 := n4_; have HO_6 := n5_; have HB := n6_; have HR409 := n7_; clear n0_ n1_ n2_ n3_ n4_ n5_ n6_ n7_))
   have n0_ := Aside0.mk (Kd.R_drew HO_3.out)
   have n1_ := Aside0.mk (Kd.R_drew HO_4.out)
   have n2_ := Aside0.mk (Kd.R_drew HO_5.out)
   have n3_ := Aside0.mk (Kd.R_drew HO_6.out)
   have n4_ := Aside0.mk (Kd.R_drew HO404.out)
   have n5_ := Aside0.mk (Kd.R_drew HO413.out)
   have n6_ := Aside0.mk (Kd.C_drew HR409.out)
   have n7_ := Aside0.mk (below_drew1 HB.out)
   clear HO_3
   clear HO_4
   clear HO_5
   clear HO_6
   clear HO404
   clear HO413
   clear HR409
   clear HB
   have HO_3 := n0_
   have HO_4 := n1_
   have HO_5 := n2_
   have HO_6 := n3_
   have HO404 := n4_
   have HO413 := n5_
   have HR409 := n6_
   have HB := n7_
   clear n0_ n1_ n2_ n3_ n4_ n5_ n6_ n7_
   refine start_ (n := 19) (S := fun w' => True) (ds := []) #[false, false, false, false, false, false, false, false, false, false, false, false, false, false, false, false, false, false, false] (by kernel_rfl) rfl rfl trivial (fun hHeld => ?_); refine with_tabW laws_FnTexts.tab15 laws_FnTexts.bits15 (fun HT_ HW_ => ?_)
   generalize w52.drew = w55 at HO_3 HO_4 HO_5 HO_6 HO404 HO413 HR409 HB hHeld ⊢
   refine pure_ (i := 0) (N := some 78) (v := _) (a' := _) #[true, false, false, false, false, false, false, false, false, false, false, false, false, false, false, false, false, false, false] rfl rfl (any_of HT_.out (by kernel_rfl)) (fun _ _ _ h => h) (Or.inl ⟨by rfl, (by intro w'; go_simp; with_reducible rfl)⟩) z14a ?_
   refine pure_ (i := 1) (N := some 79) (v := _) (a' := _) #[true, true, false, false, false, false, false, false, false, false, false, false, false, false, false, false, false, false, false] rfl rfl (any_of HT_.out (by kernel_rfl)) (fun _ _ _ h => h) (Or.inl ⟨by rfl, (by intro w'; go_simp; with_reducible rfl)⟩) z14a ?_
   refine pure_ (i := 2) (N := some 80) (v := _) (a' := _) #[true, true, true, false, false, false, false, false, false, false, false, false, false, false, false, false, false, false, false] rfl rfl (any_of HT_.out (by kernel_rfl)) (fun _ _ _ h => h) (Or.inl ⟨by rfl, (by intro w'; go_simp; with_reducible rfl)⟩) z14a ?_
   refine pure_ (i := 3) (N := some 81) (v := undef) (a' := ?_) #[true, true, true, true, false, false, false, false, false, false, false, false, false, false, false, false, false, false, false] rfl rfl (any_of HT_.out (by kernel_rfl)) (fun _ _ _ h => h) (Or.inr ⟨by rfl, rfl⟩) ?_ ?_
   rotate_left
   exact z14a
   refine pure_ (i := 4) (N := some 82) (v := undef) (a' := ?_) #[true, true, true, true, true, false, false, false, false, false, false, false, false, false, false, false, false, false, false] rfl rfl (any_of HT_.out (by kernel_rfl)) (fun _ _ _ h => h) (Or.inr ⟨by rfl, rfl⟩) ?_ ?_
   rotate_left
   exact z14a
   refine pure_ (i := 5) (N := some 83) (v := undef) (a' := ?_) #[true, true, true, true, true, true, false, false, false, false, false, false, false, false, false, false, false, false, false] rfl rfl (any_of HT_.out (by kernel_rfl)) (fun _ _ _ h => h) (Or.inr ⟨by rfl, rfl⟩) ?_ ?_
   rotate_left
   exact z14a
   refine pure_ (i := 6) (N := some 84) (v := _) (a' := _) #[true, true, true, true, true, true, true, false, false, false, false, false, false, false, false, false, false, false, false] rfl rfl (any_of HT_.out (by kernel_rfl)) (fun _ _ _ h => h) (Or.inl ⟨by rfl, (by intro w'; go_simp; with_reducible rfl)⟩) z14a ?_
   refine pure_ (i := 7) (N := some 85) (v := _) (a' := _) #[true, true, true, true, true, true, true, true, false, false, false, false, false, false, false, false, false, false, false] rfl rfl (any_of HT_.out (by kernel_rfl)) (fun _ _ _ h => h) (Or.inl ⟨by rfl, (by intro w'; go_simp; with_reducible rfl)⟩) z14a ?_
   refine pure_ (i := 8) (N := some 86) (v := _) (a' := _) #[true, true, true, true, true, true, true, true, true, false, false, false, false, false, false, false, false, false, false] rfl rfl (any_of HT_.out (by kernel_rfl)) (fun _ _ _ h => h) (Or.inl ⟨by rfl, (by intro w'; go_simp; with_reducible rfl)⟩) z14a ?_
   refine pure_ (i := 9) (N := some 87) (v := _) (a' := _) #[true, true, true, true, true, true, true, true, true, true, false, false, false, false, false, false, false, false, false] rfl rfl (any_of HT_.out (by kernel_rfl)) (fun _ _ _ h => h) (Or.inl ⟨by rfl, (by intro w'; go_simp; with_reducible rfl)⟩) z14a ?_
   refine pure_ (i := 10) (N := some 88) (v := _) (a' := _) #[true, true, true, true, true, true, true, true, true, true, true, false, false, false, false, false, false, false, false] rfl rfl (any_of HT_.out (by kernel_rfl)) (fun _ _ _ h => h) (Or.inl ⟨by rfl, (by intro w'; go_simp; with_reducible rfl)⟩) z14a ?_
   refine pure_ (i := 13) (N := some 91) (v := _) (a' := _) #[true, true, true, true, true, true, true, true, true, true, true, false, false, true, false, false, false, false, false] rfl rfl (any_of HT_.out (by kernel_rfl)) (fun _ _ _ h => h) (Or.inl ⟨by rfl, (by intro w'; go_simp; with_reducible rfl)⟩) z14a ?_
   refine join_ (σ := Value) 4 #[true, true, true, true, true, true, true, true, true, true, true, true, true, true, true, false, false, false, false] (fun s_ => [(89, s_), (90, .string (strOfNums t415)), (92, .string (strOfNums t386))]) (fun s_ w' => (Kd.R Kd.string 9 w' w.heap.size (fun k_ => some k_ ≠ (v412 : Value).ownBlock ∧ some k_ ≠ (.slice Ao11 t380.length co11 : Value).ownBlock ∧ some k_ ≠ (.slice Ao54 t389.length co54 : Value).ownBlock) (.slice Ao53 t401.length co53) t401) ∧ (Kd.R Kd.string 9 w' w.heap.size (fun k_ => some k_ ≠ (.slice Ao53 t401.length co53 : Value).ownBlock ∧ some k_ ≠ (.slice Ao11 t380.length co11 : Value).ownBlock ∧ some k_ ≠ (.slice Ao54 t389.length co54 : Value).ownBlock) v412 t410) ∧ (Kd.R (Kd.int .u8) 5 w' w.heap.size (fun k_ => some k_ ≠ (.slice Ao49 t383.length co49 : Value).ownBlock ∧ some k_ ≠ (.slice Ao14 t386.length co14 : Value).ownBlock) s_ t415) ∧ (Kd.R Kd.string 9 w' w.heap.size (fun k_ => some k_ ≠ (.slice Ao53 t401.length co53 : Value).ownBlock ∧ some k_ ≠ (v412 : Value).ownBlock ∧ some k_ ≠ (.slice Ao54 t389.length co54 : Value).ownBlock) (.slice Ao11 t380.length co11) t380) ∧ (Kd.R (Kd.int .u8) 5 w' w.heap.size (fun k_ => some k_ ≠ (s_ : Value).ownBlock ∧ some k_ ≠ (.slice Ao14 t386.length co14 : Value).ownBlock) (.slice Ao49 t383.length co49) t383) ∧ (Kd.R (Kd.int .u8) 5 w' w.heap.size (fun k_ => some k_ ≠ (s_ : Value).ownBlock ∧ some k_ ≠ (.slice Ao49 t383.length co49 : Value).ownBlock) (.slice Ao14 t386.length co14) t386) ∧ (Kd.R Kd.string 9 w' w.heap.size (fun k_ => some k_ ≠ (.slice Ao53 t401.length co53 : Value).ownBlock ∧ some k_ ≠ (v412 : Value).ownBlock ∧ some k_ ≠ (.slice Ao11 t380.length co11 : Value).ownBlock) (.slice Ao54 t389.length co54) t389) ∧ (Below w.heap.size w w')) ?_ ?_
   rotate_left
   {
   intro hCont
   refine two_ (i := 11) (j := 14) (Ni := some 89) (Nj := some 92) #[true, true, true, true, true, true, true, true, true, true, true, true, false, true, false, false, false, false, false] #[true, true, true, true, true, true, true, true, true, true, true, false, false, true, true, false, false, false, false] rfl rfl rfl rfl (two_of HT_.out (by kernel_rfl)) (by decide) (by decide) (fun K hK => ?_) (fun K hK => ?_)
   {
   skip
   refine goes_ Try.func30 (by kernel_rfl) rfl #[.slice Ao54 t389.length co54] (by rfl) rfl rfl z14c ?_
   with_reducible refine (impl_Texts.calls kj8 _ _ t389 t415 _ ?side1 ?side2 A48.out).mono ?_
   (case side1 => exact z14v)
   (case side2 => exact (Kd.R_reads' HO_6.out).2.1)
   rintro e w56 ⟨v416, rfl, ho0, hb⟩
   refine ⟨_, rfl, ?_⟩
   have n0_ := Aside0.mk (Kd.R_below z14d hb)
   have n1_ := Aside0.mk (Kd.R_elder' z14g (Kd.R_base ho0) hb)
   have n2_ := Aside0.mk (Kd.R_elder' z14h (Kd.R_base ho0) hb)
   have n3_ := Aside0.mk (Kd.R_below z14e hb)
   have n4_ := Aside0.mk (Kd.R_below z14i hb)
   have n5_ := Aside0.mk (Kd.R_below z14o hb)
   have n6_ := Aside0.mk (Kd.R_lower (Kd.R_new' (Kd.R_new' ho0 (Kd.R_lt z14g)) (Kd.R_lt z14h)) (below_size z14b))
   have n7_ := Aside0.mk (Kd.C_below z14f hb)
   have n8_ := Aside0.mk (below_step z14b hb)
   clear HO_3
   clear HO_4
   clear HO_5
   clear HO_6
   clear HO404
   clear HO413
   clear HR409
   clear HB
   have HO_3 := n0_
   have HO_4 := n1_
   have HO_5 := n2_
   have HO_6 := n3_
   have HO404 := n4_
   have HO413 := n5_
   have HO417 := n6_
   have HR409 := n7_
   have HB := n8_
   clear n0_ n1_ n2_ n3_ n4_ n5_ n6_ n7_ n8_
   (try clear hb)
   (try clear hb2)
   (try clear hk)
   (try clear hi)
   (try clear ho0)
   refine hK.out _ _ trivial (fun hHeld => ?_)
   clear hK K
   refine norm_ (a' := ?_) ?_ ?_
   rotate_left
   {
   show Act.put _ (some 89) _ = _
   simp only [Act.put, List.setIfInBounds_toArray, List.set_cons_zero, List.set_cons_succ, i64_w, i32_w]
   rfl
   }
   refine two_ (i := 12) (j := 14) (Ni := some 90) (Nj := some 92) #[true, true, true, true, true, true, true, true, true, true, true, true, true, true, false, false, false, false, false] #[true, true, true, true, true, true, true, true, true, true, true, true, false, true, true, false, false, false, false] rfl rfl rfl rfl (two_of HT_.out (by kernel_rfl)) (by decide) (by decide) (fun K hK => ?_) (fun K hK => ?_)
   {
   skip
   have hcv57 := own_string (P := Try.prog) Try.underlying22 Try.underlying5 Try.underlying9 (Kd.own_of_R HO417.out)
   refine value_ (w1 := ?_) (v := ?_) (by rfl) rfl ?_ ?_
   rotate_left 2
   {
   go_simp
   constructor
   {
   rfl
   }
   {
   rfl
   }
   }
   clear hcv57
   refine hK.out _ _ trivial (fun hHeld => ?_)
   clear hK K
   refine norm_ (a' := ?_) ?_ ?_
   rotate_left
   {
   show Act.put _ (some 90) _ = _
   simp only [Act.put, List.setIfInBounds_toArray, List.set_cons_zero, List.set_cons_succ, i64_w, i32_w]
   rfl
   }
   refine one_ (i := 14) (N := some 92) #[true, true, true, true, true, true, true, true, true, true, true, true, true, true, true, false, false, false, false] rfl rfl (one_of HT_.out (by kernel_rfl)) (by decide) (fun K hK => ?_)
   have hcv58 := own_string (P := Try.prog) Try.underlying22 Try.underlying5 Try.underlying9 (Kd.own_of_R HO_5.out); have hcv58d := fun (nq_ : Nat) => own_string (P := Try.prog) Try.underlying22 Try.underlying5 Try.underlying9 (Kd.own_of_R (Kd.R_drewN HO_5.out nq_))
   refine value_ (w1 := ?_) (v := ?_) (by rfl) rfl ?_ ?_
   rotate_left 2
   {
   go_simp
   constructor
   {
   rfl
   }
   {
   rfl
   }
   }
   clear hcv58 hcv58d
   refine hK.out _ _ trivial (fun hHeld => ?_)
   clear hK K
   refine norm_ (a' := ?_) ?_ ?_
   rotate_left
   {
   show Act.put _ (some 92) _ = _
   simp only [Act.put, List.setIfInBounds_toArray, List.set_cons_zero, List.set_cons_succ, i64_w, i32_w]
   rfl
   }
   exact norm_ z14l (hCont (v416) _ ⟨z14i, z14o, (by (with_reducible repeat (first | apply Kd.R_alloc | apply Kd.R_drewN | apply Kd.R_drew)); exact Kd.R_mono HO417.out (fun _ hk => ⟨hk.1.2, hk.2⟩)), z14d, z14p, z14q, z14e, z14b⟩)
   }
   {
   skip
   have hcv57 := own_string (P := Try.prog) Try.underlying22 Try.underlying5 Try.underlying9 (Kd.own_of_R HO_5.out); have hcv57d := fun (nq_ : Nat) => own_string (P := Try.prog) Try.underlying22 Try.underlying5 Try.underlying9 (Kd.own_of_R (Kd.R_drewN HO_5.out nq_))
   refine value_ (w1 := ?_) (v := ?_) (by rfl) rfl ?_ ?_
   rotate_left 2
   {
   go_simp
   constructor
   {
   rfl
   }
   {
   rfl
   }
   }
   clear hcv57 hcv57d
   refine hK.out _ _ trivial (fun hHeld => ?_)
   clear hK K
   refine norm_ (a' := ?_) ?_ ?_
   rotate_left
   {
   show Act.put _ (some 92) _ = _
   simp only [Act.put, List.setIfInBounds_toArray, List.set_cons_zero, List.set_cons_succ, i64_w, i32_w]
   rfl
   }
   refine one_ (i := 12) (N := some 90) #[true, true, true, true, true, true, true, true, true, true, true, true, true, true, true, false, false, false, false] rfl rfl (one_of HT_.out (by kernel_rfl)) (by decide) (fun K hK => ?_)
   have hcv58 := own_string (P := Try.prog) Try.underlying22 Try.underlying5 Try.underlying9 (Kd.own_of_R HO417.out)
   refine value_ (w1 := ?_) (v := ?_) (by rfl) rfl ?_ ?_
   rotate_left 2
   {
   go_simp
   constructor
   {
   rfl
   }
   {
   rfl
   }
   }
   clear hcv58
   refine hK.out _ _ trivial (fun hHeld => ?_)
   clear hK K
   refine norm_ (a' := ?_) ?_ ?_
   rotate_left
   {
   show Act.put _ (some 90) _ = _
   simp only [Act.put, List.setIfInBounds_toArray, List.set_cons_zero, List.set_cons_succ, i64_w, i32_w]
   rfl
   }
   exact norm_ z14l (hCont (v416) _ ⟨z14i, z14o, (by (with_reducible repeat (first | apply Kd.R_alloc | apply Kd.R_drewN | apply Kd.R_drew)); exact Kd.R_mono HO417.out (fun _ hk => ⟨hk.1.2, hk.2⟩)), z14d, z14p, z14q, z14e, z14b⟩)
   }
   }
   {
   skip
   have hcv56 := own_string (P := Try.prog) Try.underlying22 Try.underlying5 Try.underlying9 (Kd.own_of_R HO_5.out); have hcv56d := fun (nq_ : Nat) => own_string (P := Try.prog) Try.underlying22 Try.underlying5 Try.underlying9 (Kd.own_of_R (Kd.R_drewN HO_5.out nq_))
   refine value_ (w1 := ?_) (v := ?_) (by rfl) rfl ?_ ?_
   rotate_left 2
   {
   go_simp
   constructor
   {
   rfl
   }
   {
   rfl
   }
   }
   clear hcv56 hcv56d
   refine hK.out _ _ trivial (fun hHeld => ?_)
   clear hK K
   refine norm_ (a' := ?_) ?_ ?_
   rotate_left
   {
   show Act.put _ (some 92) _ = _
   simp only [Act.put, List.setIfInBounds_toArray, List.set_cons_zero, List.set_cons_succ, i64_w, i32_w]
   rfl
   }
   refine one_ (i := 11) (N := some 89) #[true, true, true, true, true, true, true, true, true, true, true, true, false, true, true, false, false, false, false] rfl rfl (one_of HT_.out (by kernel_rfl)) (by decide) (fun K hK => ?_)
   refine goes_ Try.func30 (by kernel_rfl) rfl #[.slice Ao54 t389.length co54] (by rfl) rfl rfl z14c ?_
   with_reducible refine (impl_Texts.calls kj8 _ _ t389 t415 _ ?side1 ?side2 A48.out).mono ?_
   (case side1 => exact z14v)
   (case side2 => exact (Kd.R_reads' HO_6.out).2.1)
   rintro e w57 ⟨v416, rfl, ho0, hb⟩
   refine ⟨_, rfl, ?_⟩
   have n0_ := Aside0.mk (Kd.R_below z14d hb)
   have n1_ := Aside0.mk (Kd.R_elder' z14g (Kd.R_base ho0) hb)
   have n2_ := Aside0.mk (Kd.R_elder' z14h (Kd.R_base ho0) hb)
   have n3_ := Aside0.mk (Kd.R_below z14e hb)
   have n4_ := Aside0.mk (Kd.R_below z14i hb)
   have n5_ := Aside0.mk (Kd.R_below z14o hb)
   have n6_ := Aside0.mk (Kd.R_lower (Kd.R_new' (Kd.R_new' ho0 (Kd.R_lt z14g)) (Kd.R_lt z14h)) (below_size z14b))
   have n7_ := Aside0.mk (Kd.C_below z14f hb)
   have n8_ := Aside0.mk (below_step z14b hb)
   clear HO_3
   clear HO_4
   clear HO_5
   clear HO_6
   clear HO404
   clear HO413
   clear HR409
   clear HB
   have HO_3 := n0_
   have HO_4 := n1_
   have HO_5 := n2_
   have HO_6 := n3_
   have HO404 := n4_
   have HO413 := n5_
   have HO417 := n6_
   have HR409 := n7_
   have HB := n8_
   clear n0_ n1_ n2_ n3_ n4_ n5_ n6_ n7_ n8_
   (try clear hb)
   (try clear hb2)
   (try clear hk)
   (try clear hi)
   (try clear ho0)
   refine hK.out _ _ trivial (fun hHeld => ?_)
   clear hK K
   refine norm_ (a' := ?_) ?_ ?_
   rotate_left
   {
   show Act.put _ (some 89) _ = _
   simp only [Act.put, List.setIfInBounds_toArray, List.set_cons_zero, List.set_cons_succ, i64_w, i32_w]
   rfl
   }
   refine one_ (i := 12) (N := some 90) #[true, true, true, true, true, true, true, true, true, true, true, true, true, true, true, false, false, false, false] rfl rfl (one_of HT_.out (by kernel_rfl)) (by decide) (fun K hK => ?_)
   have hcv58 := own_string (P := Try.prog) Try.underlying22 Try.underlying5 Try.underlying9 (Kd.own_of_R HO417.out)
   refine value_ (w1 := ?_) (v := ?_) (by rfl) rfl ?_ ?_
   rotate_left 2
   {
   go_simp
   constructor
   {
   rfl
   }
   {
   rfl
   }
   }
   clear hcv58
   refine hK.out _ _ trivial (fun hHeld => ?_)
   clear hK K
   refine norm_ (a' := ?_) ?_ ?_
   rotate_left
   {
   show Act.put _ (some 90) _ = _
   simp only [Act.put, List.setIfInBounds_toArray, List.set_cons_zero, List.set_cons_succ, i64_w, i32_w]
   rfl
   }
   exact norm_ z14l (hCont (v416) _ ⟨z14i, z14o, (by (with_reducible repeat (first | apply Kd.R_alloc | apply Kd.R_drewN | apply Kd.R_drew)); exact Kd.R_mono HO417.out (fun _ hk => ⟨hk.1.2, hk.2⟩)), z14d, z14p, z14q, z14e, z14b⟩)
   }
   }
   rintro v416 w59 ⟨h0_, h1_, h2_, h3_, h4_, h5_, h6_, h7_⟩
   have n0_ : Aside0 (Kd.R Kd.string 9 w59 w.heap.size (fun k_ => some k_ ≠ (v412 : Value).ownBlock ∧ some k_ ≠ (.slice Ao11 t380.length co11 : Value).ownBlock ∧ some k_ ≠ (.slice Ao54 t389.length co54 : Value).ownBlock) (.slice Ao53 t401.length co53) t401) := ⟨h0_⟩
   have n1_ : Aside0 (Kd.R Kd.string 9 w59 w.heap.size (fun k_ => some k_ ≠ (.slice Ao53 t401.length co53 : Value).ownBlock ∧ some k_ ≠ (.slice Ao11 t380.length co11 : Value).ownBlock ∧ some k_ ≠ (.slice Ao54 t389.length co54 : Value).ownBlock) v412 t410) := ⟨h1_⟩
   have n2_ : Aside0 (Kd.R (Kd.int .u8) 5 w59 w.heap.size (fun k_ => some k_ ≠ (.slice Ao49 t383.length co49 : Value).ownBlock ∧ some k_ ≠ (.slice Ao14 t386.length co14 : Value).ownBlock) v416 t415) := ⟨h2_⟩
   have n3_ : Aside0 (Kd.R Kd.string 9 w59 w.heap.size (fun k_ => some k_ ≠ (.slice Ao53 t401.length co53 : Value).ownBlock ∧ some k_ ≠ (v412 : Value).ownBlock ∧ some k_ ≠ (.slice Ao54 t389.length co54 : Value).ownBlock) (.slice Ao11 t380.length co11) t380) := ⟨h3_⟩
   have n4_ : Aside0 (Kd.R (Kd.int .u8) 5 w59 w.heap.size (fun k_ => some k_ ≠ (v416 : Value).ownBlock ∧ some k_ ≠ (.slice Ao14 t386.length co14 : Value).ownBlock) (.slice Ao49 t383.length co49) t383) := ⟨h4_⟩
   have n5_ : Aside0 (Kd.R (Kd.int .u8) 5 w59 w.heap.size (fun k_ => some k_ ≠ (v416 : Value).ownBlock ∧ some k_ ≠ (.slice Ao49 t383.length co49 : Value).ownBlock) (.slice Ao14 t386.length co14) t386) := ⟨h5_⟩
   have n6_ : Aside0 (Kd.R Kd.string 9 w59 w.heap.size (fun k_ => some k_ ≠ (.slice Ao53 t401.length co53 : Value).ownBlock ∧ some k_ ≠ (v412 : Value).ownBlock ∧ some k_ ≠ (.slice Ao11 t380.length co11 : Value).ownBlock) (.slice Ao54 t389.length co54) t389) := ⟨h6_⟩
   have n7_ : Aside0 (Below w.heap.size w w59) := ⟨h7_⟩
   clear HO_3
   clear HO_4
   clear HO_5
   clear HO_6
   clear HO404
   clear HO413
   clear HR409
   clear HB
   clear h0_ h1_ h2_ h3_ h4_ h5_ h6_ h7_
   have HO404 := n0_
   have HO413 := n1_
   have HO417 := n2_
   have HO_3 := n3_
   have HO_4 := n4_
   have HO_5 := n5_
   have HO_6 := n6_
   have HB := n7_
   clear n0_ n1_ n2_ n3_ n4_ n5_ n6_ n7_
   have hHeld := trivial
   have HR409 := Aside0.mk ((show Kd.C (Kd.int .u8) w59 Ao49 y406.length y406 from (by rw [Ny406.out]; exact Kd.C_take (m := (t405 : Int).toNat) ((Kd.R_reads' (HO_4.out)).2.2) KL51.out)))
   refine norm_ (a' := ?_) ?_ ?_
   rotate_left
   exact (by simp only [putAll, Act.put, List.setIfInBounds_toArray, List.set_cons_zero, List.set_cons_succ]; rfl)
   refine pure_ (i := 15) (N := some 93) (v := _) (a' := _) #[true, true, true, true, true, true, true, true, true, true, true, true, true, true, true, true, false, false, false] rfl rfl (any_of HT_.out (by kernel_rfl)) (fun _ _ _ h => h) (Or.inl ⟨by rfl, (by intro w'; go_simp; with_reducible rfl)⟩) z14a ?_
   refine pure_ (i := 16) (N := some 94) (v := _) (a' := _) #[true, true, true, true, true, true, true, true, true, true, true, true, true, true, true, true, true, false, false] rfl rfl (any_of HT_.out (by kernel_rfl)) (fun _ _ _ h => h) (Or.inl ⟨by rfl, (by intro w'; go_simp; with_reducible rfl)⟩) z14a ?_
   refine pure_ (i := 17) (N := some 95) (v := _) (a' := _) #[true, true, true, true, true, true, true, true, true, true, true, true, true, true, true, true, true, true, false] rfl rfl (any_of HT_.out (by kernel_rfl)) (fun _ _ _ h => h) (Or.inl ⟨by rfl, (by intro w'; go_simp; with_reducible rfl)⟩) z14a ?_
   refine pure_ (i := 18) (N := some 2) (v := _) (a' := _) #[true, true, true, true, true, true, true, true, true, true, true, true, true, true, true, true, true, true, true] rfl rfl (any_of HT_.out (by kernel_rfl)) (fun _ _ _ h => h) (Or.inl ⟨by rfl, (by intro w'; go_simp; with_reducible rfl)⟩) z14a ?_
   refine done_ (done_of HT_.out (by kernel_rfl)) ?_
   try go_wp2
   go_ret
   exact ⟨by first | rfl | (simp [errW_none, errW_some] <;> rfl) | (simp [*, errW_none, errW_some] <;> rfl), by repeat (first | (with_reducible first | exact HB.out | apply below_alloc | apply pw_below_drewN | apply below_drew1) | exact HB.out)⟩
   }
   {
   replace c47 := Bool.eq_false_iff.mpr c47
   subst c47
   have H1 : (if (t389.length : Int) = 0 then (some true) else (some false)) = some r := by rw [if_neg (show ¬ (false = true) by decide)] at H; exact H
   clear H
   have H := H1
   clear H1
   by_cases c60 : (t389.length : Int) = 0
   {
   rw [if_pos c60] at H
   have c60b0 : ((t389.length : Int) == 0) = true := beq_iff_eq.mpr c60
   have c60b1 : ((t389.length : Int) != 0) = false := bne_eq_false_iff_eq.mpr c60
   clear c60
   obtain rfl := Option.some.inj H
   obtain ⟨Ao61, co61, eo61⟩ := Kd.R_slice HO_4.out
   subst eo61
   try go_wp2_with (first | ((with_reducible refine gate_callee (f := 34) rfl ?_); refine goesL_ (some 54) rfl rfl Try.func34 (by kernel_rfl) rfl #[.slice Ao61 t383.length co61] rfl z14c ?_; (with_reducible refine (impl_ReadTexts.calls kj8 _ _ t383 t401 true _ ?side1 ?side2 A34.out).mono ?_); (case side1 => exact z14k); (case side2 => exact (Kd.R_reads' HO_4.out).2.1); rintro e w62 ⟨v403, rfl, ho0, hb⟩; refine ⟨_, rfl, ?_⟩; have n0_ := Aside0.mk (Kd.R_elder' z14d (Kd.R_base ho0) hb); have n1_ := Aside0.mk (Kd.R_below z14g hb); have n2_ := Aside0.mk (Kd.R_below z14h hb); have n3_ := Aside0.mk (Kd.R_elder' z14e (Kd.R_base ho0) hb); have n4_ := Aside0.mk (Kd.R_lower (Kd.R_new' (Kd.R_new' ho0 (Kd.R_lt z14d)) (Kd.R_lt z14e)) (below_size z14b)); have n5_ := Aside0.mk (below_step z14b hb); clear HO_3; clear HO_4; clear HO_5; clear HO_6; clear HB; have HO_3 := n0_; have HO_4 := n1_; have HO_5 := n2_; have HO_6 := n3_; have HO404 := n4_; have HB := n5_; clear n0_ n1_ n2_ n3_ n4_ n5_; (try clear hb); (try clear hb2); (try clear hk); (try clear hi); (try clear ho0)) | ((with_reducible refine gate_callee (f := 62) rfl ?_); refine goesL_ (some 62) rfl rfl Try.func62 (by kernel_rfl) rfl #[.slice A0 l0.length c0, .int .i64 1, .int .i64 (t383.length : Int)] rfl z14c ?_; (with_reducible refine (laws_pick.calls kj8 _ _ l0 1 (t383.length : Int) t405 _ ?side1 ?side2 A35.out).mono ?_); (case side1 => exact z14j); (case side2 => exact HC0.out); rintro e w' ⟨rfl, ⟨nd, rfl⟩⟩; refine ⟨_, rfl, ?_⟩; have q63 : (t405 : Int) ≤ ((t383.length : Int) : Int) := of_decide_eq_true z14r; obtain ⟨i063, hi063, _, hsz63, _⟩ := info_parts info5; have hroom63 : t383.length ≤ co61 := (Kd.R_reads' HO_4.out).2.1; have hC63 : Kd.C (Kd.int .u8) _ Ao61 t383.length t383 := (Kd.R_reads' HO_4.out).2.2; have hcut63 := cut_to (P := Try.prog) 22 5 .i64 Try.underlying22 hi063 Ao61 t383.length co61 t405 (of_decide_eq_true z14r) q63 hroom63; have hr63 := Kd.C_take (m := (t405 : Int).toNat) hC63 (by omega); have hy63 : y406.length = (t405 : Int).toNat := (by rw [Ny406.out, List.length_take]; omega); rw [← Ny406.out] at hr63; rw [← hy63] at hcut63; have HR409 := Aside0.mk hr63; have HC409 := Aside0.mk (show y406.length ≤ co61 from (by omega)); clear hr63 hC63 hroom63 hi063 hsz63; have KY63 := Aside0.mk hy63; clear hy63; have KL63 := Aside0.mk (show (t405 : Int).toNat ≤ t383.length from (by omega)); replace q63 := eq_true q63) | ((with_reducible refine gate_callee (f := 34) rfl ?_); refine goesL_ (some 64) rfl rfl Try.func34 (by kernel_rfl) rfl #[.slice Ao61 y406.length co61] rfl z14c ?_; (with_reducible refine (impl_ReadTexts.calls kj8 _ _ y406 t410 false _ ?side1 ?side2 A38.out).mono ?_); (case side1 => repeat (first | exact z14f | (with_reducible refine Kd.C_alloc ?_ _) | (with_reducible refine Kd.C_drewN ?_ _) | (with_reducible refine Kd.C_drew ?_))); (case side2 => exact HC409.out); rintro e w64 ⟨v412, rfl, ho0, hb⟩; refine ⟨_, rfl, ?_⟩; have n0_ := Aside0.mk (Kd.R_elder' z14d (Kd.R_base ho0) hb); have n1_ := Aside0.mk (Kd.R_below z14g hb); have n2_ := Aside0.mk (Kd.R_below z14h hb); have n3_ := Aside0.mk (Kd.R_elder' z14e (Kd.R_base ho0) hb); have n4_ := Aside0.mk (Kd.R_elder' z14i (Kd.R_base ho0) hb); have n5_ := Aside0.mk (Kd.R_lower (Kd.R_new' (Kd.R_new' (Kd.R_new' ho0 (Kd.R_lt z14d)) (Kd.R_lt z14e)) (Kd.R_lt z14i)) (below_size z14b)); have n6_ := Aside0.mk (Kd.C_below z14f hb); have n7_ := Aside0.mk (below_step z14b hb); clear HO_3; clear HO_4; clear HO_5; clear HO_6; clear HO404; clear HR409; clear HB; have HO_3 := n0_; have HO_4 := n1_; have HO_5 := n2_; have HO_6 := n3_; have HO404 := n4_; have HO413 := n5_; have HR409 := n6_; have HB := n7_; clear n0_ n1_ n2_ n3_ n4_ n5_ n6_ n7_; (try clear hb); (try clear hb2); (try clear hk); (try clear hi); (try clear ho0); obtain ⟨Ao65, co65, eo65⟩ := Kd.R_slice HO404.out; subst eo65) | (go_at_call 61; (with_reducible refine (laws_likeTexts.calls kj8 _ _ t401 _ _ t380 true _ ?side1 ?side2 ?side3 ?side4 A45.out).mono ?_); (case side1 => exact z14s); (case side2 => exact (Kd.R_reads' HO404.out).2.1); (case side3 => exact z14u); (case side4 => exact (Kd.R_reads' HO_3.out).2.1); rintro e w' ⟨rfl, ⟨nd, rfl⟩⟩))
   have n0_ : Aside0 (Kd.R Kd.string 9 w64 w.heap.size (fun k_ => some k_ ≠ (v412 : Value).ownBlock ∧ some k_ ≠ (.slice Ao11 t380.length co11 : Value).ownBlock ∧ some k_ ≠ (v391 : Value).ownBlock) (.slice Ao65 t401.length co65) t401) := ⟨(by (with_reducible repeat (first | apply Kd.R_alloc | apply Kd.R_drewN | apply Kd.R_drew)); exact Kd.R_mono HO404.out (fun _ hk => ⟨hk.2, ⟨hk.1.1.2, hk.1.2⟩⟩))⟩
   have n1_ : Aside0 (Kd.R Kd.string 9 w64 w.heap.size (fun k_ => some k_ ≠ (.slice Ao65 t401.length co65 : Value).ownBlock ∧ some k_ ≠ (.slice Ao11 t380.length co11 : Value).ownBlock ∧ some k_ ≠ (v391 : Value).ownBlock) v412 t410) := ⟨(by (with_reducible repeat (first | apply Kd.R_alloc | apply Kd.R_drewN | apply Kd.R_drew)); exact Kd.R_mono HO413.out (fun _ hk => ⟨hk.2, ⟨hk.1.1.2, hk.1.2⟩⟩))⟩
   have n2_ : Aside0 (Kd.R Kd.string 9 w64 w.heap.size (fun k_ => some k_ ≠ (.slice Ao65 t401.length co65 : Value).ownBlock ∧ some k_ ≠ (v412 : Value).ownBlock ∧ some k_ ≠ (v391 : Value).ownBlock) (.slice Ao11 t380.length co11) t380) := ⟨(by (with_reducible repeat (first | apply Kd.R_alloc | apply Kd.R_drewN | apply Kd.R_drew)); exact Kd.R_mono HO_3.out (fun _ hk => ⟨hk.1.2, ⟨hk.2, hk.1.1⟩⟩))⟩
   have n3_ : Aside0 (Kd.R Kd.string 9 w64 w.heap.size (fun k_ => some k_ ≠ (.slice Ao65 t401.length co65 : Value).ownBlock ∧ some k_ ≠ (v412 : Value).ownBlock ∧ some k_ ≠ (.slice Ao11 t380.length co11 : Value).ownBlock) v391 t389) := ⟨(by (with_reducible repeat (first | apply Kd.R_alloc | apply Kd.R_drewN | apply Kd.R_drew)); exact Kd.R_mono HO_6.out (fun _ hk => ⟨hk.1.2, ⟨hk.2, hk.1.1⟩⟩))⟩
   clear HO404 HO413 HO_3 HO_6
   have HO404 := n0_
   have HO413 := n1_
   have HO_3 := n2_
   have HO_6 := n3_
   clear n0_ n1_ n2_ n3_
   (try (rw [drewN_self w64]; generalize hq_ : World.drewN w64 _ = w64; have n0_ : Aside0 (Kd.R Kd.string 9 w64 w.heap.size (fun k_ => some k_ ≠ (v412 : Value).ownBlock ∧ some k_ ≠ (.slice Ao11 t380.length co11 : Value).ownBlock ∧ some k_ ≠ (v391 : Value).ownBlock) (.slice Ao65 t401.length co65) t401) := ⟨by rw [← hq_]; exact z14i⟩; have n1_ : Aside0 (Kd.R Kd.string 9 w64 w.heap.size (fun k_ => some k_ ≠ (.slice Ao65 t401.length co65 : Value).ownBlock ∧ some k_ ≠ (.slice Ao11 t380.length co11 : Value).ownBlock ∧ some k_ ≠ (v391 : Value).ownBlock) v412 t410) := ⟨by rw [← hq_]; exact z14o⟩; have n2_ : Aside0 (Kd.R Kd.string 9 w64 w.heap.size (fun k_ => some k_ ≠ (.slice Ao65 t401.length co65 : Value).ownBlock ∧ some k_ ≠ (v412 : Value).ownBlock ∧ some k_ ≠ (v391 : Value).ownBlock) (.slice Ao11 t380.length co11) t380) := ⟨by rw [← hq_]; exact z14d⟩; have n3_ : Aside0 (Kd.R (Kd.int .u8) 5 w64 w.heap.size (fun k_ => some k_ ≠ (.slice Ao14 t386.length co14 : Value).ownBlock) (.slice Ao61 t383.length co61) t383) := ⟨by rw [← hq_]; exact z14g⟩; have n4_ : Aside0 (Kd.R (Kd.int .u8) 5 w64 w.heap.size (fun k_ => some k_ ≠ (.slice Ao61 t383.length co61 : Value).ownBlock) (.slice Ao14 t386.length co14) t386) := ⟨by rw [← hq_]; exact z14h⟩; have n5_ : Aside0 (Kd.R Kd.string 9 w64 w.heap.size (fun k_ => some k_ ≠ (.slice Ao65 t401.length co65 : Value).ownBlock ∧ some k_ ≠ (v412 : Value).ownBlock ∧ some k_ ≠ (.slice Ao11 t380.length co11 : Value).ownBlock) v391 t389) := ⟨by rw [← hq_]; exact z14e⟩; have n6_ : Aside0 (Below w.heap.size w w64) := ⟨by rw [← hq_]; exact z14b⟩; have n7_ : Aside0 (Kd.C (Kd.int .u8) w64 Ao61 y406.length y406) := ⟨by rw [← hq_]; exact z14f⟩; clear HO404 HO413 HO_3 HO_4 HO_5 HO_6 HB HR409 hq_; have HO404 := n0_; have HO413 := n1_; have HO_3 := n2_; have HO_4 := n3_; have HO_5 := n4_; have HO_6 := n5_; have HB := n6_; have HR409 := n7_; clear n0_ n1_ n2_ n3_ n4_ n5_ n6_ n7_))
   have n0_ := Aside0.mk (Kd.R_drew HO_3.out)
   have n1_ := Aside0.mk (Kd.R_drew HO_4.out)
   have n2_ := Aside0.mk (Kd.R_drew HO_5.out)
   have n3_ := Aside0.mk (Kd.R_drew HO_6.out)
   have n4_ := Aside0.mk (Kd.R_drew HO404.out)
   have n5_ := Aside0.mk (Kd.R_drew HO413.out)
   have n6_ := Aside0.mk (Kd.C_drew HR409.out)
   have n7_ := Aside0.mk (below_drew1 HB.out)
   clear HO_3
   clear HO_4
   clear HO_5
   clear HO_6
   clear HO404
   clear HO413
   clear HR409
   clear HB
   have HO_3 := n0_
   have HO_4 := n1_
   have HO_5 := n2_
   have HO_6 := n3_
   have HO404 := n4_
   have HO413 := n5_
   have HR409 := n6_
   have HB := n7_
   clear n0_ n1_ n2_ n3_ n4_ n5_ n6_ n7_
   obtain ⟨Ao67, co67, eo67⟩ := Kd.R_slice HO_6.out
   (first | subst eo67 | (injection eo67 with f1_ f2_ f3_; have f4_ := f1_.symm; have f5_ := f3_.symm; clear f1_ f2_ f3_; subst f4_; subst f5_))
   refine start_ (n := 19) (S := fun w' => True) (ds := []) #[false, false, false, false, false, false, false, false, false, false, false, false, false, false, false, false, false, false, false] (by kernel_rfl) rfl rfl trivial (fun hHeld => ?_); refine with_tabW laws_FnTexts.tab15 laws_FnTexts.bits15 (fun HT_ HW_ => ?_)
   generalize w64.drew = w66 at HO_3 HO_4 HO_5 HO_6 HO404 HO413 HR409 HB hHeld ⊢
   refine pure_ (i := 0) (N := some 78) (v := _) (a' := _) #[true, false, false, false, false, false, false, false, false, false, false, false, false, false, false, false, false, false, false] rfl rfl (any_of HT_.out (by kernel_rfl)) (fun _ _ _ h => h) (Or.inl ⟨by rfl, (by intro w'; go_simp; with_reducible rfl)⟩) z14a ?_
   refine pure_ (i := 1) (N := some 79) (v := _) (a' := _) #[true, true, false, false, false, false, false, false, false, false, false, false, false, false, false, false, false, false, false] rfl rfl (any_of HT_.out (by kernel_rfl)) (fun _ _ _ h => h) (Or.inl ⟨by rfl, (by intro w'; go_simp; with_reducible rfl)⟩) z14a ?_
   refine pure_ (i := 2) (N := some 80) (v := _) (a' := _) #[true, true, true, false, false, false, false, false, false, false, false, false, false, false, false, false, false, false, false] rfl rfl (any_of HT_.out (by kernel_rfl)) (fun _ _ _ h => h) (Or.inl ⟨by rfl, (by intro w'; go_simp; with_reducible rfl)⟩) z14a ?_
   refine pure_ (i := 3) (N := some 81) (v := _) (a' := _) #[true, true, true, true, false, false, false, false, false, false, false, false, false, false, false, false, false, false, false] rfl rfl (any_of HT_.out (by kernel_rfl)) (fun _ _ _ h => h) (Or.inl ⟨by rfl, (by intro w'; go_simp; with_reducible rfl)⟩) z14a ?_
   refine pure_ (i := 4) (N := some 82) (v := _) (a' := _) #[true, true, true, true, true, false, false, false, false, false, false, false, false, false, false, false, false, false, false] rfl rfl (any_of HT_.out (by kernel_rfl)) (fun _ _ _ h => h) (Or.inl ⟨by rfl, (by intro w'; go_simp; with_reducible rfl)⟩) z14a ?_
   refine pure_ (i := 5) (N := some 83) (v := _) (a' := _) #[true, true, true, true, true, true, false, false, false, false, false, false, false, false, false, false, false, false, false] rfl rfl (any_of HT_.out (by kernel_rfl)) (fun _ _ _ h => h) (Or.inl ⟨by rfl, (by intro w'; go_simp; with_reducible rfl)⟩) z14a ?_
   refine pure_ (i := 6) (N := some 84) (v := _) (a' := _) #[true, true, true, true, true, true, true, false, false, false, false, false, false, false, false, false, false, false, false] rfl rfl (any_of HT_.out (by kernel_rfl)) (fun _ _ _ h => h) (Or.inl ⟨by rfl, (by intro w'; go_simp; with_reducible rfl)⟩) z14a ?_
   refine pure_ (i := 7) (N := some 85) (v := _) (a' := _) #[true, true, true, true, true, true, true, true, false, false, false, false, false, false, false, false, false, false, false] rfl rfl (any_of HT_.out (by kernel_rfl)) (fun _ _ _ h => h) (Or.inl ⟨by rfl, (by intro w'; go_simp; with_reducible rfl)⟩) z14a ?_
   refine pure_ (i := 8) (N := some 86) (v := undef) (a' := ?_) #[true, true, true, true, true, true, true, true, true, false, false, false, false, false, false, false, false, false, false] rfl rfl (any_of HT_.out (by kernel_rfl)) (fun _ _ _ h => h) (Or.inr ⟨by rfl, rfl⟩) ?_ ?_
   rotate_left
   exact z14a
   refine pure_ (i := 9) (N := some 87) (v := undef) (a' := ?_) #[true, true, true, true, true, true, true, true, true, true, false, false, false, false, false, false, false, false, false] rfl rfl (any_of HT_.out (by kernel_rfl)) (fun _ _ _ h => h) (Or.inr ⟨by rfl, rfl⟩) ?_ ?_
   rotate_left
   exact z14a
   refine pure_ (i := 10) (N := some 88) (v := undef) (a' := ?_) #[true, true, true, true, true, true, true, true, true, true, true, false, false, false, false, false, false, false, false] rfl rfl (any_of HT_.out (by kernel_rfl)) (fun _ _ _ h => h) (Or.inr ⟨by rfl, rfl⟩) ?_ ?_
   rotate_left
   exact z14a
   refine pure_ (i := 11) (N := some 89) (v := undef) (a' := ?_) #[true, true, true, true, true, true, true, true, true, true, true, true, false, false, false, false, false, false, false] rfl rfl (any_of HT_.out (by kernel_rfl)) (fun _ _ _ h => h) (Or.inr ⟨by rfl, rfl⟩) ?_ ?_
   rotate_left
   exact z14a
   refine pure_ (i := 12) (N := some 90) (v := undef) (a' := ?_) #[true, true, true, true, true, true, true, true, true, true, true, true, true, false, false, false, false, false, false] rfl rfl (any_of HT_.out (by kernel_rfl)) (fun _ _ _ h => h) (Or.inr ⟨by rfl, rfl⟩) ?_ ?_
   rotate_left
   exact z14a
   refine pure_ (i := 13) (N := some 91) (v := undef) (a' := ?_) #[true, true, true, true, true, true, true, true, true, true, true, true, true, true, false, false, false, false, false] rfl rfl (any_of HT_.out (by kernel_rfl)) (fun _ _ _ h => h) (Or.inr ⟨by rfl, rfl⟩) ?_ ?_
   rotate_left
   exact z14a
   refine pure_ (i := 14) (N := some 92) (v := undef) (a' := ?_) #[true, true, true, true, true, true, true, true, true, true, true, true, true, true, true, false, false, false, false] rfl rfl (any_of HT_.out (by kernel_rfl)) (fun _ _ _ h => h) (Or.inr ⟨by rfl, rfl⟩) ?_ ?_
   rotate_left
   exact z14a
   refine pure_ (i := 15) (N := some 93) (v := undef) (a' := ?_) #[true, true, true, true, true, true, true, true, true, true, true, true, true, true, true, true, false, false, false] rfl rfl (any_of HT_.out (by kernel_rfl)) (fun _ _ _ h => h) (Or.inr ⟨by rfl, rfl⟩) ?_ ?_
   rotate_left
   exact z14a
   refine pure_ (i := 16) (N := some 94) (v := undef) (a' := ?_) #[true, true, true, true, true, true, true, true, true, true, true, true, true, true, true, true, true, false, false] rfl rfl (any_of HT_.out (by kernel_rfl)) (fun _ _ _ h => h) (Or.inr ⟨by rfl, rfl⟩) ?_ ?_
   rotate_left
   exact z14a
   refine pure_ (i := 17) (N := some 95) (v := _) (a' := _) #[true, true, true, true, true, true, true, true, true, true, true, true, true, true, true, true, true, true, false] rfl rfl (any_of HT_.out (by kernel_rfl)) (fun _ _ _ h => h) (Or.inl ⟨by rfl, (by intro w'; go_simp; with_reducible rfl)⟩) z14a ?_
   refine pure_ (i := 18) (N := some 2) (v := _) (a' := _) #[true, true, true, true, true, true, true, true, true, true, true, true, true, true, true, true, true, true, true] rfl rfl (any_of HT_.out (by kernel_rfl)) (fun _ _ _ h => h) (Or.inl ⟨by rfl, (by intro w'; go_simp; with_reducible rfl)⟩) z14a ?_
   refine done_ (done_of HT_.out (by kernel_rfl)) ?_
   try go_wp2
   go_ret
   exact ⟨by first | rfl | (simp [errW_none, errW_some] <;> rfl) | (simp [*, errW_none, errW_some] <;> rfl), by repeat (first | (with_reducible first | exact HB.out | apply below_alloc | apply pw_below_drewN | apply below_drew1) | exact HB.out)⟩
   }
   {
   rw [if_neg c60] at H
   have c60b0 : ((t389.length : Int) == 0) = false := beq_eq_false_iff_ne.mpr c60
   have c60b1 : ((t389.length : Int) != 0) = true := bne_iff_ne.mpr c60
   have c60b2 : ¬ (t389 = []) := fun h_ => c60 (by rw [h_]; rfl)
   obtain rfl := Option.some.inj H
   obtain ⟨Ao68, co68, eo68⟩ := Kd.R_slice HO_4.out
   subst eo68
   try go_wp2_with (first | ((with_reducible refine gate_callee (f := 34) rfl ?_); refine goesL_ (some 54) rfl rfl Try.func34 (by kernel_rfl) rfl #[.slice Ao68 t383.length co68] rfl z14c ?_; (with_reducible refine (impl_ReadTexts.calls kj8 _ _ t383 t401 true _ ?side1 ?side2 A34.out).mono ?_); (case side1 => exact z14k); (case side2 => exact (Kd.R_reads' HO_4.out).2.1); rintro e w69 ⟨v403, rfl, ho0, hb⟩; refine ⟨_, rfl, ?_⟩; have n0_ := Aside0.mk (Kd.R_elder' z14d (Kd.R_base ho0) hb); have n1_ := Aside0.mk (Kd.R_below z14g hb); have n2_ := Aside0.mk (Kd.R_below z14h hb); have n3_ := Aside0.mk (Kd.R_elder' z14e (Kd.R_base ho0) hb); have n4_ := Aside0.mk (Kd.R_lower (Kd.R_new' (Kd.R_new' ho0 (Kd.R_lt z14d)) (Kd.R_lt z14e)) (below_size z14b)); have n5_ := Aside0.mk (below_step z14b hb); clear HO_3; clear HO_4; clear HO_5; clear HO_6; clear HB; have HO_3 := n0_; have HO_4 := n1_; have HO_5 := n2_; have HO_6 := n3_; have HO404 := n4_; have HB := n5_; clear n0_ n1_ n2_ n3_ n4_ n5_; (try clear hb); (try clear hb2); (try clear hk); (try clear hi); (try clear ho0)) | ((with_reducible refine gate_callee (f := 62) rfl ?_); refine goesL_ (some 62) rfl rfl Try.func62 (by kernel_rfl) rfl #[.slice A0 l0.length c0, .int .i64 1, .int .i64 (t383.length : Int)] rfl z14c ?_; (with_reducible refine (laws_pick.calls kj8 _ _ l0 1 (t383.length : Int) t405 _ ?side1 ?side2 A35.out).mono ?_); (case side1 => exact z14j); (case side2 => exact HC0.out); rintro e w' ⟨rfl, ⟨nd, rfl⟩⟩; refine ⟨_, rfl, ?_⟩; have q70 : (t405 : Int) ≤ ((t383.length : Int) : Int) := of_decide_eq_true z14r; obtain ⟨i070, hi070, _, hsz70, _⟩ := info_parts info5; have hroom70 : t383.length ≤ co68 := (Kd.R_reads' HO_4.out).2.1; have hC70 : Kd.C (Kd.int .u8) _ Ao68 t383.length t383 := (Kd.R_reads' HO_4.out).2.2; have hcut70 := cut_to (P := Try.prog) 22 5 .i64 Try.underlying22 hi070 Ao68 t383.length co68 t405 (of_decide_eq_true z14r) q70 hroom70; have hr70 := Kd.C_take (m := (t405 : Int).toNat) hC70 (by omega); have hy70 : y406.length = (t405 : Int).toNat := (by rw [Ny406.out, List.length_take]; omega); rw [← Ny406.out] at hr70; rw [← hy70] at hcut70; have HR409 := Aside0.mk hr70; have HC409 := Aside0.mk (show y406.length ≤ co68 from (by omega)); clear hr70 hC70 hroom70 hi070 hsz70; have KY70 := Aside0.mk hy70; clear hy70; have KL70 := Aside0.mk (show (t405 : Int).toNat ≤ t383.length from (by omega)); replace q70 := eq_true q70) | ((with_reducible refine gate_callee (f := 34) rfl ?_); refine goesL_ (some 64) rfl rfl Try.func34 (by kernel_rfl) rfl #[.slice Ao68 y406.length co68] rfl z14c ?_; (with_reducible refine (impl_ReadTexts.calls kj8 _ _ y406 t410 false _ ?side1 ?side2 A38.out).mono ?_); (case side1 => repeat (first | exact z14f | (with_reducible refine Kd.C_alloc ?_ _) | (with_reducible refine Kd.C_drewN ?_ _) | (with_reducible refine Kd.C_drew ?_))); (case side2 => exact HC409.out); rintro e w71 ⟨v412, rfl, ho0, hb⟩; refine ⟨_, rfl, ?_⟩; have n0_ := Aside0.mk (Kd.R_elder' z14d (Kd.R_base ho0) hb); have n1_ := Aside0.mk (Kd.R_below z14g hb); have n2_ := Aside0.mk (Kd.R_below z14h hb); have n3_ := Aside0.mk (Kd.R_elder' z14e (Kd.R_base ho0) hb); have n4_ := Aside0.mk (Kd.R_elder' z14i (Kd.R_base ho0) hb); have n5_ := Aside0.mk (Kd.R_lower (Kd.R_new' (Kd.R_new' (Kd.R_new' ho0 (Kd.R_lt z14d)) (Kd.R_lt z14e)) (Kd.R_lt z14i)) (below_size z14b)); have n6_ := Aside0.mk (Kd.C_below z14f hb); have n7_ := Aside0.mk (below_step z14b hb); clear HO_3; clear HO_4; clear HO_5; clear HO_6; clear HO404; clear HR409; clear HB; have HO_3 := n0_; have HO_4 := n1_; have HO_5 := n2_; have HO_6 := n3_; have HO404 := n4_; have HO413 := n5_; have HR409 := n6_; have HB := n7_; clear n0_ n1_ n2_ n3_ n4_ n5_ n6_ n7_; (try clear hb); (try clear hb2); (try clear hk); (try clear hi); (try clear ho0); obtain ⟨Ao72, co72, eo72⟩ := Kd.R_slice HO404.out; subst eo72) | (go_at_call 61; (with_reducible refine (laws_likeTexts.calls kj8 _ _ t401 _ _ t380 true _ ?side1 ?side2 ?side3 ?side4 A45.out).mono ?_); (case side1 => exact z14s); (case side2 => exact (Kd.R_reads' HO404.out).2.1); (case side3 => exact z14u); (case side4 => exact (Kd.R_reads' HO_3.out).2.1); rintro e w' ⟨rfl, ⟨nd, rfl⟩⟩))
   have n0_ : Aside0 (Kd.R Kd.string 9 w71 w.heap.size (fun k_ => some k_ ≠ (v412 : Value).ownBlock ∧ some k_ ≠ (.slice Ao11 t380.length co11 : Value).ownBlock ∧ some k_ ≠ (v391 : Value).ownBlock) (.slice Ao72 t401.length co72) t401) := ⟨(by (with_reducible repeat (first | apply Kd.R_alloc | apply Kd.R_drewN | apply Kd.R_drew)); exact Kd.R_mono HO404.out (fun _ hk => ⟨hk.2, ⟨hk.1.1.2, hk.1.2⟩⟩))⟩
   have n1_ : Aside0 (Kd.R Kd.string 9 w71 w.heap.size (fun k_ => some k_ ≠ (.slice Ao72 t401.length co72 : Value).ownBlock ∧ some k_ ≠ (.slice Ao11 t380.length co11 : Value).ownBlock ∧ some k_ ≠ (v391 : Value).ownBlock) v412 t410) := ⟨(by (with_reducible repeat (first | apply Kd.R_alloc | apply Kd.R_drewN | apply Kd.R_drew)); exact Kd.R_mono HO413.out (fun _ hk => ⟨hk.2, ⟨hk.1.1.2, hk.1.2⟩⟩))⟩
   have n2_ : Aside0 (Kd.R Kd.string 9 w71 w.heap.size (fun k_ => some k_ ≠ (.slice Ao72 t401.length co72 : Value).ownBlock ∧ some k_ ≠ (v412 : Value).ownBlock ∧ some k_ ≠ (v391 : Value).ownBlock) (.slice Ao11 t380.length co11) t380) := ⟨(by (with_reducible repeat (first | apply Kd.R_alloc | apply Kd.R_drewN | apply Kd.R_drew)); exact Kd.R_mono HO_3.out (fun _ hk => ⟨hk.1.2, ⟨hk.2, hk.1.1⟩⟩))⟩
   have n3_ : Aside0 (Kd.R Kd.string 9 w71 w.heap.size (fun k_ => some k_ ≠ (.slice Ao72 t401.length co72 : Value).ownBlock ∧ some k_ ≠ (v412 : Value).ownBlock ∧ some k_ ≠ (.slice Ao11 t380.length co11 : Value).ownBlock) v391 t389) := ⟨(by (with_reducible repeat (first | apply Kd.R_alloc | apply Kd.R_drewN | apply Kd.R_drew)); exact Kd.R_mono HO_6.out (fun _ hk => ⟨hk.1.2, ⟨hk.2, hk.1.1⟩⟩))⟩
   clear HO404 HO413 HO_3 HO_6
   have HO404 := n0_
   have HO413 := n1_
   have HO_3 := n2_
   have HO_6 := n3_
   clear n0_ n1_ n2_ n3_
   (try (rw [drewN_self w71]; generalize hq_ : World.drewN w71 _ = w71; have n0_ : Aside0 (Kd.R Kd.string 9 w71 w.heap.size (fun k_ => some k_ ≠ (v412 : Value).ownBlock ∧ some k_ ≠ (.slice Ao11 t380.length co11 : Value).ownBlock ∧ some k_ ≠ (v391 : Value).ownBlock) (.slice Ao72 t401.length co72) t401) := ⟨by rw [← hq_]; exact z14i⟩; have n1_ : Aside0 (Kd.R Kd.string 9 w71 w.heap.size (fun k_ => some k_ ≠ (.slice Ao72 t401.length co72 : Value).ownBlock ∧ some k_ ≠ (.slice Ao11 t380.length co11 : Value).ownBlock ∧ some k_ ≠ (v391 : Value).ownBlock) v412 t410) := ⟨by rw [← hq_]; exact z14o⟩; have n2_ : Aside0 (Kd.R Kd.string 9 w71 w.heap.size (fun k_ => some k_ ≠ (.slice Ao72 t401.length co72 : Value).ownBlock ∧ some k_ ≠ (v412 : Value).ownBlock ∧ some k_ ≠ (v391 : Value).ownBlock) (.slice Ao11 t380.length co11) t380) := ⟨by rw [← hq_]; exact z14d⟩; have n3_ : Aside0 (Kd.R (Kd.int .u8) 5 w71 w.heap.size (fun k_ => some k_ ≠ (.slice Ao14 t386.length co14 : Value).ownBlock) (.slice Ao68 t383.length co68) t383) := ⟨by rw [← hq_]; exact z14g⟩; have n4_ : Aside0 (Kd.R (Kd.int .u8) 5 w71 w.heap.size (fun k_ => some k_ ≠ (.slice Ao68 t383.length co68 : Value).ownBlock) (.slice Ao14 t386.length co14) t386) := ⟨by rw [← hq_]; exact z14h⟩; have n5_ : Aside0 (Kd.R Kd.string 9 w71 w.heap.size (fun k_ => some k_ ≠ (.slice Ao72 t401.length co72 : Value).ownBlock ∧ some k_ ≠ (v412 : Value).ownBlock ∧ some k_ ≠ (.slice Ao11 t380.length co11 : Value).ownBlock) v391 t389) := ⟨by rw [← hq_]; exact z14e⟩; have n6_ : Aside0 (Below w.heap.size w w71) := ⟨by rw [← hq_]; exact z14b⟩; have n7_ : Aside0 (Kd.C (Kd.int .u8) w71 Ao68 y406.length y406) := ⟨by rw [← hq_]; exact z14f⟩; clear HO404 HO413 HO_3 HO_4 HO_5 HO_6 HB HR409 hq_; have HO404 := n0_; have HO413 := n1_; have HO_3 := n2_; have HO_4 := n3_; have HO_5 := n4_; have HO_6 := n5_; have HB := n6_; have HR409 := n7_; clear n0_ n1_ n2_ n3_ n4_ n5_ n6_ n7_))
   have n0_ := Aside0.mk (Kd.R_drew HO_3.out)
   have n1_ := Aside0.mk (Kd.R_drew HO_4.out)
   have n2_ := Aside0.mk (Kd.R_drew HO_5.out)
   have n3_ := Aside0.mk (Kd.R_drew HO_6.out)
   have n4_ := Aside0.mk (Kd.R_drew HO404.out)
   have n5_ := Aside0.mk (Kd.R_drew HO413.out)
   have n6_ := Aside0.mk (Kd.C_drew HR409.out)
   have n7_ := Aside0.mk (below_drew1 HB.out)
   clear HO_3
   clear HO_4
   clear HO_5
   clear HO_6
   clear HO404
   clear HO413
   clear HR409
   clear HB
   have HO_3 := n0_
   have HO_4 := n1_
   have HO_5 := n2_
   have HO_6 := n3_
   have HO404 := n4_
   have HO413 := n5_
   have HR409 := n6_
   have HB := n7_
   clear n0_ n1_ n2_ n3_ n4_ n5_ n6_ n7_
   obtain ⟨Ao74, co74, eo74⟩ := Kd.R_slice HO_6.out
   (first | subst eo74 | (injection eo74 with f1_ f2_ f3_; have f4_ := f1_.symm; have f5_ := f3_.symm; clear f1_ f2_ f3_; subst f4_; subst f5_))
   refine start_ (n := 19) (S := fun w' => True) (ds := []) #[false, false, false, false, false, false, false, false, false, false, false, false, false, false, false, false, false, false, false] (by kernel_rfl) rfl rfl trivial (fun hHeld => ?_); refine with_tabW laws_FnTexts.tab15 laws_FnTexts.bits15 (fun HT_ HW_ => ?_)
   generalize w71.drew = w73 at HO_3 HO_4 HO_5 HO_6 HO404 HO413 HR409 HB hHeld ⊢
   refine pure_ (i := 0) (N := some 78) (v := _) (a' := _) #[true, false, false, false, false, false, false, false, false, false, false, false, false, false, false, false, false, false, false] rfl rfl (any_of HT_.out (by kernel_rfl)) (fun _ _ _ h => h) (Or.inl ⟨by rfl, (by intro w'; go_simp; with_reducible rfl)⟩) z14a ?_
   refine pure_ (i := 1) (N := some 79) (v := _) (a' := _) #[true, true, false, false, false, false, false, false, false, false, false, false, false, false, false, false, false, false, false] rfl rfl (any_of HT_.out (by kernel_rfl)) (fun _ _ _ h => h) (Or.inl ⟨by rfl, (by intro w'; go_simp; with_reducible rfl)⟩) z14a ?_
   refine pure_ (i := 2) (N := some 80) (v := _) (a' := _) #[true, true, true, false, false, false, false, false, false, false, false, false, false, false, false, false, false, false, false] rfl rfl (any_of HT_.out (by kernel_rfl)) (fun _ _ _ h => h) (Or.inl ⟨by rfl, (by intro w'; go_simp; with_reducible rfl)⟩) z14a ?_
   refine pure_ (i := 3) (N := some 81) (v := _) (a' := _) #[true, true, true, true, false, false, false, false, false, false, false, false, false, false, false, false, false, false, false] rfl rfl (any_of HT_.out (by kernel_rfl)) (fun _ _ _ h => h) (Or.inl ⟨by rfl, (by intro w'; go_simp; with_reducible rfl)⟩) z14a ?_
   refine pure_ (i := 4) (N := some 82) (v := _) (a' := _) #[true, true, true, true, true, false, false, false, false, false, false, false, false, false, false, false, false, false, false] rfl rfl (any_of HT_.out (by kernel_rfl)) (fun _ _ _ h => h) (Or.inl ⟨by rfl, (by intro w'; go_simp; with_reducible rfl)⟩) z14a ?_
   refine pure_ (i := 5) (N := some 83) (v := _) (a' := _) #[true, true, true, true, true, true, false, false, false, false, false, false, false, false, false, false, false, false, false] rfl rfl (any_of HT_.out (by kernel_rfl)) (fun _ _ _ h => h) (Or.inl ⟨by rfl, (by intro w'; go_simp; with_reducible rfl)⟩) z14a ?_
   refine pure_ (i := 6) (N := some 84) (v := _) (a' := _) #[true, true, true, true, true, true, true, false, false, false, false, false, false, false, false, false, false, false, false] rfl rfl (any_of HT_.out (by kernel_rfl)) (fun _ _ _ h => h) (Or.inl ⟨by rfl, (by intro w'; go_simp; with_reducible rfl)⟩) z14a ?_
   refine pure_ (i := 7) (N := some 85) (v := _) (a' := _) #[true, true, true, true, true, true, true, true, false, false, false, false, false, false, false, false, false, false, false] rfl rfl (any_of HT_.out (by kernel_rfl)) (fun _ _ _ h => h) (Or.inl ⟨by rfl, (by intro w'; go_simp; with_reducible rfl)⟩) z14a ?_
   refine pure_ (i := 8) (N := some 86) (v := _) (a' := _) #[true, true, true, true, true, true, true, true, true, false, false, false, false, false, false, false, false, false, false] rfl rfl (any_of HT_.out (by kernel_rfl)) (fun _ _ _ h => h) (Or.inl ⟨by rfl, (by intro w'; go_simp; with_reducible rfl)⟩) z14a ?_
   refine pure_ (i := 9) (N := some 87) (v := _) (a' := _) #[true, true, true, true, true, true, true, true, true, true, false, false, false, false, false, false, false, false, false] rfl rfl (any_of HT_.out (by kernel_rfl)) (fun _ _ _ h => h) (Or.inl ⟨by rfl, (by intro w'; go_simp; with_reducible rfl)⟩) z14a ?_
   refine pure_ (i := 10) (N := some 88) (v := undef) (a' := ?_) #[true, true, true, true, true, true, true, true, true, true, true, false, false, false, false, false, false, false, false] rfl rfl (any_of HT_.out (by kernel_rfl)) (fun _ _ _ h => h) (Or.inr ⟨by rfl, rfl⟩) ?_ ?_
   rotate_left
   exact z14a
   refine pure_ (i := 11) (N := some 89) (v := undef) (a' := ?_) #[true, true, true, true, true, true, true, true, true, true, true, true, false, false, false, false, false, false, false] rfl rfl (any_of HT_.out (by kernel_rfl)) (fun _ _ _ h => h) (Or.inr ⟨by rfl, rfl⟩) ?_ ?_
   rotate_left
   exact z14a
   refine pure_ (i := 12) (N := some 90) (v := undef) (a' := ?_) #[true, true, true, true, true, true, true, true, true, true, true, true, true, false, false, false, false, false, false] rfl rfl (any_of HT_.out (by kernel_rfl)) (fun _ _ _ h => h) (Or.inr ⟨by rfl, rfl⟩) ?_ ?_
   rotate_left
   exact z14a
   refine pure_ (i := 13) (N := some 91) (v := undef) (a' := ?_) #[true, true, true, true, true, true, true, true, true, true, true, true, true, true, false, false, false, false, false] rfl rfl (any_of HT_.out (by kernel_rfl)) (fun _ _ _ h => h) (Or.inr ⟨by rfl, rfl⟩) ?_ ?_
   rotate_left
   exact z14a
   refine pure_ (i := 14) (N := some 92) (v := undef) (a' := ?_) #[true, true, true, true, true, true, true, true, true, true, true, true, true, true, true, false, false, false, false] rfl rfl (any_of HT_.out (by kernel_rfl)) (fun _ _ _ h => h) (Or.inr ⟨by rfl, rfl⟩) ?_ ?_
   rotate_left
   exact z14a
   refine pure_ (i := 15) (N := some 93) (v := undef) (a' := ?_) #[true, true, true, true, true, true, true, true, true, true, true, true, true, true, true, true, false, false, false] rfl rfl (any_of HT_.out (by kernel_rfl)) (fun _ _ _ h => h) (Or.inr ⟨by rfl, rfl⟩) ?_ ?_
   rotate_left
   exact z14a
   refine pure_ (i := 16) (N := some 94) (v := _) (a' := _) #[true, true, true, true, true, true, true, true, true, true, true, true, true, true, true, true, true, false, false] rfl rfl (any_of HT_.out (by kernel_rfl)) (fun _ _ _ h => h) (Or.inl ⟨by rfl, (by intro w'; go_simp; with_reducible rfl)⟩) z14a ?_
   refine pure_ (i := 17) (N := some 95) (v := _) (a' := _) #[true, true, true, true, true, true, true, true, true, true, true, true, true, true, true, true, true, true, false] rfl rfl (any_of HT_.out (by kernel_rfl)) (fun _ _ _ h => h) (Or.inl ⟨by rfl, (by intro w'; go_simp; with_reducible rfl)⟩) z14a ?_
   refine pure_ (i := 18) (N := some 2) (v := _) (a' := _) #[true, true, true, true, true, true, true, true, true, true, true, true, true, true, true, true, true, true, true] rfl rfl (any_of HT_.out (by kernel_rfl)) (fun _ _ _ h => h) (Or.inl ⟨by rfl, (by intro w'; go_simp; with_reducible rfl)⟩) z14a ?_
   refine done_ (done_of HT_.out (by kernel_rfl)) ?_
   try go_wp2
   go_ret
   exact ⟨by first | rfl | (simp [errW_none, errW_some] <;> rfl) | (simp [*, errW_none, errW_some] <;> rfl), by repeat (first | (with_reducible first | exact HB.out | apply below_alloc | apply pw_below_drewN | apply below_drew1) | exact HB.out)⟩
   }
   }
   }
   {
   replace c46 := Bool.eq_false_iff.mpr c46
   subst c46
   have H1 : (some false) = some r := by rw [if_neg (show ¬ (false = true) by decide)] at H; exact H
   clear H
   have H := H1
   clear H1
   obtain rfl := Option.some.inj H
   obtain ⟨Ao75, co75, eo75⟩ := Kd.R_slice HO_4.out
   subst eo75
   go_wp2_with (first | ((with_reducible refine gate_callee (f := 34) rfl ?_); refine goesL_ (some 54) rfl rfl Try.func34 (by kernel_rfl) rfl #[.slice Ao75 t383.length co75] rfl z14c ?_; (with_reducible refine (impl_ReadTexts.calls kj8 _ _ t383 t401 true _ ?side1 ?side2 A34.out).mono ?_); (case side1 => exact z14k); (case side2 => exact (Kd.R_reads' HO_4.out).2.1); rintro e w76 ⟨v403, rfl, ho0, hb⟩; refine ⟨_, rfl, ?_⟩; have n0_ := Aside0.mk (Kd.R_elder' z14d (Kd.R_base ho0) hb); have n1_ := Aside0.mk (Kd.R_below z14g hb); have n2_ := Aside0.mk (Kd.R_below z14h hb); have n3_ := Aside0.mk (Kd.R_elder' z14e (Kd.R_base ho0) hb); have n4_ := Aside0.mk (Kd.R_lower (Kd.R_new' (Kd.R_new' ho0 (Kd.R_lt z14d)) (Kd.R_lt z14e)) (below_size z14b)); have n5_ := Aside0.mk (below_step z14b hb); clear HO_3; clear HO_4; clear HO_5; clear HO_6; clear HB; have HO_3 := n0_; have HO_4 := n1_; have HO_5 := n2_; have HO_6 := n3_; have HO404 := n4_; have HB := n5_; clear n0_ n1_ n2_ n3_ n4_ n5_; (try clear hb); (try clear hb2); (try clear hk); (try clear hi); (try clear ho0)) | ((with_reducible refine gate_callee (f := 62) rfl ?_); refine goesL_ (some 62) rfl rfl Try.func62 (by kernel_rfl) rfl #[.slice A0 l0.length c0, .int .i64 1, .int .i64 (t383.length : Int)] rfl z14c ?_; (with_reducible refine (laws_pick.calls kj8 _ _ l0 1 (t383.length : Int) t405 _ ?side1 ?side2 A35.out).mono ?_); (case side1 => exact z14j); (case side2 => exact HC0.out); rintro e w' ⟨rfl, ⟨nd, rfl⟩⟩; refine ⟨_, rfl, ?_⟩; have q77 : (t405 : Int) ≤ ((t383.length : Int) : Int) := of_decide_eq_true z14r; obtain ⟨i077, hi077, _, hsz77, _⟩ := info_parts info5; have hroom77 : t383.length ≤ co75 := (Kd.R_reads' HO_4.out).2.1; have hC77 : Kd.C (Kd.int .u8) _ Ao75 t383.length t383 := (Kd.R_reads' HO_4.out).2.2; have hcut77 := cut_to (P := Try.prog) 22 5 .i64 Try.underlying22 hi077 Ao75 t383.length co75 t405 (of_decide_eq_true z14r) q77 hroom77; have hr77 := Kd.C_take (m := (t405 : Int).toNat) hC77 (by omega); have hy77 : y406.length = (t405 : Int).toNat := (by rw [Ny406.out, List.length_take]; omega); rw [← Ny406.out] at hr77; rw [← hy77] at hcut77; have HR409 := Aside0.mk hr77; have HC409 := Aside0.mk (show y406.length ≤ co75 from (by omega)); clear hr77 hC77 hroom77 hi077 hsz77; have KY77 := Aside0.mk hy77; clear hy77; have KL77 := Aside0.mk (show (t405 : Int).toNat ≤ t383.length from (by omega)); replace q77 := eq_true q77) | ((with_reducible refine gate_callee (f := 34) rfl ?_); refine goesL_ (some 64) rfl rfl Try.func34 (by kernel_rfl) rfl #[.slice Ao75 y406.length co75] rfl z14c ?_; (with_reducible refine (impl_ReadTexts.calls kj8 _ _ y406 t410 false _ ?side1 ?side2 A38.out).mono ?_); (case side1 => repeat (first | exact z14f | (with_reducible refine Kd.C_alloc ?_ _) | (with_reducible refine Kd.C_drewN ?_ _) | (with_reducible refine Kd.C_drew ?_))); (case side2 => exact HC409.out); rintro e w78 ⟨v412, rfl, ho0, hb⟩; refine ⟨_, rfl, ?_⟩; have n0_ := Aside0.mk (Kd.R_elder' z14d (Kd.R_base ho0) hb); have n1_ := Aside0.mk (Kd.R_below z14g hb); have n2_ := Aside0.mk (Kd.R_below z14h hb); have n3_ := Aside0.mk (Kd.R_elder' z14e (Kd.R_base ho0) hb); have n4_ := Aside0.mk (Kd.R_elder' z14i (Kd.R_base ho0) hb); have n5_ := Aside0.mk (Kd.R_lower (Kd.R_new' (Kd.R_new' (Kd.R_new' ho0 (Kd.R_lt z14d)) (Kd.R_lt z14e)) (Kd.R_lt z14i)) (below_size z14b)); have n6_ := Aside0.mk (Kd.C_below z14f hb); have n7_ := Aside0.mk (below_step z14b hb); clear HO_3; clear HO_4; clear HO_5; clear HO_6; clear HO404; clear HR409; clear HB; have HO_3 := n0_; have HO_4 := n1_; have HO_5 := n2_; have HO_6 := n3_; have HO404 := n4_; have HO413 := n5_; have HR409 := n6_; have HB := n7_; clear n0_ n1_ n2_ n3_ n4_ n5_ n6_ n7_; (try clear hb); (try clear hb2); (try clear hk); (try clear hi); (try clear ho0); obtain ⟨Ao79, co79, eo79⟩ := Kd.R_slice HO404.out; subst eo79) | (go_at_call 61; (with_reducible refine (laws_likeTexts.calls kj8 _ _ t401 _ _ t380 false _ ?side1 ?side2 ?side3 ?side4 A45.out).mono ?_); (case side1 => exact z14s); (case side2 => exact (Kd.R_reads' HO404.out).2.1); (case side3 => exact z14u); (case side4 => exact (Kd.R_reads' HO_3.out).2.1); rintro e w' ⟨rfl, ⟨nd, rfl⟩⟩))
   go_ret
   exact ⟨by first | rfl | (simp [errW_none, errW_some] <;> rfl) | (simp [*, errW_none, errW_some] <;> rfl), by repeat (first | (with_reducible first | exact HB.out | apply below_alloc | apply pw_below_drewN | apply below_drew1) | exact HB.out)⟩
   }
   }
   }
   {
   replace c39 := Bool.eq_false_iff.mpr c39
   subst c39
   have H1 : (some false) = some r := by rw [if_neg (show ¬ (false = true) by decide)] at H; exact H
   clear H
   have H := H1
   clear H1
   obtain rfl := Option.some.inj H
   obtain ⟨Ao80, co80, eo80⟩ := Kd.R_slice HO_4.out
   subst eo80
   go_wp2_with (first | ((with_reducible refine gate_callee (f := 34) rfl ?_); refine goesL_ (some 54) rfl rfl Try.func34 (by kernel_rfl) rfl #[.slice Ao80 t383.length co80] rfl z14c ?_; (with_reducible refine (impl_ReadTexts.calls kj8 _ _ t383 t401 false _ ?side1 ?side2 A34.out).mono ?_); (case side1 => exact z14k); (case side2 => exact (Kd.R_reads' HO_4.out).2.1); rintro e w81 ⟨v403, rfl, ho0, hb⟩; refine ⟨_, rfl, ?_⟩; have n0_ := Aside0.mk (Kd.R_elder' z14d (Kd.R_base ho0) hb); have n1_ := Aside0.mk (Kd.R_below z14g hb); have n2_ := Aside0.mk (Kd.R_below z14h hb); have n3_ := Aside0.mk (Kd.R_elder' z14e (Kd.R_base ho0) hb); have n4_ := Aside0.mk (Kd.R_lower (Kd.R_new' (Kd.R_new' ho0 (Kd.R_lt z14d)) (Kd.R_lt z14e)) (below_size z14b)); have n5_ := Aside0.mk (below_step z14b hb); clear HO_3; clear HO_4; clear HO_5; clear HO_6; clear HB; have HO_3 := n0_; have HO_4 := n1_; have HO_5 := n2_; have HO_6 := n3_; have HO404 := n4_; have HB := n5_; clear n0_ n1_ n2_ n3_ n4_ n5_; (try clear hb); (try clear hb2); (try clear hk); (try clear hi); (try clear ho0)) | ((with_reducible refine gate_callee (f := 62) rfl ?_); refine goesL_ (some 62) rfl rfl Try.func62 (by kernel_rfl) rfl #[.slice A0 l0.length c0, .int .i64 1, .int .i64 (t383.length : Int)] rfl z14c ?_; (with_reducible refine (laws_pick.calls kj8 _ _ l0 1 (t383.length : Int) t405 _ ?side1 ?side2 A35.out).mono ?_); (case side1 => exact z14j); (case side2 => exact HC0.out); rintro e w' ⟨rfl, ⟨nd, rfl⟩⟩; refine ⟨_, rfl, ?_⟩; have q82 : (t405 : Int) ≤ ((t383.length : Int) : Int) := of_decide_eq_true z14r; obtain ⟨i082, hi082, _, hsz82, _⟩ := info_parts info5; have hroom82 : t383.length ≤ co80 := (Kd.R_reads' HO_4.out).2.1; have hC82 : Kd.C (Kd.int .u8) _ Ao80 t383.length t383 := (Kd.R_reads' HO_4.out).2.2; have hcut82 := cut_to (P := Try.prog) 22 5 .i64 Try.underlying22 hi082 Ao80 t383.length co80 t405 (of_decide_eq_true z14r) q82 hroom82; have hr82 := Kd.C_take (m := (t405 : Int).toNat) hC82 (by omega); have hy82 : y406.length = (t405 : Int).toNat := (by rw [Ny406.out, List.length_take]; omega); rw [← Ny406.out] at hr82; rw [← hy82] at hcut82; have HR409 := Aside0.mk hr82; have HC409 := Aside0.mk (show y406.length ≤ co80 from (by omega)); clear hr82 hC82 hroom82 hi082 hsz82; have KY82 := Aside0.mk hy82; clear hy82; have KL82 := Aside0.mk (show (t405 : Int).toNat ≤ t383.length from (by omega)); replace q82 := eq_true q82) | ((with_reducible refine gate_callee (f := 34) rfl ?_); refine goesL_ (some 64) rfl rfl Try.func34 (by kernel_rfl) rfl #[.slice Ao80 y406.length co80] rfl z14c ?_; (with_reducible refine (impl_ReadTexts.calls kj8 _ _ y406 t410 t411 _ ?side1 ?side2 A38.out).mono ?_); (case side1 => repeat (first | exact z14f | (with_reducible refine Kd.C_alloc ?_ _) | (with_reducible refine Kd.C_drewN ?_ _) | (with_reducible refine Kd.C_drew ?_))); (case side2 => exact HC409.out); rintro e w83 ⟨v412, rfl, ho0, hb⟩; refine ⟨_, rfl, ?_⟩; have n0_ := Aside0.mk (Kd.R_elder' z14d (Kd.R_base ho0) hb); have n1_ := Aside0.mk (Kd.R_below z14g hb); have n2_ := Aside0.mk (Kd.R_below z14h hb); have n3_ := Aside0.mk (Kd.R_elder' z14e (Kd.R_base ho0) hb); have n4_ := Aside0.mk (Kd.R_elder' z14i (Kd.R_base ho0) hb); have n5_ := Aside0.mk (Kd.R_lower (Kd.R_new' (Kd.R_new' (Kd.R_new' ho0 (Kd.R_lt z14d)) (Kd.R_lt z14e)) (Kd.R_lt z14i)) (below_size z14b)); have n6_ := Aside0.mk (Kd.C_below z14f hb); have n7_ := Aside0.mk (below_step z14b hb); clear HO_3; clear HO_4; clear HO_5; clear HO_6; clear HO404; clear HR409; clear HB; have HO_3 := n0_; have HO_4 := n1_; have HO_5 := n2_; have HO_6 := n3_; have HO404 := n4_; have HO413 := n5_; have HR409 := n6_; have HB := n7_; clear n0_ n1_ n2_ n3_ n4_ n5_ n6_ n7_; (try clear hb); (try clear hb2); (try clear hk); (try clear hi); (try clear ho0)))
   go_ret
   exact ⟨by first | rfl | (simp [errW_none, errW_some] <;> rfl) | (simp [*, errW_none, errW_some] <;> rfl), by repeat (first | (with_reducible first | exact HB.out | apply below_alloc | apply pw_below_drewN | apply below_drew1) | exact HB.out)⟩
   }
   }
   {
   rw [if_neg c37] at H
   exact absurd H (by simp)
   }
   }
   {
   rw [if_neg c36] at H
   exact absurd H (by simp)
   }
   }
   {
   rw [if_neg c33] at H
   have c33b0 : decide (0 < (t383.length : Int)) = false := decide_eq_false c33
   have c33b1 : decide (0 < t383.length) = false := decide_eq_false (by omega)
   clear c33
   by_cases c84 : t390 = true
   {
   subst c84
   have H1 : ((impl_Texts.f kj8 t389).bind fun t418 => (some ((strOfNums t418).toList == (strOfNums t386).toList))) = some r := by rw [if_pos rfl] at H; exact H
   clear H
   have H := H1
   clear H1
   replace H := Option.bind_eq_some_iff.mp H
   obtain ⟨t418, A850, H⟩ := H
   replace H : (some ((strOfNums t418).toList == (strOfNums t386).toList)) = some r := H
   have A85 := Aside0.mk A850
   clear A850
   obtain rfl := Option.some.inj H
   obtain ⟨Ao86, co86, eo86⟩ := Kd.R_slice HO_4.out
   subst eo86
   obtain ⟨Ao87, co87, eo87⟩ := Kd.R_slice HO_6.out
   subst eo87
   try go_wp2
   have n0_ := Aside0.mk (Kd.R_drew HO_3.out)
   have n1_ := Aside0.mk (Kd.R_drew HO_4.out)
   have n2_ := Aside0.mk (Kd.R_drew HO_5.out)
   have n3_ := Aside0.mk (Kd.R_drew HO_6.out)
   have n4_ := Aside0.mk (below_drew1 HB.out)
   clear HO_3
   clear HO_4
   clear HO_5
   clear HO_6
   clear HB
   have HO_3 := n0_
   have HO_4 := n1_
   have HO_5 := n2_
   have HO_6 := n3_
   have HB := n4_
   clear n0_ n1_ n2_ n3_ n4_
   refine start_ (n := 19) (S := fun w' => True) (ds := []) #[false, false, false, false, false, false, false, false, false, false, false, false, false, false, false, false, false, false, false] (by kernel_rfl) rfl rfl trivial (fun hHeld => ?_); refine with_tabW laws_FnTexts.tab15 laws_FnTexts.bits15 (fun HT_ HW_ => ?_)
   generalize wc.drew = w88 at HO_3 HO_4 HO_5 HO_6 HB hHeld ⊢
   refine pure_ (i := 0) (N := some 78) (v := _) (a' := _) #[true, false, false, false, false, false, false, false, false, false, false, false, false, false, false, false, false, false, false] rfl rfl (any_of HT_.out (by kernel_rfl)) (fun _ _ _ h => h) (Or.inl ⟨by rfl, (by intro w'; go_simp; with_reducible rfl)⟩) z14a ?_
   refine pure_ (i := 1) (N := some 79) (v := _) (a' := _) #[true, true, false, false, false, false, false, false, false, false, false, false, false, false, false, false, false, false, false] rfl rfl (any_of HT_.out (by kernel_rfl)) (fun _ _ _ h => h) (Or.inl ⟨by rfl, (by intro w'; go_simp; with_reducible rfl)⟩) z14a ?_
   refine pure_ (i := 2) (N := some 80) (v := _) (a' := _) #[true, true, true, false, false, false, false, false, false, false, false, false, false, false, false, false, false, false, false] rfl rfl (any_of HT_.out (by kernel_rfl)) (fun _ _ _ h => h) (Or.inl ⟨by rfl, (by intro w'; go_simp; with_reducible rfl)⟩) z14a ?_
   refine pure_ (i := 3) (N := some 81) (v := undef) (a' := ?_) #[true, true, true, true, false, false, false, false, false, false, false, false, false, false, false, false, false, false, false] rfl rfl (any_of HT_.out (by kernel_rfl)) (fun _ _ _ h => h) (Or.inr ⟨by rfl, rfl⟩) ?_ ?_
   rotate_left
   exact z14a
   refine pure_ (i := 4) (N := some 82) (v := undef) (a' := ?_) #[true, true, true, true, true, false, false, false, false, false, false, false, false, false, false, false, false, false, false] rfl rfl (any_of HT_.out (by kernel_rfl)) (fun _ _ _ h => h) (Or.inr ⟨by rfl, rfl⟩) ?_ ?_
   rotate_left
   exact z14a
   refine pure_ (i := 5) (N := some 83) (v := undef) (a' := ?_) #[true, true, true, true, true, true, false, false, false, false, false, false, false, false, false, false, false, false, false] rfl rfl (any_of HT_.out (by kernel_rfl)) (fun _ _ _ h => h) (Or.inr ⟨by rfl, rfl⟩) ?_ ?_
   rotate_left
   exact z14a
   refine pure_ (i := 6) (N := some 84) (v := _) (a' := _) #[true, true, true, true, true, true, true, false, false, false, false, false, false, false, false, false, false, false, false] rfl rfl (any_of HT_.out (by kernel_rfl)) (fun _ _ _ h => h) (Or.inl ⟨by rfl, (by intro w'; go_simp; with_reducible rfl)⟩) z14a ?_
   refine pure_ (i := 7) (N := some 85) (v := _) (a' := _) #[true, true, true, true, true, true, true, true, false, false, false, false, false, false, false, false, false, false, false] rfl rfl (any_of HT_.out (by kernel_rfl)) (fun _ _ _ h => h) (Or.inl ⟨by rfl, (by intro w'; go_simp; with_reducible rfl)⟩) z14a ?_
   refine pure_ (i := 8) (N := some 86) (v := _) (a' := _) #[true, true, true, true, true, true, true, true, true, false, false, false, false, false, false, false, false, false, false] rfl rfl (any_of HT_.out (by kernel_rfl)) (fun _ _ _ h => h) (Or.inl ⟨by rfl, (by intro w'; go_simp; with_reducible rfl)⟩) z14a ?_
   refine pure_ (i := 9) (N := some 87) (v := _) (a' := _) #[true, true, true, true, true, true, true, true, true, true, false, false, false, false, false, false, false, false, false] rfl rfl (any_of HT_.out (by kernel_rfl)) (fun _ _ _ h => h) (Or.inl ⟨by rfl, (by intro w'; go_simp; with_reducible rfl)⟩) z14a ?_
   refine pure_ (i := 10) (N := some 88) (v := _) (a' := _) #[true, true, true, true, true, true, true, true, true, true, true, false, false, false, false, false, false, false, false] rfl rfl (any_of HT_.out (by kernel_rfl)) (fun _ _ _ h => h) (Or.inl ⟨by rfl, (by intro w'; go_simp; with_reducible rfl)⟩) z14a ?_
   refine pure_ (i := 13) (N := some 91) (v := _) (a' := _) #[true, true, true, true, true, true, true, true, true, true, true, false, false, true, false, false, false, false, false] rfl rfl (any_of HT_.out (by kernel_rfl)) (fun _ _ _ h => h) (Or.inl ⟨by rfl, (by intro w'; go_simp; with_reducible rfl)⟩) z14a ?_
   refine join_ (σ := Value) 4 #[true, true, true, true, true, true, true, true, true, true, true, true, true, true, true, false, false, false, false] (fun s_ => [(89, s_), (90, .string (strOfNums t418)), (92, .string (strOfNums t386))]) (fun s_ w' => (Kd.R (Kd.int .u8) 5 w' w.heap.size (fun k_ => some k_ ≠ (.slice Ao86 t383.length co86 : Value).ownBlock ∧ some k_ ≠ (.slice Ao14 t386.length co14 : Value).ownBlock) s_ t418) ∧ (Kd.R Kd.string 9 w' w.heap.size (fun k_ => some k_ ≠ (.slice Ao87 t389.length co87 : Value).ownBlock) (.slice Ao11 t380.length co11) t380) ∧ (Kd.R (Kd.int .u8) 5 w' w.heap.size (fun k_ => some k_ ≠ (s_ : Value).ownBlock ∧ some k_ ≠ (.slice Ao14 t386.length co14 : Value).ownBlock) (.slice Ao86 t383.length co86) t383) ∧ (Kd.R (Kd.int .u8) 5 w' w.heap.size (fun k_ => some k_ ≠ (s_ : Value).ownBlock ∧ some k_ ≠ (.slice Ao86 t383.length co86 : Value).ownBlock) (.slice Ao14 t386.length co14) t386) ∧ (Kd.R Kd.string 9 w' w.heap.size (fun k_ => some k_ ≠ (.slice Ao11 t380.length co11 : Value).ownBlock) (.slice Ao87 t389.length co87) t389) ∧ (Below w.heap.size w w')) ?_ ?_
   rotate_left
   {
   intro hCont
   refine two_ (i := 11) (j := 14) (Ni := some 89) (Nj := some 92) #[true, true, true, true, true, true, true, true, true, true, true, true, false, true, false, false, false, false, false] #[true, true, true, true, true, true, true, true, true, true, true, false, false, true, true, false, false, false, false] rfl rfl rfl rfl (two_of HT_.out (by kernel_rfl)) (by decide) (by decide) (fun K hK => ?_) (fun K hK => ?_)
   {
   skip
   refine goes_ Try.func30 (by kernel_rfl) rfl #[.slice Ao87 t389.length co87] (by rfl) rfl rfl z14c ?_
   with_reducible refine (impl_Texts.calls kj8 _ _ t389 t418 _ ?side1 ?side2 A85.out).mono ?_
   (case side1 => exact z14v)
   (case side2 => exact (Kd.R_reads' HO_6.out).2.1)
   rintro e w89 ⟨v419, rfl, ho0, hb⟩
   refine ⟨_, rfl, ?_⟩
   have n0_ := Aside0.mk (Kd.R_below z14d hb)
   have n1_ := Aside0.mk (Kd.R_elder' z14g (Kd.R_base ho0) hb)
   have n2_ := Aside0.mk (Kd.R_elder' z14h (Kd.R_base ho0) hb)
   have n3_ := Aside0.mk (Kd.R_below z14e hb)
   have n4_ := Aside0.mk (Kd.R_lower (Kd.R_new' (Kd.R_new' ho0 (Kd.R_lt z14g)) (Kd.R_lt z14h)) (below_size z14b))
   have n5_ := Aside0.mk (below_step z14b hb)
   clear HO_3
   clear HO_4
   clear HO_5
   clear HO_6
   clear HB
   have HO_3 := n0_
   have HO_4 := n1_
   have HO_5 := n2_
   have HO_6 := n3_
   have HO420 := n4_
   have HB := n5_
   clear n0_ n1_ n2_ n3_ n4_ n5_
   (try clear hb)
   (try clear hb2)
   (try clear hk)
   (try clear hi)
   (try clear ho0)
   refine hK.out _ _ trivial (fun hHeld => ?_)
   clear hK K
   refine norm_ (a' := ?_) ?_ ?_
   rotate_left
   {
   show Act.put _ (some 89) _ = _
   simp only [Act.put, List.setIfInBounds_toArray, List.set_cons_zero, List.set_cons_succ, i64_w, i32_w]
   rfl
   }
   refine two_ (i := 12) (j := 14) (Ni := some 90) (Nj := some 92) #[true, true, true, true, true, true, true, true, true, true, true, true, true, true, false, false, false, false, false] #[true, true, true, true, true, true, true, true, true, true, true, true, false, true, true, false, false, false, false] rfl rfl rfl rfl (two_of HT_.out (by kernel_rfl)) (by decide) (by decide) (fun K hK => ?_) (fun K hK => ?_)
   {
   skip
   have hcv90 := own_string (P := Try.prog) Try.underlying22 Try.underlying5 Try.underlying9 (Kd.own_of_R HO420.out)
   refine value_ (w1 := ?_) (v := ?_) (by rfl) rfl ?_ ?_
   rotate_left 2
   {
   go_simp
   constructor
   {
   rfl
   }
   {
   rfl
   }
   }
   clear hcv90
   refine hK.out _ _ trivial (fun hHeld => ?_)
   clear hK K
   refine norm_ (a' := ?_) ?_ ?_
   rotate_left
   {
   show Act.put _ (some 90) _ = _
   simp only [Act.put, List.setIfInBounds_toArray, List.set_cons_zero, List.set_cons_succ, i64_w, i32_w]
   rfl
   }
   refine one_ (i := 14) (N := some 92) #[true, true, true, true, true, true, true, true, true, true, true, true, true, true, true, false, false, false, false] rfl rfl (one_of HT_.out (by kernel_rfl)) (by decide) (fun K hK => ?_)
   have hcv91 := own_string (P := Try.prog) Try.underlying22 Try.underlying5 Try.underlying9 (Kd.own_of_R HO_5.out); have hcv91d := fun (nq_ : Nat) => own_string (P := Try.prog) Try.underlying22 Try.underlying5 Try.underlying9 (Kd.own_of_R (Kd.R_drewN HO_5.out nq_))
   refine value_ (w1 := ?_) (v := ?_) (by rfl) rfl ?_ ?_
   rotate_left 2
   {
   go_simp
   constructor
   {
   rfl
   }
   {
   rfl
   }
   }
   clear hcv91 hcv91d
   refine hK.out _ _ trivial (fun hHeld => ?_)
   clear hK K
   refine norm_ (a' := ?_) ?_ ?_
   rotate_left
   {
   show Act.put _ (some 92) _ = _
   simp only [Act.put, List.setIfInBounds_toArray, List.set_cons_zero, List.set_cons_succ, i64_w, i32_w]
   rfl
   }
   exact norm_ z14l (hCont (v419) _ ⟨(by (with_reducible repeat (first | apply Kd.R_alloc | apply Kd.R_drewN | apply Kd.R_drew)); exact Kd.R_mono HO420.out (fun _ hk => ⟨hk.1.2, hk.2⟩)), z14d, z14p, z14q, z14e, z14b⟩)
   }
   {
   skip
   have hcv90 := own_string (P := Try.prog) Try.underlying22 Try.underlying5 Try.underlying9 (Kd.own_of_R HO_5.out); have hcv90d := fun (nq_ : Nat) => own_string (P := Try.prog) Try.underlying22 Try.underlying5 Try.underlying9 (Kd.own_of_R (Kd.R_drewN HO_5.out nq_))
   refine value_ (w1 := ?_) (v := ?_) (by rfl) rfl ?_ ?_
   rotate_left 2
   {
   go_simp
   constructor
   {
   rfl
   }
   {
   rfl
   }
   }
   clear hcv90 hcv90d
   refine hK.out _ _ trivial (fun hHeld => ?_)
   clear hK K
   refine norm_ (a' := ?_) ?_ ?_
   rotate_left
   {
   show Act.put _ (some 92) _ = _
   simp only [Act.put, List.setIfInBounds_toArray, List.set_cons_zero, List.set_cons_succ, i64_w, i32_w]
   rfl
   }
   refine one_ (i := 12) (N := some 90) #[true, true, true, true, true, true, true, true, true, true, true, true, true, true, true, false, false, false, false] rfl rfl (one_of HT_.out (by kernel_rfl)) (by decide) (fun K hK => ?_)
   have hcv91 := own_string (P := Try.prog) Try.underlying22 Try.underlying5 Try.underlying9 (Kd.own_of_R HO420.out)
   refine value_ (w1 := ?_) (v := ?_) (by rfl) rfl ?_ ?_
   rotate_left 2
   {
   go_simp
   constructor
   {
   rfl
   }
   {
   rfl
   }
   }
   clear hcv91
   refine hK.out _ _ trivial (fun hHeld => ?_)
   clear hK K
   refine norm_ (a' := ?_) ?_ ?_
   rotate_left
   {
   show Act.put _ (some 90) _ = _
   simp only [Act.put, List.setIfInBounds_toArray, List.set_cons_zero, List.set_cons_succ, i64_w, i32_w]
   rfl
   }
   exact norm_ z14l (hCont (v419) _ ⟨(by (with_reducible repeat (first | apply Kd.R_alloc | apply Kd.R_drewN | apply Kd.R_drew)); exact Kd.R_mono HO420.out (fun _ hk => ⟨hk.1.2, hk.2⟩)), z14d, z14p, z14q, z14e, z14b⟩)
   }
   }
   {
   skip
   have hcv89 := own_string (P := Try.prog) Try.underlying22 Try.underlying5 Try.underlying9 (Kd.own_of_R HO_5.out); have hcv89d := fun (nq_ : Nat) => own_string (P := Try.prog) Try.underlying22 Try.underlying5 Try.underlying9 (Kd.own_of_R (Kd.R_drewN HO_5.out nq_))
   refine value_ (w1 := ?_) (v := ?_) (by rfl) rfl ?_ ?_
   rotate_left 2
   {
   go_simp
   constructor
   {
   rfl
   }
   {
   rfl
   }
   }
   clear hcv89 hcv89d
   refine hK.out _ _ trivial (fun hHeld => ?_)
   clear hK K
   refine norm_ (a' := ?_) ?_ ?_
   rotate_left
   {
   show Act.put _ (some 92) _ = _
   simp only [Act.put, List.setIfInBounds_toArray, List.set_cons_zero, List.set_cons_succ, i64_w, i32_w]
   rfl
   }
   refine one_ (i := 11) (N := some 89) #[true, true, true, true, true, true, true, true, true, true, true, true, false, true, true, false, false, false, false] rfl rfl (one_of HT_.out (by kernel_rfl)) (by decide) (fun K hK => ?_)
   refine goes_ Try.func30 (by kernel_rfl) rfl #[.slice Ao87 t389.length co87] (by rfl) rfl rfl z14c ?_
   with_reducible refine (impl_Texts.calls kj8 _ _ t389 t418 _ ?side1 ?side2 A85.out).mono ?_
   (case side1 => exact z14v)
   (case side2 => exact (Kd.R_reads' HO_6.out).2.1)
   rintro e w90 ⟨v419, rfl, ho0, hb⟩
   refine ⟨_, rfl, ?_⟩
   have n0_ := Aside0.mk (Kd.R_below z14d hb)
   have n1_ := Aside0.mk (Kd.R_elder' z14g (Kd.R_base ho0) hb)
   have n2_ := Aside0.mk (Kd.R_elder' z14h (Kd.R_base ho0) hb)
   have n3_ := Aside0.mk (Kd.R_below z14e hb)
   have n4_ := Aside0.mk (Kd.R_lower (Kd.R_new' (Kd.R_new' ho0 (Kd.R_lt z14g)) (Kd.R_lt z14h)) (below_size z14b))
   have n5_ := Aside0.mk (below_step z14b hb)
   clear HO_3
   clear HO_4
   clear HO_5
   clear HO_6
   clear HB
   have HO_3 := n0_
   have HO_4 := n1_
   have HO_5 := n2_
   have HO_6 := n3_
   have HO420 := n4_
   have HB := n5_
   clear n0_ n1_ n2_ n3_ n4_ n5_
   (try clear hb)
   (try clear hb2)
   (try clear hk)
   (try clear hi)
   (try clear ho0)
   refine hK.out _ _ trivial (fun hHeld => ?_)
   clear hK K
   refine norm_ (a' := ?_) ?_ ?_
   rotate_left
   {
   show Act.put _ (some 89) _ = _
   simp only [Act.put, List.setIfInBounds_toArray, List.set_cons_zero, List.set_cons_succ, i64_w, i32_w]
   rfl
   }
   refine one_ (i := 12) (N := some 90) #[true, true, true, true, true, true, true, true, true, true, true, true, true, true, true, false, false, false, false] rfl rfl (one_of HT_.out (by kernel_rfl)) (by decide) (fun K hK => ?_)
   have hcv91 := own_string (P := Try.prog) Try.underlying22 Try.underlying5 Try.underlying9 (Kd.own_of_R HO420.out)
   refine value_ (w1 := ?_) (v := ?_) (by rfl) rfl ?_ ?_
   rotate_left 2
   {
   go_simp
   constructor
   {
   rfl
   }
   {
   rfl
   }
   }
   clear hcv91
   refine hK.out _ _ trivial (fun hHeld => ?_)
   clear hK K
   refine norm_ (a' := ?_) ?_ ?_
   rotate_left
   {
   show Act.put _ (some 90) _ = _
   simp only [Act.put, List.setIfInBounds_toArray, List.set_cons_zero, List.set_cons_succ, i64_w, i32_w]
   rfl
   }
   exact norm_ z14l (hCont (v419) _ ⟨(by (with_reducible repeat (first | apply Kd.R_alloc | apply Kd.R_drewN | apply Kd.R_drew)); exact Kd.R_mono HO420.out (fun _ hk => ⟨hk.1.2, hk.2⟩)), z14d, z14p, z14q, z14e, z14b⟩)
   }
   }
   rintro v419 w92 ⟨h0_, h1_, h2_, h3_, h4_, h5_⟩
   have n0_ : Aside0 (Kd.R (Kd.int .u8) 5 w92 w.heap.size (fun k_ => some k_ ≠ (.slice Ao86 t383.length co86 : Value).ownBlock ∧ some k_ ≠ (.slice Ao14 t386.length co14 : Value).ownBlock) v419 t418) := ⟨h0_⟩
   have n1_ : Aside0 (Kd.R Kd.string 9 w92 w.heap.size (fun k_ => some k_ ≠ (.slice Ao87 t389.length co87 : Value).ownBlock) (.slice Ao11 t380.length co11) t380) := ⟨h1_⟩
   have n2_ : Aside0 (Kd.R (Kd.int .u8) 5 w92 w.heap.size (fun k_ => some k_ ≠ (v419 : Value).ownBlock ∧ some k_ ≠ (.slice Ao14 t386.length co14 : Value).ownBlock) (.slice Ao86 t383.length co86) t383) := ⟨h2_⟩
   have n3_ : Aside0 (Kd.R (Kd.int .u8) 5 w92 w.heap.size (fun k_ => some k_ ≠ (v419 : Value).ownBlock ∧ some k_ ≠ (.slice Ao86 t383.length co86 : Value).ownBlock) (.slice Ao14 t386.length co14) t386) := ⟨h3_⟩
   have n4_ : Aside0 (Kd.R Kd.string 9 w92 w.heap.size (fun k_ => some k_ ≠ (.slice Ao11 t380.length co11 : Value).ownBlock) (.slice Ao87 t389.length co87) t389) := ⟨h4_⟩
   have n5_ : Aside0 (Below w.heap.size w w92) := ⟨h5_⟩
   clear HO_3
   clear HO_4
   clear HO_5
   clear HO_6
   clear HB
   clear h0_ h1_ h2_ h3_ h4_ h5_
   have HO420 := n0_
   have HO_3 := n1_
   have HO_4 := n2_
   have HO_5 := n3_
   have HO_6 := n4_
   have HB := n5_
   clear n0_ n1_ n2_ n3_ n4_ n5_
   have hHeld := trivial
   refine norm_ (a' := ?_) ?_ ?_
   rotate_left
   exact (by simp only [putAll, Act.put, List.setIfInBounds_toArray, List.set_cons_zero, List.set_cons_succ]; rfl)
   refine pure_ (i := 15) (N := some 93) (v := _) (a' := _) #[true, true, true, true, true, true, true, true, true, true, true, true, true, true, true, true, false, false, false] rfl rfl (any_of HT_.out (by kernel_rfl)) (fun _ _ _ h => h) (Or.inl ⟨by rfl, (by intro w'; go_simp; with_reducible rfl)⟩) z14a ?_
   refine pure_ (i := 16) (N := some 94) (v := _) (a' := _) #[true, true, true, true, true, true, true, true, true, true, true, true, true, true, true, true, true, false, false] rfl rfl (any_of HT_.out (by kernel_rfl)) (fun _ _ _ h => h) (Or.inl ⟨by rfl, (by intro w'; go_simp; with_reducible rfl)⟩) z14a ?_
   refine pure_ (i := 17) (N := some 95) (v := _) (a' := _) #[true, true, true, true, true, true, true, true, true, true, true, true, true, true, true, true, true, true, false] rfl rfl (any_of HT_.out (by kernel_rfl)) (fun _ _ _ h => h) (Or.inl ⟨by rfl, (by intro w'; go_simp; with_reducible rfl)⟩) z14a ?_
   refine pure_ (i := 18) (N := some 2) (v := _) (a' := _) #[true, true, true, true, true, true, true, true, true, true, true, true, true, true, true, true, true, true, true] rfl rfl (any_of HT_.out (by kernel_rfl)) (fun _ _ _ h => h) (Or.inl ⟨by rfl, (by intro w'; go_simp; with_reducible rfl)⟩) z14a ?_
   refine done_ (done_of HT_.out (by kernel_rfl)) ?_
   try go_wp2
   go_ret
   exact ⟨by first | rfl | (simp [errW_none, errW_some] <;> rfl) | (simp [*, errW_none, errW_some] <;> rfl), by repeat (first | (with_reducible first | exact HB.out | apply below_alloc | apply pw_below_drewN | apply below_drew1) | exact HB.out)⟩
   }
   {
   replace c84 := Bool.eq_false_iff.mpr c84
   subst c84
   have H1 : (if (t389.length : Int) = 0 then (some true) else (some false)) = some r := by rw [if_neg (show ¬ (false = true) by decide)] at H; exact H
   clear H
   have H := H1
   clear H1
   by_cases c93 : (t389.length : Int) = 0
   {
   rw [if_pos c93] at H
   have c93b0 : ((t389.length : Int) == 0) = true := beq_iff_eq.mpr c93
   have c93b1 : ((t389.length : Int) != 0) = false := bne_eq_false_iff_eq.mpr c93
   clear c93
   obtain rfl := Option.some.inj H
   obtain ⟨Ao94, co94, eo94⟩ := Kd.R_slice HO_4.out
   subst eo94
   try go_wp2
   have n0_ := Aside0.mk (Kd.R_drew HO_3.out)
   have n1_ := Aside0.mk (Kd.R_drew HO_4.out)
   have n2_ := Aside0.mk (Kd.R_drew HO_5.out)
   have n3_ := Aside0.mk (Kd.R_drew HO_6.out)
   have n4_ := Aside0.mk (below_drew1 HB.out)
   clear HO_3
   clear HO_4
   clear HO_5
   clear HO_6
   clear HB
   have HO_3 := n0_
   have HO_4 := n1_
   have HO_5 := n2_
   have HO_6 := n3_
   have HB := n4_
   clear n0_ n1_ n2_ n3_ n4_
   obtain ⟨Ao96, co96, eo96⟩ := Kd.R_slice HO_6.out
   (first | subst eo96 | (injection eo96 with f1_ f2_ f3_; have f4_ := f1_.symm; have f5_ := f3_.symm; clear f1_ f2_ f3_; subst f4_; subst f5_))
   refine start_ (n := 19) (S := fun w' => True) (ds := []) #[false, false, false, false, false, false, false, false, false, false, false, false, false, false, false, false, false, false, false] (by kernel_rfl) rfl rfl trivial (fun hHeld => ?_); refine with_tabW laws_FnTexts.tab15 laws_FnTexts.bits15 (fun HT_ HW_ => ?_)
   generalize wc.drew = w95 at HO_3 HO_4 HO_5 HO_6 HB hHeld ⊢
   refine pure_ (i := 0) (N := some 78) (v := _) (a' := _) #[true, false, false, false, false, false, false, false, false, false, false, false, false, false, false, false, false, false, false] rfl rfl (any_of HT_.out (by kernel_rfl)) (fun _ _ _ h => h) (Or.inl ⟨by rfl, (by intro w'; go_simp; with_reducible rfl)⟩) z14a ?_
   refine pure_ (i := 1) (N := some 79) (v := _) (a' := _) #[true, true, false, false, false, false, false, false, false, false, false, false, false, false, false, false, false, false, false] rfl rfl (any_of HT_.out (by kernel_rfl)) (fun _ _ _ h => h) (Or.inl ⟨by rfl, (by intro w'; go_simp; with_reducible rfl)⟩) z14a ?_
   refine pure_ (i := 2) (N := some 80) (v := _) (a' := _) #[true, true, true, false, false, false, false, false, false, false, false, false, false, false, false, false, false, false, false] rfl rfl (any_of HT_.out (by kernel_rfl)) (fun _ _ _ h => h) (Or.inl ⟨by rfl, (by intro w'; go_simp; with_reducible rfl)⟩) z14a ?_
   refine pure_ (i := 3) (N := some 81) (v := _) (a' := _) #[true, true, true, true, false, false, false, false, false, false, false, false, false, false, false, false, false, false, false] rfl rfl (any_of HT_.out (by kernel_rfl)) (fun _ _ _ h => h) (Or.inl ⟨by rfl, (by intro w'; go_simp; with_reducible rfl)⟩) z14a ?_
   refine pure_ (i := 4) (N := some 82) (v := _) (a' := _) #[true, true, true, true, true, false, false, false, false, false, false, false, false, false, false, false, false, false, false] rfl rfl (any_of HT_.out (by kernel_rfl)) (fun _ _ _ h => h) (Or.inl ⟨by rfl, (by intro w'; go_simp; with_reducible rfl)⟩) z14a ?_
   refine pure_ (i := 5) (N := some 83) (v := _) (a' := _) #[true, true, true, true, true, true, false, false, false, false, false, false, false, false, false, false, false, false, false] rfl rfl (any_of HT_.out (by kernel_rfl)) (fun _ _ _ h => h) (Or.inl ⟨by rfl, (by intro w'; go_simp; with_reducible rfl)⟩) z14a ?_
   refine pure_ (i := 6) (N := some 84) (v := _) (a' := _) #[true, true, true, true, true, true, true, false, false, false, false, false, false, false, false, false, false, false, false] rfl rfl (any_of HT_.out (by kernel_rfl)) (fun _ _ _ h => h) (Or.inl ⟨by rfl, (by intro w'; go_simp; with_reducible rfl)⟩) z14a ?_
   refine pure_ (i := 7) (N := some 85) (v := _) (a' := _) #[true, true, true, true, true, true, true, true, false, false, false, false, false, false, false, false, false, false, false] rfl rfl (any_of HT_.out (by kernel_rfl)) (fun _ _ _ h => h) (Or.inl ⟨by rfl, (by intro w'; go_simp; with_reducible rfl)⟩) z14a ?_
   refine pure_ (i := 8) (N := some 86) (v := undef) (a' := ?_) #[true, true, true, true, true, true, true, true, true, false, false, false, false, false, false, false, false, false, false] rfl rfl (any_of HT_.out (by kernel_rfl)) (fun _ _ _ h => h) (Or.inr ⟨by rfl, rfl⟩) ?_ ?_
   rotate_left
   exact z14a
   refine pure_ (i := 9) (N := some 87) (v := undef) (a' := ?_) #[true, true, true, true, true, true, true, true, true, true, false, false, false, false, false, false, false, false, false] rfl rfl (any_of HT_.out (by kernel_rfl)) (fun _ _ _ h => h) (Or.inr ⟨by rfl, rfl⟩) ?_ ?_
   rotate_left
   exact z14a
   refine pure_ (i := 10) (N := some 88) (v := undef) (a' := ?_) #[true, true, true, true, true, true, true, true, true, true, true, false, false, false, false, false, false, false, false] rfl rfl (any_of HT_.out (by kernel_rfl)) (fun _ _ _ h => h) (Or.inr ⟨by rfl, rfl⟩) ?_ ?_
   rotate_left
   exact z14a
   refine pure_ (i := 11) (N := some 89) (v := undef) (a' := ?_) #[true, true, true, true, true, true, true, true, true, true, true, true, false, false, false, false, false, false, false] rfl rfl (any_of HT_.out (by kernel_rfl)) (fun _ _ _ h => h) (Or.inr ⟨by rfl, rfl⟩) ?_ ?_
   rotate_left
   exact z14a
   refine pure_ (i := 12) (N := some 90) (v := undef) (a' := ?_) #[true, true, true, true, true, true, true, true, true, true, true, true, true, false, false, false, false, false, false] rfl rfl (any_of HT_.out (by kernel_rfl)) (fun _ _ _ h => h) (Or.inr ⟨by rfl, rfl⟩) ?_ ?_
   rotate_left
   exact z14a
   refine pure_ (i := 13) (N := some 91) (v := undef) (a' := ?_) #[true, true, true, true, true, true, true, true, true, true, true, true, true, true, false, false, false, false, false] rfl rfl (any_of HT_.out (by kernel_rfl)) (fun _ _ _ h => h) (Or.inr ⟨by rfl, rfl⟩) ?_ ?_
   rotate_left
   exact z14a
   refine pure_ (i := 14) (N := some 92) (v := undef) (a' := ?_) #[true, true, true, true, true, true, true, true, true, true, true, true, true, true, true, false, false, false, false] rfl rfl (any_of HT_.out (by kernel_rfl)) (fun _ _ _ h => h) (Or.inr ⟨by rfl, rfl⟩) ?_ ?_
   rotate_left
   exact z14a
   refine pure_ (i := 15) (N := some 93) (v := undef) (a' := ?_) #[true, true, true, true, true, true, true, true, true, true, true, true, true, true, true, true, false, false, false] rfl rfl (any_of HT_.out (by kernel_rfl)) (fun _ _ _ h => h) (Or.inr ⟨by rfl, rfl⟩) ?_ ?_
   rotate_left
   exact z14a
   refine pure_ (i := 16) (N := some 94) (v := undef) (a' := ?_) #[true, true, true, true, true, true, true, true, true, true, true, true, true, true, true, true, true, false, false] rfl rfl (any_of HT_.out (by kernel_rfl)) (fun _ _ _ h => h) (Or.inr ⟨by rfl, rfl⟩) ?_ ?_
   rotate_left
   exact z14a
   refine pure_ (i := 17) (N := some 95) (v := _) (a' := _) #[true, true, true, true, true, true, true, true, true, true, true, true, true, true, true, true, true, true, false] rfl rfl (any_of HT_.out (by kernel_rfl)) (fun _ _ _ h => h) (Or.inl ⟨by rfl, (by intro w'; go_simp; with_reducible rfl)⟩) z14a ?_
   refine pure_ (i := 18) (N := some 2) (v := _) (a' := _) #[true, true, true, true, true, true, true, true, true, true, true, true, true, true, true, true, true, true, true] rfl rfl (any_of HT_.out (by kernel_rfl)) (fun _ _ _ h => h) (Or.inl ⟨by rfl, (by intro w'; go_simp; with_reducible rfl)⟩) z14a ?_
   refine done_ (done_of HT_.out (by kernel_rfl)) ?_
   try go_wp2
   go_ret
   exact ⟨by first | rfl | (simp [errW_none, errW_some] <;> rfl) | (simp [*, errW_none, errW_some] <;> rfl), by repeat (first | (with_reducible first | exact HB.out | apply below_alloc | apply pw_below_drewN | apply below_drew1) | exact HB.out)⟩
   }
   {
   rw [if_neg c93] at H
   have c93b0 : ((t389.length : Int) == 0) = false := beq_eq_false_iff_ne.mpr c93
   have c93b1 : ((t389.length : Int) != 0) = true := bne_iff_ne.mpr c93
   have c93b2 : ¬ (t389 = []) := fun h_ => c93 (by rw [h_]; rfl)
   obtain rfl := Option.some.inj H
   obtain ⟨Ao97, co97, eo97⟩ := Kd.R_slice HO_4.out
   subst eo97
   try go_wp2
   have n0_ := Aside0.mk (Kd.R_drew HO_3.out)
   have n1_ := Aside0.mk (Kd.R_drew HO_4.out)
   have n2_ := Aside0.mk (Kd.R_drew HO_5.out)
   have n3_ := Aside0.mk (Kd.R_drew HO_6.out)
   have n4_ := Aside0.mk (below_drew1 HB.out)
   clear HO_3
   clear HO_4
   clear HO_5
   clear HO_6
   clear HB
   have HO_3 := n0_
   have HO_4 := n1_
   have HO_5 := n2_
   have HO_6 := n3_
   have HB := n4_
   clear n0_ n1_ n2_ n3_ n4_
   obtain ⟨Ao99, co99, eo99⟩ := Kd.R_slice HO_6.out
   (first | subst eo99 | (injection eo99 with f1_ f2_ f3_; have f4_ := f1_.symm; have f5_ := f3_.symm; clear f1_ f2_ f3_; subst f4_; subst f5_))
   refine start_ (n := 19) (S := fun w' => True) (ds := []) #[false, false, false, false, false, false, false, false, false, false, false, false, false, false, false, false, false, false, false] (by kernel_rfl) rfl rfl trivial (fun hHeld => ?_); refine with_tabW laws_FnTexts.tab15 laws_FnTexts.bits15 (fun HT_ HW_ => ?_)
   generalize wc.drew = w98 at HO_3 HO_4 HO_5 HO_6 HB hHeld ⊢
   refine pure_ (i := 0) (N := some 78) (v := _) (a' := _) #[true, false, false, false, false, false, false, false, false, false, false, false, false, false, false, false, false, false, false] rfl rfl (any_of HT_.out (by kernel_rfl)) (fun _ _ _ h => h) (Or.inl ⟨by rfl, (by intro w'; go_simp; with_reducible rfl)⟩) z14a ?_
   refine pure_ (i := 1) (N := some 79) (v := _) (a' := _) #[true, true, false, false, false, false, false, false, false, false, false, false, false, false, false, false, false, false, false] rfl rfl (any_of HT_.out (by kernel_rfl)) (fun _ _ _ h => h) (Or.inl ⟨by rfl, (by intro w'; go_simp; with_reducible rfl)⟩) z14a ?_
   refine pure_ (i := 2) (N := some 80) (v := _) (a' := _) #[true, true, true, false, false, false, false, false, false, false, false, false, false, false, false, false, false, false, false] rfl rfl (any_of HT_.out (by kernel_rfl)) (fun _ _ _ h => h) (Or.inl ⟨by rfl, (by intro w'; go_simp; with_reducible rfl)⟩) z14a ?_
   refine pure_ (i := 3) (N := some 81) (v := _) (a' := _) #[true, true, true, true, false, false, false, false, false, false, false, false, false, false, false, false, false, false, false] rfl rfl (any_of HT_.out (by kernel_rfl)) (fun _ _ _ h => h) (Or.inl ⟨by rfl, (by intro w'; go_simp; with_reducible rfl)⟩) z14a ?_
   refine pure_ (i := 4) (N := some 82) (v := _) (a' := _) #[true, true, true, true, true, false, false, false, false, false, false, false, false, false, false, false, false, false, false] rfl rfl (any_of HT_.out (by kernel_rfl)) (fun _ _ _ h => h) (Or.inl ⟨by rfl, (by intro w'; go_simp; with_reducible rfl)⟩) z14a ?_
   refine pure_ (i := 5) (N := some 83) (v := _) (a' := _) #[true, true, true, true, true, true, false, false, false, false, false, false, false, false, false, false, false, false, false] rfl rfl (any_of HT_.out (by kernel_rfl)) (fun _ _ _ h => h) (Or.inl ⟨by rfl, (by intro w'; go_simp; with_reducible rfl)⟩) z14a ?_
   refine pure_ (i := 6) (N := some 84) (v := _) (a' := _) #[true, true, true, true, true, true, true, false, false, false, false, false, false, false, false, false, false, false, false] rfl rfl (any_of HT_.out (by kernel_rfl)) (fun _ _ _ h => h) (Or.inl ⟨by rfl, (by intro w'; go_simp; with_reducible rfl)⟩) z14a ?_
   refine pure_ (i := 7) (N := some 85) (v := _) (a' := _) #[true, true, true, true, true, true, true, true, false, false, false, false, false, false, false, false, false, false, false] rfl rfl (any_of HT_.out (by kernel_rfl)) (fun _ _ _ h => h) (Or.inl ⟨by rfl, (by intro w'; go_simp; with_reducible rfl)⟩) z14a ?_
   refine pure_ (i := 8) (N := some 86) (v := _) (a' := _) #[true, true, true, true, true, true, true, true, true, false, false, false, false, false, false, false, false, false, false] rfl rfl (any_of HT_.out (by kernel_rfl)) (fun _ _ _ h => h) (Or.inl ⟨by rfl, (by intro w'; go_simp; with_reducible rfl)⟩) z14a ?_
   refine pure_ (i := 9) (N := some 87) (v := _) (a' := _) #[true, true, true, true, true, true, true, true, true, true, false, false, false, false, false, false, false, false, false] rfl rfl (any_of HT_.out (by kernel_rfl)) (fun _ _ _ h => h) (Or.inl ⟨by rfl, (by intro w'; go_simp; with_reducible rfl)⟩) z14a ?_
   refine pure_ (i := 10) (N := some 88) (v := undef) (a' := ?_) #[true, true, true, true, true, true, true, true, true, true, true, false, false, false, false, false, false, false, false] rfl rfl (any_of HT_.out (by kernel_rfl)) (fun _ _ _ h => h) (Or.inr ⟨by rfl, rfl⟩) ?_ ?_
   rotate_left
   exact z14a
   refine pure_ (i := 11) (N := some 89) (v := undef) (a' := ?_) #[true, true, true, true, true, true, true, true, true, true, true, true, false, false, false, false, false, false, false] rfl rfl (any_of HT_.out (by kernel_rfl)) (fun _ _ _ h => h) (Or.inr ⟨by rfl, rfl⟩) ?_ ?_
   rotate_left
   exact z14a
   refine pure_ (i := 12) (N := some 90) (v := undef) (a' := ?_) #[true, true, true, true, true, true, true, true, true, true, true, true, true, false, false, false, false, false, false] rfl rfl (any_of HT_.out (by kernel_rfl)) (fun _ _ _ h => h) (Or.inr ⟨by rfl, rfl⟩) ?_ ?_
   rotate_left
   exact z14a
   refine pure_ (i := 13) (N := some 91) (v := undef) (a' := ?_) #[true, true, true, true, true, true, true, true, true, true, true, true, true, true, false, false, false, false, false] rfl rfl (any_of HT_.out (by kernel_rfl)) (fun _ _ _ h => h) (Or.inr ⟨by rfl, rfl⟩) ?_ ?_
   rotate_left
   exact z14a
   refine pure_ (i := 14) (N := some 92) (v := undef) (a' := ?_) #[true, true, true, true, true, true, true, true, true, true, true, true, true, true, true, false, false, false, false] rfl rfl (any_of HT_.out (by kernel_rfl)) (fun _ _ _ h => h) (Or.inr ⟨by rfl, rfl⟩) ?_ ?_
   rotate_left
   exact z14a
   refine pure_ (i := 15) (N := some 93) (v := undef) (a' := ?_) #[true, true, true, true, true, true, true, true, true, true, true, true, true, true, true, true, false, false, false] rfl rfl (any_of HT_.out (by kernel_rfl)) (fun _ _ _ h => h) (Or.inr ⟨by rfl, rfl⟩) ?_ ?_
   rotate_left
   exact z14a
   refine pure_ (i := 16) (N := some 94) (v := _) (a' := _) #[true, true, true, true, true, true, true, true, true, true, true, true, true, true, true, true, true, false, false] rfl rfl (any_of HT_.out (by kernel_rfl)) (fun _ _ _ h => h) (Or.inl ⟨by rfl, (by intro w'; go_simp; with_reducible rfl)⟩) z14a ?_
   refine pure_ (i := 17) (N := some 95) (v := _) (a' := _) #[true, true, true, true, true, true, true, true, true, true, true, true, true, true, true, true, true, true, false] rfl rfl (any_of HT_.out (by kernel_rfl)) (fun _ _ _ h => h) (Or.inl ⟨by rfl, (by intro w'; go_simp; with_reducible rfl)⟩) z14a ?_
   refine pure_ (i := 18) (N := some 2) (v := _) (a' := _) #[true, true, true, true, true, true, true, true, true, true, true, true, true, true, true, true, true, true, true] rfl rfl (any_of HT_.out (by kernel_rfl)) (fun _ _ _ h => h) (Or.inl ⟨by rfl, (by intro w'; go_simp; with_reducible rfl)⟩) z14a ?_
   refine done_ (done_of HT_.out (by kernel_rfl)) ?_
   try go_wp2
   go_ret
   exact ⟨by first | rfl | (simp [errW_none, errW_some] <;> rfl) | (simp [*, errW_none, errW_some] <;> rfl), by repeat (first | (with_reducible first | exact HB.out | apply below_alloc | apply pw_below_drewN | apply below_drew1) | exact HB.out)⟩
   
   }
   }
   }
   }
 }
/-- THE ONE PURE STATEMENT of laws_FnTexts: yours. -/
def laws_FnTexts.Pure : Prop := ∀ (l0 : List Int), l0.length ≤ maxLen → l0.length * 1 ≤ 140737488351232 → (∀ x ∈ l0, (Lit.int .u8 x).wf = true) → ∃ k, laws_FnTexts.f k l0 = some true
theorem laws_FnTexts.walk (P : laws_FnTexts.Pure) (a0 : Option Addr) (len0 cap0 : Nat) (z0 : List Int) (w : World) (w0 : (a0 = none ∧ len0 = 0 ∧ cap0 = 0 ∧ z0 = []) ∨ ∃ x, a0 = some x ∧ len0 ≤ cap0 ∧ cap0 ≤ maxLen ∧ z0.length = cap0 ∧ (∀ i, i < z0.length → w.cell? (x.add i) = some (.int .u8 (z0.getD i 0))) ∧ ∀ n ∈ z0, (Lit.int .u8 n).wf = true) (y0 : len0 * 1 ≤ 140737488351232) :
  Calls Try.prog 14 #[.slice a0 len0 cap0] w fun e w' => e = .returned (.bool true) ∧ Below w.heap.size w w' := by
 obtain ⟨l0, rfl, hr0, hm0, hw0, hc0⟩ := ReadsInt.ofRowC w0
 obtain ⟨k, h⟩ := P l0 hm0 y0 hw0
 refine (laws_FnTexts.calls k _ _ l0 true w (Kd.C_of_reads (d := (0 : Int)) (h1 := fun _ => rfl) hr0) hc0 h).mono ?_
 rintro e w' ⟨rfl, hd⟩
 exact ⟨rfl, hd⟩

end Go.Proofs.Ythkhfmomibfkjaa.PFnTexts

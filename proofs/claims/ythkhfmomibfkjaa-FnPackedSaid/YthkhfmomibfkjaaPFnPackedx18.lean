-- by a program of this session (wip/print/run.py) for this claim
import Derived.Test.YthkhfmomibfkjaaLibPu
import Derived.Test.YthkhfmomibfkjaaPFnPackedx0
import Derived.Test.YthkhfmomibfkjaaPFnPackedx3
import Derived.Test.YthkhfmomibfkjaaPFnPackedx4
import Derived.Test.YthkhfmomibfkjaaPFnPackedx7
import Derived.Test.YthkhfmomibfkjaaPFnPackedx9
import Derived.Test.YthkhfmomibfkjaaPFnPackedx11
import Derived.Test.YthkhfmomibfkjaaPFnPackedx15
import Derived.Test.YthkhfmomibfkjaaPFnPackedx17
namespace Go.Proofs.Ythkhfmomibfkjaa.PFnPacked
open Go.Proofs.Ythkhfmomibfkjaa.Lib Go.RowKit Go.Proofs.YthkhfmomibfkjaaW.PrintWords Go.Proofs.YthkhfmomibfkjaaW.PrintLast Go.Proofs.YthkhfmomibfkjaaW.PrintMore
attribute [local go_sem] max2_int min2_int max_two min_two max_three min_three max_four min_four   -- for this text's walks alone
set_option linter.unusedVariables false
set_option linter.unusedSimpArgs false

theorem z16a {p_ : Prop} (h_ : p_ := by simp only [Act.put, List.setIfInBounds_toArray, List.set_cons_zero, List.set_cons_succ, i64_w, i32_w]; rfl) : p_ := h_
theorem z16b {p_ : Prop} (h_ : p_ := by repeat (first | (with_reducible first | exact HB.out | apply below_alloc | apply pw_below_drewN | apply below_drew1) | exact HB.out)) : p_ := h_
theorem z16c {p_ : Prop} (h_ : p_ := by (try simp only [List.map_toArray, List.map_cons, List.map_nil]); first | done | rfl | (simp only [List.length_drop, List.length_take]; rfl)) : p_ := h_
theorem z16d {p_ : Prop} (h_ : p_ := by (with_reducible repeat (first | apply Kd.R_alloc | apply Kd.R_drewN | apply Kd.R_drew)); exact HO_3.out) : p_ := h_
theorem z16e {p_ : Prop} (h_ : p_ := by (with_reducible repeat (first | apply Kd.R_alloc | apply Kd.R_drewN | apply Kd.R_drew)); exact HO_6.out) : p_ := h_
theorem z16f {p_ : Prop} (h_ : p_ := by repeat (first | (with_reducible exact HR641.out) | (with_reducible refine Kd.C_alloc ?_ _) | (with_reducible refine Kd.C_drewN ?_ _) | (with_reducible refine Kd.C_drew ?_) | exact HR641.out)) : p_ := h_
theorem z16g {p_ : Prop} (h_ : p_ := by (with_reducible repeat (first | apply Kd.R_alloc | apply Kd.R_drewN | apply Kd.R_drew)); exact HO_4.out) : p_ := h_
theorem z16h {p_ : Prop} (h_ : p_ := by (with_reducible repeat (first | apply Kd.R_alloc | apply Kd.R_drewN | apply Kd.R_drew)); exact HO_5.out) : p_ := h_
theorem z16i {p_ : Prop} (h_ : p_ := by (with_reducible repeat (first | apply Kd.R_alloc | apply Kd.R_drewN | apply Kd.R_drew)); exact HO636.out) : p_ := h_
theorem z16j {p_ : Prop} (h_ : p_ := by (with_reducible repeat (first | apply Kd.R_alloc | apply Kd.R_drewN | apply Kd.R_drew)); exact HO612.out) : p_ := h_
theorem z16k {p_ : Prop} (h_ : p_ := by repeat (first | exact (Kd.C_below HR0.out HB.out) | (with_reducible refine Kd.C_alloc ?_ _) | (with_reducible refine Kd.C_drewN ?_ _) | (with_reducible refine Kd.C_drew ?_))) : p_ := h_
theorem z16l {p_ : Prop} (h_ : p_ := by simp only [putAll, Act.put, List.setIfInBounds_toArray, List.set_cons_zero, List.set_cons_succ]) : p_ := h_
theorem z16m {p_ : Prop} (h_ : p_ := by (with_reducible repeat (first | apply Kd.R_alloc | apply Kd.R_drewN | apply Kd.R_drew)); exact HO609.out) : p_ := h_
theorem z16n {p_ : Prop} (h_ : p_ := by (with_reducible repeat (first | apply Kd.R_alloc | apply Kd.R_drewN | apply Kd.R_drew)); exact HO615.out) : p_ := h_
theorem z16o {p_ : Prop} (h_ : p_ := by repeat (first | exact (Kd.R_reads' HO_4.out).2.2 | (with_reducible refine Kd.C_alloc ?_ _) | (with_reducible refine Kd.C_drewN ?_ _) | (with_reducible refine Kd.C_drew ?_))) : p_ := h_
theorem z16p {p_ : Prop} (h_ : p_ := by first | (with_reducible assumption) | assumption) : p_ := h_
theorem z16q {p_ : Prop} (h_ : p_ := by (with_reducible repeat (first | apply Kd.R_alloc | apply Kd.R_drewN | apply Kd.R_drew)); exact HO645.out) : p_ := h_
theorem z16r {p_ : Prop} (h_ : p_ := by (with_reducible repeat (first | apply Kd.R_alloc | apply Kd.R_drewN | apply Kd.R_drew)); exact Kd.R_mono HO609.out (fun _ hk => ⟨hk.1.2, hk.2⟩)) : p_ := h_
theorem z16s {p_ : Prop} (h_ : p_ := by (with_reducible repeat (first | apply Kd.R_alloc | apply Kd.R_drewN | apply Kd.R_drew)); exact Kd.R_mono HO612.out (fun _ hk => ⟨hk.1.2, hk.2⟩)) : p_ := h_
theorem z16t {p_ : Prop} (h_ : p_ := by (with_reducible repeat (first | apply Kd.R_alloc | apply Kd.R_drewN | apply Kd.R_drew)); exact Kd.R_mono HO615.out (fun _ hk => ⟨hk.1.2, hk.2⟩)) : p_ := h_
theorem z16u {p_ : Prop} (h_ : p_ := by (with_reducible repeat (first | apply Kd.R_alloc | apply Kd.R_drewN | apply Kd.R_drew)); exact Kd.R_mono HO619.out (fun _ hk => ⟨hk.1.2, hk.2⟩)) : p_ := h_
theorem z16v {p_ : Prop} (h_ : p_ := by (with_reducible repeat (first | apply Kd.R_alloc | apply Kd.R_drewN | apply Kd.R_drew)); exact Kd.R_mono HO625.out (fun _ hk => ⟨hk.1.2, hk.2⟩)) : p_ := h_
theorem z16w {p_ : Prop} (h_ : p_ := by (with_reducible repeat (first | apply Kd.R_alloc | apply Kd.R_drewN | apply Kd.R_drew)); exact Kd.R_mono HO629.out (fun _ hk => ⟨hk.1.2, hk.2⟩)) : p_ := h_
theorem z16x {p_ : Prop} (h_ : p_ := by (with_reducible repeat (first | apply Kd.R_alloc | apply Kd.R_drewN | apply Kd.R_drew)); exact Kd.R_mono HO_4.out (fun _ hk => ⟨hk.2, hk.1⟩)) : p_ := h_
theorem z16y {p_ : Prop} (h_ : p_ := by (with_reducible repeat (first | apply Kd.R_alloc | apply Kd.R_drewN | apply Kd.R_drew)); exact Kd.R_mono HO_5.out (fun _ hk => ⟨hk.2, hk.1⟩)) : p_ := h_
theorem z16z {p_ : Prop} (h_ : p_ := by repeat (first | exact (Kd.R_reads' HO609.out).2.2 | (with_reducible refine Kd.C_alloc ?_ _) | (with_reducible refine Kd.C_drewN ?_ _) | (with_reducible refine Kd.C_drew ?_))) : p_ := h_
theorem z16a1 {p_ : Prop} (h_ : p_ := by (with_reducible repeat (first | apply Kd.R_alloc | apply Kd.R_drewN | apply Kd.R_drew)); exact HO619.out) : p_ := h_
theorem z16b1 {p_ : Prop} (h_ : p_ := by repeat (first | exact (Kd.R_reads' HO636.out).2.2 | (with_reducible refine Kd.C_alloc ?_ _) | (with_reducible refine Kd.C_drewN ?_ _) | (with_reducible refine Kd.C_drew ?_))) : p_ := h_
theorem z16c1 {p_ : Prop} (h_ : p_ := by repeat (first | exact (Kd.R_reads' HO_3.out).2.2 | (with_reducible refine Kd.C_alloc ?_ _) | (with_reducible refine Kd.C_drewN ?_ _) | (with_reducible refine Kd.C_drew ?_))) : p_ := h_
theorem z16d1 {p_ : Prop} (h_ : p_ := by repeat (first | exact (Kd.R_reads' HO_6.out).2.2 | (with_reducible refine Kd.C_alloc ?_ _) | (with_reducible refine Kd.C_drewN ?_ _) | (with_reducible refine Kd.C_drew ?_))) : p_ := h_
mutual
def laws_FnPacked.j0 : Nat → List Int → List (S49) → List Int → List Int → List (S49) → Bool → ByteArray → ByteArray → Bool → Option (Bool)
 | 0, _, _, _, _, _, _, _, _, _ => none
 | k + 1, x0, x3, x4, x5, x6, x7, x8, x9, x65 => if x65 = true then (some false) else ((impl_Common.f k x8 x9).bind fun t632 => (if 0 ≤ t632 then (if t632 ≤ (x8.size : Int) then (if t632 ≤ (x9.size : Int) then (if (x8.extract 0 (t632 : Int).toNat).toList = (x9.extract 0 (t632 : Int).toNat).toList then (if t632 < (x8.size : Int) then (if t632 < (x9.size : Int) then (laws_FnPacked.j1 k x0 x3 x4 x5 x6 x7 ((bt x8 t632) == (bt x9 t632))) else (laws_FnPacked.j1 k x0 x3 x4 x5 x6 x7 false)) else (laws_FnPacked.j1 k x0 x3 x4 x5 x6 x7 false)) else (laws_FnPacked.j1 k x0 x3 x4 x5 x6 x7 true)) else (none)) else (none)) else (none)))
def laws_FnPacked.j1 : Nat → List Int → List (S49) → List Int → List Int → List (S49) → Bool → Bool → Option (Bool)
 | 0, _, _, _, _, _, _, _ => none
 | k + 1, x0, x3, x4, x5, x6, x7, x96 => if x96 = true then (some false) else (if (x4.length : Int) > 0 then ((impl_Unpacked.f k x4).bind fun bt633 => ((laws_pick.f k x0 1 (x4.length : Int)).bind fun t637 => (if 0 ≤ t637 then (if t637 ≤ (x4.length : Int) then ((impl_Unpacked.f k (x4.take (t637 : Int).toNat)).bind fun bt642 => (if bt633.2 = true then (if bt642.2 = true then (some false) else ((laws_likeEntries.f k bt633.1 x3).bind fun t646 => (if t646 = true then (if x7 = true then ((impl_Packed.f k x6).bind fun t647 => (some ((strOfNums t647).toList == (strOfNums x5).toList))) else (if (x6.length : Int) = 0 then (some true) else (some false))) else (some false)))) else (some false))) else (none)) else (none)))) else (if x7 = true then ((impl_Packed.f k x6).bind fun t650 => (some ((strOfNums t650).toList == (strOfNums x5).toList))) else (if (x6.length : Int) = 0 then (some true) else (some false))))
end
def laws_FnPacked.f (k : Nat) (l0 : List Int) : Option (Bool) := (laws_big.f l0).bind fun t606 => (if t606 = true then (some true) else ((spec_DrawPacked.f k l0).bind fun t607 => ((impl_Packed.f k t607).bind fun t610 => ((spec_DrawUnpacked.f k l0).bind fun t613 => ((impl_Unpacked.f k t613).bind fun bt616 => ((spec_DrawCommon.f k l0).bind fun bt620 => ((spec_Unpacked.f k t613).bind fun bt622 => (if (bt616.2 != bt622.2) = true then (laws_FnPacked.j0 k l0 t607 t610 t613 bt616.1 bt616.2 bt620.1 bt620.2 true) else ((laws_likeEntries.f k bt616.1 bt622.1).bind fun t626 => (if t626 = true then ((spec_Packed.f k t607).bind fun t627 => (if (strOfNums t610).toList = (strOfNums t627).toList then ((impl_Common.f k bt620.1 bt620.2).bind fun t630 => ((spec_Common.f k bt620.1 bt620.2).bind fun t631 => (laws_FnPacked.j0 k l0 t607 t610 t613 bt616.1 bt616.2 bt620.1 bt620.2 (t630 != t631)))) else (laws_FnPacked.j0 k l0 t607 t610 t613 bt616.1 bt616.2 bt620.1 bt620.2 true))) else (laws_FnPacked.j0 k l0 t607 t610 t613 bt616.1 bt616.2 bt620.1 bt620.2 true)))))))))))
def laws_FnPacked.T9 : Bool × List (List Nat × List Nat) := (true, [([], []), ([], []), ([0, 1], [0, 1]), ([2], [2]), ([3], [3]), ([3], [3]), ([4, 5, 3, 3], [3, 4, 5]), ([6, 3], [3, 6]), ([3, 7], [3, 7]), ([8, 6], [8]), ([9], [9]), ([10, 9], [9, 10]), ([9], [9]), ([12, 9, 9], [9, 12]), ([13, 9], [9, 13]), ([11, 14, 9], [9, 11, 14]), ([9, 15], [9, 15]), ([16, 13], [16]), ([17], [17]), ([17], [17]), ([18, 19, 17, 17], [17, 18, 19]), ([17], [17]), ([17], [17]), ([21, 22, 20, 17], [17, 21, 22]), ([20, 23, 17], [17, 20, 23]), ([17, 24], [17, 24])])
def laws_FnPacked.B9 : List Nat := [0, 0, 3, 7, 15, 15, 63, 127, 255, 511, 1023, 2047, 1023, 5119, 13311, 32767, 65535, 131071, 262143, 262143, 1048575, 262143, 262143, 8388607, 16777215, 33554431]
theorem laws_FnPacked.tab9 : rtab .any (opsOf Try.f16 9) = laws_FnPacked.T9 := by kernel_rfl
theorem laws_FnPacked.bits9 : waitsOk laws_FnPacked.T9.2 laws_FnPacked.B9 = true := by kernel_rfl
def laws_FnPacked.T12 : Bool × List (List Nat × List Nat) := (true, [([], []), ([], []), ([0, 1], [0, 1]), ([], []), ([], []), ([3, 4], [3, 4]), ([2, 5], [2, 5]), ([6], [6]), ([7], [7]), ([7], [7]), ([9, 7], [7, 9]), ([8, 10, 7], [7, 8, 10]), ([11, 7, 7], [7, 11]), ([12], [12]), ([12], [12]), ([14, 12], [12, 14]), ([13, 15, 12], [12, 13, 15]), ([12, 16, 7], [7, 12, 16]), ([17, 12, 7], [7, 17]), ([18], [18]), ([18], [18]), ([19, 20, 18], [18, 19, 20]), ([18], [18]), ([18], [18]), ([22, 23, 18], [18, 22, 23]), ([21, 24, 18], [18, 21, 24]), ([18, 25, 7], [7, 18, 25]), ([7, 26], [7, 26])])
def laws_FnPacked.B12 : List Nat := [0, 0, 3, 0, 0, 24, 63, 127, 255, 255, 767, 2047, 4095, 8191, 8191, 24575, 65535, 131071, 262143, 524287, 524287, 2097151, 524287, 524287, 13107199, 33554431, 67108863, 134217727]
theorem laws_FnPacked.tab12 : rtab .any (opsOf Try.f16 12) = laws_FnPacked.T12 := by kernel_rfl
theorem laws_FnPacked.bits12 : waitsOk laws_FnPacked.T12.2 laws_FnPacked.B12 = true := by kernel_rfl
def laws_FnPacked.T19 : Bool × List (List Nat × List Nat) := (true, [([], []), ([0], [0]), ([1], [1]), ([2], [2]), ([3, 2], [2, 3]), ([4, 2], [2, 4]), ([2, 5], [2, 5]), ([6, 2], [6]), ([7], [7]), ([8, 7, 7], [7, 8]), ([9], [9]), ([10, 9, 9], [9, 10]), ([11, 9], [9, 11]), ([9], [9]), ([13, 9], [9, 13]), ([12, 14, 9], [9, 12, 14]), ([9, 15, 7], [7, 9, 15]), ([7, 16], [7, 16]), ([17, 11, 0, 1, 2, 3, 4, 5, 6, 7, 8, 9, 10, 11, 12, 13, 14, 15, 16, 17], [17])])
def laws_FnPacked.B19 : List Nat := [0, 1, 3, 7, 15, 31, 63, 127, 255, 511, 1023, 2047, 4095, 1023, 9215, 32767, 65535, 131071, 262143]
theorem laws_FnPacked.tab19 : rtab .any (opsOf Try.f16 19) = laws_FnPacked.T19 := by kernel_rfl
theorem laws_FnPacked.bits19 : waitsOk laws_FnPacked.T19.2 laws_FnPacked.B19 = true := by kernel_rfl
set_option maxHeartbeats 8000000 in
set_option maxRecDepth 100000 in
theorem laws_FnPacked.calls (k : Nat) (A0 : Option Addr) (c0 : Nat) (l0 : List Int) (r : Bool) (w : World) (hr0 : Kd.C (Kd.int .u8) w A0 l0.length l0) (hc0 : l0.length ≤ c0) (h : laws_FnPacked.f k l0 = some r) :
  Calls Try.prog 16 #[.slice A0 l0.length c0] w fun e w' => e = .returned (.bool r) ∧ Below w.heap.size w w' := by
 have HR0 := A_ hr0
 have HC0 := A_ hc0
 clear hr0 hc0
 have HB := A_ (Below.refl w.heap.size w)
 have H : ((laws_big.f l0).bind fun t606 => (if t606 = true then (some true) else ((spec_DrawPacked.f k l0).bind fun t607 => ((impl_Packed.f k t607).bind fun t610 => ((spec_DrawUnpacked.f k l0).bind fun t613 => ((impl_Unpacked.f k t613).bind fun bt616 => ((spec_DrawCommon.f k l0).bind fun bt620 => ((spec_Unpacked.f k t613).bind fun bt622 => (if (bt616.2 != bt622.2) = true then (laws_FnPacked.j0 k l0 t607 t610 t613 bt616.1 bt616.2 bt620.1 bt620.2 true) else ((laws_likeEntries.f k bt616.1 bt622.1).bind fun t626 => (if t626 = true then ((spec_Packed.f k t607).bind fun t627 => (if (strOfNums t610).toList = (strOfNums t627).toList then ((impl_Common.f k bt620.1 bt620.2).bind fun t630 => ((spec_Common.f k bt620.1 bt620.2).bind fun t631 => (laws_FnPacked.j0 k l0 t607 t610 t613 bt616.1 bt616.2 bt620.1 bt620.2 (t630 != t631)))) else (laws_FnPacked.j0 k l0 t607 t610 t613 bt616.1 bt616.2 bt620.1 bt620.2 true))) else (laws_FnPacked.j0 k l0 t607 t610 t613 bt616.1 bt616.2 bt620.1 bt620.2 true)))))))))))) = some r := h
 clear h
 replace H := Option.bind_eq_some_iff.mp H
 obtain ⟨t606, A20, H⟩ := H
 (try dsimp only at H)
 have A2 := A_ A20
 clear A20
 by_cases c3 : t606 = true
 {
 subst c3
 rw [if_pos rfl] at H
 obtain rfl := Option.some.inj H
 go_enter Try.func16, Try.ntmps16
 go_wp2_with (first | ((with_reducible refine gate_callee (f := 52) rfl ?_); refine goesL_ (some 18) rfl rfl Try.func52 (by kernel_rfl) rfl #[.slice A0 l0.length c0] rfl z16c ?_; (with_reducible refine (laws_big.calls _ _ l0 true _ ?side1 ?side2 A2.out).mono ?_); (case side1 => exact (by repeat (first | exact HR0.out | (with_reducible refine Kd.C_alloc ?_ _) | (with_reducible refine Kd.C_drewN ?_ _) | (with_reducible refine Kd.C_drew ?_)))); (case side2 => exact HC0.out); rintro e w' ⟨rfl, ⟨nd, rfl⟩⟩; refine ⟨_, rfl, ?_⟩))
 go_ret
 exact ⟨by first | rfl | (simp [errW_none, errW_some] <;> rfl) | (simp [*, errW_none, errW_some] <;> rfl), by repeat (first | (with_reducible first | exact HB.out | apply below_alloc | apply pw_below_drewN | apply below_drew1) | exact HB.out)⟩
 }
 {
 replace c3 := Bool.eq_false_iff.mpr c3
 subst c3
 rw [if_neg Bool.false_ne_true] at H
 replace H := Option.bind_eq_some_iff.mp H
 obtain ⟨t607, A40, H⟩ := H
 (try dsimp only at H)
 have A4 := A_ A40
 clear A40
 replace H := Option.bind_eq_some_iff.mp H
 obtain ⟨t610, A50, H⟩ := H
 (try dsimp only at H)
 have A5 := A_ A50
 clear A50
 replace H := Option.bind_eq_some_iff.mp H
 obtain ⟨t613, A60, H⟩ := H
 (try dsimp only at H)
 have A6 := A_ A60
 clear A60
 replace H := Option.bind_eq_some_iff.mp H
 obtain ⟨⟨t616, t617⟩, A70, H⟩ := H
 (try dsimp only at H)
 have A7 := A_ A70
 clear A70
 replace H := Option.bind_eq_some_iff.mp H
 obtain ⟨⟨t620, t621⟩, A80, H⟩ := H
 (try dsimp only at H)
 have A8 := A_ A80
 clear A80
 replace H := Option.bind_eq_some_iff.mp H
 obtain ⟨⟨t622, t623⟩, A90, H⟩ := H
 (try dsimp only at H)
 have A9 := A_ A90
 clear A90
 have HC10 := A_ H
 clear H
 go_enter Try.func16, Try.ntmps16
 go_upto_region 9 with (first | ((with_reducible refine gate_callee (f := 52) rfl ?_); refine goesL_ (some 18) rfl rfl Try.func52 (by kernel_rfl) rfl #[.slice A0 l0.length c0] rfl z16c ?_; (with_reducible refine (laws_big.calls _ _ l0 false _ ?side1 ?side2 A2.out).mono ?_); (case side1 => exact (by repeat (first | exact HR0.out | (with_reducible refine Kd.C_alloc ?_ _) | (with_reducible refine Kd.C_drewN ?_ _) | (with_reducible refine Kd.C_drew ?_)))); (case side2 => exact HC0.out); rintro e w' ⟨rfl, ⟨nd, rfl⟩⟩; refine ⟨_, rfl, ?_⟩) | ((with_reducible refine gate_callee (f := 65) rfl ?_); refine goesL_ (some 20) rfl rfl Try.func65 (by kernel_rfl) rfl #[.slice A0 l0.length c0] rfl z16c ?_; (with_reducible refine (spec_DrawPacked.calls k _ _ l0 t607 _ ?side1 ?side2 A4.out).mono ?_); (case side1 => exact (by repeat (first | exact HR0.out | (with_reducible refine Kd.C_alloc ?_ _) | (with_reducible refine Kd.C_drewN ?_ _) | (with_reducible refine Kd.C_drew ?_)))); (case side2 => exact HC0.out); rintro e w11 ⟨v608, rfl, ho0, hb⟩; refine ⟨_, rfl, ?_⟩; have n0_ := A_ (Kd.R_lower ho0 (below_size z16b)); have n1_ := A_ (below_step z16b hb); clear HB; have HO609 := n0_; have HB := n1_; clear n0_ n1_; obtain ⟨Ao12, co12, eo12⟩ := Kd.R_slice HO609.out; subst eo12) | ((with_reducible refine gate_callee (f := 49) rfl ?_); refine goesL_ (some 22) rfl rfl Try.func49 (by kernel_rfl) rfl #[.slice Ao12 t607.length co12] rfl z16c ?_; (with_reducible refine (impl_Packed.calls k _ _ t607 t610 _ ?side1 ?side2 A5.out).mono ?_); (case side1 => exact z16z); (case side2 => exact (Kd.R_reads' HO609.out).2.1); rintro e w13 ⟨v611, rfl, ho0, hb⟩; refine ⟨_, rfl, ?_⟩; have n0_ := A_ (Kd.R_below z16m hb); have n1_ := A_ (Kd.R_lower ho0 (below_size z16b)); have n2_ := A_ (below_step z16b hb); clear HO609; clear HB; have HO609 := n0_; have HO612 := n1_; have HB := n2_; clear n0_ n1_ n2_) | ((with_reducible refine gate_callee (f := 66) rfl ?_); refine goesL_ (some 24) rfl rfl Try.func66 (by kernel_rfl) rfl #[.slice A0 l0.length c0] rfl z16c ?_; (with_reducible refine (spec_DrawUnpacked.calls k _ _ l0 t613 _ ?side1 ?side2 A6.out).mono ?_); (case side1 => exact z16k); (case side2 => exact HC0.out); rintro e w14 ⟨v614, rfl, ho0, hb⟩; refine ⟨_, rfl, ?_⟩; have n0_ := A_ (Kd.R_below z16m hb); have n1_ := A_ (Kd.R_elder' z16j (Kd.R_base ho0) hb); have n2_ := A_ (Kd.R_lower (Kd.R_new' ho0 (Kd.R_lt z16j)) (below_size z16b)); have n3_ := A_ (below_step z16b hb); clear HO609; clear HO612; clear HB; have HO609 := n0_; have HO612 := n1_; have HO615 := n2_; have HB := n3_; clear n0_ n1_ n2_ n3_; obtain ⟨Ao15, co15, eo15⟩ := Kd.R_slice HO615.out; subst eo15) | ((with_reducible refine gate_callee (f := 51) rfl ?_); refine goesL_ (some 27) rfl rfl Try.func51 (by kernel_rfl) rfl #[.slice Ao15 t613.length co15] rfl z16c ?_; (with_reducible refine (impl_Unpacked.calls k _ _ t613 t616 t617 _ ?side1 ?side2 A7.out).mono ?_); (case side1 => exact (by repeat (first | exact (Kd.R_reads' HO615.out).2.2 | (with_reducible refine Kd.C_alloc ?_ _) | (with_reducible refine Kd.C_drewN ?_ _) | (with_reducible refine Kd.C_drew ?_)))); (case side2 => exact (Kd.R_reads' HO615.out).2.1); rintro e w16 ⟨v618, rfl, ho0, hb⟩; refine ⟨_, rfl, ?_⟩; have n0_ := A_ (Kd.R_elder' z16m (Kd.R_base ho0) hb); have n1_ := A_ (Kd.R_below z16j hb); have n2_ := A_ (Kd.R_below z16n hb); have n3_ := A_ (Kd.R_lower (Kd.R_new' ho0 (Kd.R_lt z16m)) (below_size z16b)); have n4_ := A_ (below_step z16b hb); clear HO609; clear HO612; clear HO615; clear HB; have HO609 := n0_; have HO612 := n1_; have HO615 := n2_; have HO619 := n3_; have HB := n4_; clear n0_ n1_ n2_ n3_ n4_) | ((with_reducible refine gate_callee (f := 67) rfl ?_); refine goesL_ (some 32) rfl rfl Try.func67 (by kernel_rfl) rfl #[.slice A0 l0.length c0] rfl z16c ?_; (with_reducible refine (spec_DrawCommon.calls k _ _ l0 t620 t621 _ ?side1 ?side2 A8.out).mono ?_); (case side1 => exact z16k); (case side2 => exact HC0.out); rintro e w17 ⟨rfl, hb⟩; refine ⟨_, rfl, ?_⟩; replace HO609 := A_ (Kd.R_below z16m hb); replace HO612 := A_ (Kd.R_below z16j hb); replace HO615 := A_ (Kd.R_below z16n hb); replace HO619 := A_ (Kd.R_below z16a1 hb); replace HB := A_ (below_step z16b hb)) | ((with_reducible refine gate_callee (f := 50) rfl ?_); refine goesL_ (some 37) rfl rfl Try.func50 (by kernel_rfl) rfl #[.slice Ao15 t613.length co15] rfl z16c ?_; (with_reducible refine (spec_Unpacked.calls k _ _ t613 t622 t623 _ ?side1 ?side2 A9.out).mono ?_); (case side1 => exact (by repeat (first | exact (Kd.R_reads' HO615.out).2.2 | (with_reducible refine Kd.C_alloc ?_ _) | (with_reducible refine Kd.C_drewN ?_ _) | (with_reducible refine Kd.C_drew ?_)))); (case side2 => exact (Kd.R_reads' HO615.out).2.1); rintro e w18 ⟨v624, rfl, ho0, hb⟩; refine ⟨_, rfl, ?_⟩; have n0_ := A_ (Kd.R_elder' z16m (Kd.R_base ho0) hb); have n1_ := A_ (Kd.R_below z16j hb); have n2_ := A_ (Kd.R_below z16n hb); have n3_ := A_ (Kd.R_elder' z16a1 (Kd.R_base ho0) hb); have n4_ := A_ (Kd.R_lower (Kd.R_new' (Kd.R_new' ho0 (Kd.R_lt z16m)) (Kd.R_lt z16a1)) (below_size z16b)); have n5_ := A_ (below_step z16b hb); clear HO609; clear HO612; clear HO615; clear HO619; clear HB; have HO609 := n0_; have HO612 := n1_; have HO615 := n2_; have HO619 := n3_; have HO625 := n4_; have HB := n5_; clear n0_ n1_ n2_ n3_ n4_ n5_))
 (try simp only [Act.put, List.setIfInBounds_toArray, List.set_cons_zero, List.set_cons_succ])
 (try (rw [drewN_self w18]; generalize hq_ : World.drewN w18 _ = w18; have n0_ := A_ (Kd.R_drewN HO609.out nd); have n1_ := A_ (Kd.R_drewN HO612.out nd); have n2_ := A_ (Kd.R_drewN HO615.out nd); have n3_ := A_ (Kd.R_drewN HO619.out nd); have n4_ := A_ (Kd.R_drewN HO625.out nd); have n5_ := A_ (pw_below_drewN HB.out nd); rw [hq_] at n0_; rw [hq_] at n1_; rw [hq_] at n2_; rw [hq_] at n3_; rw [hq_] at n4_; rw [hq_] at n5_; clear hq_ HO609 HO612 HO615 HO619 HO625 HB; have HO609 := n0_; have HO612 := n1_; have HO615 := n2_; have HO619 := n3_; have HO625 := n4_; have HB := n5_; clear n0_ n1_ n2_ n3_ n4_ n5_))
 go_cut [65] (fun v65 wc => ∃ (kq : Nat) (x65_9 : Bool), v65 = .bool x65_9 ∧ Aside0 (laws_FnPacked.j0 kq l0 t607 t610 t613 t616 t617 t620 t621 x65_9 = some r) ∧ Aside0 (kq ≤ k) ∧ Aside0 (Kd.R k49 49 wc w.heap.size (fun k_ => some k_ ≠ (v618 : Value).ownBlock) (.slice Ao12 t607.length co12) t607) ∧ Aside0 (Kd.R (Kd.int .u8) 5 wc w.heap.size (fun k_ => some k_ ≠ ((.slice Ao15 t613.length co15) : Value).ownBlock) v611 t610) ∧ Aside0 (Kd.R (Kd.int .u8) 5 wc w.heap.size (fun k_ => some k_ ≠ (v611 : Value).ownBlock) (.slice Ao15 t613.length co15) t613) ∧ Aside0 (Kd.R k49 49 wc w.heap.size (fun k_ => some k_ ≠ ((.slice Ao12 t607.length co12) : Value).ownBlock) v618 t616) ∧ Aside0 (Below w.heap.size w wc))
 case first =>
  have H := HC10.out
  clear HC10
  by_cases c19 : (t617 != t623) = true
  {
  rw [if_pos c19] at H
  have c19b0 : (t617 != t623) = true := c19
  (try (have c19b1 : decide (t617 = t623) = false := by simpa using c19))
  (try (have c19b2 : (t617 == t623) = false := by simpa using c19))
  (try (have c19b3 : ¬ (t617 = t623) := by simpa using c19))
  clear c19
  (first | rw [c19b0] | (simp only [i64_w, i32_w]; rw [c19b0]) | skip)
  have H' := A_ H
  clear H
  try go_wp2
  replace HO609 := A_ (Kd.R_drew HO609.out)
  replace HO612 := A_ (Kd.R_drew HO612.out)
  replace HO615 := A_ (Kd.R_drew HO615.out)
  replace HO619 := A_ (Kd.R_drew HO619.out)
  replace HO625 := A_ (Kd.R_drew HO625.out)
  replace HB := A_ (below_drew1 HB.out)
  refine start_ (n := 26) (S := fun w' => True) (ds := []) (bs "XXXXXXXXXXXXXXXXXXXXXXXXXX") (by kernel_rfl) rfl rfl trivial (fun hHeld => ?_); refine with_tabW laws_FnPacked.tab9 laws_FnPacked.bits9 (fun HT_ HW_ => ?_)
  generalize w18.drew = w20 at HO609 HO612 HO615 HO619 HO625 HB hHeld ⊢
  refine pu_ 0 (some 40) (bs "YXXXXXXXXXXXXXXXXXXXXXXXXX") ?_
  refine pu_ 1 (some 41) (bs "YYXXXXXXXXXXXXXXXXXXXXXXXX") ?_
  refine pu_ 2 (some 42) (bs "YYYXXXXXXXXXXXXXXXXXXXXXXX") ?_
  refine pu_ 3 (some 43) (bs "YYYYXXXXXXXXXXXXXXXXXXXXXX") ?_
  refine pure_ (i := 4) (N := some 44) (v := undef) (a' := ?_) (bs "YYYYYXXXXXXXXXXXXXXXXXXXXX") rfl rfl (any_of HT_.out (by kernel_rfl)) (fun _ _ _ h => h) (Or.inr ⟨by rfl, rfl⟩) ?_ ?_
  rotate_left
  exact z16a
  refine pure_ (i := 5) (N := some 45) (v := undef) (a' := ?_) (bs "YYYYYYXXXXXXXXXXXXXXXXXXXX") rfl rfl (any_of HT_.out (by kernel_rfl)) (fun _ _ _ h => h) (Or.inr ⟨by rfl, rfl⟩) ?_ ?_
  rotate_left
  exact z16a
  refine pure_ (i := 6) (N := some 46) (v := undef) (a' := ?_) (bs "YYYYYYYXXXXXXXXXXXXXXXXXXX") rfl rfl (any_of HT_.out (by kernel_rfl)) (fun _ _ _ h => h) (Or.inr ⟨by rfl, rfl⟩) ?_ ?_
  rotate_left
  exact z16a
  refine pure_ (i := 7) (N := some 47) (v := undef) (a' := ?_) (bs "YYYYYYYYXXXXXXXXXXXXXXXXXX") rfl rfl (any_of HT_.out (by kernel_rfl)) (fun _ _ _ h => h) (Or.inr ⟨by rfl, rfl⟩) ?_ ?_
  rotate_left
  exact z16a
  refine pu_ 8 (some 48) (bs "YYYYYYYYYXXXXXXXXXXXXXXXXX") ?_
  refine pu_ 9 (some 49) (bs "YYYYYYYYYYXXXXXXXXXXXXXXXX") ?_
  refine pure_ (i := 10) (N := some 50) (v := undef) (a' := ?_) (bs "YYYYYYYYYYYXXXXXXXXXXXXXXX") rfl rfl (any_of HT_.out (by kernel_rfl)) (fun _ _ _ h => h) (Or.inr ⟨by rfl, rfl⟩) ?_ ?_
  rotate_left
  exact z16a
  refine pure_ (i := 11) (N := some 51) (v := undef) (a' := ?_) (bs "YYYYYYYYYYYYXXXXXXXXXXXXXX") rfl rfl (any_of HT_.out (by kernel_rfl)) (fun _ _ _ h => h) (Or.inr ⟨by rfl, rfl⟩) ?_ ?_
  rotate_left
  exact z16a
  refine pure_ (i := 12) (N := some 52) (v := undef) (a' := ?_) (bs "YYYYYYYYYYYYYXXXXXXXXXXXXX") rfl rfl (any_of HT_.out (by kernel_rfl)) (fun _ _ _ h => h) (Or.inr ⟨by rfl, rfl⟩) ?_ ?_
  rotate_left
  exact z16a
  refine pure_ (i := 13) (N := some 53) (v := undef) (a' := ?_) (bs "YYYYYYYYYYYYYYXXXXXXXXXXXX") rfl rfl (any_of HT_.out (by kernel_rfl)) (fun _ _ _ h => h) (Or.inr ⟨by rfl, rfl⟩) ?_ ?_
  rotate_left
  exact z16a
  refine pure_ (i := 14) (N := some 54) (v := undef) (a' := ?_) (bs "YYYYYYYYYYYYYYYXXXXXXXXXXX") rfl rfl (any_of HT_.out (by kernel_rfl)) (fun _ _ _ h => h) (Or.inr ⟨by rfl, rfl⟩) ?_ ?_
  rotate_left
  exact z16a
  refine pure_ (i := 15) (N := some 55) (v := undef) (a' := ?_) (bs "YYYYYYYYYYYYYYYYXXXXXXXXXX") rfl rfl (any_of HT_.out (by kernel_rfl)) (fun _ _ _ h => h) (Or.inr ⟨by rfl, rfl⟩) ?_ ?_
  rotate_left
  exact z16a
  refine pu_ 16 (some 56) (bs "YYYYYYYYYYYYYYYYYXXXXXXXXX") ?_
  refine pu_ 17 (some 57) (bs "YYYYYYYYYYYYYYYYYYXXXXXXXX") ?_
  refine pure_ (i := 18) (N := some 58) (v := undef) (a' := ?_) (bs "YYYYYYYYYYYYYYYYYYYXXXXXXX") rfl rfl (any_of HT_.out (by kernel_rfl)) (fun _ _ _ h => h) (Or.inr ⟨by rfl, rfl⟩) ?_ ?_
  rotate_left
  exact z16a
  refine pure_ (i := 19) (N := some 59) (v := undef) (a' := ?_) (bs "YYYYYYYYYYYYYYYYYYYYXXXXXX") rfl rfl (any_of HT_.out (by kernel_rfl)) (fun _ _ _ h => h) (Or.inr ⟨by rfl, rfl⟩) ?_ ?_
  rotate_left
  exact z16a
  refine pure_ (i := 20) (N := some 60) (v := undef) (a' := ?_) (bs "YYYYYYYYYYYYYYYYYYYYYXXXXX") rfl rfl (any_of HT_.out (by kernel_rfl)) (fun _ _ _ h => h) (Or.inr ⟨by rfl, rfl⟩) ?_ ?_
  rotate_left
  exact z16a
  refine pure_ (i := 21) (N := some 61) (v := undef) (a' := ?_) (bs "YYYYYYYYYYYYYYYYYYYYYYXXXX") rfl rfl (any_of HT_.out (by kernel_rfl)) (fun _ _ _ h => h) (Or.inr ⟨by rfl, rfl⟩) ?_ ?_
  rotate_left
  exact z16a
  refine pure_ (i := 22) (N := some 62) (v := undef) (a' := ?_) (bs "YYYYYYYYYYYYYYYYYYYYYYYXXX") rfl rfl (any_of HT_.out (by kernel_rfl)) (fun _ _ _ h => h) (Or.inr ⟨by rfl, rfl⟩) ?_ ?_
  rotate_left
  exact z16a
  refine pure_ (i := 23) (N := some 63) (v := undef) (a' := ?_) (bs "YYYYYYYYYYYYYYYYYYYYYYYYXX") rfl rfl (any_of HT_.out (by kernel_rfl)) (fun _ _ _ h => h) (Or.inr ⟨by rfl, rfl⟩) ?_ ?_
  rotate_left
  exact z16a
  refine pure_ (i := 24) (N := some 64) (v := undef) (a' := ?_) (bs "YYYYYYYYYYYYYYYYYYYYYYYYYX") rfl rfl (any_of HT_.out (by kernel_rfl)) (fun _ _ _ h => h) (Or.inr ⟨by rfl, rfl⟩) ?_ ?_
  rotate_left
  exact z16a
  refine pu_ 25 (some 65) (bs "YYYYYYYYYYYYYYYYYYYYYYYYYY") ?_
  refine done_ (done_of HT_.out (by kernel_rfl)) ?_
  try go_wp2
  go_meet
  case rel => exact ⟨_, (true), (by first | rfl | (simp; done) | (simp [*]; done)), H', ⟨by first | omega | exact Nat.le_refl _⟩, ⟨by (with_reducible repeat (first | apply Kd.R_alloc | apply Kd.R_drewN | apply Kd.R_drew)); exact Kd.R_mono HO609.out (fun _ hk => hk.1.2)⟩, ⟨by (with_reducible repeat (first | apply Kd.R_alloc | apply Kd.R_drewN | apply Kd.R_drew)); exact Kd.R_mono HO612.out (fun _ hk => hk.2)⟩, ⟨by (with_reducible repeat (first | apply Kd.R_alloc | apply Kd.R_drewN | apply Kd.R_drew)); exact Kd.R_mono HO615.out (fun _ hk => hk.2)⟩, ⟨by (with_reducible repeat (first | apply Kd.R_alloc | apply Kd.R_drewN | apply Kd.R_drew)); exact Kd.R_mono HO619.out (fun _ hk => hk.1.2)⟩, ⟨by repeat (first | (with_reducible first | exact HB.out | apply below_alloc | apply pw_below_drewN | apply below_drew1) | exact HB.out)⟩⟩
  }
  {
  rw [if_neg c19] at H
  have c19b0 : (t617 != t623) = false := by simpa using c19
  (try (have c19b1 : decide (t617 = t623) = true := by simpa using c19))
  (try (have c19b2 : (t617 == t623) = true := by simpa using c19))
  clear c19
  (first | rw [c19b0] | (simp only [i64_w, i32_w]; rw [c19b0]) | skip)
  replace H := Option.bind_eq_some_iff.mp H
  obtain ⟨t626, A210, H⟩ := H
  (try dsimp only at H)
  have A21 := A_ A210
  clear A210
  by_cases c22 : t626 = true
  {
  subst c22
  rw [if_pos rfl] at H
  replace H := Option.bind_eq_some_iff.mp H
  obtain ⟨t627, A230, H⟩ := H
  (try dsimp only at H)
  have A23 := A_ A230
  clear A230
  by_cases c24 : (strOfNums t610).toList = (strOfNums t627).toList
  {
  rw [if_pos c24] at H
  have c24b0 : ((strOfNums t610).toList == (strOfNums t627).toList) = true := beq_iff_eq.mpr c24
  have c24b1 : ((strOfNums t610).toList != (strOfNums t627).toList) = false := bne_eq_false_iff_eq.mpr c24
  clear c24
  replace H := Option.bind_eq_some_iff.mp H
  obtain ⟨t630, A250, H⟩ := H
  (try dsimp only at H)
  have A25 := A_ A250
  clear A250
  replace H := Option.bind_eq_some_iff.mp H
  obtain ⟨t631, A260, H⟩ := H
  (try dsimp only at H)
  have A26 := A_ A260
  clear A260
  have H' := A_ H
  clear H
  obtain ⟨Ao27, co27, eo27⟩ := Kd.R_slice HO619.out
  subst eo27
  obtain ⟨Ao28, co28, eo28⟩ := Kd.R_slice HO625.out
  subst eo28
  try go_wp2
  replace HO609 := A_ (Kd.R_drew HO609.out)
  replace HO612 := A_ (Kd.R_drew HO612.out)
  replace HO615 := A_ (Kd.R_drew HO615.out)
  replace HO619 := A_ (Kd.R_drew HO619.out)
  replace HO625 := A_ (Kd.R_drew HO625.out)
  replace HB := A_ (below_drew1 HB.out)
  refine start_ (n := 26) (S := fun w' => True) (ds := []) (bs "XXXXXXXXXXXXXXXXXXXXXXXXXX") (by kernel_rfl) rfl rfl trivial (fun hHeld => ?_); refine with_tabW laws_FnPacked.tab9 laws_FnPacked.bits9 (fun HT_ HW_ => ?_)
  generalize w18.drew = w29 at HO609 HO612 HO615 HO619 HO625 HB hHeld ⊢
  refine pu_ 0 (some 40) (bs "YXXXXXXXXXXXXXXXXXXXXXXXXX") ?_
  refine pu_ 1 (some 41) (bs "YYXXXXXXXXXXXXXXXXXXXXXXXX") ?_
  refine pu_ 2 (some 42) (bs "YYYXXXXXXXXXXXXXXXXXXXXXXX") ?_
  refine pu_ 3 (some 43) (bs "YYYYXXXXXXXXXXXXXXXXXXXXXX") ?_
  refine pu_ 4 (some 44) (bs "YYYYYXXXXXXXXXXXXXXXXXXXXX") ?_
  refine pu_ 5 (some 45) (bs "YYYYYYXXXXXXXXXXXXXXXXXXXX") ?_
  refine one_ (i := 6) (N := some 46) (bs "YYYYYYYXXXXXXXXXXXXXXXXXXX") rfl rfl (one_of HT_.out (by kernel_rfl)) (by decide) (fun K hK => ?_)
  refine goes_ Try.func64 (by kernel_rfl) rfl #[.slice Ao27 t616.length co27, .slice Ao28 t622.length co28] (by rfl) rfl rfl z16c ?_
  with_reducible refine (laws_likeEntries.calls k _ _ t616 _ _ t622 true _ ?side1 ?side2 ?side3 ?side4 A21.out).mono ?_
  (case side1 => exact (by repeat (first | exact (Kd.R_reads' HO619.out).2.2 | (with_reducible refine Kd.C_alloc ?_ _) | (with_reducible refine Kd.C_drewN ?_ _) | (with_reducible refine Kd.C_drew ?_))))
  (case side2 => exact (Kd.R_reads' HO619.out).2.1)
  (case side3 => exact (by repeat (first | exact (Kd.R_reads' HO625.out).2.2 | (with_reducible refine Kd.C_alloc ?_ _) | (with_reducible refine Kd.C_drewN ?_ _) | (with_reducible refine Kd.C_drew ?_))))
  (case side4 => exact (Kd.R_reads' HO625.out).2.1)
  rintro e w' ⟨rfl, ⟨nd, rfl⟩⟩
  refine ⟨_, rfl, ?_⟩
  refine hK.out _ _ trivial (fun hHeld => ?_)
  clear hK K
  refine norm_ (nz_ 46) ?_
  refine pu_ 7 (some 47) (bs "YYYYYYYYXXXXXXXXXXXXXXXXXX") ?_
  refine pu_ 8 (some 48) (bs "YYYYYYYYYXXXXXXXXXXXXXXXXX") ?_
  refine pu_ 9 (some 49) (bs "YYYYYYYYYYXXXXXXXXXXXXXXXX") ?_
  refine pu_ 10 (some 50) (bs "YYYYYYYYYYYXXXXXXXXXXXXXXX") ?_
  refine pu_ 12 (some 52) (bs "YYYYYYYYYYYXYXXXXXXXXXXXXX") ?_
  refine join_ (σ := Value) 11 (bs "YYYYYYYYYYYYYYYXXXXXXXXXXX") (fun s_ => [(51, .string (strOfNums t610)), (53, s_), (54, .string (strOfNums t627))]) (fun s_ w' => (Kd.R k49 49 w' w.heap.size (fun k_ => some k_ ≠ (.slice Ao27 t616.length co27 : Value).ownBlock ∧ some k_ ≠ (.slice Ao28 t622.length co28 : Value).ownBlock) (.slice Ao12 t607.length co12) t607) ∧ (Kd.R (Kd.int .u8) 5 w' w.heap.size (fun k_ => some k_ ≠ (.slice Ao15 t613.length co15 : Value).ownBlock ∧ some k_ ≠ (s_ : Value).ownBlock) v611 t610) ∧ (Kd.R (Kd.int .u8) 5 w' w.heap.size (fun k_ => some k_ ≠ (v611 : Value).ownBlock ∧ some k_ ≠ (s_ : Value).ownBlock) (.slice Ao15 t613.length co15) t613) ∧ (Kd.R k49 49 w' w.heap.size (fun k_ => some k_ ≠ (.slice Ao12 t607.length co12 : Value).ownBlock ∧ some k_ ≠ (.slice Ao28 t622.length co28 : Value).ownBlock) (.slice Ao27 t616.length co27) t616) ∧ (Kd.R k49 49 w' w.heap.size (fun k_ => some k_ ≠ (.slice Ao12 t607.length co12 : Value).ownBlock ∧ some k_ ≠ (.slice Ao27 t616.length co27 : Value).ownBlock) (.slice Ao28 t622.length co28) t622) ∧ (Kd.R (Kd.int .u8) 5 w' w.heap.size (fun k_ => some k_ ≠ (v611 : Value).ownBlock ∧ some k_ ≠ (.slice Ao15 t613.length co15 : Value).ownBlock) s_ t627) ∧ (Below w.heap.size w w')) ?_ ?_
  rotate_left
  {
  intro hCont
  refine two_ (i := 11) (j := 13) (Ni := some 51) (Nj := some 53) (bs "YYYYYYYYYYYYYXXXXXXXXXXXXX") (bs "YYYYYYYYYYYXYYXXXXXXXXXXXX") rfl rfl rfl rfl (two_of HT_.out (by kernel_rfl)) (by decide) (by decide) (fun K hK => ?_) (fun K hK => ?_)
  {
  skip
  have hcv30 := own_string (P := Try.prog) Try.underlying22 Try.underlying5 Try.underlying9 (Kd.own_of_R HO612.out); have hcv30d := fun (nq_ : Nat) => own_string (P := Try.prog) Try.underlying22 Try.underlying5 Try.underlying9 (Kd.own_of_R (Kd.R_drewN HO612.out nq_))
  refine value_ (w1 := ?_) (v := ?_) (by rfl) rfl ?_ ?_
  rotate_left 2
  {
  go_simp
  constructor
  {
  rfl
  }
  {
  rfl
  }
  }
  clear hcv30 hcv30d
  refine hK.out _ _ trivial (fun hHeld => ?_)
  clear hK K
  refine norm_ (nz_ 51) ?_
  refine one_ (i := 13) (N := some 53) (bs "YYYYYYYYYYYYYYXXXXXXXXXXXX") rfl rfl (one_of HT_.out (by kernel_rfl)) (by decide) (fun K hK => ?_)
  refine goes_ Try.func48 (by kernel_rfl) rfl #[.slice Ao12 t607.length co12] (by rfl) rfl rfl z16c ?_
  with_reducible refine (spec_Packed.calls k _ _ t607 t627 _ ?side1 ?side2 A23.out).mono ?_
  (case side1 => exact z16z)
  (case side2 => exact (Kd.R_reads' HO609.out).2.1)
  rintro e w31 ⟨v628, rfl, ho0, hb⟩
  refine ⟨_, rfl, ?_⟩
  have n0_ := A_ (Kd.R_below z16m hb)
  have n1_ := A_ (Kd.R_elder' z16j (Kd.R_base ho0) hb)
  have n2_ := A_ (Kd.R_elder' z16n (Kd.R_base ho0) hb)
  have n3_ := A_ (Kd.R_below z16a1 hb)
  have n4_ := A_ (Kd.R_below (by (with_reducible repeat (first | apply Kd.R_alloc | apply Kd.R_drewN | apply Kd.R_drew)); exact HO625.out) hb)
  have n5_ := A_ (Kd.R_lower (Kd.R_new' (Kd.R_new' ho0 (Kd.R_lt z16j)) (Kd.R_lt z16n)) (below_size z16b))
  have n6_ := A_ (below_step z16b hb)
  clear HO609
  clear HO612
  clear HO615
  clear HO619
  clear HO625
  clear HB
  have HO609 := n0_
  have HO612 := n1_
  have HO615 := n2_
  have HO619 := n3_
  have HO625 := n4_
  have HO629 := n5_
  have HB := n6_
  clear n0_ n1_ n2_ n3_ n4_ n5_ n6_
  refine hK.out _ _ trivial (fun hHeld => ?_)
  clear hK K
  refine norm_ (nz_ 53) ?_
  refine one_ (i := 14) (N := some 54) (bs "YYYYYYYYYYYYYYYXXXXXXXXXXX") rfl rfl (one_of HT_.out (by kernel_rfl)) (by decide) (fun K hK => ?_)
  have hcv32 := own_string (P := Try.prog) Try.underlying22 Try.underlying5 Try.underlying9 (Kd.own_of_R HO629.out)
  refine value_ (w1 := ?_) (v := ?_) (by rfl) rfl ?_ ?_
  rotate_left 2
  {
  go_simp
  constructor
  {
  rfl
  }
  {
  rfl
  }
  }
  clear hcv32
  refine hK.out _ _ trivial (fun hHeld => ?_)
  clear hK K
  refine norm_ (nz_ 54) ?_
  exact norm_ z16l (hCont (v628) _ ⟨z16r, z16s, z16t, z16u, z16v, z16w, z16b⟩)
  }
  {
  skip
  refine goes_ Try.func48 (by kernel_rfl) rfl #[.slice Ao12 t607.length co12] (by rfl) rfl rfl z16c ?_
  with_reducible refine (spec_Packed.calls k _ _ t607 t627 _ ?side1 ?side2 A23.out).mono ?_
  (case side1 => exact z16z)
  (case side2 => exact (Kd.R_reads' HO609.out).2.1)
  rintro e w30 ⟨v628, rfl, ho0, hb⟩
  refine ⟨_, rfl, ?_⟩
  have n0_ := A_ (Kd.R_below z16m hb)
  have n1_ := A_ (Kd.R_elder' z16j (Kd.R_base ho0) hb)
  have n2_ := A_ (Kd.R_elder' z16n (Kd.R_base ho0) hb)
  have n3_ := A_ (Kd.R_below z16a1 hb)
  have n4_ := A_ (Kd.R_below (by (with_reducible repeat (first | apply Kd.R_alloc | apply Kd.R_drewN | apply Kd.R_drew)); exact HO625.out) hb)
  have n5_ := A_ (Kd.R_lower (Kd.R_new' (Kd.R_new' ho0 (Kd.R_lt z16j)) (Kd.R_lt z16n)) (below_size z16b))
  have n6_ := A_ (below_step z16b hb)
  clear HO609
  clear HO612
  clear HO615
  clear HO619
  clear HO625
  clear HB
  have HO609 := n0_
  have HO612 := n1_
  have HO615 := n2_
  have HO619 := n3_
  have HO625 := n4_
  have HO629 := n5_
  have HB := n6_
  clear n0_ n1_ n2_ n3_ n4_ n5_ n6_
  refine hK.out _ _ trivial (fun hHeld => ?_)
  clear hK K
  refine norm_ (nz_ 53) ?_
  refine two_ (i := 11) (j := 14) (Ni := some 51) (Nj := some 54) (bs "YYYYYYYYYYYYYYXXXXXXXXXXXX") (bs "YYYYYYYYYYYXYYYXXXXXXXXXXX") rfl rfl rfl rfl (two_of HT_.out (by kernel_rfl)) (by decide) (by decide) (fun K hK => ?_) (fun K hK => ?_)
  {
  skip
  have hcv31 := own_string (P := Try.prog) Try.underlying22 Try.underlying5 Try.underlying9 (Kd.own_of_R HO612.out); have hcv31d := fun (nq_ : Nat) => own_string (P := Try.prog) Try.underlying22 Try.underlying5 Try.underlying9 (Kd.own_of_R (Kd.R_drewN HO612.out nq_))
  refine value_ (w1 := ?_) (v := ?_) (by rfl) rfl ?_ ?_
  rotate_left 2
  {
  go_simp
  constructor
  {
  rfl
  }
  {
  rfl
  }
  }
  clear hcv31 hcv31d
  refine hK.out _ _ trivial (fun hHeld => ?_)
  clear hK K
  refine norm_ (nz_ 51) ?_
  refine one_ (i := 14) (N := some 54) (bs "YYYYYYYYYYYYYYYXXXXXXXXXXX") rfl rfl (one_of HT_.out (by kernel_rfl)) (by decide) (fun K hK => ?_)
  have hcv32 := own_string (P := Try.prog) Try.underlying22 Try.underlying5 Try.underlying9 (Kd.own_of_R HO629.out)
  refine value_ (w1 := ?_) (v := ?_) (by rfl) rfl ?_ ?_
  rotate_left 2
  {
  go_simp
  constructor
  {
  rfl
  }
  {
  rfl
  }
  }
  clear hcv32
  refine hK.out _ _ trivial (fun hHeld => ?_)
  clear hK K
  refine norm_ (nz_ 54) ?_
  exact norm_ z16l (hCont (v628) _ ⟨z16r, z16s, z16t, z16u, z16v, z16w, z16b⟩)
  }
  {
  skip
  have hcv31 := own_string (P := Try.prog) Try.underlying22 Try.underlying5 Try.underlying9 (Kd.own_of_R HO629.out)
  refine value_ (w1 := ?_) (v := ?_) (by rfl) rfl ?_ ?_
  rotate_left 2
  {
  go_simp
  constructor
  {
  rfl
  }
  {
  rfl
  }
  }
  clear hcv31
  refine hK.out _ _ trivial (fun hHeld => ?_)
  clear hK K
  refine norm_ (nz_ 54) ?_
  refine one_ (i := 11) (N := some 51) (bs "YYYYYYYYYYYYYYYXXXXXXXXXXX") rfl rfl (one_of HT_.out (by kernel_rfl)) (by decide) (fun K hK => ?_)
  have hcv32 := own_string (P := Try.prog) Try.underlying22 Try.underlying5 Try.underlying9 (Kd.own_of_R HO612.out); have hcv32d := fun (nq_ : Nat) => own_string (P := Try.prog) Try.underlying22 Try.underlying5 Try.underlying9 (Kd.own_of_R (Kd.R_drewN HO612.out nq_))
  refine value_ (w1 := ?_) (v := ?_) (by rfl) rfl ?_ ?_
  rotate_left 2
  {
  go_simp
  constructor
  {
  rfl
  }
  {
  rfl
  }
  }
  clear hcv32 hcv32d
  refine hK.out _ _ trivial (fun hHeld => ?_)
  clear hK K
  refine norm_ (nz_ 51) ?_
  exact norm_ z16l (hCont (v628) _ ⟨z16r, z16s, z16t, z16u, z16v, z16w, z16b⟩)
  }
  }
  }
  rintro v628 w33 ⟨h0_, h1_, h2_, h3_, h4_, h5_, h6_⟩
  have n0_ : Aside0 (Kd.R k49 49 w33 w.heap.size (fun k_ => some k_ ≠ (.slice Ao27 t616.length co27 : Value).ownBlock ∧ some k_ ≠ (.slice Ao28 t622.length co28 : Value).ownBlock) (.slice Ao12 t607.length co12) t607) := ⟨h0_⟩
  have n1_ : Aside0 (Kd.R (Kd.int .u8) 5 w33 w.heap.size (fun k_ => some k_ ≠ (.slice Ao15 t613.length co15 : Value).ownBlock ∧ some k_ ≠ (v628 : Value).ownBlock) v611 t610) := ⟨h1_⟩
  have n2_ : Aside0 (Kd.R (Kd.int .u8) 5 w33 w.heap.size (fun k_ => some k_ ≠ (v611 : Value).ownBlock ∧ some k_ ≠ (v628 : Value).ownBlock) (.slice Ao15 t613.length co15) t613) := ⟨h2_⟩
  have n3_ : Aside0 (Kd.R k49 49 w33 w.heap.size (fun k_ => some k_ ≠ (.slice Ao12 t607.length co12 : Value).ownBlock ∧ some k_ ≠ (.slice Ao28 t622.length co28 : Value).ownBlock) (.slice Ao27 t616.length co27) t616) := ⟨h3_⟩
  have n4_ : Aside0 (Kd.R k49 49 w33 w.heap.size (fun k_ => some k_ ≠ (.slice Ao12 t607.length co12 : Value).ownBlock ∧ some k_ ≠ (.slice Ao27 t616.length co27 : Value).ownBlock) (.slice Ao28 t622.length co28) t622) := ⟨h4_⟩
  have n5_ : Aside0 (Kd.R (Kd.int .u8) 5 w33 w.heap.size (fun k_ => some k_ ≠ (v611 : Value).ownBlock ∧ some k_ ≠ (.slice Ao15 t613.length co15 : Value).ownBlock) v628 t627) := ⟨h5_⟩
  have n6_ : Aside0 (Below w.heap.size w w33) := ⟨h6_⟩
  clear HO609
  clear HO612
  clear HO615
  clear HO619
  clear HO625
  clear HB
  clear h0_ h1_ h2_ h3_ h4_ h5_ h6_
  have HO609 := n0_
  have HO612 := n1_
  have HO615 := n2_
  have HO619 := n3_
  have HO625 := n4_
  have HO629 := n5_
  have HB := n6_
  clear n0_ n1_ n2_ n3_ n4_ n5_ n6_
  have hHeld := trivial
  refine norm_ (a' := ?_) ?_ ?_
  rotate_left
  exact (by simp only [putAll, Act.put, List.setIfInBounds_toArray, List.set_cons_zero, List.set_cons_succ]; rfl)
  refine pu_ 15 (some 55) (bs "YYYYYYYYYYYYYYYYXXXXXXXXXX") ?_
  refine pu_ 16 (some 56) (bs "YYYYYYYYYYYYYYYYYXXXXXXXXX") ?_
  refine pu_ 17 (some 57) (bs "YYYYYYYYYYYYYYYYYYXXXXXXXX") ?_
  refine pu_ 18 (some 58) (bs "YYYYYYYYYYYYYYYYYYYXXXXXXX") ?_
  refine pu_ 19 (some 59) (bs "YYYYYYYYYYYYYYYYYYYYXXXXXX") ?_
  refine pu_ 21 (some 61) (bs "YYYYYYYYYYYYYYYYYYYYXYXXXX") ?_
  refine pu_ 22 (some 62) (bs "YYYYYYYYYYYYYYYYYYYYXYYXXX") ?_
  refine one_ (i := 20) (N := some 60) (bs "YYYYYYYYYYYYYYYYYYYYYYYXXX") rfl rfl (one_of HT_.out (by kernel_rfl)) (by decide) (fun K hK => ?_)
  refine goes_ Try.func68 (by kernel_rfl) rfl #[.string t620, .string t621] (by rfl) rfl rfl z16c ?_
  with_reducible refine (impl_Common.calls k t620 t621 t630 _ A25.out).mono ?_
  rintro e w' ⟨rfl, ⟨nd, rfl⟩⟩
  refine ⟨_, rfl, ?_⟩
  refine hK.out _ _ trivial (fun hHeld => ?_)
  clear hK K
  refine norm_ (nz_ 60) ?_
  refine one_ (i := 23) (N := some 63) (bs "YYYYYYYYYYYYYYYYYYYYYYYYXX") rfl rfl (one_of HT_.out (by kernel_rfl)) (by decide) (fun K hK => ?_)
  refine goes_ Try.func69 (by kernel_rfl) rfl #[.string t620, .string t621] (by rfl) rfl rfl z16c ?_
  with_reducible refine (spec_Common.calls k t620 t621 t631 _ A26.out).mono ?_
  rintro e w' ⟨rfl, ⟨nd, rfl⟩⟩
  refine ⟨_, rfl, ?_⟩
  refine hK.out _ _ trivial (fun hHeld => ?_)
  clear hK K
  refine norm_ (nz_ 63) ?_
  refine pu_ 24 (some 64) (bs "YYYYYYYYYYYYYYYYYYYYYYYYYX") ?_
  refine pu_ 25 (some 65) (bs "YYYYYYYYYYYYYYYYYYYYYYYYYY") ?_
  refine done_ (done_of HT_.out (by kernel_rfl)) ?_
  try go_wp2
  go_meet
  case rel => exact ⟨_, ((t630 != t631)), (by first | rfl | (simp; done) | (simp [*]; done)), H', ⟨by first | omega | exact Nat.le_refl _⟩, ⟨by (with_reducible repeat (first | apply Kd.R_alloc | apply Kd.R_drewN | apply Kd.R_drew)); exact Kd.R_mono HO609.out (fun _ hk => hk.1)⟩, ⟨by (with_reducible repeat (first | apply Kd.R_alloc | apply Kd.R_drewN | apply Kd.R_drew)); exact Kd.R_mono HO612.out (fun _ hk => hk.1)⟩, ⟨by (with_reducible repeat (first | apply Kd.R_alloc | apply Kd.R_drewN | apply Kd.R_drew)); exact Kd.R_mono HO615.out (fun _ hk => hk.1)⟩, ⟨by (with_reducible repeat (first | apply Kd.R_alloc | apply Kd.R_drewN | apply Kd.R_drew)); exact Kd.R_mono HO619.out (fun _ hk => hk.1)⟩, ⟨by repeat (first | (with_reducible first | exact HB.out | apply below_alloc | apply pw_below_drewN | apply below_drew1) | exact HB.out)⟩⟩
  }
  {
  rw [if_neg c24] at H
  have c24b0 : ((strOfNums t610).toList == (strOfNums t627).toList) = false := beq_eq_false_iff_ne.mpr c24
  have c24b1 : ((strOfNums t610).toList != (strOfNums t627).toList) = true := bne_iff_ne.mpr c24
  have H' := A_ H
  clear H
  obtain ⟨Ao34, co34, eo34⟩ := Kd.R_slice HO619.out
  subst eo34
  obtain ⟨Ao35, co35, eo35⟩ := Kd.R_slice HO625.out
  subst eo35
  try go_wp2
  replace HO609 := A_ (Kd.R_drew HO609.out)
  replace HO612 := A_ (Kd.R_drew HO612.out)
  replace HO615 := A_ (Kd.R_drew HO615.out)
  replace HO619 := A_ (Kd.R_drew HO619.out)
  replace HO625 := A_ (Kd.R_drew HO625.out)
  replace HB := A_ (below_drew1 HB.out)
  refine start_ (n := 26) (S := fun w' => True) (ds := []) (bs "XXXXXXXXXXXXXXXXXXXXXXXXXX") (by kernel_rfl) rfl rfl trivial (fun hHeld => ?_); refine with_tabW laws_FnPacked.tab9 laws_FnPacked.bits9 (fun HT_ HW_ => ?_)
  generalize w18.drew = w36 at HO609 HO612 HO615 HO619 HO625 HB hHeld ⊢
  refine pu_ 0 (some 40) (bs "YXXXXXXXXXXXXXXXXXXXXXXXXX") ?_
  refine pu_ 1 (some 41) (bs "YYXXXXXXXXXXXXXXXXXXXXXXXX") ?_
  refine pu_ 2 (some 42) (bs "YYYXXXXXXXXXXXXXXXXXXXXXXX") ?_
  refine pu_ 3 (some 43) (bs "YYYYXXXXXXXXXXXXXXXXXXXXXX") ?_
  refine pu_ 4 (some 44) (bs "YYYYYXXXXXXXXXXXXXXXXXXXXX") ?_
  refine pu_ 5 (some 45) (bs "YYYYYYXXXXXXXXXXXXXXXXXXXX") ?_
  refine one_ (i := 6) (N := some 46) (bs "YYYYYYYXXXXXXXXXXXXXXXXXXX") rfl rfl (one_of HT_.out (by kernel_rfl)) (by decide) (fun K hK => ?_)
  refine goes_ Try.func64 (by kernel_rfl) rfl #[.slice Ao34 t616.length co34, .slice Ao35 t622.length co35] (by rfl) rfl rfl z16c ?_
  with_reducible refine (laws_likeEntries.calls k _ _ t616 _ _ t622 true _ ?side1 ?side2 ?side3 ?side4 A21.out).mono ?_
  (case side1 => exact (by repeat (first | exact (Kd.R_reads' HO619.out).2.2 | (with_reducible refine Kd.C_alloc ?_ _) | (with_reducible refine Kd.C_drewN ?_ _) | (with_reducible refine Kd.C_drew ?_))))
  (case side2 => exact (Kd.R_reads' HO619.out).2.1)
  (case side3 => exact (by repeat (first | exact (Kd.R_reads' HO625.out).2.2 | (with_reducible refine Kd.C_alloc ?_ _) | (with_reducible refine Kd.C_drewN ?_ _) | (with_reducible refine Kd.C_drew ?_))))
  (case side4 => exact (Kd.R_reads' HO625.out).2.1)
  rintro e w' ⟨rfl, ⟨nd, rfl⟩⟩
  refine ⟨_, rfl, ?_⟩
  refine hK.out _ _ trivial (fun hHeld => ?_)
  clear hK K
  refine norm_ (nz_ 46) ?_
  refine pu_ 7 (some 47) (bs "YYYYYYYYXXXXXXXXXXXXXXXXXX") ?_
  refine pu_ 8 (some 48) (bs "YYYYYYYYYXXXXXXXXXXXXXXXXX") ?_
  refine pu_ 9 (some 49) (bs "YYYYYYYYYYXXXXXXXXXXXXXXXX") ?_
  refine pu_ 10 (some 50) (bs "YYYYYYYYYYYXXXXXXXXXXXXXXX") ?_
  refine pu_ 12 (some 52) (bs "YYYYYYYYYYYXYXXXXXXXXXXXXX") ?_
  refine join_ (σ := Value) 11 (bs "YYYYYYYYYYYYYYYXXXXXXXXXXX") (fun s_ => [(51, .string (strOfNums t610)), (53, s_), (54, .string (strOfNums t627))]) (fun s_ w' => (Kd.R k49 49 w' w.heap.size (fun k_ => some k_ ≠ (.slice Ao34 t616.length co34 : Value).ownBlock ∧ some k_ ≠ (.slice Ao35 t622.length co35 : Value).ownBlock) (.slice Ao12 t607.length co12) t607) ∧ (Kd.R (Kd.int .u8) 5 w' w.heap.size (fun k_ => some k_ ≠ (.slice Ao15 t613.length co15 : Value).ownBlock ∧ some k_ ≠ (s_ : Value).ownBlock) v611 t610) ∧ (Kd.R (Kd.int .u8) 5 w' w.heap.size (fun k_ => some k_ ≠ (v611 : Value).ownBlock ∧ some k_ ≠ (s_ : Value).ownBlock) (.slice Ao15 t613.length co15) t613) ∧ (Kd.R k49 49 w' w.heap.size (fun k_ => some k_ ≠ (.slice Ao12 t607.length co12 : Value).ownBlock ∧ some k_ ≠ (.slice Ao35 t622.length co35 : Value).ownBlock) (.slice Ao34 t616.length co34) t616) ∧ (Kd.R k49 49 w' w.heap.size (fun k_ => some k_ ≠ (.slice Ao12 t607.length co12 : Value).ownBlock ∧ some k_ ≠ (.slice Ao34 t616.length co34 : Value).ownBlock) (.slice Ao35 t622.length co35) t622) ∧ (Kd.R (Kd.int .u8) 5 w' w.heap.size (fun k_ => some k_ ≠ (v611 : Value).ownBlock ∧ some k_ ≠ (.slice Ao15 t613.length co15 : Value).ownBlock) s_ t627) ∧ (Below w.heap.size w w')) ?_ ?_
  rotate_left
  {
  intro hCont
  refine two_ (i := 11) (j := 13) (Ni := some 51) (Nj := some 53) (bs "YYYYYYYYYYYYYXXXXXXXXXXXXX") (bs "YYYYYYYYYYYXYYXXXXXXXXXXXX") rfl rfl rfl rfl (two_of HT_.out (by kernel_rfl)) (by decide) (by decide) (fun K hK => ?_) (fun K hK => ?_)
  {
  skip
  have hcv37 := own_string (P := Try.prog) Try.underlying22 Try.underlying5 Try.underlying9 (Kd.own_of_R HO612.out); have hcv37d := fun (nq_ : Nat) => own_string (P := Try.prog) Try.underlying22 Try.underlying5 Try.underlying9 (Kd.own_of_R (Kd.R_drewN HO612.out nq_))
  refine value_ (w1 := ?_) (v := ?_) (by rfl) rfl ?_ ?_
  rotate_left 2
  {
  go_simp
  constructor
  {
  rfl
  }
  {
  rfl
  }
  }
  clear hcv37 hcv37d
  refine hK.out _ _ trivial (fun hHeld => ?_)
  clear hK K
  refine norm_ (nz_ 51) ?_
  refine one_ (i := 13) (N := some 53) (bs "YYYYYYYYYYYYYYXXXXXXXXXXXX") rfl rfl (one_of HT_.out (by kernel_rfl)) (by decide) (fun K hK => ?_)
  refine goes_ Try.func48 (by kernel_rfl) rfl #[.slice Ao12 t607.length co12] (by rfl) rfl rfl z16c ?_
  with_reducible refine (spec_Packed.calls k _ _ t607 t627 _ ?side1 ?side2 A23.out).mono ?_
  (case side1 => exact z16z)
  (case side2 => exact (Kd.R_reads' HO609.out).2.1)
  rintro e w38 ⟨v628, rfl, ho0, hb⟩
  refine ⟨_, rfl, ?_⟩
  have n0_ := A_ (Kd.R_below z16m hb)
  have n1_ := A_ (Kd.R_elder' z16j (Kd.R_base ho0) hb)
  have n2_ := A_ (Kd.R_elder' z16n (Kd.R_base ho0) hb)
  have n3_ := A_ (Kd.R_below z16a1 hb)
  have n4_ := A_ (Kd.R_below (by (with_reducible repeat (first | apply Kd.R_alloc | apply Kd.R_drewN | apply Kd.R_drew)); exact HO625.out) hb)
  have n5_ := A_ (Kd.R_lower (Kd.R_new' (Kd.R_new' ho0 (Kd.R_lt z16j)) (Kd.R_lt z16n)) (below_size z16b))
  have n6_ := A_ (below_step z16b hb)
  clear HO609
  clear HO612
  clear HO615
  clear HO619
  clear HO625
  clear HB
  have HO609 := n0_
  have HO612 := n1_
  have HO615 := n2_
  have HO619 := n3_
  have HO625 := n4_
  have HO629 := n5_
  have HB := n6_
  clear n0_ n1_ n2_ n3_ n4_ n5_ n6_
  refine hK.out _ _ trivial (fun hHeld => ?_)
  clear hK K
  refine norm_ (nz_ 53) ?_
  refine one_ (i := 14) (N := some 54) (bs "YYYYYYYYYYYYYYYXXXXXXXXXXX") rfl rfl (one_of HT_.out (by kernel_rfl)) (by decide) (fun K hK => ?_)
  have hcv39 := own_string (P := Try.prog) Try.underlying22 Try.underlying5 Try.underlying9 (Kd.own_of_R HO629.out)
  refine value_ (w1 := ?_) (v := ?_) (by rfl) rfl ?_ ?_
  rotate_left 2
  {
  go_simp
  constructor
  {
  rfl
  }
  {
  rfl
  }
  }
  clear hcv39
  refine hK.out _ _ trivial (fun hHeld => ?_)
  clear hK K
  refine norm_ (nz_ 54) ?_
  exact norm_ z16l (hCont (v628) _ ⟨z16r, z16s, z16t, z16u, z16v, z16w, z16b⟩)
  }
  {
  skip
  refine goes_ Try.func48 (by kernel_rfl) rfl #[.slice Ao12 t607.length co12] (by rfl) rfl rfl z16c ?_
  with_reducible refine (spec_Packed.calls k _ _ t607 t627 _ ?side1 ?side2 A23.out).mono ?_
  (case side1 => exact z16z)
  (case side2 => exact (Kd.R_reads' HO609.out).2.1)
  rintro e w37 ⟨v628, rfl, ho0, hb⟩
  refine ⟨_, rfl, ?_⟩
  have n0_ := A_ (Kd.R_below z16m hb)
  have n1_ := A_ (Kd.R_elder' z16j (Kd.R_base ho0) hb)
  have n2_ := A_ (Kd.R_elder' z16n (Kd.R_base ho0) hb)
  have n3_ := A_ (Kd.R_below z16a1 hb)
  have n4_ := A_ (Kd.R_below (by (with_reducible repeat (first | apply Kd.R_alloc | apply Kd.R_drewN | apply Kd.R_drew)); exact HO625.out) hb)
  have n5_ := A_ (Kd.R_lower (Kd.R_new' (Kd.R_new' ho0 (Kd.R_lt z16j)) (Kd.R_lt z16n)) (below_size z16b))
  have n6_ := A_ (below_step z16b hb)
  clear HO609
  clear HO612
  clear HO615
  clear HO619
  clear HO625
  clear HB
  have HO609 := n0_
  have HO612 := n1_
  have HO615 := n2_
  have HO619 := n3_
  have HO625 := n4_
  have HO629 := n5_
  have HB := n6_
  clear n0_ n1_ n2_ n3_ n4_ n5_ n6_
  refine hK.out _ _ trivial (fun hHeld => ?_)
  clear hK K
  refine norm_ (nz_ 53) ?_
  refine two_ (i := 11) (j := 14) (Ni := some 51) (Nj := some 54) (bs "YYYYYYYYYYYYYYXXXXXXXXXXXX") (bs "YYYYYYYYYYYXYYYXXXXXXXXXXX") rfl rfl rfl rfl (two_of HT_.out (by kernel_rfl)) (by decide) (by decide) (fun K hK => ?_) (fun K hK => ?_)
  {
  skip
  have hcv38 := own_string (P := Try.prog) Try.underlying22 Try.underlying5 Try.underlying9 (Kd.own_of_R HO612.out); have hcv38d := fun (nq_ : Nat) => own_string (P := Try.prog) Try.underlying22 Try.underlying5 Try.underlying9 (Kd.own_of_R (Kd.R_drewN HO612.out nq_))
  refine value_ (w1 := ?_) (v := ?_) (by rfl) rfl ?_ ?_
  rotate_left 2
  {
  go_simp
  constructor
  {
  rfl
  }
  {
  rfl
  }
  }
  clear hcv38 hcv38d
  refine hK.out _ _ trivial (fun hHeld => ?_)
  clear hK K
  refine norm_ (nz_ 51) ?_
  refine one_ (i := 14) (N := some 54) (bs "YYYYYYYYYYYYYYYXXXXXXXXXXX") rfl rfl (one_of HT_.out (by kernel_rfl)) (by decide) (fun K hK => ?_)
  have hcv39 := own_string (P := Try.prog) Try.underlying22 Try.underlying5 Try.underlying9 (Kd.own_of_R HO629.out)
  refine value_ (w1 := ?_) (v := ?_) (by rfl) rfl ?_ ?_
  rotate_left 2
  {
  go_simp
  constructor
  {
  rfl
  }
  {
  rfl
  }
  }
  clear hcv39
  refine hK.out _ _ trivial (fun hHeld => ?_)
  clear hK K
  refine norm_ (nz_ 54) ?_
  exact norm_ z16l (hCont (v628) _ ⟨z16r, z16s, z16t, z16u, z16v, z16w, z16b⟩)
  }
  {
  skip
  have hcv38 := own_string (P := Try.prog) Try.underlying22 Try.underlying5 Try.underlying9 (Kd.own_of_R HO629.out)
  refine value_ (w1 := ?_) (v := ?_) (by rfl) rfl ?_ ?_
  rotate_left 2
  {
  go_simp
  constructor
  {
  rfl
  }
  {
  rfl
  }
  }
  clear hcv38
  refine hK.out _ _ trivial (fun hHeld => ?_)
  clear hK K
  refine norm_ (nz_ 54) ?_
  refine one_ (i := 11) (N := some 51) (bs "YYYYYYYYYYYYYYYXXXXXXXXXXX") rfl rfl (one_of HT_.out (by kernel_rfl)) (by decide) (fun K hK => ?_)
  have hcv39 := own_string (P := Try.prog) Try.underlying22 Try.underlying5 Try.underlying9 (Kd.own_of_R HO612.out); have hcv39d := fun (nq_ : Nat) => own_string (P := Try.prog) Try.underlying22 Try.underlying5 Try.underlying9 (Kd.own_of_R (Kd.R_drewN HO612.out nq_))
  refine value_ (w1 := ?_) (v := ?_) (by rfl) rfl ?_ ?_
  rotate_left 2
  {
  go_simp
  constructor
  {
  rfl
  }
  {
  rfl
  }
  }
  clear hcv39 hcv39d
  refine hK.out _ _ trivial (fun hHeld => ?_)
  clear hK K
  refine norm_ (nz_ 51) ?_
  exact norm_ z16l (hCont (v628) _ ⟨z16r, z16s, z16t, z16u, z16v, z16w, z16b⟩)
  }
  }
  }
  rintro v628 w40 ⟨h0_, h1_, h2_, h3_, h4_, h5_, h6_⟩
  have n0_ : Aside0 (Kd.R k49 49 w40 w.heap.size (fun k_ => some k_ ≠ (.slice Ao34 t616.length co34 : Value).ownBlock ∧ some k_ ≠ (.slice Ao35 t622.length co35 : Value).ownBlock) (.slice Ao12 t607.length co12) t607) := ⟨h0_⟩
  have n1_ : Aside0 (Kd.R (Kd.int .u8) 5 w40 w.heap.size (fun k_ => some k_ ≠ (.slice Ao15 t613.length co15 : Value).ownBlock ∧ some k_ ≠ (v628 : Value).ownBlock) v611 t610) := ⟨h1_⟩
  have n2_ : Aside0 (Kd.R (Kd.int .u8) 5 w40 w.heap.size (fun k_ => some k_ ≠ (v611 : Value).ownBlock ∧ some k_ ≠ (v628 : Value).ownBlock) (.slice Ao15 t613.length co15) t613) := ⟨h2_⟩
  have n3_ : Aside0 (Kd.R k49 49 w40 w.heap.size (fun k_ => some k_ ≠ (.slice Ao12 t607.length co12 : Value).ownBlock ∧ some k_ ≠ (.slice Ao35 t622.length co35 : Value).ownBlock) (.slice Ao34 t616.length co34) t616) := ⟨h3_⟩
  have n4_ : Aside0 (Kd.R k49 49 w40 w.heap.size (fun k_ => some k_ ≠ (.slice Ao12 t607.length co12 : Value).ownBlock ∧ some k_ ≠ (.slice Ao34 t616.length co34 : Value).ownBlock) (.slice Ao35 t622.length co35) t622) := ⟨h4_⟩
  have n5_ : Aside0 (Kd.R (Kd.int .u8) 5 w40 w.heap.size (fun k_ => some k_ ≠ (v611 : Value).ownBlock ∧ some k_ ≠ (.slice Ao15 t613.length co15 : Value).ownBlock) v628 t627) := ⟨h5_⟩
  have n6_ : Aside0 (Below w.heap.size w w40) := ⟨h6_⟩
  clear HO609
  clear HO612
  clear HO615
  clear HO619
  clear HO625
  clear HB
  clear h0_ h1_ h2_ h3_ h4_ h5_ h6_
  have HO609 := n0_
  have HO612 := n1_
  have HO615 := n2_
  have HO619 := n3_
  have HO625 := n4_
  have HO629 := n5_
  have HB := n6_
  clear n0_ n1_ n2_ n3_ n4_ n5_ n6_
  have hHeld := trivial
  refine norm_ (a' := ?_) ?_ ?_
  rotate_left
  exact (by simp only [putAll, Act.put, List.setIfInBounds_toArray, List.set_cons_zero, List.set_cons_succ]; rfl)
  refine pu_ 15 (some 55) (bs "YYYYYYYYYYYYYYYYXXXXXXXXXX") ?_
  refine pu_ 16 (some 56) (bs "YYYYYYYYYYYYYYYYYXXXXXXXXX") ?_
  refine pu_ 17 (some 57) (bs "YYYYYYYYYYYYYYYYYYXXXXXXXX") ?_
  refine pure_ (i := 18) (N := some 58) (v := undef) (a' := ?_) (bs "YYYYYYYYYYYYYYYYYYYXXXXXXX") rfl rfl (any_of HT_.out (by kernel_rfl)) (fun _ _ _ h => h) (Or.inr ⟨by rfl, rfl⟩) ?_ ?_
  rotate_left
  exact z16a
  refine pure_ (i := 19) (N := some 59) (v := undef) (a' := ?_) (bs "YYYYYYYYYYYYYYYYYYYYXXXXXX") rfl rfl (any_of HT_.out (by kernel_rfl)) (fun _ _ _ h => h) (Or.inr ⟨by rfl, rfl⟩) ?_ ?_
  rotate_left
  exact z16a
  refine pure_ (i := 20) (N := some 60) (v := undef) (a' := ?_) (bs "YYYYYYYYYYYYYYYYYYYYYXXXXX") rfl rfl (any_of HT_.out (by kernel_rfl)) (fun _ _ _ h => h) (Or.inr ⟨by rfl, rfl⟩) ?_ ?_
  rotate_left
  exact z16a
  refine pure_ (i := 21) (N := some 61) (v := undef) (a' := ?_) (bs "YYYYYYYYYYYYYYYYYYYYYYXXXX") rfl rfl (any_of HT_.out (by kernel_rfl)) (fun _ _ _ h => h) (Or.inr ⟨by rfl, rfl⟩) ?_ ?_
  rotate_left
  exact z16a
  refine pure_ (i := 22) (N := some 62) (v := undef) (a' := ?_) (bs "YYYYYYYYYYYYYYYYYYYYYYYXXX") rfl rfl (any_of HT_.out (by kernel_rfl)) (fun _ _ _ h => h) (Or.inr ⟨by rfl, rfl⟩) ?_ ?_
  rotate_left
  exact z16a
  refine pure_ (i := 23) (N := some 63) (v := undef) (a' := ?_) (bs "YYYYYYYYYYYYYYYYYYYYYYYYXX") rfl rfl (any_of HT_.out (by kernel_rfl)) (fun _ _ _ h => h) (Or.inr ⟨by rfl, rfl⟩) ?_ ?_
  rotate_left
  exact z16a
  refine pure_ (i := 24) (N := some 64) (v := undef) (a' := ?_) (bs "YYYYYYYYYYYYYYYYYYYYYYYYYX") rfl rfl (any_of HT_.out (by kernel_rfl)) (fun _ _ _ h => h) (Or.inr ⟨by rfl, rfl⟩) ?_ ?_
  rotate_left
  exact z16a
  refine pu_ 25 (some 65) (bs "YYYYYYYYYYYYYYYYYYYYYYYYYY") ?_
  refine done_ (done_of HT_.out (by kernel_rfl)) ?_
  try go_wp2
  go_meet
  case rel => exact ⟨_, (true), (by first | rfl | (simp; done) | (simp [*]; done)), H', ⟨by first | omega | exact Nat.le_refl _⟩, ⟨by (with_reducible repeat (first | apply Kd.R_alloc | apply Kd.R_drewN | apply Kd.R_drew)); exact Kd.R_mono HO609.out (fun _ hk => hk.1)⟩, ⟨by (with_reducible repeat (first | apply Kd.R_alloc | apply Kd.R_drewN | apply Kd.R_drew)); exact Kd.R_mono HO612.out (fun _ hk => hk.1)⟩, ⟨by (with_reducible repeat (first | apply Kd.R_alloc | apply Kd.R_drewN | apply Kd.R_drew)); exact Kd.R_mono HO615.out (fun _ hk => hk.1)⟩, ⟨by (with_reducible repeat (first | apply Kd.R_alloc | apply Kd.R_drewN | apply Kd.R_drew)); exact Kd.R_mono HO619.out (fun _ hk => hk.1)⟩, ⟨by repeat (first | (with_reducible first | exact HB.out | apply below_alloc | apply pw_below_drewN | apply below_drew1) | exact HB.out)⟩⟩
  }
  }
  {
  replace c22 := Bool.eq_false_iff.mpr c22
  subst c22
  rw [if_neg Bool.false_ne_true] at H
  have H' := A_ H
  clear H
  try go_wp2
  replace HO609 := A_ (Kd.R_drew HO609.out)
  replace HO612 := A_ (Kd.R_drew HO612.out)
  replace HO615 := A_ (Kd.R_drew HO615.out)
  replace HO619 := A_ (Kd.R_drew HO619.out)
  replace HO625 := A_ (Kd.R_drew HO625.out)
  replace HB := A_ (below_drew1 HB.out)
  obtain ⟨Ao42, co42, eo42⟩ := Kd.R_slice HO619.out
  (first | subst eo42 | (injection eo42 with f1_ f2_ f3_; have f4_ := f1_.symm; have f5_ := f3_.symm; clear f1_ f2_ f3_; subst f4_; subst f5_))
  obtain ⟨Ao43, co43, eo43⟩ := Kd.R_slice HO625.out
  (first | subst eo43 | (injection eo43 with f1_ f2_ f3_; have f4_ := f1_.symm; have f5_ := f3_.symm; clear f1_ f2_ f3_; subst f4_; subst f5_))
  refine start_ (n := 26) (S := fun w' => True) (ds := []) (bs "XXXXXXXXXXXXXXXXXXXXXXXXXX") (by kernel_rfl) rfl rfl trivial (fun hHeld => ?_); refine with_tabW laws_FnPacked.tab9 laws_FnPacked.bits9 (fun HT_ HW_ => ?_)
  generalize w18.drew = w41 at HO609 HO612 HO615 HO619 HO625 HB hHeld ⊢
  refine pu_ 0 (some 40) (bs "YXXXXXXXXXXXXXXXXXXXXXXXXX") ?_
  refine pu_ 1 (some 41) (bs "YYXXXXXXXXXXXXXXXXXXXXXXXX") ?_
  refine pu_ 2 (some 42) (bs "YYYXXXXXXXXXXXXXXXXXXXXXXX") ?_
  refine pu_ 3 (some 43) (bs "YYYYXXXXXXXXXXXXXXXXXXXXXX") ?_
  refine pu_ 4 (some 44) (bs "YYYYYXXXXXXXXXXXXXXXXXXXXX") ?_
  refine pu_ 5 (some 45) (bs "YYYYYYXXXXXXXXXXXXXXXXXXXX") ?_
  refine one_ (i := 6) (N := some 46) (bs "YYYYYYYXXXXXXXXXXXXXXXXXXX") rfl rfl (one_of HT_.out (by kernel_rfl)) (by decide) (fun K hK => ?_)
  refine goes_ Try.func64 (by kernel_rfl) rfl #[.slice Ao42 t616.length co42, .slice Ao43 t622.length co43] (by rfl) rfl rfl z16c ?_
  with_reducible refine (laws_likeEntries.calls k _ _ t616 _ _ t622 false _ ?side1 ?side2 ?side3 ?side4 A21.out).mono ?_
  (case side1 => exact (by repeat (first | exact (Kd.R_reads' HO619.out).2.2 | (with_reducible refine Kd.C_alloc ?_ _) | (with_reducible refine Kd.C_drewN ?_ _) | (with_reducible refine Kd.C_drew ?_))))
  (case side2 => exact (Kd.R_reads' HO619.out).2.1)
  (case side3 => exact (by repeat (first | exact (Kd.R_reads' HO625.out).2.2 | (with_reducible refine Kd.C_alloc ?_ _) | (with_reducible refine Kd.C_drewN ?_ _) | (with_reducible refine Kd.C_drew ?_))))
  (case side4 => exact (Kd.R_reads' HO625.out).2.1)
  rintro e w' ⟨rfl, ⟨nd, rfl⟩⟩
  refine ⟨_, rfl, ?_⟩
  refine hK.out _ _ trivial (fun hHeld => ?_)
  clear hK K
  refine norm_ (nz_ 46) ?_
  refine pu_ 7 (some 47) (bs "YYYYYYYYXXXXXXXXXXXXXXXXXX") ?_
  refine pu_ 8 (some 48) (bs "YYYYYYYYYXXXXXXXXXXXXXXXXX") ?_
  refine pu_ 9 (some 49) (bs "YYYYYYYYYYXXXXXXXXXXXXXXXX") ?_
  refine pure_ (i := 10) (N := some 50) (v := undef) (a' := ?_) (bs "YYYYYYYYYYYXXXXXXXXXXXXXXX") rfl rfl (any_of HT_.out (by kernel_rfl)) (fun _ _ _ h => h) (Or.inr ⟨by rfl, rfl⟩) ?_ ?_
  rotate_left
  exact z16a
  refine pure_ (i := 11) (N := some 51) (v := undef) (a' := ?_) (bs "YYYYYYYYYYYYXXXXXXXXXXXXXX") rfl rfl (any_of HT_.out (by kernel_rfl)) (fun _ _ _ h => h) (Or.inr ⟨by rfl, rfl⟩) ?_ ?_
  rotate_left
  exact z16a
  refine pure_ (i := 12) (N := some 52) (v := undef) (a' := ?_) (bs "YYYYYYYYYYYYYXXXXXXXXXXXXX") rfl rfl (any_of HT_.out (by kernel_rfl)) (fun _ _ _ h => h) (Or.inr ⟨by rfl, rfl⟩) ?_ ?_
  rotate_left
  exact z16a
  refine pure_ (i := 13) (N := some 53) (v := undef) (a' := ?_) (bs "YYYYYYYYYYYYYYXXXXXXXXXXXX") rfl rfl (any_of HT_.out (by kernel_rfl)) (fun _ _ _ h => h) (Or.inr ⟨by rfl, rfl⟩) ?_ ?_
  rotate_left
  exact z16a
  refine pure_ (i := 14) (N := some 54) (v := undef) (a' := ?_) (bs "YYYYYYYYYYYYYYYXXXXXXXXXXX") rfl rfl (any_of HT_.out (by kernel_rfl)) (fun _ _ _ h => h) (Or.inr ⟨by rfl, rfl⟩) ?_ ?_
  rotate_left
  exact z16a
  refine pure_ (i := 15) (N := some 55) (v := undef) (a' := ?_) (bs "YYYYYYYYYYYYYYYYXXXXXXXXXX") rfl rfl (any_of HT_.out (by kernel_rfl)) (fun _ _ _ h => h) (Or.inr ⟨by rfl, rfl⟩) ?_ ?_
  rotate_left
  exact z16a
  refine pu_ 16 (some 56) (bs "YYYYYYYYYYYYYYYYYXXXXXXXXX") ?_
  refine pu_ 17 (some 57) (bs "YYYYYYYYYYYYYYYYYYXXXXXXXX") ?_
  refine pure_ (i := 18) (N := some 58) (v := undef) (a' := ?_) (bs "YYYYYYYYYYYYYYYYYYYXXXXXXX") rfl rfl (any_of HT_.out (by kernel_rfl)) (fun _ _ _ h => h) (Or.inr ⟨by rfl, rfl⟩) ?_ ?_
  rotate_left
  exact z16a
  refine pure_ (i := 19) (N := some 59) (v := undef) (a' := ?_) (bs "YYYYYYYYYYYYYYYYYYYYXXXXXX") rfl rfl (any_of HT_.out (by kernel_rfl)) (fun _ _ _ h => h) (Or.inr ⟨by rfl, rfl⟩) ?_ ?_
  rotate_left
  exact z16a
  refine pure_ (i := 20) (N := some 60) (v := undef) (a' := ?_) (bs "YYYYYYYYYYYYYYYYYYYYYXXXXX") rfl rfl (any_of HT_.out (by kernel_rfl)) (fun _ _ _ h => h) (Or.inr ⟨by rfl, rfl⟩) ?_ ?_
  rotate_left
  exact z16a
  refine pure_ (i := 21) (N := some 61) (v := undef) (a' := ?_) (bs "YYYYYYYYYYYYYYYYYYYYYYXXXX") rfl rfl (any_of HT_.out (by kernel_rfl)) (fun _ _ _ h => h) (Or.inr ⟨by rfl, rfl⟩) ?_ ?_
  rotate_left
  exact z16a
  refine pure_ (i := 22) (N := some 62) (v := undef) (a' := ?_) (bs "YYYYYYYYYYYYYYYYYYYYYYYXXX") rfl rfl (any_of HT_.out (by kernel_rfl)) (fun _ _ _ h => h) (Or.inr ⟨by rfl, rfl⟩) ?_ ?_
  rotate_left
  exact z16a
  refine pure_ (i := 23) (N := some 63) (v := undef) (a' := ?_) (bs "YYYYYYYYYYYYYYYYYYYYYYYYXX") rfl rfl (any_of HT_.out (by kernel_rfl)) (fun _ _ _ h => h) (Or.inr ⟨by rfl, rfl⟩) ?_ ?_
  rotate_left
  exact z16a
  refine pure_ (i := 24) (N := some 64) (v := undef) (a' := ?_) (bs "YYYYYYYYYYYYYYYYYYYYYYYYYX") rfl rfl (any_of HT_.out (by kernel_rfl)) (fun _ _ _ h => h) (Or.inr ⟨by rfl, rfl⟩) ?_ ?_
  rotate_left
  exact z16a
  refine pu_ 25 (some 65) (bs "YYYYYYYYYYYYYYYYYYYYYYYYYY") ?_
  refine done_ (done_of HT_.out (by kernel_rfl)) ?_
  try go_wp2
  go_meet
  case rel => exact ⟨_, (true), (by first | rfl | (simp; done) | (simp [*]; done)), H', ⟨by first | omega | exact Nat.le_refl _⟩, ⟨by (with_reducible repeat (first | apply Kd.R_alloc | apply Kd.R_drewN | apply Kd.R_drew)); exact Kd.R_mono HO609.out (fun _ hk => hk.1.2)⟩, ⟨by (with_reducible repeat (first | apply Kd.R_alloc | apply Kd.R_drewN | apply Kd.R_drew)); exact Kd.R_mono HO612.out (fun _ hk => hk.2)⟩, ⟨by (with_reducible repeat (first | apply Kd.R_alloc | apply Kd.R_drewN | apply Kd.R_drew)); exact Kd.R_mono HO615.out (fun _ hk => hk.2)⟩, ⟨by (with_reducible repeat (first | apply Kd.R_alloc | apply Kd.R_drewN | apply Kd.R_drew)); exact Kd.R_mono HO619.out (fun _ hk => hk.1.2)⟩, ⟨by repeat (first | (with_reducible first | exact HB.out | apply below_alloc | apply pw_below_drewN | apply below_drew1) | exact HB.out)⟩⟩
  }
  }
 case rest =>
  clear HC10
  try clear c2
  try clear p2
  try clear hcv3
  try clear c4
  try clear c6
  try clear c22
  try clear hcv37
  try clear hcv38
  try clear hcv39
  obtain ⟨kq, x65_9, rfl, HA, HJ9, HO_3, HO_4, HO_5, HO_6, HB⟩ := hcut
  cases kq with
  | zero => exact absurd HA.out (by simp [laws_FnPacked.j0])
  | succ kj9 =>
   have H := HA.out
   clear HA
   simp only [laws_FnPacked.j0] at H
   by_cases c44 : x65_9 = true
   {
   subst c44
   rw [if_pos rfl] at H
   obtain rfl := Option.some.inj H
   go_wp2
   go_ret
   exact ⟨by first | rfl | (simp [errW_none, errW_some] <;> rfl) | (simp [*, errW_none, errW_some] <;> rfl), by repeat (first | (with_reducible first | exact HB.out | apply below_alloc | apply pw_below_drewN | apply below_drew1) | exact HB.out)⟩
   }
   {
   replace c44 := Bool.eq_false_iff.mpr c44
   subst c44
   rw [if_neg Bool.false_ne_true] at H
   replace H := Option.bind_eq_some_iff.mp H
   obtain ⟨t632, A450, H⟩ := H
   (try dsimp only at H)
   have A45 := A_ A450
   clear A450
   have HC46 := A_ H
   clear H
   go_upto_region 12 with (first | ((with_reducible refine gate_callee (f := 68) rfl ?_); refine goesL_ (some 68) rfl rfl Try.func68 (by kernel_rfl) rfl #[.string t620, .string t621] rfl z16c ?_; (with_reducible refine (impl_Common.calls kj9 t620 t621 t632 _ A45.out).mono ?_); rintro e w' ⟨rfl, ⟨nd, rfl⟩⟩; refine ⟨_, rfl, ?_⟩))
   (try simp only [Act.put, List.setIfInBounds_toArray, List.set_cons_zero, List.set_cons_succ])
   (try (rw [drewN_self wc]; generalize hq_ : World.drewN wc _ = wc; have n0_ := A_ (Kd.R_drewN HO_3.out nd); have n1_ := A_ (Kd.R_drewN HO_4.out nd); have n2_ := A_ (Kd.R_drewN HO_5.out nd); have n3_ := A_ (Kd.R_drewN HO_6.out nd); have n4_ := A_ (pw_below_drewN HB.out nd); rw [hq_] at n0_; rw [hq_] at n1_; rw [hq_] at n2_; rw [hq_] at n3_; rw [hq_] at n4_; clear hq_ HO_3 HO_4 HO_5 HO_6 HB; have HO_3 := n0_; have HO_4 := n1_; have HO_5 := n2_; have HO_6 := n3_; have HB := n4_; clear n0_ n1_ n2_ n3_ n4_))
   go_cut [96] (fun v96 wc => ∃ (kq : Nat) (x96_45 : Bool), v96 = .bool x96_45 ∧ Aside0 (laws_FnPacked.j1 kq l0 t607 t610 t613 t616 t617 x96_45 = some r) ∧ Aside0 (kq ≤ kj9) ∧ Aside0 (Kd.R k49 49 wc w.heap.size (fun k_ => some k_ ≠ (v618 : Value).ownBlock) (.slice Ao12 t607.length co12) t607) ∧ Aside0 (Kd.R (Kd.int .u8) 5 wc w.heap.size (fun k_ => some k_ ≠ ((.slice Ao15 t613.length co15) : Value).ownBlock) v611 t610) ∧ Aside0 (Kd.R (Kd.int .u8) 5 wc w.heap.size (fun k_ => some k_ ≠ (v611 : Value).ownBlock) (.slice Ao15 t613.length co15) t613) ∧ Aside0 (Kd.R k49 49 wc w.heap.size (fun k_ => some k_ ≠ ((.slice Ao12 t607.length co12) : Value).ownBlock) v618 t616) ∧ Aside0 (Below w.heap.size w wc))
   case first =>
    have H := HC46.out
    clear HC46
    by_cases c47 : 0 ≤ t632
    {
    rw [if_pos c47] at H
    have c47b0 := eq_true c47
    have c47b1 : decide (0 ≤ t632) = true := decide_eq_true c47
    clear c47
    by_cases c48 : t632 ≤ (t620.size : Int)
    {
    rw [if_pos c48] at H
    have c48b0 := eq_true c48
    have c48b1 : decide (t632 ≤ (t620.size : Int)) = true := decide_eq_true c48
    clear c48
    have c49b0 := eq_true (of_decide_eq_true z16p : 0 ≤ t632)
    by_cases c50 : t632 ≤ (t621.size : Int)
    {
    rw [if_pos c50] at H
    have c50b0 := eq_true c50
    have c50b1 : decide (t632 ≤ (t621.size : Int)) = true := decide_eq_true c50
    clear c50
    by_cases c51 : (t620.extract 0 (t632 : Int).toNat).toList = (t621.extract 0 (t632 : Int).toNat).toList
    {
    rw [if_pos c51] at H
    have c51b0 : ((t620.extract 0 (t632 : Int).toNat).toList == (t621.extract 0 (t632 : Int).toNat).toList) = true := beq_iff_eq.mpr c51
    have c51b1 : ((t620.extract 0 (t632 : Int).toNat).toList != (t621.extract 0 (t632 : Int).toNat).toList) = false := bne_eq_false_iff_eq.mpr c51
    clear c51
    (first | rw [c51b0] | (simp only [i64_w, i32_w]; rw [c51b0]) | skip)
    by_cases c52 : t632 < (t620.size : Int)
    {
    rw [if_pos c52] at H
    have c52b0 : decide (t632 < (t620.size : Int)) = true := decide_eq_true c52
    clear c52
    by_cases c53 : t632 < (t621.size : Int)
    {
    rw [if_pos c53] at H
    have c53b0 : decide (t632 < (t621.size : Int)) = true := decide_eq_true c53
    clear c53
    have H' := A_ H
    clear H
    try go_wp2
    replace HO_3 := A_ (Kd.R_drew HO_3.out)
    replace HO_4 := A_ (Kd.R_drew HO_4.out)
    replace HO_5 := A_ (Kd.R_drew HO_5.out)
    replace HO_6 := A_ (Kd.R_drew HO_6.out)
    replace HB := A_ (below_drew1 HB.out)
    have p54 : 0 ≤ (t632 : Int) := of_decide_eq_true z16p
    have q54 : t632 < (t620.size : Int) := of_decide_eq_true z16p
    have hx54 := bt_at t620 t632
    replace p54 := eq_true p54
    replace q54 := eq_true q54
    have p55 : 0 ≤ (t632 : Int) := of_decide_eq_true z16p
    have q55 : t632 < (t621.size : Int) := of_decide_eq_true z16p
    have hx55 := bt_at t621 t632
    replace p55 := eq_true p55
    replace q55 := eq_true q55
    refine start_ (n := 28) (S := fun w' => True) (ds := []) (bs "XXXXXXXXXXXXXXXXXXXXXXXXXXXX") (by kernel_rfl) rfl rfl trivial (fun hHeld => ?_); refine with_tabW laws_FnPacked.tab12 laws_FnPacked.bits12 (fun HT_ HW_ => ?_)
    generalize wc.drew = w56 at HO_3 HO_4 HO_5 HO_6 HB hHeld ⊢
    refine pu_ 0 (some 69) (bs "YXXXXXXXXXXXXXXXXXXXXXXXXXXX") ?_
    refine pu_ 1 (some 70) (bs "YYXXXXXXXXXXXXXXXXXXXXXXXXXX") ?_
    refine pu_ 2 (some 71) (bs "YYYXXXXXXXXXXXXXXXXXXXXXXXXX") ?_
    refine pu_ 3 (some 72) (bs "YYYYXXXXXXXXXXXXXXXXXXXXXXXX") ?_
    refine pu_ 4 (some 73) (bs "YYYYYXXXXXXXXXXXXXXXXXXXXXXX") ?_
    refine pu_ 5 (some 74) (bs "YYYYYYXXXXXXXXXXXXXXXXXXXXXX") ?_
    refine pu_ 6 (some 75) (bs "YYYYYYYXXXXXXXXXXXXXXXXXXXXX") ?_
    refine pu_ 7 (some 76) (bs "YYYYYYYYXXXXXXXXXXXXXXXXXXXX") ?_
    refine pu_ 8 (some 77) (bs "YYYYYYYYYXXXXXXXXXXXXXXXXXXX") ?_
    refine pu_ 9 (some 78) (bs "YYYYYYYYYYXXXXXXXXXXXXXXXXXX") ?_
    refine pu_ 10 (some 79) (bs "YYYYYYYYYYYXXXXXXXXXXXXXXXXX") ?_
    refine pu_ 11 (some 80) (bs "YYYYYYYYYYYYXXXXXXXXXXXXXXXX") ?_
    refine pu_ 12 (some 81) (bs "YYYYYYYYYYYYYXXXXXXXXXXXXXXX") ?_
    refine pu_ 13 (some 82) (bs "YYYYYYYYYYYYYYXXXXXXXXXXXXXX") ?_
    refine pu_ 14 (some 83) (bs "YYYYYYYYYYYYYYYXXXXXXXXXXXXX") ?_
    refine pu_ 15 (some 84) (bs "YYYYYYYYYYYYYYYYXXXXXXXXXXXX") ?_
    refine pu_ 16 (some 85) (bs "YYYYYYYYYYYYYYYYYXXXXXXXXXXX") ?_
    refine pu_ 17 (some 86) (bs "YYYYYYYYYYYYYYYYYYXXXXXXXXXX") ?_
    refine pu_ 18 (some 87) (bs "YYYYYYYYYYYYYYYYYYYXXXXXXXXX") ?_
    refine pu_ 19 (some 88) (bs "YYYYYYYYYYYYYYYYYYYYXXXXXXXX") ?_
    refine pu_ 20 (some 89) (bs "YYYYYYYYYYYYYYYYYYYYYXXXXXXX") ?_
    refine pu_ 22 (some 91) (bs "YYYYYYYYYYYYYYYYYYYYYXYXXXXX") ?_
    refine pu_ 23 (some 92) (bs "YYYYYYYYYYYYYYYYYYYYYXYYXXXX") ?_
    refine take_ (i := 21) (N := some 90) (v := _) (a' := _) (bs "YYYYYYYYYYYYYYYYYYYYYYYYXXXX") rfl rfl (take_ofW HT_.out HW_.out (by kernel_rfl)) (fun _ _ _ h => h) (Or.inl ⟨by rfl, (by intro w' _; go_simp; with_reducible rfl)⟩) hHeld z16a ?_
    refine take_ (i := 24) (N := some 93) (v := _) (a' := _) (bs "YYYYYYYYYYYYYYYYYYYYYYYYYXXX") rfl rfl (take_ofW HT_.out HW_.out (by kernel_rfl)) (fun _ _ _ h => h) (Or.inl ⟨by rfl, (by intro w' _; go_simp; with_reducible rfl)⟩) hHeld z16a ?_
    refine pu_ 25 (some 94) (bs "YYYYYYYYYYYYYYYYYYYYYYYYYYXX") ?_
    refine pu_ 26 (some 95) (bs "YYYYYYYYYYYYYYYYYYYYYYYYYYYX") ?_
    refine pu_ 27 (some 96) (bs "YYYYYYYYYYYYYYYYYYYYYYYYYYYY") ?_
    refine done_ (done_of HT_.out (by kernel_rfl)) ?_
    try go_wp2
    go_meet
    case rel => exact ⟨_, (((bt t620 t632) == (bt t621 t632))), (by first | rfl | (simp; done) | (simp [*]; done)), H', ⟨by have := HJ9.out; first | omega | exact Nat.le_refl _⟩, ⟨by (with_reducible repeat (first | apply Kd.R_alloc | apply Kd.R_drewN | apply Kd.R_drew)); exact HO_3.out⟩, ⟨by (with_reducible repeat (first | apply Kd.R_alloc | apply Kd.R_drewN | apply Kd.R_drew)); exact HO_4.out⟩, ⟨by (with_reducible repeat (first | apply Kd.R_alloc | apply Kd.R_drewN | apply Kd.R_drew)); exact HO_5.out⟩, ⟨by (with_reducible repeat (first | apply Kd.R_alloc | apply Kd.R_drewN | apply Kd.R_drew)); exact HO_6.out⟩, ⟨by repeat (first | (with_reducible first | exact HB.out | apply below_alloc | apply pw_below_drewN | apply below_drew1) | exact HB.out)⟩⟩
    }
    {
    rw [if_neg c53] at H
    have c53b0 : decide (t632 < (t621.size : Int)) = false := decide_eq_false c53
    clear c53
    have H' := A_ H
    clear H
    try go_wp2
    replace HO_3 := A_ (Kd.R_drew HO_3.out)
    replace HO_4 := A_ (Kd.R_drew HO_4.out)
    replace HO_5 := A_ (Kd.R_drew HO_5.out)
    replace HO_6 := A_ (Kd.R_drew HO_6.out)
    replace HB := A_ (below_drew1 HB.out)
    refine start_ (n := 28) (S := fun w' => True) (ds := []) (bs "XXXXXXXXXXXXXXXXXXXXXXXXXXXX") (by kernel_rfl) rfl rfl trivial (fun hHeld => ?_); refine with_tabW laws_FnPacked.tab12 laws_FnPacked.bits12 (fun HT_ HW_ => ?_)
    generalize wc.drew = w57 at HO_3 HO_4 HO_5 HO_6 HB hHeld ⊢
    refine pu_ 0 (some 69) (bs "YXXXXXXXXXXXXXXXXXXXXXXXXXXX") ?_
    refine pu_ 1 (some 70) (bs "YYXXXXXXXXXXXXXXXXXXXXXXXXXX") ?_
    refine pu_ 2 (some 71) (bs "YYYXXXXXXXXXXXXXXXXXXXXXXXXX") ?_
    refine pu_ 3 (some 72) (bs "YYYYXXXXXXXXXXXXXXXXXXXXXXXX") ?_
    refine pu_ 4 (some 73) (bs "YYYYYXXXXXXXXXXXXXXXXXXXXXXX") ?_
    refine pu_ 5 (some 74) (bs "YYYYYYXXXXXXXXXXXXXXXXXXXXXX") ?_
    refine pu_ 6 (some 75) (bs "YYYYYYYXXXXXXXXXXXXXXXXXXXXX") ?_
    refine pu_ 7 (some 76) (bs "YYYYYYYYXXXXXXXXXXXXXXXXXXXX") ?_
    refine pu_ 8 (some 77) (bs "YYYYYYYYYXXXXXXXXXXXXXXXXXXX") ?_
    refine pu_ 9 (some 78) (bs "YYYYYYYYYYXXXXXXXXXXXXXXXXXX") ?_
    refine pu_ 10 (some 79) (bs "YYYYYYYYYYYXXXXXXXXXXXXXXXXX") ?_
    refine pu_ 11 (some 80) (bs "YYYYYYYYYYYYXXXXXXXXXXXXXXXX") ?_
    refine pu_ 12 (some 81) (bs "YYYYYYYYYYYYYXXXXXXXXXXXXXXX") ?_
    refine pu_ 13 (some 82) (bs "YYYYYYYYYYYYYYXXXXXXXXXXXXXX") ?_
    refine pu_ 14 (some 83) (bs "YYYYYYYYYYYYYYYXXXXXXXXXXXXX") ?_
    refine pu_ 15 (some 84) (bs "YYYYYYYYYYYYYYYYXXXXXXXXXXXX") ?_
    refine pu_ 16 (some 85) (bs "YYYYYYYYYYYYYYYYYXXXXXXXXXXX") ?_
    refine pu_ 17 (some 86) (bs "YYYYYYYYYYYYYYYYYYXXXXXXXXXX") ?_
    refine pu_ 18 (some 87) (bs "YYYYYYYYYYYYYYYYYYYXXXXXXXXX") ?_
    refine pure_ (i := 19) (N := some 88) (v := undef) (a' := ?_) (bs "YYYYYYYYYYYYYYYYYYYYXXXXXXXX") rfl rfl (any_of HT_.out (by kernel_rfl)) (fun _ _ _ h => h) (Or.inr ⟨by rfl, rfl⟩) ?_ ?_
    rotate_left
    exact z16a
    refine pure_ (i := 20) (N := some 89) (v := undef) (a' := ?_) (bs "YYYYYYYYYYYYYYYYYYYYYXXXXXXX") rfl rfl (any_of HT_.out (by kernel_rfl)) (fun _ _ _ h => h) (Or.inr ⟨by rfl, rfl⟩) ?_ ?_
    rotate_left
    exact z16a
    refine pure_ (i := 21) (N := some 90) (v := undef) (a' := ?_) (bs "YYYYYYYYYYYYYYYYYYYYYYXXXXXX") rfl rfl (any_of HT_.out (by kernel_rfl)) (fun _ _ _ h => h) (Or.inr ⟨by rfl, rfl⟩) ?_ ?_
    rotate_left
    exact z16a
    refine pure_ (i := 22) (N := some 91) (v := undef) (a' := ?_) (bs "YYYYYYYYYYYYYYYYYYYYYYYXXXXX") rfl rfl (any_of HT_.out (by kernel_rfl)) (fun _ _ _ h => h) (Or.inr ⟨by rfl, rfl⟩) ?_ ?_
    rotate_left
    exact z16a
    refine pure_ (i := 23) (N := some 92) (v := undef) (a' := ?_) (bs "YYYYYYYYYYYYYYYYYYYYYYYYXXXX") rfl rfl (any_of HT_.out (by kernel_rfl)) (fun _ _ _ h => h) (Or.inr ⟨by rfl, rfl⟩) ?_ ?_
    rotate_left
    exact z16a
    refine pure_ (i := 24) (N := some 93) (v := undef) (a' := ?_) (bs "YYYYYYYYYYYYYYYYYYYYYYYYYXXX") rfl rfl (any_of HT_.out (by kernel_rfl)) (fun _ _ _ h => h) (Or.inr ⟨by rfl, rfl⟩) ?_ ?_
    rotate_left
    exact z16a
    refine pure_ (i := 25) (N := some 94) (v := undef) (a' := ?_) (bs "YYYYYYYYYYYYYYYYYYYYYYYYYYXX") rfl rfl (any_of HT_.out (by kernel_rfl)) (fun _ _ _ h => h) (Or.inr ⟨by rfl, rfl⟩) ?_ ?_
    rotate_left
    exact z16a
    refine pu_ 26 (some 95) (bs "YYYYYYYYYYYYYYYYYYYYYYYYYYYX") ?_
    refine pu_ 27 (some 96) (bs "YYYYYYYYYYYYYYYYYYYYYYYYYYYY") ?_
    refine done_ (done_of HT_.out (by kernel_rfl)) ?_
    try go_wp2
    go_meet
    case rel => exact ⟨_, (false), (by first | rfl | (simp; done) | (simp [*]; done)), H', ⟨by have := HJ9.out; first | omega | exact Nat.le_refl _⟩, ⟨by (with_reducible repeat (first | apply Kd.R_alloc | apply Kd.R_drewN | apply Kd.R_drew)); exact HO_3.out⟩, ⟨by (with_reducible repeat (first | apply Kd.R_alloc | apply Kd.R_drewN | apply Kd.R_drew)); exact HO_4.out⟩, ⟨by (with_reducible repeat (first | apply Kd.R_alloc | apply Kd.R_drewN | apply Kd.R_drew)); exact HO_5.out⟩, ⟨by (with_reducible repeat (first | apply Kd.R_alloc | apply Kd.R_drewN | apply Kd.R_drew)); exact HO_6.out⟩, ⟨by repeat (first | (with_reducible first | exact HB.out | apply below_alloc | apply pw_below_drewN | apply below_drew1) | exact HB.out)⟩⟩
    }
    }
    {
    rw [if_neg c52] at H
    have c52b0 : decide (t632 < (t620.size : Int)) = false := decide_eq_false c52
    clear c52
    have H' := A_ H
    clear H
    try go_wp2
    replace HO_3 := A_ (Kd.R_drew HO_3.out)
    replace HO_4 := A_ (Kd.R_drew HO_4.out)
    replace HO_5 := A_ (Kd.R_drew HO_5.out)
    replace HO_6 := A_ (Kd.R_drew HO_6.out)
    replace HB := A_ (below_drew1 HB.out)
    refine start_ (n := 28) (S := fun w' => True) (ds := []) (bs "XXXXXXXXXXXXXXXXXXXXXXXXXXXX") (by kernel_rfl) rfl rfl trivial (fun hHeld => ?_); refine with_tabW laws_FnPacked.tab12 laws_FnPacked.bits12 (fun HT_ HW_ => ?_)
    generalize wc.drew = w58 at HO_3 HO_4 HO_5 HO_6 HB hHeld ⊢
    refine pu_ 0 (some 69) (bs "YXXXXXXXXXXXXXXXXXXXXXXXXXXX") ?_
    refine pu_ 1 (some 70) (bs "YYXXXXXXXXXXXXXXXXXXXXXXXXXX") ?_
    refine pu_ 2 (some 71) (bs "YYYXXXXXXXXXXXXXXXXXXXXXXXXX") ?_
    refine pu_ 3 (some 72) (bs "YYYYXXXXXXXXXXXXXXXXXXXXXXXX") ?_
    refine pu_ 4 (some 73) (bs "YYYYYXXXXXXXXXXXXXXXXXXXXXXX") ?_
    refine pu_ 5 (some 74) (bs "YYYYYYXXXXXXXXXXXXXXXXXXXXXX") ?_
    refine pu_ 6 (some 75) (bs "YYYYYYYXXXXXXXXXXXXXXXXXXXXX") ?_
    refine pu_ 7 (some 76) (bs "YYYYYYYYXXXXXXXXXXXXXXXXXXXX") ?_
    refine pu_ 8 (some 77) (bs "YYYYYYYYYXXXXXXXXXXXXXXXXXXX") ?_
    refine pu_ 9 (some 78) (bs "YYYYYYYYYYXXXXXXXXXXXXXXXXXX") ?_
    refine pu_ 10 (some 79) (bs "YYYYYYYYYYYXXXXXXXXXXXXXXXXX") ?_
    refine pu_ 11 (some 80) (bs "YYYYYYYYYYYYXXXXXXXXXXXXXXXX") ?_
    refine pu_ 12 (some 81) (bs "YYYYYYYYYYYYYXXXXXXXXXXXXXXX") ?_
    refine pure_ (i := 13) (N := some 82) (v := undef) (a' := ?_) (bs "YYYYYYYYYYYYYYXXXXXXXXXXXXXX") rfl rfl (any_of HT_.out (by kernel_rfl)) (fun _ _ _ h => h) (Or.inr ⟨by rfl, rfl⟩) ?_ ?_
    rotate_left
    exact z16a
    refine pure_ (i := 14) (N := some 83) (v := undef) (a' := ?_) (bs "YYYYYYYYYYYYYYYXXXXXXXXXXXXX") rfl rfl (any_of HT_.out (by kernel_rfl)) (fun _ _ _ h => h) (Or.inr ⟨by rfl, rfl⟩) ?_ ?_
    rotate_left
    exact z16a
    refine pure_ (i := 15) (N := some 84) (v := undef) (a' := ?_) (bs "YYYYYYYYYYYYYYYYXXXXXXXXXXXX") rfl rfl (any_of HT_.out (by kernel_rfl)) (fun _ _ _ h => h) (Or.inr ⟨by rfl, rfl⟩) ?_ ?_
    rotate_left
    exact z16a
    refine pure_ (i := 16) (N := some 85) (v := undef) (a' := ?_) (bs "YYYYYYYYYYYYYYYYYXXXXXXXXXXX") rfl rfl (any_of HT_.out (by kernel_rfl)) (fun _ _ _ h => h) (Or.inr ⟨by rfl, rfl⟩) ?_ ?_
    rotate_left
    exact z16a
    refine pu_ 17 (some 86) (bs "YYYYYYYYYYYYYYYYYYXXXXXXXXXX") ?_
    refine pu_ 18 (some 87) (bs "YYYYYYYYYYYYYYYYYYYXXXXXXXXX") ?_
    refine pure_ (i := 19) (N := some 88) (v := undef) (a' := ?_) (bs "YYYYYYYYYYYYYYYYYYYYXXXXXXXX") rfl rfl (any_of HT_.out (by kernel_rfl)) (fun _ _ _ h => h) (Or.inr ⟨by rfl, rfl⟩) ?_ ?_
    rotate_left
    exact z16a
    refine pure_ (i := 20) (N := some 89) (v := undef) (a' := ?_) (bs "YYYYYYYYYYYYYYYYYYYYYXXXXXXX") rfl rfl (any_of HT_.out (by kernel_rfl)) (fun _ _ _ h => h) (Or.inr ⟨by rfl, rfl⟩) ?_ ?_
    rotate_left
    exact z16a
    refine pure_ (i := 21) (N := some 90) (v := undef) (a' := ?_) (bs "YYYYYYYYYYYYYYYYYYYYYYXXXXXX") rfl rfl (any_of HT_.out (by kernel_rfl)) (fun _ _ _ h => h) (Or.inr ⟨by rfl, rfl⟩) ?_ ?_
    rotate_left
    exact z16a
    refine pure_ (i := 22) (N := some 91) (v := undef) (a' := ?_) (bs "YYYYYYYYYYYYYYYYYYYYYYYXXXXX") rfl rfl (any_of HT_.out (by kernel_rfl)) (fun _ _ _ h => h) (Or.inr ⟨by rfl, rfl⟩) ?_ ?_
    rotate_left
    exact z16a
    refine pure_ (i := 23) (N := some 92) (v := undef) (a' := ?_) (bs "YYYYYYYYYYYYYYYYYYYYYYYYXXXX") rfl rfl (any_of HT_.out (by kernel_rfl)) (fun _ _ _ h => h) (Or.inr ⟨by rfl, rfl⟩) ?_ ?_
    rotate_left
    exact z16a
    refine pure_ (i := 24) (N := some 93) (v := undef) (a' := ?_) (bs "YYYYYYYYYYYYYYYYYYYYYYYYYXXX") rfl rfl (any_of HT_.out (by kernel_rfl)) (fun _ _ _ h => h) (Or.inr ⟨by rfl, rfl⟩) ?_ ?_
    rotate_left
    exact z16a
    refine pure_ (i := 25) (N := some 94) (v := undef) (a' := ?_) (bs "YYYYYYYYYYYYYYYYYYYYYYYYYYXX") rfl rfl (any_of HT_.out (by kernel_rfl)) (fun _ _ _ h => h) (Or.inr ⟨by rfl, rfl⟩) ?_ ?_
    rotate_left
    exact z16a
    refine pu_ 26 (some 95) (bs "YYYYYYYYYYYYYYYYYYYYYYYYYYYX") ?_
    refine pu_ 27 (some 96) (bs "YYYYYYYYYYYYYYYYYYYYYYYYYYYY") ?_
    refine done_ (done_of HT_.out (by kernel_rfl)) ?_
    try go_wp2
    go_meet
    case rel => exact ⟨_, (false), (by first | rfl | (simp; done) | (simp [*]; done)), H', ⟨by have := HJ9.out; first | omega | exact Nat.le_refl _⟩, ⟨by (with_reducible repeat (first | apply Kd.R_alloc | apply Kd.R_drewN | apply Kd.R_drew)); exact HO_3.out⟩, ⟨by (with_reducible repeat (first | apply Kd.R_alloc | apply Kd.R_drewN | apply Kd.R_drew)); exact HO_4.out⟩, ⟨by (with_reducible repeat (first | apply Kd.R_alloc | apply Kd.R_drewN | apply Kd.R_drew)); exact HO_5.out⟩, ⟨by (with_reducible repeat (first | apply Kd.R_alloc | apply Kd.R_drewN | apply Kd.R_drew)); exact HO_6.out⟩, ⟨by repeat (first | (with_reducible first | exact HB.out | apply below_alloc | apply pw_below_drewN | apply below_drew1) | exact HB.out)⟩⟩
    }
    }
    {
    rw [if_neg c51] at H
    have c51b0 : ((t620.extract 0 (t632 : Int).toNat).toList == (t621.extract 0 (t632 : Int).toNat).toList) = false := beq_eq_false_iff_ne.mpr c51
    have c51b1 : ((t620.extract 0 (t632 : Int).toNat).toList != (t621.extract 0 (t632 : Int).toNat).toList) = true := bne_iff_ne.mpr c51
    (first | rw [c51b0] | (simp only [i64_w, i32_w]; rw [c51b0]) | skip)
    have H' := A_ H
    clear H
    try go_wp2
    replace HO_3 := A_ (Kd.R_drew HO_3.out)
    replace HO_4 := A_ (Kd.R_drew HO_4.out)
    replace HO_5 := A_ (Kd.R_drew HO_5.out)
    replace HO_6 := A_ (Kd.R_drew HO_6.out)
    replace HB := A_ (below_drew1 HB.out)
    refine start_ (n := 28) (S := fun w' => True) (ds := []) (bs "XXXXXXXXXXXXXXXXXXXXXXXXXXXX") (by kernel_rfl) rfl rfl trivial (fun hHeld => ?_); refine with_tabW laws_FnPacked.tab12 laws_FnPacked.bits12 (fun HT_ HW_ => ?_)
    generalize wc.drew = w59 at HO_3 HO_4 HO_5 HO_6 HB hHeld ⊢
    refine pu_ 0 (some 69) (bs "YXXXXXXXXXXXXXXXXXXXXXXXXXXX") ?_
    refine pu_ 1 (some 70) (bs "YYXXXXXXXXXXXXXXXXXXXXXXXXXX") ?_
    refine pu_ 2 (some 71) (bs "YYYXXXXXXXXXXXXXXXXXXXXXXXXX") ?_
    refine pu_ 3 (some 72) (bs "YYYYXXXXXXXXXXXXXXXXXXXXXXXX") ?_
    refine pu_ 4 (some 73) (bs "YYYYYXXXXXXXXXXXXXXXXXXXXXXX") ?_
    refine pu_ 5 (some 74) (bs "YYYYYYXXXXXXXXXXXXXXXXXXXXXX") ?_
    refine pu_ 6 (some 75) (bs "YYYYYYYXXXXXXXXXXXXXXXXXXXXX") ?_
    refine pu_ 7 (some 76) (bs "YYYYYYYYXXXXXXXXXXXXXXXXXXXX") ?_
    refine pure_ (i := 8) (N := some 77) (v := undef) (a' := ?_) (bs "YYYYYYYYYXXXXXXXXXXXXXXXXXXX") rfl rfl (any_of HT_.out (by kernel_rfl)) (fun _ _ _ h => h) (Or.inr ⟨by rfl, rfl⟩) ?_ ?_
    rotate_left
    exact z16a
    refine pure_ (i := 9) (N := some 78) (v := undef) (a' := ?_) (bs "YYYYYYYYYYXXXXXXXXXXXXXXXXXX") rfl rfl (any_of HT_.out (by kernel_rfl)) (fun _ _ _ h => h) (Or.inr ⟨by rfl, rfl⟩) ?_ ?_
    rotate_left
    exact z16a
    refine pure_ (i := 10) (N := some 79) (v := undef) (a' := ?_) (bs "YYYYYYYYYYYXXXXXXXXXXXXXXXXX") rfl rfl (any_of HT_.out (by kernel_rfl)) (fun _ _ _ h => h) (Or.inr ⟨by rfl, rfl⟩) ?_ ?_
    rotate_left
    exact z16a
    refine pure_ (i := 11) (N := some 80) (v := undef) (a' := ?_) (bs "YYYYYYYYYYYYXXXXXXXXXXXXXXXX") rfl rfl (any_of HT_.out (by kernel_rfl)) (fun _ _ _ h => h) (Or.inr ⟨by rfl, rfl⟩) ?_ ?_
    rotate_left
    exact z16a
    refine pure_ (i := 12) (N := some 81) (v := undef) (a' := ?_) (bs "YYYYYYYYYYYYYXXXXXXXXXXXXXXX") rfl rfl (any_of HT_.out (by kernel_rfl)) (fun _ _ _ h => h) (Or.inr ⟨by rfl, rfl⟩) ?_ ?_
    rotate_left
    exact z16a
    refine pure_ (i := 13) (N := some 82) (v := undef) (a' := ?_) (bs "YYYYYYYYYYYYYYXXXXXXXXXXXXXX") rfl rfl (any_of HT_.out (by kernel_rfl)) (fun _ _ _ h => h) (Or.inr ⟨by rfl, rfl⟩) ?_ ?_
    rotate_left
    exact z16a
    refine pure_ (i := 14) (N := some 83) (v := undef) (a' := ?_) (bs "YYYYYYYYYYYYYYYXXXXXXXXXXXXX") rfl rfl (any_of HT_.out (by kernel_rfl)) (fun _ _ _ h => h) (Or.inr ⟨by rfl, rfl⟩) ?_ ?_
    rotate_left
    exact z16a
    refine pure_ (i := 15) (N := some 84) (v := undef) (a' := ?_) (bs "YYYYYYYYYYYYYYYYXXXXXXXXXXXX") rfl rfl (any_of HT_.out (by kernel_rfl)) (fun _ _ _ h => h) (Or.inr ⟨by rfl, rfl⟩) ?_ ?_
    rotate_left
    exact z16a
    refine pure_ (i := 16) (N := some 85) (v := undef) (a' := ?_) (bs "YYYYYYYYYYYYYYYYYXXXXXXXXXXX") rfl rfl (any_of HT_.out (by kernel_rfl)) (fun _ _ _ h => h) (Or.inr ⟨by rfl, rfl⟩) ?_ ?_
    rotate_left
    exact z16a
    refine pure_ (i := 17) (N := some 86) (v := undef) (a' := ?_) (bs "YYYYYYYYYYYYYYYYYYXXXXXXXXXX") rfl rfl (any_of HT_.out (by kernel_rfl)) (fun _ _ _ h => h) (Or.inr ⟨by rfl, rfl⟩) ?_ ?_
    rotate_left
    exact z16a
    refine pure_ (i := 18) (N := some 87) (v := undef) (a' := ?_) (bs "YYYYYYYYYYYYYYYYYYYXXXXXXXXX") rfl rfl (any_of HT_.out (by kernel_rfl)) (fun _ _ _ h => h) (Or.inr ⟨by rfl, rfl⟩) ?_ ?_
    rotate_left
    exact z16a
    refine pure_ (i := 19) (N := some 88) (v := undef) (a' := ?_) (bs "YYYYYYYYYYYYYYYYYYYYXXXXXXXX") rfl rfl (any_of HT_.out (by kernel_rfl)) (fun _ _ _ h => h) (Or.inr ⟨by rfl, rfl⟩) ?_ ?_
    rotate_left
    exact z16a
    refine pure_ (i := 20) (N := some 89) (v := undef) (a' := ?_) (bs "YYYYYYYYYYYYYYYYYYYYYXXXXXXX") rfl rfl (any_of HT_.out (by kernel_rfl)) (fun _ _ _ h => h) (Or.inr ⟨by rfl, rfl⟩) ?_ ?_
    rotate_left
    exact z16a
    refine pure_ (i := 21) (N := some 90) (v := undef) (a' := ?_) (bs "YYYYYYYYYYYYYYYYYYYYYYXXXXXX") rfl rfl (any_of HT_.out (by kernel_rfl)) (fun _ _ _ h => h) (Or.inr ⟨by rfl, rfl⟩) ?_ ?_
    rotate_left
    exact z16a
    refine pure_ (i := 22) (N := some 91) (v := undef) (a' := ?_) (bs "YYYYYYYYYYYYYYYYYYYYYYYXXXXX") rfl rfl (any_of HT_.out (by kernel_rfl)) (fun _ _ _ h => h) (Or.inr ⟨by rfl, rfl⟩) ?_ ?_
    rotate_left
    exact z16a
    refine pure_ (i := 23) (N := some 92) (v := undef) (a' := ?_) (bs "YYYYYYYYYYYYYYYYYYYYYYYYXXXX") rfl rfl (any_of HT_.out (by kernel_rfl)) (fun _ _ _ h => h) (Or.inr ⟨by rfl, rfl⟩) ?_ ?_
    rotate_left
    exact z16a
    refine pure_ (i := 24) (N := some 93) (v := undef) (a' := ?_) (bs "YYYYYYYYYYYYYYYYYYYYYYYYYXXX") rfl rfl (any_of HT_.out (by kernel_rfl)) (fun _ _ _ h => h) (Or.inr ⟨by rfl, rfl⟩) ?_ ?_
    rotate_left
    exact z16a
    refine pure_ (i := 25) (N := some 94) (v := undef) (a' := ?_) (bs "YYYYYYYYYYYYYYYYYYYYYYYYYYXX") rfl rfl (any_of HT_.out (by kernel_rfl)) (fun _ _ _ h => h) (Or.inr ⟨by rfl, rfl⟩) ?_ ?_
    rotate_left
    exact z16a
    refine pure_ (i := 26) (N := some 95) (v := undef) (a' := ?_) (bs "YYYYYYYYYYYYYYYYYYYYYYYYYYYX") rfl rfl (any_of HT_.out (by kernel_rfl)) (fun _ _ _ h => h) (Or.inr ⟨by rfl, rfl⟩) ?_ ?_
    rotate_left
    exact z16a
    refine pu_ 27 (some 96) (bs "YYYYYYYYYYYYYYYYYYYYYYYYYYYY") ?_
    refine done_ (done_of HT_.out (by kernel_rfl)) ?_
    try go_wp2
    go_meet
    case rel => exact ⟨_, (true), (by first | rfl | (simp; done) | (simp [*]; done)), H', ⟨by have := HJ9.out; first | omega | exact Nat.le_refl _⟩, ⟨by (with_reducible repeat (first | apply Kd.R_alloc | apply Kd.R_drewN | apply Kd.R_drew)); exact HO_3.out⟩, ⟨by (with_reducible repeat (first | apply Kd.R_alloc | apply Kd.R_drewN | apply Kd.R_drew)); exact HO_4.out⟩, ⟨by (with_reducible repeat (first | apply Kd.R_alloc | apply Kd.R_drewN | apply Kd.R_drew)); exact HO_5.out⟩, ⟨by (with_reducible repeat (first | apply Kd.R_alloc | apply Kd.R_drewN | apply Kd.R_drew)); exact HO_6.out⟩, ⟨by repeat (first | (with_reducible first | exact HB.out | apply below_alloc | apply pw_below_drewN | apply below_drew1) | exact HB.out)⟩⟩
    }
    }
    {
    rw [if_neg c50] at H
    exact absurd H (by simp)
    }
    }
    {
    rw [if_neg c48] at H
    exact absurd H (by simp)
    }
    }
    {
    rw [if_neg c47] at H
    exact absurd H (by simp)
    }
   case rest =>
    clear HC46
    try clear p2
    try clear c4
    try clear c5
    try clear c47
    try clear c48
    try clear c50
    try clear c51
    try clear c51b0
    try clear c51b1
    try clear c52
    try clear c52b0
    obtain ⟨kq, x96_45, rfl, HA, HJ45, HO_3, HO_4, HO_5, HO_6, HB⟩ := hcut
    cases kq with
    | zero => exact absurd HA.out (by simp [laws_FnPacked.j1])
    | succ kj45 =>
     have H := HA.out
     clear HA
     simp only [laws_FnPacked.j1] at H
     by_cases c60 : x96_45 = true
     {
     subst c60
     rw [if_pos rfl] at H
     obtain rfl := Option.some.inj H
     go_wp2
     go_ret
     exact ⟨by first | rfl | (simp [errW_none, errW_some] <;> rfl) | (simp [*, errW_none, errW_some] <;> rfl), by repeat (first | (with_reducible first | exact HB.out | apply below_alloc | apply pw_below_drewN | apply below_drew1) | exact HB.out)⟩
     }
     {
     replace c60 := Bool.eq_false_iff.mpr c60
     subst c60
     rw [if_neg Bool.false_ne_true] at H
     by_cases c61 : (t610.length : Int) > 0
     {
     rw [if_pos c61] at H
     have c61b0 : decide (0 < (t610.length : Int)) = true := decide_eq_true c61
     have c61b1 : decide (0 < t610.length) = true := decide_eq_true (by omega)
     clear c61
     replace H := Option.bind_eq_some_iff.mp H
     obtain ⟨⟨t633, t634⟩, A620, H⟩ := H
     (try dsimp only at H)
     have A62 := A_ A620
     clear A620
     replace H := Option.bind_eq_some_iff.mp H
     obtain ⟨t637, A630, H⟩ := H
     (try dsimp only at H)
     have A63 := A_ A630
     clear A630
     by_cases c64 : 0 ≤ t637
     {
     rw [if_pos c64] at H
     have c64b0 := eq_true c64
     have c64b1 : decide (0 ≤ t637) = true := decide_eq_true c64
     clear c64
     by_cases c65 : t637 ≤ (t610.length : Int)
     {
     rw [if_pos c65] at H
     have c65b0 := eq_true c65
     have c65b1 : decide (t637 ≤ (t610.length : Int)) = true := decide_eq_true c65
     clear c65
     obtain ⟨y638, hy638⟩ : ∃ y_ : List Int, y_ = (t610.take (t637 : Int).toNat) := ⟨_, rfl⟩
     replace H : ((impl_Unpacked.f kj45 y638).bind fun bt642 => (if t634 = true then (if bt642.2 = true then (some false) else ((laws_likeEntries.f kj45 t633 t607).bind fun t646 => (if t646 = true then (if t617 = true then ((impl_Packed.f kj45 t616).bind fun t647 => (some ((strOfNums t647).toList == (strOfNums t613).toList))) else (if (t616.length : Int) = 0 then (some true) else (some false))) else (some false)))) else (some false))) = some r := by first | (rw [hy638]; with_reducible exact H) | (have H2_ := (Option.bind_some _ _).symm.trans H; rw [hy638]; with_reducible exact H2_) | (have H2_ := (Option.bind_some _ _).symm.trans H; with_reducible exact H2_) | with_reducible exact H | (rw [hy638]; exact H) | exact H
     have Ny638 := A_ hy638
     clear hy638
     replace H := Option.bind_eq_some_iff.mp H
     obtain ⟨⟨t642, t643⟩, A660, H⟩ := H
     (try dsimp only at H)
     have A66 := A_ A660
     clear A660
     by_cases c67 : t634 = true
     {
     subst c67
     rw [if_pos rfl] at H
     by_cases c68 : t643 = true
     {
     subst c68
     rw [if_pos rfl] at H
     obtain rfl := Option.some.inj H
     obtain ⟨Ao69, co69, eo69⟩ := Kd.R_slice HO_4.out
     subst eo69
     go_wp2_with (first | ((with_reducible refine gate_callee (f := 51) rfl ?_); refine goesL_ (some 102) rfl rfl Try.func51 (by kernel_rfl) rfl #[.slice Ao69 t610.length co69] rfl z16c ?_; (with_reducible refine (impl_Unpacked.calls kj45 _ _ t610 t633 true _ ?side1 ?side2 A62.out).mono ?_); (case side1 => exact z16o); (case side2 => exact (Kd.R_reads' HO_4.out).2.1); rintro e w70 ⟨v635, rfl, ho0, hb⟩; refine ⟨_, rfl, ?_⟩; have n0_ := A_ (Kd.R_elder' z16d (Kd.R_base ho0) hb); have n1_ := A_ (Kd.R_below z16g hb); have n2_ := A_ (Kd.R_below z16h hb); have n3_ := A_ (Kd.R_elder' z16e (Kd.R_base ho0) hb); have n4_ := A_ (Kd.R_lower (Kd.R_new' (Kd.R_new' ho0 (Kd.R_lt z16d)) (Kd.R_lt z16e)) (below_size z16b)); have n5_ := A_ (below_step z16b hb); clear HO_3; clear HO_4; clear HO_5; clear HO_6; clear HB; have HO_3 := n0_; have HO_4 := n1_; have HO_5 := n2_; have HO_6 := n3_; have HO636 := n4_; have HB := n5_; clear n0_ n1_ n2_ n3_ n4_ n5_) | ((with_reducible refine gate_callee (f := 62) rfl ?_); refine goesL_ (some 110) rfl rfl Try.func62 (by kernel_rfl) rfl #[.slice A0 l0.length c0, .int .i64 1, .int .i64 (t610.length : Int)] rfl z16c ?_; (with_reducible refine (laws_pick.calls kj45 _ _ l0 1 (t610.length : Int) t637 _ ?side1 ?side2 A63.out).mono ?_); (case side1 => exact z16k); (case side2 => exact HC0.out); rintro e w' ⟨rfl, ⟨nd, rfl⟩⟩; refine ⟨_, rfl, ?_⟩; have q71 : (t637 : Int) ≤ ((t610.length : Int) : Int) := of_decide_eq_true z16p; obtain ⟨i071, hi071, _, hsz71, _⟩ := info_parts info5; have hroom71 : t610.length ≤ co69 := (Kd.R_reads' HO_4.out).2.1; have hC71 : Kd.C (Kd.int .u8) _ Ao69 t610.length t610 := (Kd.R_reads' HO_4.out).2.2; have hcut71 := cut_to (P := Try.prog) 22 5 .i64 Try.underlying22 hi071 Ao69 t610.length co69 t637 (of_decide_eq_true z16p) q71 hroom71; have hr71 := Kd.C_take (m := (t637 : Int).toNat) hC71 (by omega); have hy71 : y638.length = (t637 : Int).toNat := (by rw [Ny638.out, List.length_take]; omega); rw [← Ny638.out] at hr71; rw [← hy71] at hcut71; have HR641 := A_ hr71; have HC641 := A_ (show y638.length ≤ co69 from (by omega)); clear hr71 hC71 hroom71 hi071 hsz71; have KY71 := A_ hy71; clear hy71; have KL71 := A_ (show (t637 : Int).toNat ≤ t610.length from (by omega)); replace q71 := eq_true q71) | ((with_reducible refine gate_callee (f := 51) rfl ?_); refine goesL_ (some 112) rfl rfl Try.func51 (by kernel_rfl) rfl #[.slice Ao69 y638.length co69] rfl z16c ?_; (with_reducible refine (impl_Unpacked.calls kj45 _ _ y638 t642 true _ ?side1 ?side2 A66.out).mono ?_); (case side1 => repeat (first | exact z16f | (with_reducible refine Kd.C_alloc ?_ _) | (with_reducible refine Kd.C_drewN ?_ _) | (with_reducible refine Kd.C_drew ?_))); (case side2 => exact HC641.out); rintro e w72 ⟨v644, rfl, ho0, hb⟩; refine ⟨_, rfl, ?_⟩; have n0_ := A_ (Kd.R_elder' z16d (Kd.R_base ho0) hb); have n1_ := A_ (Kd.R_below z16g hb); have n2_ := A_ (Kd.R_below z16h hb); have n3_ := A_ (Kd.R_elder' z16e (Kd.R_base ho0) hb); have n4_ := A_ (Kd.R_elder' z16i (Kd.R_base ho0) hb); have n5_ := A_ (Kd.R_lower (Kd.R_new' (Kd.R_new' (Kd.R_new' ho0 (Kd.R_lt z16d)) (Kd.R_lt z16e)) (Kd.R_lt z16i)) (below_size z16b)); have n6_ := A_ (Kd.C_below z16f hb); have n7_ := A_ (below_step z16b hb); clear HO_3; clear HO_4; clear HO_5; clear HO_6; clear HO636; clear HR641; clear HB; have HO_3 := n0_; have HO_4 := n1_; have HO_5 := n2_; have HO_6 := n3_; have HO636 := n4_; have HO645 := n5_; have HR641 := n6_; have HB := n7_; clear n0_ n1_ n2_ n3_ n4_ n5_ n6_ n7_))
     go_ret
     exact ⟨by first | rfl | (simp [errW_none, errW_some] <;> rfl) | (simp [*, errW_none, errW_some] <;> rfl), by repeat (first | (with_reducible first | exact HB.out | apply below_alloc | apply pw_below_drewN | apply below_drew1) | exact HB.out)⟩
     }
     {
     replace c68 := Bool.eq_false_iff.mpr c68
     subst c68
     rw [if_neg Bool.false_ne_true] at H
     replace H := Option.bind_eq_some_iff.mp H
     obtain ⟨t646, A730, H⟩ := H
     (try dsimp only at H)
     have A73 := A_ A730
     clear A730
     by_cases c74 : t646 = true
     {
     subst c74
     rw [if_pos rfl] at H
     by_cases c75 : t617 = true
     {
     subst c75
     rw [if_pos rfl] at H
     replace H := Option.bind_eq_some_iff.mp H
     obtain ⟨t647, A760, H⟩ := H
     (try dsimp only at H)
     have A76 := A_ A760
     clear A760
     obtain rfl := Option.some.inj H
     obtain ⟨Ao77, co77, eo77⟩ := Kd.R_slice HO_4.out
     subst eo77
     try go_wp2_with (first | ((with_reducible refine gate_callee (f := 51) rfl ?_); refine goesL_ (some 102) rfl rfl Try.func51 (by kernel_rfl) rfl #[.slice Ao77 t610.length co77] rfl z16c ?_; (with_reducible refine (impl_Unpacked.calls kj45 _ _ t610 t633 true _ ?side1 ?side2 A62.out).mono ?_); (case side1 => exact z16o); (case side2 => exact (Kd.R_reads' HO_4.out).2.1); rintro e w78 ⟨v635, rfl, ho0, hb⟩; refine ⟨_, rfl, ?_⟩; have n0_ := A_ (Kd.R_elder' z16d (Kd.R_base ho0) hb); have n1_ := A_ (Kd.R_below z16g hb); have n2_ := A_ (Kd.R_below z16h hb); have n3_ := A_ (Kd.R_elder' z16e (Kd.R_base ho0) hb); have n4_ := A_ (Kd.R_lower (Kd.R_new' (Kd.R_new' ho0 (Kd.R_lt z16d)) (Kd.R_lt z16e)) (below_size z16b)); have n5_ := A_ (below_step z16b hb); clear HO_3; clear HO_4; clear HO_5; clear HO_6; clear HB; have HO_3 := n0_; have HO_4 := n1_; have HO_5 := n2_; have HO_6 := n3_; have HO636 := n4_; have HB := n5_; clear n0_ n1_ n2_ n3_ n4_ n5_) | ((with_reducible refine gate_callee (f := 62) rfl ?_); refine goesL_ (some 110) rfl rfl Try.func62 (by kernel_rfl) rfl #[.slice A0 l0.length c0, .int .i64 1, .int .i64 (t610.length : Int)] rfl z16c ?_; (with_reducible refine (laws_pick.calls kj45 _ _ l0 1 (t610.length : Int) t637 _ ?side1 ?side2 A63.out).mono ?_); (case side1 => exact z16k); (case side2 => exact HC0.out); rintro e w' ⟨rfl, ⟨nd, rfl⟩⟩; refine ⟨_, rfl, ?_⟩; have q79 : (t637 : Int) ≤ ((t610.length : Int) : Int) := of_decide_eq_true z16p; obtain ⟨i079, hi079, _, hsz79, _⟩ := info_parts info5; have hroom79 : t610.length ≤ co77 := (Kd.R_reads' HO_4.out).2.1; have hC79 : Kd.C (Kd.int .u8) _ Ao77 t610.length t610 := (Kd.R_reads' HO_4.out).2.2; have hcut79 := cut_to (P := Try.prog) 22 5 .i64 Try.underlying22 hi079 Ao77 t610.length co77 t637 (of_decide_eq_true z16p) q79 hroom79; have hr79 := Kd.C_take (m := (t637 : Int).toNat) hC79 (by omega); have hy79 : y638.length = (t637 : Int).toNat := (by rw [Ny638.out, List.length_take]; omega); rw [← Ny638.out] at hr79; rw [← hy79] at hcut79; have HR641 := A_ hr79; have HC641 := A_ (show y638.length ≤ co77 from (by omega)); clear hr79 hC79 hroom79 hi079 hsz79; have KY79 := A_ hy79; clear hy79; have KL79 := A_ (show (t637 : Int).toNat ≤ t610.length from (by omega)); replace q79 := eq_true q79) | ((with_reducible refine gate_callee (f := 51) rfl ?_); refine goesL_ (some 112) rfl rfl Try.func51 (by kernel_rfl) rfl #[.slice Ao77 y638.length co77] rfl z16c ?_; (with_reducible refine (impl_Unpacked.calls kj45 _ _ y638 t642 false _ ?side1 ?side2 A66.out).mono ?_); (case side1 => repeat (first | exact z16f | (with_reducible refine Kd.C_alloc ?_ _) | (with_reducible refine Kd.C_drewN ?_ _) | (with_reducible refine Kd.C_drew ?_))); (case side2 => exact HC641.out); rintro e w80 ⟨v644, rfl, ho0, hb⟩; refine ⟨_, rfl, ?_⟩; have n0_ := A_ (Kd.R_elder' z16d (Kd.R_base ho0) hb); have n1_ := A_ (Kd.R_below z16g hb); have n2_ := A_ (Kd.R_below z16h hb); have n3_ := A_ (Kd.R_elder' z16e (Kd.R_base ho0) hb); have n4_ := A_ (Kd.R_elder' z16i (Kd.R_base ho0) hb); have n5_ := A_ (Kd.R_lower (Kd.R_new' (Kd.R_new' (Kd.R_new' ho0 (Kd.R_lt z16d)) (Kd.R_lt z16e)) (Kd.R_lt z16i)) (below_size z16b)); have n6_ := A_ (Kd.C_below z16f hb); have n7_ := A_ (below_step z16b hb); clear HO_3; clear HO_4; clear HO_5; clear HO_6; clear HO636; clear HR641; clear HB; have HO_3 := n0_; have HO_4 := n1_; have HO_5 := n2_; have HO_6 := n3_; have HO636 := n4_; have HO645 := n5_; have HR641 := n6_; have HB := n7_; clear n0_ n1_ n2_ n3_ n4_ n5_ n6_ n7_; obtain ⟨Ao81, co81, eo81⟩ := Kd.R_slice HO636.out; subst eo81) | (go_at_call 64; (with_reducible refine (laws_likeEntries.calls kj45 _ _ t633 _ _ t607 true _ ?side1 ?side2 ?side3 ?side4 A73.out).mono ?_); (case side1 => exact z16b1); (case side2 => exact (Kd.R_reads' HO636.out).2.1); (case side3 => exact z16c1); (case side4 => exact (Kd.R_reads' HO_3.out).2.1); rintro e w' ⟨rfl, ⟨nd, rfl⟩⟩; obtain ⟨Ao82, co82, eo82⟩ := Kd.R_slice HO_6.out; subst eo82))
     have n0_ : Aside0 (Kd.R k49 49 w80 w.heap.size (fun k_ => some k_ ≠ (v644 : Value).ownBlock ∧ some k_ ≠ (.slice Ao12 t607.length co12 : Value).ownBlock ∧ some k_ ≠ (.slice Ao82 t616.length co82 : Value).ownBlock) (.slice Ao81 t633.length co81) t633) := ⟨(by (with_reducible repeat (first | apply Kd.R_alloc | apply Kd.R_drewN | apply Kd.R_drew)); exact Kd.R_mono HO636.out (fun _ hk => ⟨hk.2, ⟨hk.1.1.2, hk.1.2⟩⟩))⟩
     have n1_ : Aside0 (Kd.R k49 49 w80 w.heap.size (fun k_ => some k_ ≠ (.slice Ao81 t633.length co81 : Value).ownBlock ∧ some k_ ≠ (.slice Ao12 t607.length co12 : Value).ownBlock ∧ some k_ ≠ (.slice Ao82 t616.length co82 : Value).ownBlock) v644 t642) := ⟨(by (with_reducible repeat (first | apply Kd.R_alloc | apply Kd.R_drewN | apply Kd.R_drew)); exact Kd.R_mono HO645.out (fun _ hk => ⟨hk.2, ⟨hk.1.1.2, hk.1.2⟩⟩))⟩
     have n2_ : Aside0 (Kd.R k49 49 w80 w.heap.size (fun k_ => some k_ ≠ (.slice Ao81 t633.length co81 : Value).ownBlock ∧ some k_ ≠ (v644 : Value).ownBlock ∧ some k_ ≠ (.slice Ao82 t616.length co82 : Value).ownBlock) (.slice Ao12 t607.length co12) t607) := ⟨(by (with_reducible repeat (first | apply Kd.R_alloc | apply Kd.R_drewN | apply Kd.R_drew)); exact Kd.R_mono HO_3.out (fun _ hk => ⟨hk.1.2, ⟨hk.2, hk.1.1⟩⟩))⟩
     have n3_ : Aside0 (Kd.R k49 49 w80 w.heap.size (fun k_ => some k_ ≠ (.slice Ao81 t633.length co81 : Value).ownBlock ∧ some k_ ≠ (v644 : Value).ownBlock ∧ some k_ ≠ (.slice Ao12 t607.length co12 : Value).ownBlock) (.slice Ao82 t616.length co82) t616) := ⟨(by (with_reducible repeat (first | apply Kd.R_alloc | apply Kd.R_drewN | apply Kd.R_drew)); exact Kd.R_mono HO_6.out (fun _ hk => ⟨hk.1.2, ⟨hk.2, hk.1.1⟩⟩))⟩
     clear HO636 HO645 HO_3 HO_6
     have HO636 := n0_
     have HO645 := n1_
     have HO_3 := n2_
     have HO_6 := n3_
     clear n0_ n1_ n2_ n3_
     (try (rw [drewN_self w80]; generalize hq_ : World.drewN w80 _ = w80; have n0_ : Aside0 (Kd.R k49 49 w80 w.heap.size (fun k_ => some k_ ≠ (v644 : Value).ownBlock ∧ some k_ ≠ (.slice Ao12 t607.length co12 : Value).ownBlock ∧ some k_ ≠ (.slice Ao82 t616.length co82 : Value).ownBlock) (.slice Ao81 t633.length co81) t633) := ⟨by rw [← hq_]; exact z16i⟩; have n1_ : Aside0 (Kd.R k49 49 w80 w.heap.size (fun k_ => some k_ ≠ (.slice Ao81 t633.length co81 : Value).ownBlock ∧ some k_ ≠ (.slice Ao12 t607.length co12 : Value).ownBlock ∧ some k_ ≠ (.slice Ao82 t616.length co82 : Value).ownBlock) v644 t642) := ⟨by rw [← hq_]; exact z16q⟩; have n2_ : Aside0 (Kd.R k49 49 w80 w.heap.size (fun k_ => some k_ ≠ (.slice Ao81 t633.length co81 : Value).ownBlock ∧ some k_ ≠ (v644 : Value).ownBlock ∧ some k_ ≠ (.slice Ao82 t616.length co82 : Value).ownBlock) (.slice Ao12 t607.length co12) t607) := ⟨by rw [← hq_]; exact z16d⟩; have n3_ : Aside0 (Kd.R (Kd.int .u8) 5 w80 w.heap.size (fun k_ => some k_ ≠ (.slice Ao15 t613.length co15 : Value).ownBlock) (.slice Ao77 t610.length co77) t610) := ⟨by rw [← hq_]; exact z16g⟩; have n4_ : Aside0 (Kd.R (Kd.int .u8) 5 w80 w.heap.size (fun k_ => some k_ ≠ (.slice Ao77 t610.length co77 : Value).ownBlock) (.slice Ao15 t613.length co15) t613) := ⟨by rw [← hq_]; exact z16h⟩; have n5_ : Aside0 (Kd.R k49 49 w80 w.heap.size (fun k_ => some k_ ≠ (.slice Ao81 t633.length co81 : Value).ownBlock ∧ some k_ ≠ (v644 : Value).ownBlock ∧ some k_ ≠ (.slice Ao12 t607.length co12 : Value).ownBlock) (.slice Ao82 t616.length co82) t616) := ⟨by rw [← hq_]; exact z16e⟩; have n6_ : Aside0 (Below w.heap.size w w80) := ⟨by rw [← hq_]; exact z16b⟩; have n7_ : Aside0 (Kd.C (Kd.int .u8) w80 Ao77 y638.length y638) := ⟨by rw [← hq_]; exact z16f⟩; clear HO636 HO645 HO_3 HO_4 HO_5 HO_6 HB HR641 hq_; have HO636 := n0_; have HO645 := n1_; have HO_3 := n2_; have HO_4 := n3_; have HO_5 := n4_; have HO_6 := n5_; have HB := n6_; have HR641 := n7_; clear n0_ n1_ n2_ n3_ n4_ n5_ n6_ n7_))
     replace HO_3 := A_ (Kd.R_drew HO_3.out)
     replace HO_4 := A_ (Kd.R_drew HO_4.out)
     replace HO_5 := A_ (Kd.R_drew HO_5.out)
     replace HO_6 := A_ (Kd.R_drew HO_6.out)
     replace HO636 := A_ (Kd.R_drew HO636.out)
     replace HO645 := A_ (Kd.R_drew HO645.out)
     replace HR641 := A_ (Kd.C_drew HR641.out)
     replace HB := A_ (below_drew1 HB.out)
     refine start_ (n := 19) (S := fun w' => True) (ds := []) (bs "XXXXXXXXXXXXXXXXXXX") (by kernel_rfl) rfl rfl trivial (fun hHeld => ?_); refine with_tabW laws_FnPacked.tab19 laws_FnPacked.bits19 (fun HT_ HW_ => ?_)
     generalize w80.drew = w83 at HO_3 HO_4 HO_5 HO_6 HO636 HO645 HR641 HB hHeld ⊢
     refine pu_ 0 (some 126) (bs "YXXXXXXXXXXXXXXXXXX") ?_
     refine pu_ 1 (some 127) (bs "YYXXXXXXXXXXXXXXXXX") ?_
     refine pu_ 2 (some 128) (bs "YYYXXXXXXXXXXXXXXXX") ?_
     refine pure_ (i := 3) (N := some 129) (v := undef) (a' := ?_) (bs "YYYYXXXXXXXXXXXXXXX") rfl rfl (any_of HT_.out (by kernel_rfl)) (fun _ _ _ h => h) (Or.inr ⟨by rfl, rfl⟩) ?_ ?_
     rotate_left
     exact z16a
     refine pure_ (i := 4) (N := some 130) (v := undef) (a' := ?_) (bs "YYYYYXXXXXXXXXXXXXX") rfl rfl (any_of HT_.out (by kernel_rfl)) (fun _ _ _ h => h) (Or.inr ⟨by rfl, rfl⟩) ?_ ?_
     rotate_left
     exact z16a
     refine pure_ (i := 5) (N := some 131) (v := undef) (a' := ?_) (bs "YYYYYYXXXXXXXXXXXXX") rfl rfl (any_of HT_.out (by kernel_rfl)) (fun _ _ _ h => h) (Or.inr ⟨by rfl, rfl⟩) ?_ ?_
     rotate_left
     exact z16a
     refine pu_ 6 (some 132) (bs "YYYYYYYXXXXXXXXXXXX") ?_
     refine pu_ 7 (some 133) (bs "YYYYYYYYXXXXXXXXXXX") ?_
     refine pu_ 8 (some 134) (bs "YYYYYYYYYXXXXXXXXXX") ?_
     refine pu_ 9 (some 135) (bs "YYYYYYYYYYXXXXXXXXX") ?_
     refine pu_ 10 (some 136) (bs "YYYYYYYYYYYXXXXXXXX") ?_
     refine pu_ 13 (some 139) (bs "YYYYYYYYYYYXXYXXXXX") ?_
     refine join_ (σ := Value) 4 (bs "YYYYYYYYYYYYYYYXXXX") (fun s_ => [(137, s_), (138, .string (strOfNums t647)), (140, .string (strOfNums t613))]) (fun s_ w' => (Kd.R k49 49 w' w.heap.size (fun k_ => some k_ ≠ (v644 : Value).ownBlock ∧ some k_ ≠ (.slice Ao12 t607.length co12 : Value).ownBlock ∧ some k_ ≠ (.slice Ao82 t616.length co82 : Value).ownBlock) (.slice Ao81 t633.length co81) t633) ∧ (Kd.R k49 49 w' w.heap.size (fun k_ => some k_ ≠ (.slice Ao81 t633.length co81 : Value).ownBlock ∧ some k_ ≠ (.slice Ao12 t607.length co12 : Value).ownBlock ∧ some k_ ≠ (.slice Ao82 t616.length co82 : Value).ownBlock) v644 t642) ∧ (Kd.R (Kd.int .u8) 5 w' w.heap.size (fun k_ => some k_ ≠ (.slice Ao77 t610.length co77 : Value).ownBlock ∧ some k_ ≠ (.slice Ao15 t613.length co15 : Value).ownBlock) s_ t647) ∧ (Kd.R k49 49 w' w.heap.size (fun k_ => some k_ ≠ (.slice Ao81 t633.length co81 : Value).ownBlock ∧ some k_ ≠ (v644 : Value).ownBlock ∧ some k_ ≠ (.slice Ao82 t616.length co82 : Value).ownBlock) (.slice Ao12 t607.length co12) t607) ∧ (Kd.R (Kd.int .u8) 5 w' w.heap.size (fun k_ => some k_ ≠ (s_ : Value).ownBlock ∧ some k_ ≠ (.slice Ao15 t613.length co15 : Value).ownBlock) (.slice Ao77 t610.length co77) t610) ∧ (Kd.R (Kd.int .u8) 5 w' w.heap.size (fun k_ => some k_ ≠ (s_ : Value).ownBlock ∧ some k_ ≠ (.slice Ao77 t610.length co77 : Value).ownBlock) (.slice Ao15 t613.length co15) t613) ∧ (Kd.R k49 49 w' w.heap.size (fun k_ => some k_ ≠ (.slice Ao81 t633.length co81 : Value).ownBlock ∧ some k_ ≠ (v644 : Value).ownBlock ∧ some k_ ≠ (.slice Ao12 t607.length co12 : Value).ownBlock) (.slice Ao82 t616.length co82) t616) ∧ (Below w.heap.size w w')) ?_ ?_
     rotate_left
     {
     intro hCont
     refine two_ (i := 11) (j := 14) (Ni := some 137) (Nj := some 140) (bs "YYYYYYYYYYYYXYXXXXX") (bs "YYYYYYYYYYYXXYYXXXX") rfl rfl rfl rfl (two_of HT_.out (by kernel_rfl)) (by decide) (by decide) (fun K hK => ?_) (fun K hK => ?_)
     {
     skip
     refine goes_ Try.func49 (by kernel_rfl) rfl #[.slice Ao82 t616.length co82] (by rfl) rfl rfl z16c ?_
     with_reducible refine (impl_Packed.calls kj45 _ _ t616 t647 _ ?side1 ?side2 A76.out).mono ?_
     (case side1 => exact z16d1)
     (case side2 => exact (Kd.R_reads' HO_6.out).2.1)
     rintro e w84 ⟨v648, rfl, ho0, hb⟩
     refine ⟨_, rfl, ?_⟩
     have n0_ := A_ (Kd.R_below z16d hb)
     have n1_ := A_ (Kd.R_elder' z16g (Kd.R_base ho0) hb)
     have n2_ := A_ (Kd.R_elder' z16h (Kd.R_base ho0) hb)
     have n3_ := A_ (Kd.R_below z16e hb)
     have n4_ := A_ (Kd.R_below z16i hb)
     have n5_ := A_ (Kd.R_below z16q hb)
     have n6_ := A_ (Kd.R_lower (Kd.R_new' (Kd.R_new' ho0 (Kd.R_lt z16g)) (Kd.R_lt z16h)) (below_size z16b))
     have n7_ := A_ (Kd.C_below z16f hb)
     have n8_ := A_ (below_step z16b hb)
     clear HO_3
     clear HO_4
     clear HO_5
     clear HO_6
     clear HO636
     clear HO645
     clear HR641
     clear HB
     have HO_3 := n0_
     have HO_4 := n1_
     have HO_5 := n2_
     have HO_6 := n3_
     have HO636 := n4_
     have HO645 := n5_
     have HO649 := n6_
     have HR641 := n7_
     have HB := n8_
     clear n0_ n1_ n2_ n3_ n4_ n5_ n6_ n7_ n8_
     refine hK.out _ _ trivial (fun hHeld => ?_)
     clear hK K
     refine norm_ (nz_ 137) ?_
     refine two_ (i := 12) (j := 14) (Ni := some 138) (Nj := some 140) (bs "YYYYYYYYYYYYYYXXXXX") (bs "YYYYYYYYYYYYXYYXXXX") rfl rfl rfl rfl (two_of HT_.out (by kernel_rfl)) (by decide) (by decide) (fun K hK => ?_) (fun K hK => ?_)
     {
     skip
     have hcv85 := own_string (P := Try.prog) Try.underlying22 Try.underlying5 Try.underlying9 (Kd.own_of_R HO649.out)
     refine value_ (w1 := ?_) (v := ?_) (by rfl) rfl ?_ ?_
     rotate_left 2
     {
     go_simp
     constructor
     {
     rfl
     }
     {
     rfl
     }
     }
     clear hcv85
     refine hK.out _ _ trivial (fun hHeld => ?_)
     clear hK K
     refine norm_ (nz_ 138) ?_
     refine one_ (i := 14) (N := some 140) (bs "YYYYYYYYYYYYYYYXXXX") rfl rfl (one_of HT_.out (by kernel_rfl)) (by decide) (fun K hK => ?_)
     have hcv86 := own_string (P := Try.prog) Try.underlying22 Try.underlying5 Try.underlying9 (Kd.own_of_R HO_5.out); have hcv86d := fun (nq_ : Nat) => own_string (P := Try.prog) Try.underlying22 Try.underlying5 Try.underlying9 (Kd.own_of_R (Kd.R_drewN HO_5.out nq_))
     refine value_ (w1 := ?_) (v := ?_) (by rfl) rfl ?_ ?_
     rotate_left 2
     {
     go_simp
     constructor
     {
     rfl
     }
     {
     rfl
     }
     }
     clear hcv86 hcv86d
     refine hK.out _ _ trivial (fun hHeld => ?_)
     clear hK K
     refine norm_ (nz_ 140) ?_
     exact norm_ z16l (hCont (v648) _ ⟨z16i, z16q, (by (with_reducible repeat (first | apply Kd.R_alloc | apply Kd.R_drewN | apply Kd.R_drew)); exact Kd.R_mono HO649.out (fun _ hk => ⟨hk.1.2, hk.2⟩)), z16d, z16x, z16y, z16e, z16b⟩)
     }
     {
     skip
     have hcv85 := own_string (P := Try.prog) Try.underlying22 Try.underlying5 Try.underlying9 (Kd.own_of_R HO_5.out); have hcv85d := fun (nq_ : Nat) => own_string (P := Try.prog) Try.underlying22 Try.underlying5 Try.underlying9 (Kd.own_of_R (Kd.R_drewN HO_5.out nq_))
     refine value_ (w1 := ?_) (v := ?_) (by rfl) rfl ?_ ?_
     rotate_left 2
     {
     go_simp
     constructor
     {
     rfl
     }
     {
     rfl
     }
     }
     clear hcv85 hcv85d
     refine hK.out _ _ trivial (fun hHeld => ?_)
     clear hK K
     refine norm_ (nz_ 140) ?_
     refine one_ (i := 12) (N := some 138) (bs "YYYYYYYYYYYYYYYXXXX") rfl rfl (one_of HT_.out (by kernel_rfl)) (by decide) (fun K hK => ?_)
     have hcv86 := own_string (P := Try.prog) Try.underlying22 Try.underlying5 Try.underlying9 (Kd.own_of_R HO649.out)
     refine value_ (w1 := ?_) (v := ?_) (by rfl) rfl ?_ ?_
     rotate_left 2
     {
     go_simp
     constructor
     {
     rfl
     }
     {
     rfl
     }
     }
     clear hcv86
     refine hK.out _ _ trivial (fun hHeld => ?_)
     clear hK K
     refine norm_ (nz_ 138) ?_
     exact norm_ z16l (hCont (v648) _ ⟨z16i, z16q, (by (with_reducible repeat (first | apply Kd.R_alloc | apply Kd.R_drewN | apply Kd.R_drew)); exact Kd.R_mono HO649.out (fun _ hk => ⟨hk.1.2, hk.2⟩)), z16d, z16x, z16y, z16e, z16b⟩)
     }
     }
     {
     skip
     have hcv84 := own_string (P := Try.prog) Try.underlying22 Try.underlying5 Try.underlying9 (Kd.own_of_R HO_5.out); have hcv84d := fun (nq_ : Nat) => own_string (P := Try.prog) Try.underlying22 Try.underlying5 Try.underlying9 (Kd.own_of_R (Kd.R_drewN HO_5.out nq_))
     refine value_ (w1 := ?_) (v := ?_) (by rfl) rfl ?_ ?_
     rotate_left 2
     {
     go_simp
     constructor
     {
     rfl
     }
     {
     rfl
     }
     }
     clear hcv84 hcv84d
     refine hK.out _ _ trivial (fun hHeld => ?_)
     clear hK K
     refine norm_ (nz_ 140) ?_
     refine one_ (i := 11) (N := some 137) (bs "YYYYYYYYYYYYXYYXXXX") rfl rfl (one_of HT_.out (by kernel_rfl)) (by decide) (fun K hK => ?_)
     refine goes_ Try.func49 (by kernel_rfl) rfl #[.slice Ao82 t616.length co82] (by rfl) rfl rfl z16c ?_
     with_reducible refine (impl_Packed.calls kj45 _ _ t616 t647 _ ?side1 ?side2 A76.out).mono ?_
     (case side1 => exact z16d1)
     (case side2 => exact (Kd.R_reads' HO_6.out).2.1)
     rintro e w85 ⟨v648, rfl, ho0, hb⟩
     refine ⟨_, rfl, ?_⟩
     have n0_ := A_ (Kd.R_below z16d hb)
     have n1_ := A_ (Kd.R_elder' z16g (Kd.R_base ho0) hb)
     have n2_ := A_ (Kd.R_elder' z16h (Kd.R_base ho0) hb)
     have n3_ := A_ (Kd.R_below z16e hb)
     have n4_ := A_ (Kd.R_below z16i hb)
     have n5_ := A_ (Kd.R_below z16q hb)
     have n6_ := A_ (Kd.R_lower (Kd.R_new' (Kd.R_new' ho0 (Kd.R_lt z16g)) (Kd.R_lt z16h)) (below_size z16b))
     have n7_ := A_ (Kd.C_below z16f hb)
     have n8_ := A_ (below_step z16b hb)
     clear HO_3
     clear HO_4
     clear HO_5
     clear HO_6
     clear HO636
     clear HO645
     clear HR641
     clear HB
     have HO_3 := n0_
     have HO_4 := n1_
     have HO_5 := n2_
     have HO_6 := n3_
     have HO636 := n4_
     have HO645 := n5_
     have HO649 := n6_
     have HR641 := n7_
     have HB := n8_
     clear n0_ n1_ n2_ n3_ n4_ n5_ n6_ n7_ n8_
     refine hK.out _ _ trivial (fun hHeld => ?_)
     clear hK K
     refine norm_ (nz_ 137) ?_
     refine one_ (i := 12) (N := some 138) (bs "YYYYYYYYYYYYYYYXXXX") rfl rfl (one_of HT_.out (by kernel_rfl)) (by decide) (fun K hK => ?_)
     have hcv86 := own_string (P := Try.prog) Try.underlying22 Try.underlying5 Try.underlying9 (Kd.own_of_R HO649.out)
     refine value_ (w1 := ?_) (v := ?_) (by rfl) rfl ?_ ?_
     rotate_left 2
     {
     go_simp
     constructor
     {
     rfl
     }
     {
     rfl
     }
     }
     clear hcv86
     refine hK.out _ _ trivial (fun hHeld => ?_)
     clear hK K
     refine norm_ (nz_ 138) ?_
     exact norm_ z16l (hCont (v648) _ ⟨z16i, z16q, (by (with_reducible repeat (first | apply Kd.R_alloc | apply Kd.R_drewN | apply Kd.R_drew)); exact Kd.R_mono HO649.out (fun _ hk => ⟨hk.1.2, hk.2⟩)), z16d, z16x, z16y, z16e, z16b⟩)
     }
     }
     rintro v648 w87 ⟨h0_, h1_, h2_, h3_, h4_, h5_, h6_, h7_⟩
     have n0_ : Aside0 (Kd.R k49 49 w87 w.heap.size (fun k_ => some k_ ≠ (v644 : Value).ownBlock ∧ some k_ ≠ (.slice Ao12 t607.length co12 : Value).ownBlock ∧ some k_ ≠ (.slice Ao82 t616.length co82 : Value).ownBlock) (.slice Ao81 t633.length co81) t633) := ⟨h0_⟩
     have n1_ : Aside0 (Kd.R k49 49 w87 w.heap.size (fun k_ => some k_ ≠ (.slice Ao81 t633.length co81 : Value).ownBlock ∧ some k_ ≠ (.slice Ao12 t607.length co12 : Value).ownBlock ∧ some k_ ≠ (.slice Ao82 t616.length co82 : Value).ownBlock) v644 t642) := ⟨h1_⟩
     have n2_ : Aside0 (Kd.R (Kd.int .u8) 5 w87 w.heap.size (fun k_ => some k_ ≠ (.slice Ao77 t610.length co77 : Value).ownBlock ∧ some k_ ≠ (.slice Ao15 t613.length co15 : Value).ownBlock) v648 t647) := ⟨h2_⟩
     have n3_ : Aside0 (Kd.R k49 49 w87 w.heap.size (fun k_ => some k_ ≠ (.slice Ao81 t633.length co81 : Value).ownBlock ∧ some k_ ≠ (v644 : Value).ownBlock ∧ some k_ ≠ (.slice Ao82 t616.length co82 : Value).ownBlock) (.slice Ao12 t607.length co12) t607) := ⟨h3_⟩
     have n4_ : Aside0 (Kd.R (Kd.int .u8) 5 w87 w.heap.size (fun k_ => some k_ ≠ (v648 : Value).ownBlock ∧ some k_ ≠ (.slice Ao15 t613.length co15 : Value).ownBlock) (.slice Ao77 t610.length co77) t610) := ⟨h4_⟩
     have n5_ : Aside0 (Kd.R (Kd.int .u8) 5 w87 w.heap.size (fun k_ => some k_ ≠ (v648 : Value).ownBlock ∧ some k_ ≠ (.slice Ao77 t610.length co77 : Value).ownBlock) (.slice Ao15 t613.length co15) t613) := ⟨h5_⟩
     have n6_ : Aside0 (Kd.R k49 49 w87 w.heap.size (fun k_ => some k_ ≠ (.slice Ao81 t633.length co81 : Value).ownBlock ∧ some k_ ≠ (v644 : Value).ownBlock ∧ some k_ ≠ (.slice Ao12 t607.length co12 : Value).ownBlock) (.slice Ao82 t616.length co82) t616) := ⟨h6_⟩
     have n7_ : Aside0 (Below w.heap.size w w87) := ⟨h7_⟩
     clear HO_3
     clear HO_4
     clear HO_5
     clear HO_6
     clear HO636
     clear HO645
     clear HR641
     clear HB
     clear h0_ h1_ h2_ h3_ h4_ h5_ h6_ h7_
     have HO636 := n0_
     have HO645 := n1_
     have HO649 := n2_
     have HO_3 := n3_
     have HO_4 := n4_
     have HO_5 := n5_
     have HO_6 := n6_
     have HB := n7_
     clear n0_ n1_ n2_ n3_ n4_ n5_ n6_ n7_
     have hHeld := trivial
     have HR641 := A_ ((show Kd.C (Kd.int .u8) w87 Ao77 y638.length y638 from (by rw [Ny638.out]; exact Kd.C_take (m := (t637 : Int).toNat) ((Kd.R_reads' (HO_4.out)).2.2) KL79.out)))
     refine norm_ (a' := ?_) ?_ ?_
     rotate_left
     exact (by simp only [putAll, Act.put, List.setIfInBounds_toArray, List.set_cons_zero, List.set_cons_succ]; rfl)
     refine pu_ 15 (some 141) (bs "YYYYYYYYYYYYYYYYXXX") ?_
     refine pu_ 16 (some 142) (bs "YYYYYYYYYYYYYYYYYXX") ?_
     refine pu_ 17 (some 143) (bs "YYYYYYYYYYYYYYYYYYX") ?_
     refine pu_ 18 (some 2) (bs "YYYYYYYYYYYYYYYYYYY") ?_
     refine done_ (done_of HT_.out (by kernel_rfl)) ?_
     try go_wp2
     go_ret
     exact ⟨by first | rfl | (simp [errW_none, errW_some] <;> rfl) | (simp [*, errW_none, errW_some] <;> rfl), by repeat (first | (with_reducible first | exact HB.out | apply below_alloc | apply pw_below_drewN | apply below_drew1) | exact HB.out)⟩
     }
     {
     replace c75 := Bool.eq_false_iff.mpr c75
     subst c75
     rw [if_neg Bool.false_ne_true] at H
     by_cases c88 : (t616.length : Int) = 0
     {
     rw [if_pos c88] at H
     have c88b0 : ((t616.length : Int) == 0) = true := beq_iff_eq.mpr c88
     have c88b1 : ((t616.length : Int) != 0) = false := bne_eq_false_iff_eq.mpr c88
     clear c88
     obtain rfl := Option.some.inj H
     obtain ⟨Ao89, co89, eo89⟩ := Kd.R_slice HO_4.out
     subst eo89
     try go_wp2_with (first | ((with_reducible refine gate_callee (f := 51) rfl ?_); refine goesL_ (some 102) rfl rfl Try.func51 (by kernel_rfl) rfl #[.slice Ao89 t610.length co89] rfl z16c ?_; (with_reducible refine (impl_Unpacked.calls kj45 _ _ t610 t633 true _ ?side1 ?side2 A62.out).mono ?_); (case side1 => exact z16o); (case side2 => exact (Kd.R_reads' HO_4.out).2.1); rintro e w90 ⟨v635, rfl, ho0, hb⟩; refine ⟨_, rfl, ?_⟩; have n0_ := A_ (Kd.R_elder' z16d (Kd.R_base ho0) hb); have n1_ := A_ (Kd.R_below z16g hb); have n2_ := A_ (Kd.R_below z16h hb); have n3_ := A_ (Kd.R_elder' z16e (Kd.R_base ho0) hb); have n4_ := A_ (Kd.R_lower (Kd.R_new' (Kd.R_new' ho0 (Kd.R_lt z16d)) (Kd.R_lt z16e)) (below_size z16b)); have n5_ := A_ (below_step z16b hb); clear HO_3; clear HO_4; clear HO_5; clear HO_6; clear HB; have HO_3 := n0_; have HO_4 := n1_; have HO_5 := n2_; have HO_6 := n3_; have HO636 := n4_; have HB := n5_; clear n0_ n1_ n2_ n3_ n4_ n5_) | ((with_reducible refine gate_callee (f := 62) rfl ?_); refine goesL_ (some 110) rfl rfl Try.func62 (by kernel_rfl) rfl #[.slice A0 l0.length c0, .int .i64 1, .int .i64 (t610.length : Int)] rfl z16c ?_; (with_reducible refine (laws_pick.calls kj45 _ _ l0 1 (t610.length : Int) t637 _ ?side1 ?side2 A63.out).mono ?_); (case side1 => exact z16k); (case side2 => exact HC0.out); rintro e w' ⟨rfl, ⟨nd, rfl⟩⟩; refine ⟨_, rfl, ?_⟩; have q91 : (t637 : Int) ≤ ((t610.length : Int) : Int) := of_decide_eq_true z16p; obtain ⟨i091, hi091, _, hsz91, _⟩ := info_parts info5; have hroom91 : t610.length ≤ co89 := (Kd.R_reads' HO_4.out).2.1; have hC91 : Kd.C (Kd.int .u8) _ Ao89 t610.length t610 := (Kd.R_reads' HO_4.out).2.2; have hcut91 := cut_to (P := Try.prog) 22 5 .i64 Try.underlying22 hi091 Ao89 t610.length co89 t637 (of_decide_eq_true z16p) q91 hroom91; have hr91 := Kd.C_take (m := (t637 : Int).toNat) hC91 (by omega); have hy91 : y638.length = (t637 : Int).toNat := (by rw [Ny638.out, List.length_take]; omega); rw [← Ny638.out] at hr91; rw [← hy91] at hcut91; have HR641 := A_ hr91; have HC641 := A_ (show y638.length ≤ co89 from (by omega)); clear hr91 hC91 hroom91 hi091 hsz91; have KY91 := A_ hy91; clear hy91; have KL91 := A_ (show (t637 : Int).toNat ≤ t610.length from (by omega)); replace q91 := eq_true q91) | ((with_reducible refine gate_callee (f := 51) rfl ?_); refine goesL_ (some 112) rfl rfl Try.func51 (by kernel_rfl) rfl #[.slice Ao89 y638.length co89] rfl z16c ?_; (with_reducible refine (impl_Unpacked.calls kj45 _ _ y638 t642 false _ ?side1 ?side2 A66.out).mono ?_); (case side1 => repeat (first | exact z16f | (with_reducible refine Kd.C_alloc ?_ _) | (with_reducible refine Kd.C_drewN ?_ _) | (with_reducible refine Kd.C_drew ?_))); (case side2 => exact HC641.out); rintro e w92 ⟨v644, rfl, ho0, hb⟩; refine ⟨_, rfl, ?_⟩; have n0_ := A_ (Kd.R_elder' z16d (Kd.R_base ho0) hb); have n1_ := A_ (Kd.R_below z16g hb); have n2_ := A_ (Kd.R_below z16h hb); have n3_ := A_ (Kd.R_elder' z16e (Kd.R_base ho0) hb); have n4_ := A_ (Kd.R_elder' z16i (Kd.R_base ho0) hb); have n5_ := A_ (Kd.R_lower (Kd.R_new' (Kd.R_new' (Kd.R_new' ho0 (Kd.R_lt z16d)) (Kd.R_lt z16e)) (Kd.R_lt z16i)) (below_size z16b)); have n6_ := A_ (Kd.C_below z16f hb); have n7_ := A_ (below_step z16b hb); clear HO_3; clear HO_4; clear HO_5; clear HO_6; clear HO636; clear HR641; clear HB; have HO_3 := n0_; have HO_4 := n1_; have HO_5 := n2_; have HO_6 := n3_; have HO636 := n4_; have HO645 := n5_; have HR641 := n6_; have HB := n7_; clear n0_ n1_ n2_ n3_ n4_ n5_ n6_ n7_; obtain ⟨Ao93, co93, eo93⟩ := Kd.R_slice HO636.out; subst eo93) | (go_at_call 64; (with_reducible refine (laws_likeEntries.calls kj45 _ _ t633 _ _ t607 true _ ?side1 ?side2 ?side3 ?side4 A73.out).mono ?_); (case side1 => exact z16b1); (case side2 => exact (Kd.R_reads' HO636.out).2.1); (case side3 => exact z16c1); (case side4 => exact (Kd.R_reads' HO_3.out).2.1); rintro e w' ⟨rfl, ⟨nd, rfl⟩⟩))
     have n0_ : Aside0 (Kd.R k49 49 w92 w.heap.size (fun k_ => some k_ ≠ (v644 : Value).ownBlock ∧ some k_ ≠ (.slice Ao12 t607.length co12 : Value).ownBlock ∧ some k_ ≠ (v618 : Value).ownBlock) (.slice Ao93 t633.length co93) t633) := ⟨(by (with_reducible repeat (first | apply Kd.R_alloc | apply Kd.R_drewN | apply Kd.R_drew)); exact Kd.R_mono HO636.out (fun _ hk => ⟨hk.2, ⟨hk.1.1.2, hk.1.2⟩⟩))⟩
     have n1_ : Aside0 (Kd.R k49 49 w92 w.heap.size (fun k_ => some k_ ≠ (.slice Ao93 t633.length co93 : Value).ownBlock ∧ some k_ ≠ (.slice Ao12 t607.length co12 : Value).ownBlock ∧ some k_ ≠ (v618 : Value).ownBlock) v644 t642) := ⟨(by (with_reducible repeat (first | apply Kd.R_alloc | apply Kd.R_drewN | apply Kd.R_drew)); exact Kd.R_mono HO645.out (fun _ hk => ⟨hk.2, ⟨hk.1.1.2, hk.1.2⟩⟩))⟩
     have n2_ : Aside0 (Kd.R k49 49 w92 w.heap.size (fun k_ => some k_ ≠ (.slice Ao93 t633.length co93 : Value).ownBlock ∧ some k_ ≠ (v644 : Value).ownBlock ∧ some k_ ≠ (v618 : Value).ownBlock) (.slice Ao12 t607.length co12) t607) := ⟨(by (with_reducible repeat (first | apply Kd.R_alloc | apply Kd.R_drewN | apply Kd.R_drew)); exact Kd.R_mono HO_3.out (fun _ hk => ⟨hk.1.2, ⟨hk.2, hk.1.1⟩⟩))⟩
     have n3_ : Aside0 (Kd.R k49 49 w92 w.heap.size (fun k_ => some k_ ≠ (.slice Ao93 t633.length co93 : Value).ownBlock ∧ some k_ ≠ (v644 : Value).ownBlock ∧ some k_ ≠ (.slice Ao12 t607.length co12 : Value).ownBlock) v618 t616) := ⟨(by (with_reducible repeat (first | apply Kd.R_alloc | apply Kd.R_drewN | apply Kd.R_drew)); exact Kd.R_mono HO_6.out (fun _ hk => ⟨hk.1.2, ⟨hk.2, hk.1.1⟩⟩))⟩
     clear HO636 HO645 HO_3 HO_6
     have HO636 := n0_
     have HO645 := n1_
     have HO_3 := n2_
     have HO_6 := n3_
     clear n0_ n1_ n2_ n3_
     (try (rw [drewN_self w92]; generalize hq_ : World.drewN w92 _ = w92; have n0_ : Aside0 (Kd.R k49 49 w92 w.heap.size (fun k_ => some k_ ≠ (v644 : Value).ownBlock ∧ some k_ ≠ (.slice Ao12 t607.length co12 : Value).ownBlock ∧ some k_ ≠ (v618 : Value).ownBlock) (.slice Ao93 t633.length co93) t633) := ⟨by rw [← hq_]; exact z16i⟩; have n1_ : Aside0 (Kd.R k49 49 w92 w.heap.size (fun k_ => some k_ ≠ (.slice Ao93 t633.length co93 : Value).ownBlock ∧ some k_ ≠ (.slice Ao12 t607.length co12 : Value).ownBlock ∧ some k_ ≠ (v618 : Value).ownBlock) v644 t642) := ⟨by rw [← hq_]; exact z16q⟩; have n2_ : Aside0 (Kd.R k49 49 w92 w.heap.size (fun k_ => some k_ ≠ (.slice Ao93 t633.length co93 : Value).ownBlock ∧ some k_ ≠ (v644 : Value).ownBlock ∧ some k_ ≠ (v618 : Value).ownBlock) (.slice Ao12 t607.length co12) t607) := ⟨by rw [← hq_]; exact z16d⟩; have n3_ : Aside0 (Kd.R (Kd.int .u8) 5 w92 w.heap.size (fun k_ => some k_ ≠ (.slice Ao15 t613.length co15 : Value).ownBlock) (.slice Ao89 t610.length co89) t610) := ⟨by rw [← hq_]; exact z16g⟩; have n4_ : Aside0 (Kd.R (Kd.int .u8) 5 w92 w.heap.size (fun k_ => some k_ ≠ (.slice Ao89 t610.length co89 : Value).ownBlock) (.slice Ao15 t613.length co15) t613) := ⟨by rw [← hq_]; exact z16h⟩; have n5_ : Aside0 (Kd.R k49 49 w92 w.heap.size (fun k_ => some k_ ≠ (.slice Ao93 t633.length co93 : Value).ownBlock ∧ some k_ ≠ (v644 : Value).ownBlock ∧ some k_ ≠ (.slice Ao12 t607.length co12 : Value).ownBlock) v618 t616) := ⟨by rw [← hq_]; exact z16e⟩; have n6_ : Aside0 (Below w.heap.size w w92) := ⟨by rw [← hq_]; exact z16b⟩; have n7_ : Aside0 (Kd.C (Kd.int .u8) w92 Ao89 y638.length y638) := ⟨by rw [← hq_]; exact z16f⟩; clear HO636 HO645 HO_3 HO_4 HO_5 HO_6 HB HR641 hq_; have HO636 := n0_; have HO645 := n1_; have HO_3 := n2_; have HO_4 := n3_; have HO_5 := n4_; have HO_6 := n5_; have HB := n6_; have HR641 := n7_; clear n0_ n1_ n2_ n3_ n4_ n5_ n6_ n7_))
     replace HO_3 := A_ (Kd.R_drew HO_3.out)
     replace HO_4 := A_ (Kd.R_drew HO_4.out)
     replace HO_5 := A_ (Kd.R_drew HO_5.out)
     replace HO_6 := A_ (Kd.R_drew HO_6.out)
     replace HO636 := A_ (Kd.R_drew HO636.out)
     replace HO645 := A_ (Kd.R_drew HO645.out)
     replace HR641 := A_ (Kd.C_drew HR641.out)
     replace HB := A_ (below_drew1 HB.out)
     obtain ⟨Ao95, co95, eo95⟩ := Kd.R_slice HO_6.out
     (first | subst eo95 | (injection eo95 with f1_ f2_ f3_; have f4_ := f1_.symm; have f5_ := f3_.symm; clear f1_ f2_ f3_; subst f4_; subst f5_))
     refine start_ (n := 19) (S := fun w' => True) (ds := []) (bs "XXXXXXXXXXXXXXXXXXX") (by kernel_rfl) rfl rfl trivial (fun hHeld => ?_); refine with_tabW laws_FnPacked.tab19 laws_FnPacked.bits19 (fun HT_ HW_ => ?_)
     generalize w92.drew = w94 at HO_3 HO_4 HO_5 HO_6 HO636 HO645 HR641 HB hHeld ⊢
     refine pu_ 0 (some 126) (bs "YXXXXXXXXXXXXXXXXXX") ?_
     refine pu_ 1 (some 127) (bs "YYXXXXXXXXXXXXXXXXX") ?_
     refine pu_ 2 (some 128) (bs "YYYXXXXXXXXXXXXXXXX") ?_
     refine pu_ 3 (some 129) (bs "YYYYXXXXXXXXXXXXXXX") ?_
     refine pu_ 4 (some 130) (bs "YYYYYXXXXXXXXXXXXXX") ?_
     refine pu_ 5 (some 131) (bs "YYYYYYXXXXXXXXXXXXX") ?_
     refine pu_ 6 (some 132) (bs "YYYYYYYXXXXXXXXXXXX") ?_
     refine pu_ 7 (some 133) (bs "YYYYYYYYXXXXXXXXXXX") ?_
     refine pure_ (i := 8) (N := some 134) (v := undef) (a' := ?_) (bs "YYYYYYYYYXXXXXXXXXX") rfl rfl (any_of HT_.out (by kernel_rfl)) (fun _ _ _ h => h) (Or.inr ⟨by rfl, rfl⟩) ?_ ?_
     rotate_left
     exact z16a
     refine pure_ (i := 9) (N := some 135) (v := undef) (a' := ?_) (bs "YYYYYYYYYYXXXXXXXXX") rfl rfl (any_of HT_.out (by kernel_rfl)) (fun _ _ _ h => h) (Or.inr ⟨by rfl, rfl⟩) ?_ ?_
     rotate_left
     exact z16a
     refine pure_ (i := 10) (N := some 136) (v := undef) (a' := ?_) (bs "YYYYYYYYYYYXXXXXXXX") rfl rfl (any_of HT_.out (by kernel_rfl)) (fun _ _ _ h => h) (Or.inr ⟨by rfl, rfl⟩) ?_ ?_
     rotate_left
     exact z16a
     refine pure_ (i := 11) (N := some 137) (v := undef) (a' := ?_) (bs "YYYYYYYYYYYYXXXXXXX") rfl rfl (any_of HT_.out (by kernel_rfl)) (fun _ _ _ h => h) (Or.inr ⟨by rfl, rfl⟩) ?_ ?_
     rotate_left
     exact z16a
     refine pure_ (i := 12) (N := some 138) (v := undef) (a' := ?_) (bs "YYYYYYYYYYYYYXXXXXX") rfl rfl (any_of HT_.out (by kernel_rfl)) (fun _ _ _ h => h) (Or.inr ⟨by rfl, rfl⟩) ?_ ?_
     rotate_left
     exact z16a
     refine pure_ (i := 13) (N := some 139) (v := undef) (a' := ?_) (bs "YYYYYYYYYYYYYYXXXXX") rfl rfl (any_of HT_.out (by kernel_rfl)) (fun _ _ _ h => h) (Or.inr ⟨by rfl, rfl⟩) ?_ ?_
     rotate_left
     exact z16a
     refine pure_ (i := 14) (N := some 140) (v := undef) (a' := ?_) (bs "YYYYYYYYYYYYYYYXXXX") rfl rfl (any_of HT_.out (by kernel_rfl)) (fun _ _ _ h => h) (Or.inr ⟨by rfl, rfl⟩) ?_ ?_
     rotate_left
     exact z16a
     refine pure_ (i := 15) (N := some 141) (v := undef) (a' := ?_) (bs "YYYYYYYYYYYYYYYYXXX") rfl rfl (any_of HT_.out (by kernel_rfl)) (fun _ _ _ h => h) (Or.inr ⟨by rfl, rfl⟩) ?_ ?_
     rotate_left
     exact z16a
     refine pure_ (i := 16) (N := some 142) (v := undef) (a' := ?_) (bs "YYYYYYYYYYYYYYYYYXX") rfl rfl (any_of HT_.out (by kernel_rfl)) (fun _ _ _ h => h) (Or.inr ⟨by rfl, rfl⟩) ?_ ?_
     rotate_left
     exact z16a
     refine pu_ 17 (some 143) (bs "YYYYYYYYYYYYYYYYYYX") ?_
     refine pu_ 18 (some 2) (bs "YYYYYYYYYYYYYYYYYYY") ?_
     refine done_ (done_of HT_.out (by kernel_rfl)) ?_
     try go_wp2
     go_ret
     exact ⟨by first | rfl | (simp [errW_none, errW_some] <;> rfl) | (simp [*, errW_none, errW_some] <;> rfl), by repeat (first | (with_reducible first | exact HB.out | apply below_alloc | apply pw_below_drewN | apply below_drew1) | exact HB.out)⟩
     }
     {
     rw [if_neg c88] at H
     have c88b0 : ((t616.length : Int) == 0) = false := beq_eq_false_iff_ne.mpr c88
     have c88b1 : ((t616.length : Int) != 0) = true := bne_iff_ne.mpr c88
     have c88b2 : ¬ (t616 = []) := fun h_ => c88 (by rw [h_]; rfl)
     obtain rfl := Option.some.inj H
     obtain ⟨Ao96, co96, eo96⟩ := Kd.R_slice HO_4.out
     subst eo96
     try go_wp2_with (first | ((with_reducible refine gate_callee (f := 51) rfl ?_); refine goesL_ (some 102) rfl rfl Try.func51 (by kernel_rfl) rfl #[.slice Ao96 t610.length co96] rfl z16c ?_; (with_reducible refine (impl_Unpacked.calls kj45 _ _ t610 t633 true _ ?side1 ?side2 A62.out).mono ?_); (case side1 => exact z16o); (case side2 => exact (Kd.R_reads' HO_4.out).2.1); rintro e w97 ⟨v635, rfl, ho0, hb⟩; refine ⟨_, rfl, ?_⟩; have n0_ := A_ (Kd.R_elder' z16d (Kd.R_base ho0) hb); have n1_ := A_ (Kd.R_below z16g hb); have n2_ := A_ (Kd.R_below z16h hb); have n3_ := A_ (Kd.R_elder' z16e (Kd.R_base ho0) hb); have n4_ := A_ (Kd.R_lower (Kd.R_new' (Kd.R_new' ho0 (Kd.R_lt z16d)) (Kd.R_lt z16e)) (below_size z16b)); have n5_ := A_ (below_step z16b hb); clear HO_3; clear HO_4; clear HO_5; clear HO_6; clear HB; have HO_3 := n0_; have HO_4 := n1_; have HO_5 := n2_; have HO_6 := n3_; have HO636 := n4_; have HB := n5_; clear n0_ n1_ n2_ n3_ n4_ n5_) | ((with_reducible refine gate_callee (f := 62) rfl ?_); refine goesL_ (some 110) rfl rfl Try.func62 (by kernel_rfl) rfl #[.slice A0 l0.length c0, .int .i64 1, .int .i64 (t610.length : Int)] rfl z16c ?_; (with_reducible refine (laws_pick.calls kj45 _ _ l0 1 (t610.length : Int) t637 _ ?side1 ?side2 A63.out).mono ?_); (case side1 => exact z16k); (case side2 => exact HC0.out); rintro e w' ⟨rfl, ⟨nd, rfl⟩⟩; refine ⟨_, rfl, ?_⟩; have q98 : (t637 : Int) ≤ ((t610.length : Int) : Int) := of_decide_eq_true z16p; obtain ⟨i098, hi098, _, hsz98, _⟩ := info_parts info5; have hroom98 : t610.length ≤ co96 := (Kd.R_reads' HO_4.out).2.1; have hC98 : Kd.C (Kd.int .u8) _ Ao96 t610.length t610 := (Kd.R_reads' HO_4.out).2.2; have hcut98 := cut_to (P := Try.prog) 22 5 .i64 Try.underlying22 hi098 Ao96 t610.length co96 t637 (of_decide_eq_true z16p) q98 hroom98; have hr98 := Kd.C_take (m := (t637 : Int).toNat) hC98 (by omega); have hy98 : y638.length = (t637 : Int).toNat := (by rw [Ny638.out, List.length_take]; omega); rw [← Ny638.out] at hr98; rw [← hy98] at hcut98; have HR641 := A_ hr98; have HC641 := A_ (show y638.length ≤ co96 from (by omega)); clear hr98 hC98 hroom98 hi098 hsz98; have KY98 := A_ hy98; clear hy98; have KL98 := A_ (show (t637 : Int).toNat ≤ t610.length from (by omega)); replace q98 := eq_true q98) | ((with_reducible refine gate_callee (f := 51) rfl ?_); refine goesL_ (some 112) rfl rfl Try.func51 (by kernel_rfl) rfl #[.slice Ao96 y638.length co96] rfl z16c ?_; (with_reducible refine (impl_Unpacked.calls kj45 _ _ y638 t642 false _ ?side1 ?side2 A66.out).mono ?_); (case side1 => repeat (first | exact z16f | (with_reducible refine Kd.C_alloc ?_ _) | (with_reducible refine Kd.C_drewN ?_ _) | (with_reducible refine Kd.C_drew ?_))); (case side2 => exact HC641.out); rintro e w99 ⟨v644, rfl, ho0, hb⟩; refine ⟨_, rfl, ?_⟩; have n0_ := A_ (Kd.R_elder' z16d (Kd.R_base ho0) hb); have n1_ := A_ (Kd.R_below z16g hb); have n2_ := A_ (Kd.R_below z16h hb); have n3_ := A_ (Kd.R_elder' z16e (Kd.R_base ho0) hb); have n4_ := A_ (Kd.R_elder' z16i (Kd.R_base ho0) hb); have n5_ := A_ (Kd.R_lower (Kd.R_new' (Kd.R_new' (Kd.R_new' ho0 (Kd.R_lt z16d)) (Kd.R_lt z16e)) (Kd.R_lt z16i)) (below_size z16b)); have n6_ := A_ (Kd.C_below z16f hb); have n7_ := A_ (below_step z16b hb); clear HO_3; clear HO_4; clear HO_5; clear HO_6; clear HO636; clear HR641; clear HB; have HO_3 := n0_; have HO_4 := n1_; have HO_5 := n2_; have HO_6 := n3_; have HO636 := n4_; have HO645 := n5_; have HR641 := n6_; have HB := n7_; clear n0_ n1_ n2_ n3_ n4_ n5_ n6_ n7_; obtain ⟨Ao100, co100, eo100⟩ := Kd.R_slice HO636.out; subst eo100) | (go_at_call 64; (with_reducible refine (laws_likeEntries.calls kj45 _ _ t633 _ _ t607 true _ ?side1 ?side2 ?side3 ?side4 A73.out).mono ?_); (case side1 => exact z16b1); (case side2 => exact (Kd.R_reads' HO636.out).2.1); (case side3 => exact z16c1); (case side4 => exact (Kd.R_reads' HO_3.out).2.1); rintro e w' ⟨rfl, ⟨nd, rfl⟩⟩))
     have n0_ : Aside0 (Kd.R k49 49 w99 w.heap.size (fun k_ => some k_ ≠ (v644 : Value).ownBlock ∧ some k_ ≠ (.slice Ao12 t607.length co12 : Value).ownBlock ∧ some k_ ≠ (v618 : Value).ownBlock) (.slice Ao100 t633.length co100) t633) := ⟨(by (with_reducible repeat (first | apply Kd.R_alloc | apply Kd.R_drewN | apply Kd.R_drew)); exact Kd.R_mono HO636.out (fun _ hk => ⟨hk.2, ⟨hk.1.1.2, hk.1.2⟩⟩))⟩
     have n1_ : Aside0 (Kd.R k49 49 w99 w.heap.size (fun k_ => some k_ ≠ (.slice Ao100 t633.length co100 : Value).ownBlock ∧ some k_ ≠ (.slice Ao12 t607.length co12 : Value).ownBlock ∧ some k_ ≠ (v618 : Value).ownBlock) v644 t642) := ⟨(by (with_reducible repeat (first | apply Kd.R_alloc | apply Kd.R_drewN | apply Kd.R_drew)); exact Kd.R_mono HO645.out (fun _ hk => ⟨hk.2, ⟨hk.1.1.2, hk.1.2⟩⟩))⟩
     have n2_ : Aside0 (Kd.R k49 49 w99 w.heap.size (fun k_ => some k_ ≠ (.slice Ao100 t633.length co100 : Value).ownBlock ∧ some k_ ≠ (v644 : Value).ownBlock ∧ some k_ ≠ (v618 : Value).ownBlock) (.slice Ao12 t607.length co12) t607) := ⟨(by (with_reducible repeat (first | apply Kd.R_alloc | apply Kd.R_drewN | apply Kd.R_drew)); exact Kd.R_mono HO_3.out (fun _ hk => ⟨hk.1.2, ⟨hk.2, hk.1.1⟩⟩))⟩
     have n3_ : Aside0 (Kd.R k49 49 w99 w.heap.size (fun k_ => some k_ ≠ (.slice Ao100 t633.length co100 : Value).ownBlock ∧ some k_ ≠ (v644 : Value).ownBlock ∧ some k_ ≠ (.slice Ao12 t607.length co12 : Value).ownBlock) v618 t616) := ⟨(by (with_reducible repeat (first | apply Kd.R_alloc | apply Kd.R_drewN | apply Kd.R_drew)); exact Kd.R_mono HO_6.out (fun _ hk => ⟨hk.1.2, ⟨hk.2, hk.1.1⟩⟩))⟩
     clear HO636 HO645 HO_3 HO_6
     have HO636 := n0_
     have HO645 := n1_
     have HO_3 := n2_
     have HO_6 := n3_
     clear n0_ n1_ n2_ n3_
     (try (rw [drewN_self w99]; generalize hq_ : World.drewN w99 _ = w99; have n0_ : Aside0 (Kd.R k49 49 w99 w.heap.size (fun k_ => some k_ ≠ (v644 : Value).ownBlock ∧ some k_ ≠ (.slice Ao12 t607.length co12 : Value).ownBlock ∧ some k_ ≠ (v618 : Value).ownBlock) (.slice Ao100 t633.length co100) t633) := ⟨by rw [← hq_]; exact z16i⟩; have n1_ : Aside0 (Kd.R k49 49 w99 w.heap.size (fun k_ => some k_ ≠ (.slice Ao100 t633.length co100 : Value).ownBlock ∧ some k_ ≠ (.slice Ao12 t607.length co12 : Value).ownBlock ∧ some k_ ≠ (v618 : Value).ownBlock) v644 t642) := ⟨by rw [← hq_]; exact z16q⟩; have n2_ : Aside0 (Kd.R k49 49 w99 w.heap.size (fun k_ => some k_ ≠ (.slice Ao100 t633.length co100 : Value).ownBlock ∧ some k_ ≠ (v644 : Value).ownBlock ∧ some k_ ≠ (v618 : Value).ownBlock) (.slice Ao12 t607.length co12) t607) := ⟨by rw [← hq_]; exact z16d⟩; have n3_ : Aside0 (Kd.R (Kd.int .u8) 5 w99 w.heap.size (fun k_ => some k_ ≠ (.slice Ao15 t613.length co15 : Value).ownBlock) (.slice Ao96 t610.length co96) t610) := ⟨by rw [← hq_]; exact z16g⟩; have n4_ : Aside0 (Kd.R (Kd.int .u8) 5 w99 w.heap.size (fun k_ => some k_ ≠ (.slice Ao96 t610.length co96 : Value).ownBlock) (.slice Ao15 t613.length co15) t613) := ⟨by rw [← hq_]; exact z16h⟩; have n5_ : Aside0 (Kd.R k49 49 w99 w.heap.size (fun k_ => some k_ ≠ (.slice Ao100 t633.length co100 : Value).ownBlock ∧ some k_ ≠ (v644 : Value).ownBlock ∧ some k_ ≠ (.slice Ao12 t607.length co12 : Value).ownBlock) v618 t616) := ⟨by rw [← hq_]; exact z16e⟩; have n6_ : Aside0 (Below w.heap.size w w99) := ⟨by rw [← hq_]; exact z16b⟩; have n7_ : Aside0 (Kd.C (Kd.int .u8) w99 Ao96 y638.length y638) := ⟨by rw [← hq_]; exact z16f⟩; clear HO636 HO645 HO_3 HO_4 HO_5 HO_6 HB HR641 hq_; have HO636 := n0_; have HO645 := n1_; have HO_3 := n2_; have HO_4 := n3_; have HO_5 := n4_; have HO_6 := n5_; have HB := n6_; have HR641 := n7_; clear n0_ n1_ n2_ n3_ n4_ n5_ n6_ n7_))
     replace HO_3 := A_ (Kd.R_drew HO_3.out)
     replace HO_4 := A_ (Kd.R_drew HO_4.out)
     replace HO_5 := A_ (Kd.R_drew HO_5.out)
     replace HO_6 := A_ (Kd.R_drew HO_6.out)
     replace HO636 := A_ (Kd.R_drew HO636.out)
     replace HO645 := A_ (Kd.R_drew HO645.out)
     replace HR641 := A_ (Kd.C_drew HR641.out)
     replace HB := A_ (below_drew1 HB.out)
     obtain ⟨Ao102, co102, eo102⟩ := Kd.R_slice HO_6.out
     (first | subst eo102 | (injection eo102 with f1_ f2_ f3_; have f4_ := f1_.symm; have f5_ := f3_.symm; clear f1_ f2_ f3_; subst f4_; subst f5_))
     refine start_ (n := 19) (S := fun w' => True) (ds := []) (bs "XXXXXXXXXXXXXXXXXXX") (by kernel_rfl) rfl rfl trivial (fun hHeld => ?_); refine with_tabW laws_FnPacked.tab19 laws_FnPacked.bits19 (fun HT_ HW_ => ?_)
     generalize w99.drew = w101 at HO_3 HO_4 HO_5 HO_6 HO636 HO645 HR641 HB hHeld ⊢
     refine pu_ 0 (some 126) (bs "YXXXXXXXXXXXXXXXXXX") ?_
     refine pu_ 1 (some 127) (bs "YYXXXXXXXXXXXXXXXXX") ?_
     refine pu_ 2 (some 128) (bs "YYYXXXXXXXXXXXXXXXX") ?_
     refine pu_ 3 (some 129) (bs "YYYYXXXXXXXXXXXXXXX") ?_
     refine pu_ 4 (some 130) (bs "YYYYYXXXXXXXXXXXXXX") ?_
     refine pu_ 5 (some 131) (bs "YYYYYYXXXXXXXXXXXXX") ?_
     refine pu_ 6 (some 132) (bs "YYYYYYYXXXXXXXXXXXX") ?_
     refine pu_ 7 (some 133) (bs "YYYYYYYYXXXXXXXXXXX") ?_
     refine pu_ 8 (some 134) (bs "YYYYYYYYYXXXXXXXXXX") ?_
     refine pu_ 9 (some 135) (bs "YYYYYYYYYYXXXXXXXXX") ?_
     refine pure_ (i := 10) (N := some 136) (v := undef) (a' := ?_) (bs "YYYYYYYYYYYXXXXXXXX") rfl rfl (any_of HT_.out (by kernel_rfl)) (fun _ _ _ h => h) (Or.inr ⟨by rfl, rfl⟩) ?_ ?_
     rotate_left
     exact z16a
     refine pure_ (i := 11) (N := some 137) (v := undef) (a' := ?_) (bs "YYYYYYYYYYYYXXXXXXX") rfl rfl (any_of HT_.out (by kernel_rfl)) (fun _ _ _ h => h) (Or.inr ⟨by rfl, rfl⟩) ?_ ?_
     rotate_left
     exact z16a
     refine pure_ (i := 12) (N := some 138) (v := undef) (a' := ?_) (bs "YYYYYYYYYYYYYXXXXXX") rfl rfl (any_of HT_.out (by kernel_rfl)) (fun _ _ _ h => h) (Or.inr ⟨by rfl, rfl⟩) ?_ ?_
     rotate_left
     exact z16a
     refine pure_ (i := 13) (N := some 139) (v := undef) (a' := ?_) (bs "YYYYYYYYYYYYYYXXXXX") rfl rfl (any_of HT_.out (by kernel_rfl)) (fun _ _ _ h => h) (Or.inr ⟨by rfl, rfl⟩) ?_ ?_
     rotate_left
     exact z16a
     refine pure_ (i := 14) (N := some 140) (v := undef) (a' := ?_) (bs "YYYYYYYYYYYYYYYXXXX") rfl rfl (any_of HT_.out (by kernel_rfl)) (fun _ _ _ h => h) (Or.inr ⟨by rfl, rfl⟩) ?_ ?_
     rotate_left
     exact z16a
     refine pure_ (i := 15) (N := some 141) (v := undef) (a' := ?_) (bs "YYYYYYYYYYYYYYYYXXX") rfl rfl (any_of HT_.out (by kernel_rfl)) (fun _ _ _ h => h) (Or.inr ⟨by rfl, rfl⟩) ?_ ?_
     rotate_left
     exact z16a
     refine pu_ 16 (some 142) (bs "YYYYYYYYYYYYYYYYYXX") ?_
     refine pu_ 17 (some 143) (bs "YYYYYYYYYYYYYYYYYYX") ?_
     refine pu_ 18 (some 2) (bs "YYYYYYYYYYYYYYYYYYY") ?_
     refine done_ (done_of HT_.out (by kernel_rfl)) ?_
     try go_wp2
     go_ret
     exact ⟨by first | rfl | (simp [errW_none, errW_some] <;> rfl) | (simp [*, errW_none, errW_some] <;> rfl), by repeat (first | (with_reducible first | exact HB.out | apply below_alloc | apply pw_below_drewN | apply below_drew1) | exact HB.out)⟩
     }
     }
     }
     {
     replace c74 := Bool.eq_false_iff.mpr c74
     subst c74
     rw [if_neg Bool.false_ne_true] at H
     obtain rfl := Option.some.inj H
     obtain ⟨Ao103, co103, eo103⟩ := Kd.R_slice HO_4.out
     subst eo103
     go_wp2_with (first | ((with_reducible refine gate_callee (f := 51) rfl ?_); refine goesL_ (some 102) rfl rfl Try.func51 (by kernel_rfl) rfl #[.slice Ao103 t610.length co103] rfl z16c ?_; (with_reducible refine (impl_Unpacked.calls kj45 _ _ t610 t633 true _ ?side1 ?side2 A62.out).mono ?_); (case side1 => exact z16o); (case side2 => exact (Kd.R_reads' HO_4.out).2.1); rintro e w104 ⟨v635, rfl, ho0, hb⟩; refine ⟨_, rfl, ?_⟩; have n0_ := A_ (Kd.R_elder' z16d (Kd.R_base ho0) hb); have n1_ := A_ (Kd.R_below z16g hb); have n2_ := A_ (Kd.R_below z16h hb); have n3_ := A_ (Kd.R_elder' z16e (Kd.R_base ho0) hb); have n4_ := A_ (Kd.R_lower (Kd.R_new' (Kd.R_new' ho0 (Kd.R_lt z16d)) (Kd.R_lt z16e)) (below_size z16b)); have n5_ := A_ (below_step z16b hb); clear HO_3; clear HO_4; clear HO_5; clear HO_6; clear HB; have HO_3 := n0_; have HO_4 := n1_; have HO_5 := n2_; have HO_6 := n3_; have HO636 := n4_; have HB := n5_; clear n0_ n1_ n2_ n3_ n4_ n5_) | ((with_reducible refine gate_callee (f := 62) rfl ?_); refine goesL_ (some 110) rfl rfl Try.func62 (by kernel_rfl) rfl #[.slice A0 l0.length c0, .int .i64 1, .int .i64 (t610.length : Int)] rfl z16c ?_; (with_reducible refine (laws_pick.calls kj45 _ _ l0 1 (t610.length : Int) t637 _ ?side1 ?side2 A63.out).mono ?_); (case side1 => exact z16k); (case side2 => exact HC0.out); rintro e w' ⟨rfl, ⟨nd, rfl⟩⟩; refine ⟨_, rfl, ?_⟩; have q105 : (t637 : Int) ≤ ((t610.length : Int) : Int) := of_decide_eq_true z16p; obtain ⟨i0105, hi0105, _, hsz105, _⟩ := info_parts info5; have hroom105 : t610.length ≤ co103 := (Kd.R_reads' HO_4.out).2.1; have hC105 : Kd.C (Kd.int .u8) _ Ao103 t610.length t610 := (Kd.R_reads' HO_4.out).2.2; have hcut105 := cut_to (P := Try.prog) 22 5 .i64 Try.underlying22 hi0105 Ao103 t610.length co103 t637 (of_decide_eq_true z16p) q105 hroom105; have hr105 := Kd.C_take (m := (t637 : Int).toNat) hC105 (by omega); have hy105 : y638.length = (t637 : Int).toNat := (by rw [Ny638.out, List.length_take]; omega); rw [← Ny638.out] at hr105; rw [← hy105] at hcut105; have HR641 := A_ hr105; have HC641 := A_ (show y638.length ≤ co103 from (by omega)); clear hr105 hC105 hroom105 hi0105 hsz105; have KY105 := A_ hy105; clear hy105; have KL105 := A_ (show (t637 : Int).toNat ≤ t610.length from (by omega)); replace q105 := eq_true q105) | ((with_reducible refine gate_callee (f := 51) rfl ?_); refine goesL_ (some 112) rfl rfl Try.func51 (by kernel_rfl) rfl #[.slice Ao103 y638.length co103] rfl z16c ?_; (with_reducible refine (impl_Unpacked.calls kj45 _ _ y638 t642 false _ ?side1 ?side2 A66.out).mono ?_); (case side1 => repeat (first | exact z16f | (with_reducible refine Kd.C_alloc ?_ _) | (with_reducible refine Kd.C_drewN ?_ _) | (with_reducible refine Kd.C_drew ?_))); (case side2 => exact HC641.out); rintro e w106 ⟨v644, rfl, ho0, hb⟩; refine ⟨_, rfl, ?_⟩; have n0_ := A_ (Kd.R_elder' z16d (Kd.R_base ho0) hb); have n1_ := A_ (Kd.R_below z16g hb); have n2_ := A_ (Kd.R_below z16h hb); have n3_ := A_ (Kd.R_elder' z16e (Kd.R_base ho0) hb); have n4_ := A_ (Kd.R_elder' z16i (Kd.R_base ho0) hb); have n5_ := A_ (Kd.R_lower (Kd.R_new' (Kd.R_new' (Kd.R_new' ho0 (Kd.R_lt z16d)) (Kd.R_lt z16e)) (Kd.R_lt z16i)) (below_size z16b)); have n6_ := A_ (Kd.C_below z16f hb); have n7_ := A_ (below_step z16b hb); clear HO_3; clear HO_4; clear HO_5; clear HO_6; clear HO636; clear HR641; clear HB; have HO_3 := n0_; have HO_4 := n1_; have HO_5 := n2_; have HO_6 := n3_; have HO636 := n4_; have HO645 := n5_; have HR641 := n6_; have HB := n7_; clear n0_ n1_ n2_ n3_ n4_ n5_ n6_ n7_; obtain ⟨Ao107, co107, eo107⟩ := Kd.R_slice HO636.out; subst eo107) | (go_at_call 64; (with_reducible refine (laws_likeEntries.calls kj45 _ _ t633 _ _ t607 false _ ?side1 ?side2 ?side3 ?side4 A73.out).mono ?_); (case side1 => exact z16b1); (case side2 => exact (Kd.R_reads' HO636.out).2.1); (case side3 => exact z16c1); (case side4 => exact (Kd.R_reads' HO_3.out).2.1); rintro e w' ⟨rfl, ⟨nd, rfl⟩⟩))
     go_ret
     exact ⟨by first | rfl | (simp [errW_none, errW_some] <;> rfl) | (simp [*, errW_none, errW_some] <;> rfl), by repeat (first | (with_reducible first | exact HB.out | apply below_alloc | apply pw_below_drewN | apply below_drew1) | exact HB.out)⟩
     }
     }
     }
     {
     replace c67 := Bool.eq_false_iff.mpr c67
     subst c67
     rw [if_neg Bool.false_ne_true] at H
     obtain rfl := Option.some.inj H
     obtain ⟨Ao108, co108, eo108⟩ := Kd.R_slice HO_4.out
     subst eo108
     go_wp2_with (first | ((with_reducible refine gate_callee (f := 51) rfl ?_); refine goesL_ (some 102) rfl rfl Try.func51 (by kernel_rfl) rfl #[.slice Ao108 t610.length co108] rfl z16c ?_; (with_reducible refine (impl_Unpacked.calls kj45 _ _ t610 t633 false _ ?side1 ?side2 A62.out).mono ?_); (case side1 => exact z16o); (case side2 => exact (Kd.R_reads' HO_4.out).2.1); rintro e w109 ⟨v635, rfl, ho0, hb⟩; refine ⟨_, rfl, ?_⟩; have n0_ := A_ (Kd.R_elder' z16d (Kd.R_base ho0) hb); have n1_ := A_ (Kd.R_below z16g hb); have n2_ := A_ (Kd.R_below z16h hb); have n3_ := A_ (Kd.R_elder' z16e (Kd.R_base ho0) hb); have n4_ := A_ (Kd.R_lower (Kd.R_new' (Kd.R_new' ho0 (Kd.R_lt z16d)) (Kd.R_lt z16e)) (below_size z16b)); have n5_ := A_ (below_step z16b hb); clear HO_3; clear HO_4; clear HO_5; clear HO_6; clear HB; have HO_3 := n0_; have HO_4 := n1_; have HO_5 := n2_; have HO_6 := n3_; have HO636 := n4_; have HB := n5_; clear n0_ n1_ n2_ n3_ n4_ n5_) | ((with_reducible refine gate_callee (f := 62) rfl ?_); refine goesL_ (some 110) rfl rfl Try.func62 (by kernel_rfl) rfl #[.slice A0 l0.length c0, .int .i64 1, .int .i64 (t610.length : Int)] rfl z16c ?_; (with_reducible refine (laws_pick.calls kj45 _ _ l0 1 (t610.length : Int) t637 _ ?side1 ?side2 A63.out).mono ?_); (case side1 => exact z16k); (case side2 => exact HC0.out); rintro e w' ⟨rfl, ⟨nd, rfl⟩⟩; refine ⟨_, rfl, ?_⟩; have q110 : (t637 : Int) ≤ ((t610.length : Int) : Int) := of_decide_eq_true z16p; obtain ⟨i0110, hi0110, _, hsz110, _⟩ := info_parts info5; have hroom110 : t610.length ≤ co108 := (Kd.R_reads' HO_4.out).2.1; have hC110 : Kd.C (Kd.int .u8) _ Ao108 t610.length t610 := (Kd.R_reads' HO_4.out).2.2; have hcut110 := cut_to (P := Try.prog) 22 5 .i64 Try.underlying22 hi0110 Ao108 t610.length co108 t637 (of_decide_eq_true z16p) q110 hroom110; have hr110 := Kd.C_take (m := (t637 : Int).toNat) hC110 (by omega); have hy110 : y638.length = (t637 : Int).toNat := (by rw [Ny638.out, List.length_take]; omega); rw [← Ny638.out] at hr110; rw [← hy110] at hcut110; have HR641 := A_ hr110; have HC641 := A_ (show y638.length ≤ co108 from (by omega)); clear hr110 hC110 hroom110 hi0110 hsz110; have KY110 := A_ hy110; clear hy110; have KL110 := A_ (show (t637 : Int).toNat ≤ t610.length from (by omega)); replace q110 := eq_true q110) | ((with_reducible refine gate_callee (f := 51) rfl ?_); refine goesL_ (some 112) rfl rfl Try.func51 (by kernel_rfl) rfl #[.slice Ao108 y638.length co108] rfl z16c ?_; (with_reducible refine (impl_Unpacked.calls kj45 _ _ y638 t642 t643 _ ?side1 ?side2 A66.out).mono ?_); (case side1 => repeat (first | exact z16f | (with_reducible refine Kd.C_alloc ?_ _) | (with_reducible refine Kd.C_drewN ?_ _) | (with_reducible refine Kd.C_drew ?_))); (case side2 => exact HC641.out); rintro e w111 ⟨v644, rfl, ho0, hb⟩; refine ⟨_, rfl, ?_⟩; have n0_ := A_ (Kd.R_elder' z16d (Kd.R_base ho0) hb); have n1_ := A_ (Kd.R_below z16g hb); have n2_ := A_ (Kd.R_below z16h hb); have n3_ := A_ (Kd.R_elder' z16e (Kd.R_base ho0) hb); have n4_ := A_ (Kd.R_elder' z16i (Kd.R_base ho0) hb); have n5_ := A_ (Kd.R_lower (Kd.R_new' (Kd.R_new' (Kd.R_new' ho0 (Kd.R_lt z16d)) (Kd.R_lt z16e)) (Kd.R_lt z16i)) (below_size z16b)); have n6_ := A_ (Kd.C_below z16f hb); have n7_ := A_ (below_step z16b hb); clear HO_3; clear HO_4; clear HO_5; clear HO_6; clear HO636; clear HR641; clear HB; have HO_3 := n0_; have HO_4 := n1_; have HO_5 := n2_; have HO_6 := n3_; have HO636 := n4_; have HO645 := n5_; have HR641 := n6_; have HB := n7_; clear n0_ n1_ n2_ n3_ n4_ n5_ n6_ n7_))
     go_ret
     exact ⟨by first | rfl | (simp [errW_none, errW_some] <;> rfl) | (simp [*, errW_none, errW_some] <;> rfl), by repeat (first | (with_reducible first | exact HB.out | apply below_alloc | apply pw_below_drewN | apply below_drew1) | exact HB.out)⟩
     }
     }
     {
     rw [if_neg c65] at H
     exact absurd H (by simp)
     }
     }
     {
     rw [if_neg c64] at H
     exact absurd H (by simp)
     }
     }
     {
     rw [if_neg c61] at H
     have c61b0 : decide (0 < (t610.length : Int)) = false := decide_eq_false c61
     have c61b1 : decide (0 < t610.length) = false := decide_eq_false (by omega)
     clear c61
     by_cases c112 : t617 = true
     {
     subst c112
     rw [if_pos rfl] at H
     replace H := Option.bind_eq_some_iff.mp H
     obtain ⟨t650, A1130, H⟩ := H
     (try dsimp only at H)
     have A113 := A_ A1130
     clear A1130
     obtain rfl := Option.some.inj H
     obtain ⟨Ao114, co114, eo114⟩ := Kd.R_slice HO_4.out
     subst eo114
     obtain ⟨Ao115, co115, eo115⟩ := Kd.R_slice HO_6.out
     subst eo115
     try go_wp2
     replace HO_3 := A_ (Kd.R_drew HO_3.out)
     replace HO_4 := A_ (Kd.R_drew HO_4.out)
     replace HO_5 := A_ (Kd.R_drew HO_5.out)
     replace HO_6 := A_ (Kd.R_drew HO_6.out)
     replace HB := A_ (below_drew1 HB.out)
     refine start_ (n := 19) (S := fun w' => True) (ds := []) (bs "XXXXXXXXXXXXXXXXXXX") (by kernel_rfl) rfl rfl trivial (fun hHeld => ?_); refine with_tabW laws_FnPacked.tab19 laws_FnPacked.bits19 (fun HT_ HW_ => ?_)
     generalize wc.drew = w116 at HO_3 HO_4 HO_5 HO_6 HB hHeld ⊢
     refine pu_ 0 (some 126) (bs "YXXXXXXXXXXXXXXXXXX") ?_
     refine pu_ 1 (some 127) (bs "YYXXXXXXXXXXXXXXXXX") ?_
     refine pu_ 2 (some 128) (bs "YYYXXXXXXXXXXXXXXXX") ?_
     refine pure_ (i := 3) (N := some 129) (v := undef) (a' := ?_) (bs "YYYYXXXXXXXXXXXXXXX") rfl rfl (any_of HT_.out (by kernel_rfl)) (fun _ _ _ h => h) (Or.inr ⟨by rfl, rfl⟩) ?_ ?_
     rotate_left
     exact z16a
     refine pure_ (i := 4) (N := some 130) (v := undef) (a' := ?_) (bs "YYYYYXXXXXXXXXXXXXX") rfl rfl (any_of HT_.out (by kernel_rfl)) (fun _ _ _ h => h) (Or.inr ⟨by rfl, rfl⟩) ?_ ?_
     rotate_left
     exact z16a
     refine pure_ (i := 5) (N := some 131) (v := undef) (a' := ?_) (bs "YYYYYYXXXXXXXXXXXXX") rfl rfl (any_of HT_.out (by kernel_rfl)) (fun _ _ _ h => h) (Or.inr ⟨by rfl, rfl⟩) ?_ ?_
     rotate_left
     exact z16a
     refine pu_ 6 (some 132) (bs "YYYYYYYXXXXXXXXXXXX") ?_
     refine pu_ 7 (some 133) (bs "YYYYYYYYXXXXXXXXXXX") ?_
     refine pu_ 8 (some 134) (bs "YYYYYYYYYXXXXXXXXXX") ?_
     refine pu_ 9 (some 135) (bs "YYYYYYYYYYXXXXXXXXX") ?_
     refine pu_ 10 (some 136) (bs "YYYYYYYYYYYXXXXXXXX") ?_
     refine pu_ 13 (some 139) (bs "YYYYYYYYYYYXXYXXXXX") ?_
     refine join_ (σ := Value) 4 (bs "YYYYYYYYYYYYYYYXXXX") (fun s_ => [(137, s_), (138, .string (strOfNums t650)), (140, .string (strOfNums t613))]) (fun s_ w' => (Kd.R (Kd.int .u8) 5 w' w.heap.size (fun k_ => some k_ ≠ (.slice Ao114 t610.length co114 : Value).ownBlock ∧ some k_ ≠ (.slice Ao15 t613.length co15 : Value).ownBlock) s_ t650) ∧ (Kd.R k49 49 w' w.heap.size (fun k_ => some k_ ≠ (.slice Ao115 t616.length co115 : Value).ownBlock) (.slice Ao12 t607.length co12) t607) ∧ (Kd.R (Kd.int .u8) 5 w' w.heap.size (fun k_ => some k_ ≠ (s_ : Value).ownBlock ∧ some k_ ≠ (.slice Ao15 t613.length co15 : Value).ownBlock) (.slice Ao114 t610.length co114) t610) ∧ (Kd.R (Kd.int .u8) 5 w' w.heap.size (fun k_ => some k_ ≠ (s_ : Value).ownBlock ∧ some k_ ≠ (.slice Ao114 t610.length co114 : Value).ownBlock) (.slice Ao15 t613.length co15) t613) ∧ (Kd.R k49 49 w' w.heap.size (fun k_ => some k_ ≠ (.slice Ao12 t607.length co12 : Value).ownBlock) (.slice Ao115 t616.length co115) t616) ∧ (Below w.heap.size w w')) ?_ ?_
     rotate_left
     {
     intro hCont
     refine two_ (i := 11) (j := 14) (Ni := some 137) (Nj := some 140) (bs "YYYYYYYYYYYYXYXXXXX") (bs "YYYYYYYYYYYXXYYXXXX") rfl rfl rfl rfl (two_of HT_.out (by kernel_rfl)) (by decide) (by decide) (fun K hK => ?_) (fun K hK => ?_)
     {
     skip
     refine goes_ Try.func49 (by kernel_rfl) rfl #[.slice Ao115 t616.length co115] (by rfl) rfl rfl z16c ?_
     with_reducible refine (impl_Packed.calls kj45 _ _ t616 t650 _ ?side1 ?side2 A113.out).mono ?_
     (case side1 => exact z16d1)
     (case side2 => exact (Kd.R_reads' HO_6.out).2.1)
     rintro e w117 ⟨v651, rfl, ho0, hb⟩
     refine ⟨_, rfl, ?_⟩
     have n0_ := A_ (Kd.R_below z16d hb)
     have n1_ := A_ (Kd.R_elder' z16g (Kd.R_base ho0) hb)
     have n2_ := A_ (Kd.R_elder' z16h (Kd.R_base ho0) hb)
     have n3_ := A_ (Kd.R_below z16e hb)
     have n4_ := A_ (Kd.R_lower (Kd.R_new' (Kd.R_new' ho0 (Kd.R_lt z16g)) (Kd.R_lt z16h)) (below_size z16b))
     have n5_ := A_ (below_step z16b hb)
     clear HO_3
     clear HO_4
     clear HO_5
     clear HO_6
     clear HB
     have HO_3 := n0_
     have HO_4 := n1_
     have HO_5 := n2_
     have HO_6 := n3_
     have HO652 := n4_
     have HB := n5_
     clear n0_ n1_ n2_ n3_ n4_ n5_
     refine hK.out _ _ trivial (fun hHeld => ?_)
     clear hK K
     refine norm_ (nz_ 137) ?_
     refine two_ (i := 12) (j := 14) (Ni := some 138) (Nj := some 140) (bs "YYYYYYYYYYYYYYXXXXX") (bs "YYYYYYYYYYYYXYYXXXX") rfl rfl rfl rfl (two_of HT_.out (by kernel_rfl)) (by decide) (by decide) (fun K hK => ?_) (fun K hK => ?_)
     {
     skip
     have hcv118 := own_string (P := Try.prog) Try.underlying22 Try.underlying5 Try.underlying9 (Kd.own_of_R HO652.out)
     refine value_ (w1 := ?_) (v := ?_) (by rfl) rfl ?_ ?_
     rotate_left 2
     {
     go_simp
     constructor
     {
     rfl
     }
     {
     rfl
     }
     }
     clear hcv118
     refine hK.out _ _ trivial (fun hHeld => ?_)
     clear hK K
     refine norm_ (nz_ 138) ?_
     refine one_ (i := 14) (N := some 140) (bs "YYYYYYYYYYYYYYYXXXX") rfl rfl (one_of HT_.out (by kernel_rfl)) (by decide) (fun K hK => ?_)
     have hcv119 := own_string (P := Try.prog) Try.underlying22 Try.underlying5 Try.underlying9 (Kd.own_of_R HO_5.out); have hcv119d := fun (nq_ : Nat) => own_string (P := Try.prog) Try.underlying22 Try.underlying5 Try.underlying9 (Kd.own_of_R (Kd.R_drewN HO_5.out nq_))
     refine value_ (w1 := ?_) (v := ?_) (by rfl) rfl ?_ ?_
     rotate_left 2
     {
     go_simp
     constructor
     {
     rfl
     }
     {
     rfl
     }
     }
     clear hcv119 hcv119d
     refine hK.out _ _ trivial (fun hHeld => ?_)
     clear hK K
     refine norm_ (nz_ 140) ?_
     exact norm_ z16l (hCont (v651) _ ⟨(by (with_reducible repeat (first | apply Kd.R_alloc | apply Kd.R_drewN | apply Kd.R_drew)); exact Kd.R_mono HO652.out (fun _ hk => ⟨hk.1.2, hk.2⟩)), z16d, z16x, z16y, z16e, z16b⟩)
     }
     {
     skip
     have hcv118 := own_string (P := Try.prog) Try.underlying22 Try.underlying5 Try.underlying9 (Kd.own_of_R HO_5.out); have hcv118d := fun (nq_ : Nat) => own_string (P := Try.prog) Try.underlying22 Try.underlying5 Try.underlying9 (Kd.own_of_R (Kd.R_drewN HO_5.out nq_))
     refine value_ (w1 := ?_) (v := ?_) (by rfl) rfl ?_ ?_
     rotate_left 2
     {
     go_simp
     constructor
     {
     rfl
     }
     {
     rfl
     }
     }
     clear hcv118 hcv118d
     refine hK.out _ _ trivial (fun hHeld => ?_)
     clear hK K
     refine norm_ (nz_ 140) ?_
     refine one_ (i := 12) (N := some 138) (bs "YYYYYYYYYYYYYYYXXXX") rfl rfl (one_of HT_.out (by kernel_rfl)) (by decide) (fun K hK => ?_)
     have hcv119 := own_string (P := Try.prog) Try.underlying22 Try.underlying5 Try.underlying9 (Kd.own_of_R HO652.out)
     refine value_ (w1 := ?_) (v := ?_) (by rfl) rfl ?_ ?_
     rotate_left 2
     {
     go_simp
     constructor
     {
     rfl
     }
     {
     rfl
     }
     }
     clear hcv119
     refine hK.out _ _ trivial (fun hHeld => ?_)
     clear hK K
     refine norm_ (nz_ 138) ?_
     exact norm_ z16l (hCont (v651) _ ⟨(by (with_reducible repeat (first | apply Kd.R_alloc | apply Kd.R_drewN | apply Kd.R_drew)); exact Kd.R_mono HO652.out (fun _ hk => ⟨hk.1.2, hk.2⟩)), z16d, z16x, z16y, z16e, z16b⟩)
     }
     }
     {
     skip
     have hcv117 := own_string (P := Try.prog) Try.underlying22 Try.underlying5 Try.underlying9 (Kd.own_of_R HO_5.out); have hcv117d := fun (nq_ : Nat) => own_string (P := Try.prog) Try.underlying22 Try.underlying5 Try.underlying9 (Kd.own_of_R (Kd.R_drewN HO_5.out nq_))
     refine value_ (w1 := ?_) (v := ?_) (by rfl) rfl ?_ ?_
     rotate_left 2
     {
     go_simp
     constructor
     {
     rfl
     }
     {
     rfl
     }
     }
     clear hcv117 hcv117d
     refine hK.out _ _ trivial (fun hHeld => ?_)
     clear hK K
     refine norm_ (nz_ 140) ?_
     refine one_ (i := 11) (N := some 137) (bs "YYYYYYYYYYYYXYYXXXX") rfl rfl (one_of HT_.out (by kernel_rfl)) (by decide) (fun K hK => ?_)
     refine goes_ Try.func49 (by kernel_rfl) rfl #[.slice Ao115 t616.length co115] (by rfl) rfl rfl z16c ?_
     with_reducible refine (impl_Packed.calls kj45 _ _ t616 t650 _ ?side1 ?side2 A113.out).mono ?_
     (case side1 => exact z16d1)
     (case side2 => exact (Kd.R_reads' HO_6.out).2.1)
     rintro e w118 ⟨v651, rfl, ho0, hb⟩
     refine ⟨_, rfl, ?_⟩
     have n0_ := A_ (Kd.R_below z16d hb)
     have n1_ := A_ (Kd.R_elder' z16g (Kd.R_base ho0) hb)
     have n2_ := A_ (Kd.R_elder' z16h (Kd.R_base ho0) hb)
     have n3_ := A_ (Kd.R_below z16e hb)
     have n4_ := A_ (Kd.R_lower (Kd.R_new' (Kd.R_new' ho0 (Kd.R_lt z16g)) (Kd.R_lt z16h)) (below_size z16b))
     have n5_ := A_ (below_step z16b hb)
     clear HO_3
     clear HO_4
     clear HO_5
     clear HO_6
     clear HB
     have HO_3 := n0_
     have HO_4 := n1_
     have HO_5 := n2_
     have HO_6 := n3_
     have HO652 := n4_
     have HB := n5_
     clear n0_ n1_ n2_ n3_ n4_ n5_
     refine hK.out _ _ trivial (fun hHeld => ?_)
     clear hK K
     refine norm_ (nz_ 137) ?_
     refine one_ (i := 12) (N := some 138) (bs "YYYYYYYYYYYYYYYXXXX") rfl rfl (one_of HT_.out (by kernel_rfl)) (by decide) (fun K hK => ?_)
     have hcv119 := own_string (P := Try.prog) Try.underlying22 Try.underlying5 Try.underlying9 (Kd.own_of_R HO652.out)
     refine value_ (w1 := ?_) (v := ?_) (by rfl) rfl ?_ ?_
     rotate_left 2
     {
     go_simp
     constructor
     {
     rfl
     }
     {
     rfl
     }
     }
     clear hcv119
     refine hK.out _ _ trivial (fun hHeld => ?_)
     clear hK K
     refine norm_ (nz_ 138) ?_
     exact norm_ z16l (hCont (v651) _ ⟨(by (with_reducible repeat (first | apply Kd.R_alloc | apply Kd.R_drewN | apply Kd.R_drew)); exact Kd.R_mono HO652.out (fun _ hk => ⟨hk.1.2, hk.2⟩)), z16d, z16x, z16y, z16e, z16b⟩)
     }
     }
     rintro v651 w120 ⟨h0_, h1_, h2_, h3_, h4_, h5_⟩
     have n0_ : Aside0 (Kd.R (Kd.int .u8) 5 w120 w.heap.size (fun k_ => some k_ ≠ (.slice Ao114 t610.length co114 : Value).ownBlock ∧ some k_ ≠ (.slice Ao15 t613.length co15 : Value).ownBlock) v651 t650) := ⟨h0_⟩
     have n1_ : Aside0 (Kd.R k49 49 w120 w.heap.size (fun k_ => some k_ ≠ (.slice Ao115 t616.length co115 : Value).ownBlock) (.slice Ao12 t607.length co12) t607) := ⟨h1_⟩
     have n2_ : Aside0 (Kd.R (Kd.int .u8) 5 w120 w.heap.size (fun k_ => some k_ ≠ (v651 : Value).ownBlock ∧ some k_ ≠ (.slice Ao15 t613.length co15 : Value).ownBlock) (.slice Ao114 t610.length co114) t610) := ⟨h2_⟩
     have n3_ : Aside0 (Kd.R (Kd.int .u8) 5 w120 w.heap.size (fun k_ => some k_ ≠ (v651 : Value).ownBlock ∧ some k_ ≠ (.slice Ao114 t610.length co114 : Value).ownBlock) (.slice Ao15 t613.length co15) t613) := ⟨h3_⟩
     have n4_ : Aside0 (Kd.R k49 49 w120 w.heap.size (fun k_ => some k_ ≠ (.slice Ao12 t607.length co12 : Value).ownBlock) (.slice Ao115 t616.length co115) t616) := ⟨h4_⟩
     have n5_ : Aside0 (Below w.heap.size w w120) := ⟨h5_⟩
     clear HO_3
     clear HO_4
     clear HO_5
     clear HO_6
     clear HB
     clear h0_ h1_ h2_ h3_ h4_ h5_
     have HO652 := n0_
     have HO_3 := n1_
     have HO_4 := n2_
     have HO_5 := n3_
     have HO_6 := n4_
     have HB := n5_
     clear n0_ n1_ n2_ n3_ n4_ n5_
     have hHeld := trivial
     refine norm_ (a' := ?_) ?_ ?_
     rotate_left
     exact (by simp only [putAll, Act.put, List.setIfInBounds_toArray, List.set_cons_zero, List.set_cons_succ]; rfl)
     refine pu_ 15 (some 141) (bs "YYYYYYYYYYYYYYYYXXX") ?_
     refine pu_ 16 (some 142) (bs "YYYYYYYYYYYYYYYYYXX") ?_
     refine pu_ 17 (some 143) (bs "YYYYYYYYYYYYYYYYYYX") ?_
     refine pu_ 18 (some 2) (bs "YYYYYYYYYYYYYYYYYYY") ?_
     refine done_ (done_of HT_.out (by kernel_rfl)) ?_
     try go_wp2
     go_ret
     exact ⟨by first | rfl | (simp [errW_none, errW_some] <;> rfl) | (simp [*, errW_none, errW_some] <;> rfl), by repeat (first | (with_reducible first | exact HB.out | apply below_alloc | apply pw_below_drewN | apply below_drew1) | exact HB.out)⟩
     }
     {
     replace c112 := Bool.eq_false_iff.mpr c112
     subst c112
     rw [if_neg Bool.false_ne_true] at H
     by_cases c121 : (t616.length : Int) = 0
     {
     rw [if_pos c121] at H
     have c121b0 : ((t616.length : Int) == 0) = true := beq_iff_eq.mpr c121
     have c121b1 : ((t616.length : Int) != 0) = false := bne_eq_false_iff_eq.mpr c121
     clear c121
     obtain rfl := Option.some.inj H
     obtain ⟨Ao122, co122, eo122⟩ := Kd.R_slice HO_4.out
     subst eo122
     try go_wp2
     replace HO_3 := A_ (Kd.R_drew HO_3.out)
     replace HO_4 := A_ (Kd.R_drew HO_4.out)
     replace HO_5 := A_ (Kd.R_drew HO_5.out)
     replace HO_6 := A_ (Kd.R_drew HO_6.out)
     replace HB := A_ (below_drew1 HB.out)
     obtain ⟨Ao124, co124, eo124⟩ := Kd.R_slice HO_6.out
     (first | subst eo124 | (injection eo124 with f1_ f2_ f3_; have f4_ := f1_.symm; have f5_ := f3_.symm; clear f1_ f2_ f3_; subst f4_; subst f5_))
     refine start_ (n := 19) (S := fun w' => True) (ds := []) (bs "XXXXXXXXXXXXXXXXXXX") (by kernel_rfl) rfl rfl trivial (fun hHeld => ?_); refine with_tabW laws_FnPacked.tab19 laws_FnPacked.bits19 (fun HT_ HW_ => ?_)
     generalize wc.drew = w123 at HO_3 HO_4 HO_5 HO_6 HB hHeld ⊢
     refine pu_ 0 (some 126) (bs "YXXXXXXXXXXXXXXXXXX") ?_
     refine pu_ 1 (some 127) (bs "YYXXXXXXXXXXXXXXXXX") ?_
     refine pu_ 2 (some 128) (bs "YYYXXXXXXXXXXXXXXXX") ?_
     refine pu_ 3 (some 129) (bs "YYYYXXXXXXXXXXXXXXX") ?_
     refine pu_ 4 (some 130) (bs "YYYYYXXXXXXXXXXXXXX") ?_
     refine pu_ 5 (some 131) (bs "YYYYYYXXXXXXXXXXXXX") ?_
     refine pu_ 6 (some 132) (bs "YYYYYYYXXXXXXXXXXXX") ?_
     refine pu_ 7 (some 133) (bs "YYYYYYYYXXXXXXXXXXX") ?_
     refine pure_ (i := 8) (N := some 134) (v := undef) (a' := ?_) (bs "YYYYYYYYYXXXXXXXXXX") rfl rfl (any_of HT_.out (by kernel_rfl)) (fun _ _ _ h => h) (Or.inr ⟨by rfl, rfl⟩) ?_ ?_
     rotate_left
     exact z16a
     refine pure_ (i := 9) (N := some 135) (v := undef) (a' := ?_) (bs "YYYYYYYYYYXXXXXXXXX") rfl rfl (any_of HT_.out (by kernel_rfl)) (fun _ _ _ h => h) (Or.inr ⟨by rfl, rfl⟩) ?_ ?_
     rotate_left
     exact z16a
     refine pure_ (i := 10) (N := some 136) (v := undef) (a' := ?_) (bs "YYYYYYYYYYYXXXXXXXX") rfl rfl (any_of HT_.out (by kernel_rfl)) (fun _ _ _ h => h) (Or.inr ⟨by rfl, rfl⟩) ?_ ?_
     rotate_left
     exact z16a
     refine pure_ (i := 11) (N := some 137) (v := undef) (a' := ?_) (bs "YYYYYYYYYYYYXXXXXXX") rfl rfl (any_of HT_.out (by kernel_rfl)) (fun _ _ _ h => h) (Or.inr ⟨by rfl, rfl⟩) ?_ ?_
     rotate_left
     exact z16a
     refine pure_ (i := 12) (N := some 138) (v := undef) (a' := ?_) (bs "YYYYYYYYYYYYYXXXXXX") rfl rfl (any_of HT_.out (by kernel_rfl)) (fun _ _ _ h => h) (Or.inr ⟨by rfl, rfl⟩) ?_ ?_
     rotate_left
     exact z16a
     refine pure_ (i := 13) (N := some 139) (v := undef) (a' := ?_) (bs "YYYYYYYYYYYYYYXXXXX") rfl rfl (any_of HT_.out (by kernel_rfl)) (fun _ _ _ h => h) (Or.inr ⟨by rfl, rfl⟩) ?_ ?_
     rotate_left
     exact z16a
     refine pure_ (i := 14) (N := some 140) (v := undef) (a' := ?_) (bs "YYYYYYYYYYYYYYYXXXX") rfl rfl (any_of HT_.out (by kernel_rfl)) (fun _ _ _ h => h) (Or.inr ⟨by rfl, rfl⟩) ?_ ?_
     rotate_left
     exact z16a
     refine pure_ (i := 15) (N := some 141) (v := undef) (a' := ?_) (bs "YYYYYYYYYYYYYYYYXXX") rfl rfl (any_of HT_.out (by kernel_rfl)) (fun _ _ _ h => h) (Or.inr ⟨by rfl, rfl⟩) ?_ ?_
     rotate_left
     exact z16a
     refine pure_ (i := 16) (N := some 142) (v := undef) (a' := ?_) (bs "YYYYYYYYYYYYYYYYYXX") rfl rfl (any_of HT_.out (by kernel_rfl)) (fun _ _ _ h => h) (Or.inr ⟨by rfl, rfl⟩) ?_ ?_
     rotate_left
     exact z16a
     refine pu_ 17 (some 143) (bs "YYYYYYYYYYYYYYYYYYX") ?_
     refine pu_ 18 (some 2) (bs "YYYYYYYYYYYYYYYYYYY") ?_
     refine done_ (done_of HT_.out (by kernel_rfl)) ?_
     try go_wp2
     go_ret
     exact ⟨by first | rfl | (simp [errW_none, errW_some] <;> rfl) | (simp [*, errW_none, errW_some] <;> rfl), by repeat (first | (with_reducible first | exact HB.out | apply below_alloc | apply pw_below_drewN | apply below_drew1) | exact HB.out)⟩
     }
     {
     rw [if_neg c121] at H
     have c121b0 : ((t616.length : Int) == 0) = false := beq_eq_false_iff_ne.mpr c121
     have c121b1 : ((t616.length : Int) != 0) = true := bne_iff_ne.mpr c121
     have c121b2 : ¬ (t616 = []) := fun h_ => c121 (by rw [h_]; rfl)
     obtain rfl := Option.some.inj H
     obtain ⟨Ao125, co125, eo125⟩ := Kd.R_slice HO_4.out
     subst eo125
     try go_wp2
     replace HO_3 := A_ (Kd.R_drew HO_3.out)
     replace HO_4 := A_ (Kd.R_drew HO_4.out)
     replace HO_5 := A_ (Kd.R_drew HO_5.out)
     replace HO_6 := A_ (Kd.R_drew HO_6.out)
     replace HB := A_ (below_drew1 HB.out)
     obtain ⟨Ao127, co127, eo127⟩ := Kd.R_slice HO_6.out
     (first | subst eo127 | (injection eo127 with f1_ f2_ f3_; have f4_ := f1_.symm; have f5_ := f3_.symm; clear f1_ f2_ f3_; subst f4_; subst f5_))
     refine start_ (n := 19) (S := fun w' => True) (ds := []) (bs "XXXXXXXXXXXXXXXXXXX") (by kernel_rfl) rfl rfl trivial (fun hHeld => ?_); refine with_tabW laws_FnPacked.tab19 laws_FnPacked.bits19 (fun HT_ HW_ => ?_)
     generalize wc.drew = w126 at HO_3 HO_4 HO_5 HO_6 HB hHeld ⊢
     refine pu_ 0 (some 126) (bs "YXXXXXXXXXXXXXXXXXX") ?_
     refine pu_ 1 (some 127) (bs "YYXXXXXXXXXXXXXXXXX") ?_
     refine pu_ 2 (some 128) (bs "YYYXXXXXXXXXXXXXXXX") ?_
     refine pu_ 3 (some 129) (bs "YYYYXXXXXXXXXXXXXXX") ?_
     refine pu_ 4 (some 130) (bs "YYYYYXXXXXXXXXXXXXX") ?_
     refine pu_ 5 (some 131) (bs "YYYYYYXXXXXXXXXXXXX") ?_
     refine pu_ 6 (some 132) (bs "YYYYYYYXXXXXXXXXXXX") ?_
     refine pu_ 7 (some 133) (bs "YYYYYYYYXXXXXXXXXXX") ?_
     refine pu_ 8 (some 134) (bs "YYYYYYYYYXXXXXXXXXX") ?_
     refine pu_ 9 (some 135) (bs "YYYYYYYYYYXXXXXXXXX") ?_
     refine pure_ (i := 10) (N := some 136) (v := undef) (a' := ?_) (bs "YYYYYYYYYYYXXXXXXXX") rfl rfl (any_of HT_.out (by kernel_rfl)) (fun _ _ _ h => h) (Or.inr ⟨by rfl, rfl⟩) ?_ ?_
     rotate_left
     exact z16a
     refine pure_ (i := 11) (N := some 137) (v := undef) (a' := ?_) (bs "YYYYYYYYYYYYXXXXXXX") rfl rfl (any_of HT_.out (by kernel_rfl)) (fun _ _ _ h => h) (Or.inr ⟨by rfl, rfl⟩) ?_ ?_
     rotate_left
     exact z16a
     refine pure_ (i := 12) (N := some 138) (v := undef) (a' := ?_) (bs "YYYYYYYYYYYYYXXXXXX") rfl rfl (any_of HT_.out (by kernel_rfl)) (fun _ _ _ h => h) (Or.inr ⟨by rfl, rfl⟩) ?_ ?_
     rotate_left
     exact z16a
     refine pure_ (i := 13) (N := some 139) (v := undef) (a' := ?_) (bs "YYYYYYYYYYYYYYXXXXX") rfl rfl (any_of HT_.out (by kernel_rfl)) (fun _ _ _ h => h) (Or.inr ⟨by rfl, rfl⟩) ?_ ?_
     rotate_left
     exact z16a
     refine pure_ (i := 14) (N := some 140) (v := undef) (a' := ?_) (bs "YYYYYYYYYYYYYYYXXXX") rfl rfl (any_of HT_.out (by kernel_rfl)) (fun _ _ _ h => h) (Or.inr ⟨by rfl, rfl⟩) ?_ ?_
     rotate_left
     exact z16a
     refine pure_ (i := 15) (N := some 141) (v := undef) (a' := ?_) (bs "YYYYYYYYYYYYYYYYXXX") rfl rfl (any_of HT_.out (by kernel_rfl)) (fun _ _ _ h => h) (Or.inr ⟨by rfl, rfl⟩) ?_ ?_
     rotate_left
     exact z16a
     refine pu_ 16 (some 142) (bs "YYYYYYYYYYYYYYYYYXX") ?_
     refine pu_ 17 (some 143) (bs "YYYYYYYYYYYYYYYYYYX") ?_
     refine pu_ 18 (some 2) (bs "YYYYYYYYYYYYYYYYYYY") ?_
     refine done_ (done_of HT_.out (by kernel_rfl)) ?_
     try go_wp2
     go_ret
     exact ⟨by first | rfl | (simp [errW_none, errW_some] <;> rfl) | (simp [*, errW_none, errW_some] <;> rfl), by repeat (first | (with_reducible first | exact HB.out | apply below_alloc | apply pw_below_drewN | apply below_drew1) | exact HB.out)⟩
     
     }
     }
     }
     }
   }
 }
end Go.Proofs.Ythkhfmomibfkjaa.PFnPacked

-- by a program of this session (wip/print/run.py) for this claim
import Derived.Test.YthkhfmomibfkjaaPFnTextsx0
import Derived.Test.YthkhfmomibfkjaaPFnTextsx1
import Derived.Test.YthkhfmomibfkjaaPFnTextsx4
import Derived.Test.YthkhfmomibfkjaaPFnTextsx6
namespace Go.Proofs.Ythkhfmomibfkjaa.PFnTexts
open Go.RowKit Go.Proofs.YthkhfmomibfkjaaW.PrintWords Go.Proofs.YthkhfmomibfkjaaW.PrintLast Go.Proofs.YthkhfmomibfkjaaW.PrintMore
attribute [local go_sem] max2_int min2_int max_two min_two max_three min_three max_four min_four   -- for this text's walks alone
set_option linter.unusedVariables false
set_option linter.unusedSimpArgs false

/-! ### spec_DrawReadTexts: function 60 -/
theorem z60a {p_ : Prop} (h_ : p_ := by repeat (first | (with_reducible first | exact HI355.out | apply IsS105.alloc | apply IsS105.drewN | apply IsS105.drew | apply IsS105.set_1 | apply IsS105.set_2) | exact HI355.out)) : p_ := h_
theorem z60b {p_ : Prop} (h_ : p_ := by repeat (first | (with_reducible first | exact HB.out | apply below_alloc | apply pw_below_drewN | apply below_drew1 | refine below_set ?_ (IsS105.ge HI355.out)) | exact HB.out)) : p_ := h_
theorem z60c {p_ : Prop} (h_ : p_ := by (try simp only [List.map_toArray, List.map_cons, List.map_nil]); first | done | rfl | (simp only [List.length_drop, List.length_take]; rfl)) : p_ := h_
theorem z60d {p_ : Prop} (h_ : p_ := by (with_reducible repeat (first | apply Kd.R_alloc | apply Kd.R_drewN | apply Kd.R_drew)); exact HO358.out) : p_ := h_
theorem z60e {p_ : Prop} (h_ : p_ := by (with_reducible repeat (first | apply Kd.R_alloc | apply Kd.R_drewN | apply Kd.R_drew)); exact HO363.out) : p_ := h_
def spec_DrawReadTexts.f (k : Nat) (l0 : List Int) : Option (List Int) := (spec_l1New.f k l0).bind fun bt352 => ((spec_l1DrawTexts.f k bt352.1 bt352.2.1 bt352.2.2).bind fun bt356 => ((spec_Texts.f k bt356.1).bind fun t361 => ((spec_l1Once.f bt352.1 bt356.2.1 bt356.2.2 2).bind fun bt364 => (if bt364.1 = true then ((spec_l1Bend.f k bt352.1 bt364.2.1 bt364.2.2 (strOfNums t361) (⟨#[0, 128, 2, 3, 97]⟩ : ByteArray)).bind fun bt367 => (if (bt367.1.size : Int) ≤ 140737488351232 then (some (bytesOf bt367.1)) else (none))) else (if ((strOfNums t361).size : Int) ≤ 140737488351232 then (some (bytesOf (strOfNums t361))) else (none))))))
theorem spec_DrawReadTexts.mono : ∀ a0 k, LeO (spec_DrawReadTexts.f k a0) (spec_DrawReadTexts.f (k + 1) a0) := by
 intro a0 k
 unfold spec_DrawReadTexts.f
 repeat' first
   | (with_reducible exact spec_Texts.mono _ _)
   | (with_reducible exact spec_l1Bend.mono _ _ _ _ _ _)
   | (with_reducible exact spec_l1DrawTexts.mono _ _ _ _)
   | (with_reducible exact spec_l1New.mono _ _)
   | (with_reducible exact LeO.refl _)
   | (with_reducible exact LeO.none _)
   | (with_reducible refine LeO.ite ?_ ?_)
   | (with_reducible refine LeO.bind ?_ (fun _ => ?_))
   | exact spec_Texts.mono _ _
   | exact spec_l1Bend.mono _ _ _ _ _ _
   | exact spec_l1DrawTexts.mono _ _ _ _
   | exact spec_l1New.mono _ _
   | exact LeO.none _
   | refine LeO.ite ?_ ?_
   | refine LeO.bind ?_ (fun _ => ?_)
set_option maxHeartbeats 8000000 in
set_option maxRecDepth 100000 in
theorem spec_DrawReadTexts.calls (k : Nat) (A0 : Option Addr) (c0 : Nat) (l0 : List Int) (r : List Int) (w : World) (hr0 : Kd.C (Kd.int .u8) w A0 l0.length l0) (hc0 : l0.length ≤ c0) (h : spec_DrawReadTexts.f k l0 = some r) :
  Calls Try.prog 60 #[.slice A0 l0.length c0] w fun e w' => ∃ v0_ : Value, e = .returned (v0_) ∧ Kd.R (Kd.int .u8) 5 w' w.heap.size (fun _ => True) v0_ r ∧ Below w.heap.size w w' := by
 have HR0 := Aside0.mk hr0
 have HC0 := Aside0.mk hc0
 clear hr0 hc0
 have HB := Aside0.mk (Below.refl w.heap.size w)
 have H : ((spec_l1New.f k l0).bind fun bt352 => ((spec_l1DrawTexts.f k bt352.1 bt352.2.1 bt352.2.2).bind fun bt356 => ((spec_Texts.f k bt356.1).bind fun t361 => ((spec_l1Once.f bt352.1 bt356.2.1 bt356.2.2 2).bind fun bt364 => (if bt364.1 = true then ((spec_l1Bend.f k bt352.1 bt364.2.1 bt364.2.2 (strOfNums t361) (⟨#[0, 128, 2, 3, 97]⟩ : ByteArray)).bind fun bt367 => (if (bt367.1.size : Int) ≤ 140737488351232 then (some (bytesOf bt367.1)) else (none))) else (if ((strOfNums t361).size : Int) ≤ 140737488351232 then (some (bytesOf (strOfNums t361))) else (none))))))) = some r := h
 clear h
 replace H := Option.bind_eq_some_iff.mp H
 obtain ⟨⟨t352, t353, t354⟩, A20, H⟩ := H
 replace H : ((spec_l1DrawTexts.f k t352 t353 t354).bind fun bt356 => ((spec_Texts.f k bt356.1).bind fun t361 => ((spec_l1Once.f t352 bt356.2.1 bt356.2.2 2).bind fun bt364 => (if bt364.1 = true then ((spec_l1Bend.f k t352 bt364.2.1 bt364.2.2 (strOfNums t361) (⟨#[0, 128, 2, 3, 97]⟩ : ByteArray)).bind fun bt367 => (if (bt367.1.size : Int) ≤ 140737488351232 then (some (bytesOf bt367.1)) else (none))) else (if ((strOfNums t361).size : Int) ≤ 140737488351232 then (some (bytesOf (strOfNums t361))) else (none)))))) = some r := H
 have A2 := Aside0.mk A20
 clear A20
 replace H := Option.bind_eq_some_iff.mp H
 obtain ⟨⟨t356, t359, t360⟩, A30, H⟩ := H
 replace H : ((spec_Texts.f k t356).bind fun t361 => ((spec_l1Once.f t352 t359 t360 2).bind fun bt364 => (if bt364.1 = true then ((spec_l1Bend.f k t352 bt364.2.1 bt364.2.2 (strOfNums t361) (⟨#[0, 128, 2, 3, 97]⟩ : ByteArray)).bind fun bt367 => (if (bt367.1.size : Int) ≤ 140737488351232 then (some (bytesOf bt367.1)) else (none))) else (if ((strOfNums t361).size : Int) ≤ 140737488351232 then (some (bytesOf (strOfNums t361))) else (none))))) = some r := H
 have A3 := Aside0.mk A30
 clear A30
 replace H := Option.bind_eq_some_iff.mp H
 obtain ⟨t361, A40, H⟩ := H
 replace H : ((spec_l1Once.f t352 t359 t360 2).bind fun bt364 => (if bt364.1 = true then ((spec_l1Bend.f k t352 bt364.2.1 bt364.2.2 (strOfNums t361) (⟨#[0, 128, 2, 3, 97]⟩ : ByteArray)).bind fun bt367 => (if (bt367.1.size : Int) ≤ 140737488351232 then (some (bytesOf bt367.1)) else (none))) else (if ((strOfNums t361).size : Int) ≤ 140737488351232 then (some (bytesOf (strOfNums t361))) else (none)))) = some r := H
 have A4 := Aside0.mk A40
 clear A40
 replace H := Option.bind_eq_some_iff.mp H
 obtain ⟨⟨t364, t365, t366⟩, A50, H⟩ := H
 replace H : (if t364 = true then ((spec_l1Bend.f k t352 t365 t366 (strOfNums t361) (⟨#[0, 128, 2, 3, 97]⟩ : ByteArray)).bind fun bt367 => (if (bt367.1.size : Int) ≤ 140737488351232 then (some (bytesOf bt367.1)) else (none))) else (if ((strOfNums t361).size : Int) ≤ 140737488351232 then (some (bytesOf (strOfNums t361))) else (none))) = some r := H
 have A5 := Aside0.mk A50
 clear A50
 by_cases c6 : t364 = true
 {
 subst c6
 have H1 : ((spec_l1Bend.f k t352 t365 t366 (strOfNums t361) (⟨#[0, 128, 2, 3, 97]⟩ : ByteArray)).bind fun bt367 => (if (bt367.1.size : Int) ≤ 140737488351232 then (some (bytesOf bt367.1)) else (none))) = some r := by rw [if_pos rfl] at H; exact H
 clear H
 have H := H1
 clear H1
 replace H := Option.bind_eq_some_iff.mp H
 obtain ⟨⟨t367, t368, t369⟩, A70, H⟩ := H
 replace H : (if (t367.size : Int) ≤ 140737488351232 then (some (bytesOf t367)) else (none)) = some r := H
 have A7 := Aside0.mk A70
 clear A70
 by_cases c8 : (t367.size : Int) ≤ 140737488351232
 {
 rw [if_pos c8] at H
 have c8b0 := eq_true c8
 have c8b1 : decide ((t367.size : Int) ≤ 140737488351232) = true := decide_eq_true c8
 clear c8
 obtain ⟨y370, hy370⟩ : ∃ y_ : List Int, y_ = (bytesOf t367) := ⟨_, rfl⟩
 replace H : (some y370) = some r := by first | (rw [hy370]; with_reducible exact H) | (have H2_ := (Option.bind_some _ _).symm.trans H; rw [hy370]; with_reducible exact H2_) | (have H2_ := (Option.bind_some _ _).symm.trans H; with_reducible exact H2_) | with_reducible exact H | (rw [hy370]; exact H) | exact H
 have Ny370 := Aside0.mk hy370
 clear hy370
 obtain rfl := Option.some.inj H
 go_enter Try.func60, Try.ntmps60
 go_wp2_with (first | ((with_reducible refine gate_callee (f := 93) rfl ?_); refine goesL_ (some 6) rfl rfl Try.func93 (by kernel_rfl) rfl #[.slice A0 l0.length c0] rfl z60c ?_; (with_reducible refine (spec_l1New.calls k _ _ l0 t352 t353 t354 w _ ?side1 ?side2 ?side3 A2.out).mono ?_); (case side1 => exact (by repeat (first | (with_reducible first | exact HB.out | apply below_alloc | apply pw_below_drewN | apply below_drew1) | exact HB.out))); (case side2 => exact HR0.out); (case side3 => exact HC0.out); rintro e w9 ⟨g355, rfl, hi, hb, hb2⟩; refine ⟨_, rfl, ?_⟩; have n0_ := Aside0.mk (hb); have n1_ := Aside0.mk (hi); clear HB; have HB := n0_; have HI355 := n1_; clear n0_ n1_; (try clear hb); (try clear hb2); (try clear hk); (try clear hi)) | ((with_reducible refine gate_callee (f := 98) rfl ?_); refine goesL_ (some 8) rfl rfl Try.func98 (by kernel_rfl) rfl #[.pointer (some ⟨g355, 0, none⟩)] rfl z60c ?_; (with_reducible refine (spec_l1DrawTexts.calls k g355 t352 t353 t354 t356 t359 t360 w _ ?side1 ?side2 A3.out).mono ?_); (case side1 => exact z60a); (case side2 => exact z60b); rintro e w10 ⟨v357, rfl, ho0, hi, hb, hk⟩; refine ⟨_, rfl, ?_⟩; have n0_ := Aside0.mk (Kd.R_lower ho0 (below_size z60b)); have n1_ := Aside0.mk (hb); have n2_ := Aside0.mk (hi); clear HB; clear HI355; have HO358 := n0_; have HB := n1_; have HI355 := n2_; clear n0_ n1_ n2_; (try clear hb); (try clear hb2); (try clear hk); (try clear hi); (try clear ho0); obtain ⟨Ao11, co11, eo11⟩ := Kd.R_slice HO358.out; subst eo11) | ((with_reducible refine gate_callee (f := 28) rfl ?_); refine goesL_ (some 9) rfl rfl Try.func28 (by kernel_rfl) rfl #[.slice Ao11 t356.length co11] rfl z60c ?_; (with_reducible refine (spec_Texts.calls k _ _ t356 t361 _ ?side1 ?side2 A4.out).mono ?_); (case side1 => exact (by repeat (first | exact (Kd.R_reads' HO358.out).2.2 | (with_reducible refine Kd.C_alloc ?_ _) | (with_reducible refine Kd.C_drewN ?_ _) | (with_reducible refine Kd.C_drew ?_)))); (case side2 => exact (Kd.R_reads' HO358.out).2.1); rintro e w12 ⟨v362, rfl, ho0, hb⟩; refine ⟨_, rfl, ?_⟩; have n0_ := Aside0.mk (Kd.R_below z60d hb); have n1_ := Aside0.mk (Kd.R_lower ho0 (below_size z60b)); have n2_ := Aside0.mk (IsS105.below z60a hb); have n3_ := Aside0.mk (below_step z60b hb); clear HO358; clear HI355; clear HB; have HO358 := n0_; have HO363 := n1_; have HI355 := n2_; have HB := n3_; clear n0_ n1_ n2_ n3_; (try clear hb); (try clear hb2); (try clear hk); (try clear hi); (try clear ho0); have hcv13 := own_string (P := Try.prog) Try.underlying22 Try.underlying5 Try.underlying9 (Kd.own_of_R HO363.out)) | ((with_reducible refine gate_callee (f := 94) rfl ?_); refine goesL_ (some 12) rfl rfl Try.func94 (by kernel_rfl) rfl #[.pointer (some ⟨g355, 0, none⟩), .int .i64 2] rfl z60c ?_; (with_reducible refine (spec_l1Once.calls g355 t352 t359 t360 2 true t365 t366 w _ ?side1 ?side2 A5.out).mono ?_); (case side1 => exact z60a); (case side2 => exact z60b); rintro e w14 ⟨rfl, hi, hb, hk⟩; refine ⟨_, rfl, ?_⟩; have n0_ := Aside0.mk (Kd.R_mono (Kd.R_keep (IsS105.apart (show IsS105 w _ g355 t352 t359 t360 from z60a) z60d (by decide)) hk (fun _ h => h.2)) (fun _ h => h.1)); have n1_ := Aside0.mk (Kd.R_mono (Kd.R_keep (IsS105.apart (show IsS105 w _ g355 t352 t359 t360 from z60a) z60e (by decide)) hk (fun _ h => h.2)) (fun _ h => h.1)); have n2_ := Aside0.mk (hb); have n3_ := Aside0.mk (hi); clear HO358; clear HO363; clear HB; clear HI355; have HO358 := n0_; have HO363 := n1_; have HB := n2_; have HI355 := n3_; clear n0_ n1_ n2_ n3_; (try clear hb); (try clear hb2); (try clear hk); (try clear hi)) | ((with_reducible refine gate_callee (f := 97) rfl ?_); refine goesL_ (some 15) rfl rfl Try.func97 (by kernel_rfl) rfl #[.pointer (some ⟨g355, 0, none⟩), .string (strOfNums t361), .string (⟨#[0, 128, 2, 3, 97]⟩ : ByteArray)] rfl z60c ?_; (with_reducible refine (spec_l1Bend.calls k g355 t352 t365 t366 (strOfNums t361) (⟨#[0, 128, 2, 3, 97]⟩ : ByteArray) t367 t368 t369 w _ ?side1 ?side2 A7.out).mono ?_); (case side1 => exact z60a); (case side2 => exact z60b); rintro e w15 ⟨rfl, hi, hb, hk⟩; refine ⟨_, rfl, ?_⟩; have n0_ := Aside0.mk (Kd.R_mono (Kd.R_keep (IsS105.apart (show IsS105 w _ g355 t352 t365 t366 from z60a) z60d (by decide)) hk (fun _ h => h.2)) (fun _ h => h.1)); have n1_ := Aside0.mk (Kd.R_mono (Kd.R_keep (IsS105.apart (show IsS105 w _ g355 t352 t365 t366 from z60a) z60e (by decide)) hk (fun _ h => h.2)) (fun _ h => h.1)); have n2_ := Aside0.mk (hb); have n3_ := Aside0.mk (hi); clear HO358; clear HO363; clear HB; clear HI355; have HO358 := n0_; have HO363 := n1_; have HB := n2_; have HI355 := n3_; clear n0_ n1_ n2_ n3_; (try clear hb); (try clear hb2); (try clear hk); (try clear hi)) | ((with_reducible refine gate_dst (N := 17) rfl ?_); refine Go.Proofs.Ythkhfmomibfkjaa.Lib.R_conv _ 5 rfl (N := 17) rfl 9 22 (.tmp 16) rfl Try.underlying9 Try.underlying22 Try.underlying5 t367 rfl (ok := fun _ => True) (okp := fun _ => True) (fun _ hk => hk) trivial (of_decide_eq_true (by first | (with_reducible assumption) | assumption)) (Below.refl _ _) (Nat.le_refl _) ?_; intro v371 w16 ho17 hb hg_ hnew_; clear hg_ hnew_; (first | rw [← Ny370.out] at ho17 | (simp only [Int.reduceToNat] at ho17; rw [← Ny370.out] at ho17)); have n0_ := Aside0.mk (Kd.R_below z60d hb); have n1_ := Aside0.mk (Kd.R_elder' z60e (Kd.R_base ho17) hb); have n2_ := Aside0.mk (Kd.R_lower (Kd.R_new' ho17 (Kd.R_lt z60e)) (below_size z60b)); have n3_ := Aside0.mk (IsS105.below z60a hb); have n4_ := Aside0.mk (below_step z60b hb); clear HO358; clear HO363; clear HI355; clear HB; have HO358 := n0_; have HO363 := n1_; have HO372 := n2_; have HI355 := n3_; have HB := n4_; clear n0_ n1_ n2_ n3_ n4_; clear hb ho17))
 go_ret
 exact ⟨_, by first | rfl | (simp [errW_none, errW_some] <;> rfl) | (simp [*, errW_none, errW_some] <;> rfl), by (with_reducible repeat (first | apply Kd.R_alloc | apply Kd.R_drewN | apply Kd.R_drew)); exact Kd.R_mono HO372.out (fun _ hk => trivial), by repeat (first | (with_reducible first | exact HB.out | apply below_alloc | apply pw_below_drewN | apply below_drew1 | refine below_set ?_ (IsS105.ge HI355.out)) | exact HB.out)⟩
 }
 {
 rw [if_neg c8] at H
 exact absurd H (by simp)
 }
 }
 {
 replace c6 := Bool.eq_false_iff.mpr c6
 subst c6
 have H1 : (if ((strOfNums t361).size : Int) ≤ 140737488351232 then (some (bytesOf (strOfNums t361))) else (none)) = some r := by rw [if_neg (show ¬ (false = true) by decide)] at H; exact H
 clear H
 have H := H1
 clear H1
 by_cases c18 : ((strOfNums t361).size : Int) ≤ 140737488351232
 {
 rw [if_pos c18] at H
 have c18b0 := eq_true c18
 have c18b1 : decide (((strOfNums t361).size : Int) ≤ 140737488351232) = true := decide_eq_true c18
 clear c18
 obtain ⟨y373, hy373⟩ : ∃ y_ : List Int, y_ = (bytesOf (strOfNums t361)) := ⟨_, rfl⟩
 replace H : (some y373) = some r := by first | (rw [hy373]; with_reducible exact H) | (have H2_ := (Option.bind_some _ _).symm.trans H; rw [hy373]; with_reducible exact H2_) | (have H2_ := (Option.bind_some _ _).symm.trans H; with_reducible exact H2_) | with_reducible exact H | (rw [hy373]; exact H) | exact H
 have Ny373 := Aside0.mk hy373
 clear hy373
 obtain rfl := Option.some.inj H
 go_enter Try.func60, Try.ntmps60
 go_wp2_with (first | ((with_reducible refine gate_callee (f := 93) rfl ?_); refine goesL_ (some 6) rfl rfl Try.func93 (by kernel_rfl) rfl #[.slice A0 l0.length c0] rfl z60c ?_; (with_reducible refine (spec_l1New.calls k _ _ l0 t352 t353 t354 w _ ?side1 ?side2 ?side3 A2.out).mono ?_); (case side1 => exact (by repeat (first | (with_reducible first | exact HB.out | apply below_alloc | apply pw_below_drewN | apply below_drew1) | exact HB.out))); (case side2 => exact HR0.out); (case side3 => exact HC0.out); rintro e w19 ⟨g355, rfl, hi, hb, hb2⟩; refine ⟨_, rfl, ?_⟩; have n0_ := Aside0.mk (hb); have n1_ := Aside0.mk (hi); clear HB; have HB := n0_; have HI355 := n1_; clear n0_ n1_; (try clear hb); (try clear hb2); (try clear hk); (try clear hi)) | ((with_reducible refine gate_callee (f := 98) rfl ?_); refine goesL_ (some 8) rfl rfl Try.func98 (by kernel_rfl) rfl #[.pointer (some ⟨g355, 0, none⟩)] rfl z60c ?_; (with_reducible refine (spec_l1DrawTexts.calls k g355 t352 t353 t354 t356 t359 t360 w _ ?side1 ?side2 A3.out).mono ?_); (case side1 => exact z60a); (case side2 => exact z60b); rintro e w20 ⟨v357, rfl, ho0, hi, hb, hk⟩; refine ⟨_, rfl, ?_⟩; have n0_ := Aside0.mk (Kd.R_lower ho0 (below_size z60b)); have n1_ := Aside0.mk (hb); have n2_ := Aside0.mk (hi); clear HB; clear HI355; have HO358 := n0_; have HB := n1_; have HI355 := n2_; clear n0_ n1_ n2_; (try clear hb); (try clear hb2); (try clear hk); (try clear hi); (try clear ho0); obtain ⟨Ao21, co21, eo21⟩ := Kd.R_slice HO358.out; subst eo21) | ((with_reducible refine gate_callee (f := 28) rfl ?_); refine goesL_ (some 9) rfl rfl Try.func28 (by kernel_rfl) rfl #[.slice Ao21 t356.length co21] rfl z60c ?_; (with_reducible refine (spec_Texts.calls k _ _ t356 t361 _ ?side1 ?side2 A4.out).mono ?_); (case side1 => exact (by repeat (first | exact (Kd.R_reads' HO358.out).2.2 | (with_reducible refine Kd.C_alloc ?_ _) | (with_reducible refine Kd.C_drewN ?_ _) | (with_reducible refine Kd.C_drew ?_)))); (case side2 => exact (Kd.R_reads' HO358.out).2.1); rintro e w22 ⟨v362, rfl, ho0, hb⟩; refine ⟨_, rfl, ?_⟩; have n0_ := Aside0.mk (Kd.R_below z60d hb); have n1_ := Aside0.mk (Kd.R_lower ho0 (below_size z60b)); have n2_ := Aside0.mk (IsS105.below z60a hb); have n3_ := Aside0.mk (below_step z60b hb); clear HO358; clear HI355; clear HB; have HO358 := n0_; have HO363 := n1_; have HI355 := n2_; have HB := n3_; clear n0_ n1_ n2_ n3_; (try clear hb); (try clear hb2); (try clear hk); (try clear hi); (try clear ho0); have hcv23 := own_string (P := Try.prog) Try.underlying22 Try.underlying5 Try.underlying9 (Kd.own_of_R HO363.out)) | ((with_reducible refine gate_callee (f := 94) rfl ?_); refine goesL_ (some 12) rfl rfl Try.func94 (by kernel_rfl) rfl #[.pointer (some ⟨g355, 0, none⟩), .int .i64 2] rfl z60c ?_; (with_reducible refine (spec_l1Once.calls g355 t352 t359 t360 2 false t365 t366 w _ ?side1 ?side2 A5.out).mono ?_); (case side1 => exact z60a); (case side2 => exact z60b); rintro e w24 ⟨rfl, hi, hb, hk⟩; refine ⟨_, rfl, ?_⟩; have n0_ := Aside0.mk (Kd.R_mono (Kd.R_keep (IsS105.apart (show IsS105 w _ g355 t352 t359 t360 from z60a) z60d (by decide)) hk (fun _ h => h.2)) (fun _ h => h.1)); have n1_ := Aside0.mk (Kd.R_mono (Kd.R_keep (IsS105.apart (show IsS105 w _ g355 t352 t359 t360 from z60a) z60e (by decide)) hk (fun _ h => h.2)) (fun _ h => h.1)); have n2_ := Aside0.mk (hb); have n3_ := Aside0.mk (hi); clear HO358; clear HO363; clear HB; clear HI355; have HO358 := n0_; have HO363 := n1_; have HB := n2_; have HI355 := n3_; clear n0_ n1_ n2_ n3_; (try clear hb); (try clear hb2); (try clear hk); (try clear hi)) | ((with_reducible refine gate_dst (N := 17) rfl ?_); refine Go.Proofs.Ythkhfmomibfkjaa.Lib.R_conv _ 5 rfl (N := 17) rfl 9 22 (.tmp 16) rfl Try.underlying9 Try.underlying22 Try.underlying5 (strOfNums t361) rfl (ok := fun _ => True) (okp := fun _ => True) (fun _ hk => hk) trivial (of_decide_eq_true (by first | (with_reducible assumption) | assumption)) (Below.refl _ _) (Nat.le_refl _) ?_; intro v374 w25 ho26 hb hg_ hnew_; clear hg_ hnew_; (first | rw [← Ny373.out] at ho26 | (simp only [Int.reduceToNat] at ho26; rw [← Ny373.out] at ho26)); have n0_ := Aside0.mk (Kd.R_below z60d hb); have n1_ := Aside0.mk (Kd.R_elder' z60e (Kd.R_base ho26) hb); have n2_ := Aside0.mk (Kd.R_lower (Kd.R_new' ho26 (Kd.R_lt z60e)) (below_size z60b)); have n3_ := Aside0.mk (IsS105.below z60a hb); have n4_ := Aside0.mk (below_step z60b hb); clear HO358; clear HO363; clear HI355; clear HB; have HO358 := n0_; have HO363 := n1_; have HO375 := n2_; have HI355 := n3_; have HB := n4_; clear n0_ n1_ n2_ n3_ n4_; clear hb ho26))
 go_ret
 exact ⟨_, by first | rfl | (simp [errW_none, errW_some] <;> rfl) | (simp [*, errW_none, errW_some] <;> rfl), by (with_reducible repeat (first | apply Kd.R_alloc | apply Kd.R_drewN | apply Kd.R_drew)); exact Kd.R_mono HO375.out (fun _ hk => trivial), by repeat (first | (with_reducible first | exact HB.out | apply below_alloc | apply pw_below_drewN | apply below_drew1 | refine below_set ?_ (IsS105.ge HI355.out)) | exact HB.out)⟩
 }
 {
 rw [if_neg c18] at H
 exact absurd H (by simp)
 
 }
 }
/-! ### laws_likeTexts: function 61 -/
def laws_likeTexts.l0 : Nat → List ByteArray → List ByteArray → Int → Option (Bool)
 | 0, _, _, _ => none
 | k + 1, x0, x1, x5 => if x5 < (x0.length : Int) then (if 0 ≤ x5 then (if x5 < (x1.length : Int) then (if (rdOf ByteArray.empty x0 x5).toList = (rdOf ByteArray.empty x1 x5).toList then (laws_likeTexts.l0 k x0 x1 (wrap64 (x5 + 1))) else (some false)) else (none)) else (none)) else (some true)
def laws_likeTexts.f (k : Nat) (l0 : List ByteArray) (l1 : List ByteArray) : Option (Bool) := if (l0.length : Int) = (l1.length : Int) then (laws_likeTexts.l0 k l0 l1 0) else (some false)
theorem laws_likeTexts.mono_l : ∀ k, (∀ y0 y1 y2, LeO (laws_likeTexts.l0 k y0 y1 y2) (laws_likeTexts.l0 (k + 1) y0 y1 y2))
 | 0 => fun _ _ _ r h => by simp [laws_likeTexts.l0] at h
 | k + 1 => by
  have ih0 := laws_likeTexts.mono_l k
  {
  intro y0 y1 y2
  unfold laws_likeTexts.l0
  repeat' first
  | (with_reducible exact ih0 _ _ _)
  | (with_reducible exact LeO.refl _)
  | (with_reducible exact LeO.none _)
  | (with_reducible refine LeO.ite ?_ ?_)
  | (with_reducible refine LeO.bind ?_ (fun _ => ?_))
  | exact ih0 _ _ _
  | exact LeO.none _
  | refine LeO.ite ?_ ?_
  | refine LeO.bind ?_ (fun _ => ?_)
  }
theorem laws_likeTexts.mono : ∀ a0 a1 k, LeO (laws_likeTexts.f k a0 a1) (laws_likeTexts.f (k + 1) a0 a1) := by
 intro a0 a1 k
 have ih0 := laws_likeTexts.mono_l k
 unfold laws_likeTexts.f
 repeat' first
   | (with_reducible exact ih0 _ _ _)
   | (with_reducible exact LeO.refl _)
   | (with_reducible exact LeO.none _)
   | (with_reducible refine LeO.ite ?_ ?_)
   | (with_reducible refine LeO.bind ?_ (fun _ => ?_))
   | exact ih0 _ _ _
   | exact LeO.none _
   | refine LeO.ite ?_ ?_
   | refine LeO.bind ?_ (fun _ => ?_)
set_option maxHeartbeats 8000000 in
set_option maxRecDepth 100000 in
theorem laws_likeTexts.calls (k : Nat) (A0 : Option Addr) (c0 : Nat) (l0 : List ByteArray) (A1 : Option Addr) (c1 : Nat) (l1 : List ByteArray) (r : Bool) (w : World) (hr0 : Kd.C Kd.string w A0 l0.length l0) (hc0 : l0.length ≤ c0) (hr1 : Kd.C Kd.string w A1 l1.length l1) (hc1 : l1.length ≤ c1) (h : laws_likeTexts.f k l0 l1 = some r) :
  Calls Try.prog 61 #[.slice A0 l0.length c0, .slice A1 l1.length c1] w fun e w' => e = .returned (.bool r) ∧ Drawn0 w w' := by
 have HR0 := Aside0.mk hr0
 have HC0 := Aside0.mk hc0
 clear hr0 hc0
 have HR1 := Aside0.mk hr1
 have HC1 := Aside0.mk hc1
 clear hr1 hc1
 have H : (if (l0.length : Int) = (l1.length : Int) then (laws_likeTexts.l0 k l0 l1 0) else (some false)) = some r := h
 clear h
 by_cases c3 : (l0.length : Int) = (l1.length : Int)
 {
 rw [if_pos c3] at H
 have c3b0 : ((l0.length : Int) == (l1.length : Int)) = true := beq_iff_eq.mpr c3
 have c3b1 : ((l0.length : Int) != (l1.length : Int)) = false := bne_eq_false_iff_eq.mpr c3
 have c3b2 : (l0.length == l1.length) = true := by first | simpa using c3 | (simp at c3 ⊢; omega)
 clear c3
 have H' := Aside0.mk H
 clear H
 go_enter Try.func61, Try.ntmps61
 go_wp2
 repeat (go_quiet (fail); try go_wp2)
 go_loopg [5] k (fun kq v5 w' => ∃ (x5_1 : Int), v5 = .int .i64 x5_1 ∧ Aside0 (laws_likeTexts.l0 kq l0 l1 x5_1 = some r) ∧ Aside0 (kq ≤ k) ∧ Drawn0 w w')
 case atStart => exact ⟨(0), (by first | rfl | (simp; done) | (simp [*]; done)), H', ⟨Nat.le_refl _⟩, by repeat (first | exact Drawn0.refl _ | apply Drawn0.step)⟩
 case round =>
  clear H'
  try clear c1
  try clear p2
  try clear c3
  try clear c3b0
  try clear c3b1
  try clear c3b2
  obtain ⟨x5_1, rfl, HA, HK1, ⟨m1, rfl⟩⟩ := hrel
  cases gk with
  | zero => exact absurd HA.out (by simp [laws_likeTexts.l0])
  | succ k1 =>
   have H := HA.out
   clear HA
   simp only [laws_likeTexts.l0] at H
   by_cases c4 : x5_1 < (l0.length : Int)
   {
   rw [if_pos c4] at H
   have c4b0 : decide (x5_1 < (l0.length : Int)) = true := decide_eq_true c4
   clear c4
   by_cases c5 : 0 ≤ x5_1
   {
   rw [if_pos c5] at H
   have c5b0 : decide (0 ≤ x5_1) = true := decide_eq_true c5
   clear c5
   by_cases c6 : x5_1 < (l1.length : Int)
   {
   rw [if_pos c6] at H
   have c6b0 : decide (x5_1 < (l1.length : Int)) = true := decide_eq_true c6
   clear c6
   by_cases c7 : (rdOf ByteArray.empty l0 x5_1).toList = (rdOf ByteArray.empty l1 x5_1).toList
   {
   rw [if_pos c7] at H
   have c7b0 : ((rdOf ByteArray.empty l0 x5_1).toList == (rdOf ByteArray.empty l1 x5_1).toList) = true := beq_iff_eq.mpr c7
   have c7b1 : ((rdOf ByteArray.empty l0 x5_1).toList != (rdOf ByteArray.empty l1 x5_1).toList) = false := bne_eq_false_iff_eq.mpr c7
   clear c7
   have H' := Aside0.mk H
   clear H
   have p376 : 0 ≤ (x5_1 : Int) := of_decide_eq_true (by first | (with_reducible assumption) | assumption)
   have q376 : x5_1 < (l0.length : Int) := of_decide_eq_true (by first | (with_reducible assumption) | assumption)
   obtain ⟨ad376, e376, hx376_0⟩ := Kd.at_string HR0.out x5_1 p376 q376
   cases e376
   replace p376 := eq_true p376
   replace q376 := eq_true q376
   have p377 : 0 ≤ (x5_1 : Int) := of_decide_eq_true (by first | (with_reducible assumption) | assumption)
   have q377 : x5_1 < (l1.length : Int) := of_decide_eq_true (by first | (with_reducible assumption) | assumption)
   obtain ⟨ad377, e377, hx377_0⟩ := Kd.at_string HR1.out x5_1 p377 q377
   cases e377
   replace p377 := eq_true p377
   replace q377 := eq_true q377
   go_wp2
   repeat (go_quiet (fail); try go_wp2)
   go_roundg k1
   case measure => have := HK1.out; omega
   case rel => exact ⟨(wrap64 (x5_1 + 1)), (by first | rfl | (simp; done) | (simp [*]; done)), H', ⟨by have := HK1.out; omega⟩, by repeat (first | exact Drawn0.refl _ | apply Drawn0.step)⟩
   }
   {
   rw [if_neg c7] at H
   have c7b0 : ((rdOf ByteArray.empty l0 x5_1).toList == (rdOf ByteArray.empty l1 x5_1).toList) = false := beq_eq_false_iff_ne.mpr c7
   have c7b1 : ((rdOf ByteArray.empty l0 x5_1).toList != (rdOf ByteArray.empty l1 x5_1).toList) = true := bne_iff_ne.mpr c7
   obtain rfl := Option.some.inj H
   have p376 : 0 ≤ (x5_1 : Int) := of_decide_eq_true (by first | (with_reducible assumption) | assumption)
   have q376 : x5_1 < (l0.length : Int) := of_decide_eq_true (by first | (with_reducible assumption) | assumption)
   obtain ⟨ad376, e376, hx376_0⟩ := Kd.at_string HR0.out x5_1 p376 q376
   cases e376
   replace p376 := eq_true p376
   replace q376 := eq_true q376
   have p377 : 0 ≤ (x5_1 : Int) := of_decide_eq_true (by first | (with_reducible assumption) | assumption)
   have q377 : x5_1 < (l1.length : Int) := of_decide_eq_true (by first | (with_reducible assumption) | assumption)
   obtain ⟨ad377, e377, hx377_0⟩ := Kd.at_string HR1.out x5_1 p377 q377
   cases e377
   replace p377 := eq_true p377
   replace q377 := eq_true q377
   go_wp2
   repeat (go_quiet (fail); try go_wp2)
   go_ret
   exact ⟨by first | rfl | (simp; done) | (simp [*]; done), by repeat (first | exact Drawn0.refl _ | apply Drawn0.step)⟩
   }
   }
   {
   rw [if_neg c6] at H
   exact absurd H (by simp)
   }
   }
   {
   rw [if_neg c5] at H
   exact absurd H (by simp)
   }
   }
   {
   rw [if_neg c4] at H
   have c4b0 : decide (x5_1 < (l0.length : Int)) = false := decide_eq_false c4
   clear c4
   obtain rfl := Option.some.inj H
   go_wp2
   repeat (go_quiet (fail); try go_wp2)
   go_ret
   exact ⟨by first | rfl | (simp; done) | (simp [*]; done), by repeat (first | exact Drawn0.refl _ | apply Drawn0.step)⟩
   }
 }
 {
 rw [if_neg c3] at H
 have c3b0 : ((l0.length : Int) == (l1.length : Int)) = false := beq_eq_false_iff_ne.mpr c3
 have c3b1 : ((l0.length : Int) != (l1.length : Int)) = true := bne_iff_ne.mpr c3
 have c3b2 : (l0.length == l1.length) = false := by first | simpa using c3 | (simp at c3 ⊢; omega)
 obtain rfl := Option.some.inj H
 go_enter Try.func61, Try.ntmps61
 go_wp2
 repeat (go_quiet (fail); try go_wp2)
 go_ret
 exact ⟨by first | rfl | (simp; done) | (simp [*]; done), by repeat (first | exact Drawn0.refl _ | apply Drawn0.step)⟩
 
 }
/-! ### laws_pick: function 62 -/
def laws_pick.l0 : Nat → List Int → Int → Int → Int → Int → Option (Int)
 | 0, _, _, _, _, _ => none
 | k + 1, x0, x1, x2, x7, x8 => if x8 < (x0.length : Int) then (if 0 ≤ x8 then (laws_pick.l0 k x0 x1 x2 (Int.tmod (wrap64 ((wrap64 ((wrap64 (x7 * 131)) + (wrap64 (rd x0 x8)))) + x1)) 1000003) (wrap64 (x8 + 1))) else (none)) else (if x2 = 0 then (none) else (some (Int.tmod x7 x2)))
def laws_pick.f (k : Nat) (l0 : List Int) (a1 : Int) (a2 : Int) : Option (Int) := laws_pick.l0 k l0 a1 a2 (wrap64 ((l0.length : Int) + (wrap64 (7919 * a1)))) 0
theorem laws_pick.mono_l : ∀ k, (∀ y0 y1 y2 y3 y4, LeO (laws_pick.l0 k y0 y1 y2 y3 y4) (laws_pick.l0 (k + 1) y0 y1 y2 y3 y4))
 | 0 => fun _ _ _ _ _ r h => by simp [laws_pick.l0] at h
 | k + 1 => by
  have ih0 := laws_pick.mono_l k
  {
  intro y0 y1 y2 y3 y4
  unfold laws_pick.l0
  repeat' first
  | (with_reducible exact ih0 _ _ _ _ _)
  | (with_reducible exact LeO.refl _)
  | (with_reducible exact LeO.none _)
  | (with_reducible refine LeO.ite ?_ ?_)
  | (with_reducible refine LeO.bind ?_ (fun _ => ?_))
  | exact ih0 _ _ _ _ _
  | exact LeO.none _
  | refine LeO.ite ?_ ?_
  | refine LeO.bind ?_ (fun _ => ?_)
  }
theorem laws_pick.mono : ∀ a0 a1 a2 k, LeO (laws_pick.f k a0 a1 a2) (laws_pick.f (k + 1) a0 a1 a2) := by
 intro a0 a1 a2 k
 have ih0 := laws_pick.mono_l k
 unfold laws_pick.f
 repeat' first
   | (with_reducible exact ih0 _ _ _ _ _)
   | (with_reducible exact LeO.refl _)
   | (with_reducible exact LeO.none _)
   | (with_reducible refine LeO.ite ?_ ?_)
   | (with_reducible refine LeO.bind ?_ (fun _ => ?_))
   | exact ih0 _ _ _ _ _
   | exact LeO.none _
   | refine LeO.ite ?_ ?_
   | refine LeO.bind ?_ (fun _ => ?_)
set_option maxHeartbeats 8000000 in
set_option maxRecDepth 100000 in
theorem laws_pick.calls (k : Nat) (A0 : Option Addr) (c0 : Nat) (l0 : List Int) (a1 : Int) (a2 : Int) (r : Int) (w : World) (hr0 : Kd.C (Kd.int .u8) w A0 l0.length l0) (hc0 : l0.length ≤ c0) (h : laws_pick.f k l0 a1 a2 = some r) :
  Calls Try.prog 62 #[.slice A0 l0.length c0, .int .i64 a1, .int .i64 a2] w fun e w' => e = .returned (.int .i64 r) ∧ Drawn0 w w' := by
 have HR0 := Aside0.mk hr0
 have HC0 := Aside0.mk hc0
 clear hr0 hc0
 have H : (laws_pick.l0 k l0 a1 a2 (wrap64 ((l0.length : Int) + (wrap64 (7919 * a1)))) 0) = some r := h
 clear h
 have H' := Aside0.mk H
 clear H
 go_enter Try.func62, Try.ntmps62
 go_wp2
 go_loopg [7, 8] k (fun kq v7 v8 w' => ∃ (x7_1 : Int) (x8_1 : Int), v7 = .int .i64 x7_1 ∧ v8 = .int .i64 x8_1 ∧ Aside0 (laws_pick.l0 kq l0 a1 a2 x7_1 x8_1 = some r) ∧ Aside0 (kq ≤ k) ∧ Drawn0 w w')
 case atStart => exact ⟨(wrap64 ((l0.length : Int) + (wrap64 (7919 * a1)))), (0), (by first | rfl | (simp; done) | (simp [*]; done)), (by first | rfl | (simp; done) | (simp [*]; done)), H', ⟨Nat.le_refl _⟩, by repeat (first | exact Drawn0.refl _ | apply Drawn0.step)⟩
 case round =>
  clear H'
  try clear p2
  obtain ⟨x7_1, x8_1, rfl, rfl, HA, HK1, ⟨m1, rfl⟩⟩ := hrel
  cases gk with
  | zero => exact absurd HA.out (by simp [laws_pick.l0])
  | succ k1 =>
   have H := HA.out
   clear HA
   simp only [laws_pick.l0] at H
   by_cases c4 : x8_1 < (l0.length : Int)
   {
   rw [if_pos c4] at H
   have c4b0 : decide (x8_1 < (l0.length : Int)) = true := decide_eq_true c4
   clear c4
   by_cases c5 : 0 ≤ x8_1
   {
   rw [if_pos c5] at H
   have c5b0 : decide (0 ≤ x8_1) = true := decide_eq_true c5
   clear c5
   have H' := Aside0.mk H
   clear H
   have p378 : 0 ≤ (x8_1 : Int) := of_decide_eq_true (by first | (with_reducible assumption) | assumption)
   have q378 : x8_1 < (l0.length : Int) := of_decide_eq_true (by first | (with_reducible assumption) | assumption)
   obtain ⟨ad378, e378, hx378_0⟩ := Kd.at_int HR0.out x8_1 p378 q378
   cases e378
   replace p378 := eq_true p378
   replace q378 := eq_true q378
   go_wp2
   go_roundg k1
   case measure => have := HK1.out; omega
   case rel => exact ⟨(Int.tmod (wrap64 ((wrap64 ((wrap64 (x7_1 * 131)) + (wrap64 (rd l0 x8_1)))) + a1)) 1000003), (wrap64 (x8_1 + 1)), (by first | rfl | (simp; done) | (simp [*]; done)), (by first | rfl | (simp; done) | (simp [*]; done)), H', ⟨by have := HK1.out; omega⟩, by repeat (first | exact Drawn0.refl _ | apply Drawn0.step)⟩
   }
   {
   rw [if_neg c5] at H
   exact absurd H (by simp)
   }
   }
   {
   rw [if_neg c4] at H
   have c4b0 : decide (x8_1 < (l0.length : Int)) = false := decide_eq_false c4
   clear c4
   by_cases c6 : a2 = 0
   {
   rw [if_pos c6] at H
   exact absurd H (by simp)
   }
   {
   rw [if_neg c6] at H
   have c6b0 : (a2 == 0) = false := beq_eq_false_iff_ne.mpr c6
   have c6b1 : (a2 != 0) = true := bne_iff_ne.mpr c6
   obtain rfl := Option.some.inj H
   go_wp2
   go_ret
   exact ⟨by first | rfl | (simp; done) | (simp [*]; done), by repeat (first | exact Drawn0.refl _ | apply Drawn0.step)⟩
   
   }
   }
end Go.Proofs.Ythkhfmomibfkjaa.PFnTexts

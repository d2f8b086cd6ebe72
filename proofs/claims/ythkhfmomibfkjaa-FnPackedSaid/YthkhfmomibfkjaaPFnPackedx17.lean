-- by a program of this session (wip/print/run.py) for this claim
import Derived.Test.YthkhfmomibfkjaaLibPu
import Derived.Test.YthkhfmomibfkjaaPFnPackedx0
import Derived.Test.YthkhfmomibfkjaaPFnPackedx4
import Derived.Test.YthkhfmomibfkjaaPFnPackedx12
import Derived.Test.YthkhfmomibfkjaaPFnPackedx14
import Derived.Test.YthkhfmomibfkjaaPFnPackedx16
namespace Go.Proofs.Ythkhfmomibfkjaa.PFnPacked
open Go.Proofs.Ythkhfmomibfkjaa.Lib Go.RowKit Go.Proofs.YthkhfmomibfkjaaW.PrintWords Go.Proofs.YthkhfmomibfkjaaW.PrintLast Go.Proofs.YthkhfmomibfkjaaW.PrintMore
attribute [local go_sem] max2_int min2_int max_two min_two max_three min_three max_four min_four   -- for this text's walks alone
set_option linter.unusedVariables false
set_option linter.unusedSimpArgs false

theorem z66a {p_ : Prop} (h_ : p_ := by repeat (first | (with_reducible first | exact HI569.out | apply IsS105.alloc | apply IsS105.drewN | apply IsS105.drew | apply IsS105.set_1 | apply IsS105.set_2) | exact HI569.out)) : p_ := h_
theorem z66b {p_ : Prop} (h_ : p_ := by repeat (first | (with_reducible first | exact HB.out | apply below_alloc | apply pw_below_drewN | apply below_drew1 | refine below_set ?_ (IsS105.ge HI569.out)) | exact HB.out)) : p_ := h_
theorem z66c {p_ : Prop} (h_ : p_ := by (try simp only [List.map_toArray, List.map_cons, List.map_nil]); first | done | rfl | (simp only [List.length_drop, List.length_take]; rfl)) : p_ := h_
theorem z66d {p_ : Prop} (h_ : p_ := by (with_reducible repeat (first | apply Kd.R_alloc | apply Kd.R_drewN | apply Kd.R_drew)); exact HO572.out) : p_ := h_
theorem z66e {p_ : Prop} (h_ : p_ := by (with_reducible repeat (first | apply Kd.R_alloc | apply Kd.R_drewN | apply Kd.R_drew)); exact HO577.out) : p_ := h_
def spec_DrawUnpacked.f (k : Nat) (l0 : List Int) : Option (List Int) := (spec_l1New.f k l0).bind fun bt566 => ((spec_l3DrawAny.f k bt566.1 bt566.2.1 bt566.2.2).bind fun bt570 => ((spec_Packed.f k bt570.1).bind fun t575 => ((spec_l1Once.f bt566.1 bt570.2.1 bt570.2.2 2).bind fun bt578 => (if bt578.1 = true then ((spec_l1Bend.f k bt566.1 bt578.2.1 bt578.2.2 (strOfNums t575) (⟨#[0, 1, 2, 128, 97, 98]⟩ : ByteArray)).bind fun bt581 => (if (bt581.1.size : Int) ≤ 140737488351232 then (some (bytesOf bt581.1)) else (none))) else (if ((strOfNums t575).size : Int) ≤ 140737488351232 then (some (bytesOf (strOfNums t575))) else (none))))))
set_option maxHeartbeats 8000000 in
set_option maxRecDepth 100000 in
theorem spec_DrawUnpacked.calls (k : Nat) (A0 : Option Addr) (c0 : Nat) (l0 : List Int) (r : List Int) (w : World) (hr0 : Kd.C (Kd.int .u8) w A0 l0.length l0) (hc0 : l0.length ≤ c0) (h : spec_DrawUnpacked.f k l0 = some r) :
  Calls Try.prog 66 #[.slice A0 l0.length c0] w fun e w' => ∃ v0_ : Value, e = .returned (v0_) ∧ Kd.R (Kd.int .u8) 5 w' w.heap.size (fun _ => True) v0_ r ∧ Below w.heap.size w w' := by
 have HR0 := A_ hr0
 have HC0 := A_ hc0
 clear hr0 hc0
 have HB := A_ (Below.refl w.heap.size w)
 have H : ((spec_l1New.f k l0).bind fun bt566 => ((spec_l3DrawAny.f k bt566.1 bt566.2.1 bt566.2.2).bind fun bt570 => ((spec_Packed.f k bt570.1).bind fun t575 => ((spec_l1Once.f bt566.1 bt570.2.1 bt570.2.2 2).bind fun bt578 => (if bt578.1 = true then ((spec_l1Bend.f k bt566.1 bt578.2.1 bt578.2.2 (strOfNums t575) (⟨#[0, 1, 2, 128, 97, 98]⟩ : ByteArray)).bind fun bt581 => (if (bt581.1.size : Int) ≤ 140737488351232 then (some (bytesOf bt581.1)) else (none))) else (if ((strOfNums t575).size : Int) ≤ 140737488351232 then (some (bytesOf (strOfNums t575))) else (none))))))) = some r := h
 clear h
 replace H := Option.bind_eq_some_iff.mp H
 obtain ⟨⟨t566, t567, t568⟩, A20, H⟩ := H
 (try dsimp only at H)
 have A2 := A_ A20
 clear A20
 replace H := Option.bind_eq_some_iff.mp H
 obtain ⟨⟨t570, t573, t574⟩, A30, H⟩ := H
 (try dsimp only at H)
 have A3 := A_ A30
 clear A30
 replace H := Option.bind_eq_some_iff.mp H
 obtain ⟨t575, A40, H⟩ := H
 (try dsimp only at H)
 have A4 := A_ A40
 clear A40
 replace H := Option.bind_eq_some_iff.mp H
 obtain ⟨⟨t578, t579, t580⟩, A50, H⟩ := H
 (try dsimp only at H)
 have A5 := A_ A50
 clear A50
 by_cases c6 : t578 = true
 {
 subst c6
 rw [if_pos rfl] at H
 replace H := Option.bind_eq_some_iff.mp H
 obtain ⟨⟨t581, t582, t583⟩, A70, H⟩ := H
 (try dsimp only at H)
 have A7 := A_ A70
 clear A70
 by_cases c8 : (t581.size : Int) ≤ 140737488351232
 {
 rw [if_pos c8] at H
 have c8b0 := eq_true c8
 have c8b1 : decide ((t581.size : Int) ≤ 140737488351232) = true := decide_eq_true c8
 clear c8
 obtain ⟨y584, hy584⟩ : ∃ y_ : List Int, y_ = (bytesOf t581) := ⟨_, rfl⟩
 replace H : (some y584) = some r := by first | (rw [hy584]; with_reducible exact H) | (have H2_ := (Option.bind_some _ _).symm.trans H; rw [hy584]; with_reducible exact H2_) | (have H2_ := (Option.bind_some _ _).symm.trans H; with_reducible exact H2_) | with_reducible exact H | (rw [hy584]; exact H) | exact H
 have Ny584 := A_ hy584
 clear hy584
 obtain rfl := Option.some.inj H
 go_enter Try.func66, Try.ntmps66
 go_wp2_with (first | ((with_reducible refine gate_callee (f := 93) rfl ?_); refine goesL_ (some 6) rfl rfl Try.func93 (by kernel_rfl) rfl #[.slice A0 l0.length c0] rfl z66c ?_; (with_reducible refine (spec_l1New.calls k _ _ l0 t566 t567 t568 w _ ?side1 ?side2 ?side3 A2.out).mono ?_); (case side1 => exact (by repeat (first | (with_reducible first | exact HB.out | apply below_alloc | apply pw_below_drewN | apply below_drew1) | exact HB.out))); (case side2 => exact HR0.out); (case side3 => exact HC0.out); rintro e w9 ⟨g569, rfl, hi, hb, hb2⟩; refine ⟨_, rfl, ?_⟩; have n0_ := A_ (hb); have n1_ := A_ (hi); clear HB; have HB := n0_; have HI569 := n1_; clear n0_ n1_) | ((with_reducible refine gate_callee (f := 99) rfl ?_); refine goesL_ (some 8) rfl rfl Try.func99 (by kernel_rfl) rfl #[.pointer (some ⟨g569, 0, none⟩)] rfl z66c ?_; (with_reducible refine (spec_l3DrawAny.calls k g569 t566 t567 t568 t570 t573 t574 w _ ?side1 ?side2 A3.out).mono ?_); (case side1 => exact z66a); (case side2 => exact z66b); rintro e w10 ⟨v571, rfl, ho0, hi, hb, hk⟩; refine ⟨_, rfl, ?_⟩; have n0_ := A_ (Kd.R_lower ho0 (below_size z66b)); have n1_ := A_ (hb); have n2_ := A_ (hi); clear HB; clear HI569; have HO572 := n0_; have HB := n1_; have HI569 := n2_; clear n0_ n1_ n2_; obtain ⟨Ao11, co11, eo11⟩ := Kd.R_slice HO572.out; subst eo11) | ((with_reducible refine gate_callee (f := 48) rfl ?_); refine goesL_ (some 9) rfl rfl Try.func48 (by kernel_rfl) rfl #[.slice Ao11 t570.length co11] rfl z66c ?_; (with_reducible refine (spec_Packed.calls k _ _ t570 t575 _ ?side1 ?side2 A4.out).mono ?_); (case side1 => exact (by repeat (first | exact (Kd.R_reads' HO572.out).2.2 | (with_reducible refine Kd.C_alloc ?_ _) | (with_reducible refine Kd.C_drewN ?_ _) | (with_reducible refine Kd.C_drew ?_)))); (case side2 => exact (Kd.R_reads' HO572.out).2.1); rintro e w12 ⟨v576, rfl, ho0, hb⟩; refine ⟨_, rfl, ?_⟩; have n0_ := A_ (Kd.R_below z66d hb); have n1_ := A_ (Kd.R_lower ho0 (below_size z66b)); have n2_ := A_ (IsS105.below z66a hb); have n3_ := A_ (below_step z66b hb); clear HO572; clear HI569; clear HB; have HO572 := n0_; have HO577 := n1_; have HI569 := n2_; have HB := n3_; clear n0_ n1_ n2_ n3_; have hcv13 := own_string (P := Try.prog) Try.underlying22 Try.underlying5 Try.underlying9 (Kd.own_of_R HO577.out)) | ((with_reducible refine gate_callee (f := 94) rfl ?_); refine goesL_ (some 12) rfl rfl Try.func94 (by kernel_rfl) rfl #[.pointer (some ⟨g569, 0, none⟩), .int .i64 2] rfl z66c ?_; (with_reducible refine (spec_l1Once.calls g569 t566 t573 t574 2 true t579 t580 w _ ?side1 ?side2 A5.out).mono ?_); (case side1 => exact z66a); (case side2 => exact z66b); rintro e w14 ⟨rfl, hi, hb, hk⟩; refine ⟨_, rfl, ?_⟩; replace HO572 := A_ (Kd.R_mono (Kd.R_keep (IsS105.apart (show IsS105 w _ g569 t566 t573 t574 from z66a) z66d (by decide)) hk (fun _ h => h.2)) (fun _ h => h.1)); replace HO577 := A_ (Kd.R_mono (Kd.R_keep (IsS105.apart (show IsS105 w _ g569 t566 t573 t574 from z66a) z66e (by decide)) hk (fun _ h => h.2)) (fun _ h => h.1)); replace HB := A_ (hb); replace HI569 := A_ (hi)) | ((with_reducible refine gate_callee (f := 97) rfl ?_); refine goesL_ (some 15) rfl rfl Try.func97 (by kernel_rfl) rfl #[.pointer (some ⟨g569, 0, none⟩), .string (strOfNums t575), .string (⟨#[0, 1, 2, 128, 97, 98]⟩ : ByteArray)] rfl z66c ?_; (with_reducible refine (spec_l1Bend.calls k g569 t566 t579 t580 (strOfNums t575) (⟨#[0, 1, 2, 128, 97, 98]⟩ : ByteArray) t581 t582 t583 w _ ?side1 ?side2 A7.out).mono ?_); (case side1 => exact z66a); (case side2 => exact z66b); rintro e w15 ⟨rfl, hi, hb, hk⟩; refine ⟨_, rfl, ?_⟩; replace HO572 := A_ (Kd.R_mono (Kd.R_keep (IsS105.apart (show IsS105 w _ g569 t566 t579 t580 from z66a) z66d (by decide)) hk (fun _ h => h.2)) (fun _ h => h.1)); replace HO577 := A_ (Kd.R_mono (Kd.R_keep (IsS105.apart (show IsS105 w _ g569 t566 t579 t580 from z66a) z66e (by decide)) hk (fun _ h => h.2)) (fun _ h => h.1)); replace HB := A_ (hb); replace HI569 := A_ (hi)) | ((with_reducible refine gate_dst (N := 17) rfl ?_); refine Go.Proofs.Ythkhfmomibfkjaa.Lib.R_conv _ 5 rfl (N := 17) rfl 9 22 (.tmp 16) rfl Try.underlying9 Try.underlying22 Try.underlying5 t581 rfl (ok := fun _ => True) (okp := fun _ => True) (fun _ hk => hk) trivial (of_decide_eq_true (by first | (with_reducible assumption) | assumption)) (Below.refl _ _) (Nat.le_refl _) ?_; intro v585 w16 ho17 hb hg_ hnew_; clear hg_ hnew_; (first | rw [← Ny584.out] at ho17 | (simp only [Int.reduceToNat] at ho17; rw [← Ny584.out] at ho17)); have n0_ := A_ (Kd.R_below z66d hb); have n1_ := A_ (Kd.R_elder' z66e (Kd.R_base ho17) hb); have n2_ := A_ (Kd.R_lower (Kd.R_new' ho17 (Kd.R_lt z66e)) (below_size z66b)); have n3_ := A_ (IsS105.below z66a hb); have n4_ := A_ (below_step z66b hb); clear HO572; clear HO577; clear HI569; clear HB; have HO572 := n0_; have HO577 := n1_; have HO586 := n2_; have HI569 := n3_; have HB := n4_; clear n0_ n1_ n2_ n3_ n4_; clear hb ho17))
 go_ret
 exact ⟨_, by first | rfl | (simp [errW_none, errW_some] <;> rfl) | (simp [*, errW_none, errW_some] <;> rfl), by (with_reducible repeat (first | apply Kd.R_alloc | apply Kd.R_drewN | apply Kd.R_drew)); exact Kd.R_mono HO586.out (fun _ hk => trivial), by repeat (first | (with_reducible first | exact HB.out | apply below_alloc | apply pw_below_drewN | apply below_drew1 | refine below_set ?_ (IsS105.ge HI569.out)) | exact HB.out)⟩
 }
 {
 rw [if_neg c8] at H
 exact absurd H (by simp)
 }
 }
 {
 replace c6 := Bool.eq_false_iff.mpr c6
 subst c6
 rw [if_neg Bool.false_ne_true] at H
 by_cases c18 : ((strOfNums t575).size : Int) ≤ 140737488351232
 {
 rw [if_pos c18] at H
 have c18b0 := eq_true c18
 have c18b1 : decide (((strOfNums t575).size : Int) ≤ 140737488351232) = true := decide_eq_true c18
 clear c18
 obtain ⟨y587, hy587⟩ : ∃ y_ : List Int, y_ = (bytesOf (strOfNums t575)) := ⟨_, rfl⟩
 replace H : (some y587) = some r := by first | (rw [hy587]; with_reducible exact H) | (have H2_ := (Option.bind_some _ _).symm.trans H; rw [hy587]; with_reducible exact H2_) | (have H2_ := (Option.bind_some _ _).symm.trans H; with_reducible exact H2_) | with_reducible exact H | (rw [hy587]; exact H) | exact H
 have Ny587 := A_ hy587
 clear hy587
 obtain rfl := Option.some.inj H
 go_enter Try.func66, Try.ntmps66
 go_wp2_with (first | ((with_reducible refine gate_callee (f := 93) rfl ?_); refine goesL_ (some 6) rfl rfl Try.func93 (by kernel_rfl) rfl #[.slice A0 l0.length c0] rfl z66c ?_; (with_reducible refine (spec_l1New.calls k _ _ l0 t566 t567 t568 w _ ?side1 ?side2 ?side3 A2.out).mono ?_); (case side1 => exact (by repeat (first | (with_reducible first | exact HB.out | apply below_alloc | apply pw_below_drewN | apply below_drew1) | exact HB.out))); (case side2 => exact HR0.out); (case side3 => exact HC0.out); rintro e w19 ⟨g569, rfl, hi, hb, hb2⟩; refine ⟨_, rfl, ?_⟩; have n0_ := A_ (hb); have n1_ := A_ (hi); clear HB; have HB := n0_; have HI569 := n1_; clear n0_ n1_) | ((with_reducible refine gate_callee (f := 99) rfl ?_); refine goesL_ (some 8) rfl rfl Try.func99 (by kernel_rfl) rfl #[.pointer (some ⟨g569, 0, none⟩)] rfl z66c ?_; (with_reducible refine (spec_l3DrawAny.calls k g569 t566 t567 t568 t570 t573 t574 w _ ?side1 ?side2 A3.out).mono ?_); (case side1 => exact z66a); (case side2 => exact z66b); rintro e w20 ⟨v571, rfl, ho0, hi, hb, hk⟩; refine ⟨_, rfl, ?_⟩; have n0_ := A_ (Kd.R_lower ho0 (below_size z66b)); have n1_ := A_ (hb); have n2_ := A_ (hi); clear HB; clear HI569; have HO572 := n0_; have HB := n1_; have HI569 := n2_; clear n0_ n1_ n2_; obtain ⟨Ao21, co21, eo21⟩ := Kd.R_slice HO572.out; subst eo21) | ((with_reducible refine gate_callee (f := 48) rfl ?_); refine goesL_ (some 9) rfl rfl Try.func48 (by kernel_rfl) rfl #[.slice Ao21 t570.length co21] rfl z66c ?_; (with_reducible refine (spec_Packed.calls k _ _ t570 t575 _ ?side1 ?side2 A4.out).mono ?_); (case side1 => exact (by repeat (first | exact (Kd.R_reads' HO572.out).2.2 | (with_reducible refine Kd.C_alloc ?_ _) | (with_reducible refine Kd.C_drewN ?_ _) | (with_reducible refine Kd.C_drew ?_)))); (case side2 => exact (Kd.R_reads' HO572.out).2.1); rintro e w22 ⟨v576, rfl, ho0, hb⟩; refine ⟨_, rfl, ?_⟩; have n0_ := A_ (Kd.R_below z66d hb); have n1_ := A_ (Kd.R_lower ho0 (below_size z66b)); have n2_ := A_ (IsS105.below z66a hb); have n3_ := A_ (below_step z66b hb); clear HO572; clear HI569; clear HB; have HO572 := n0_; have HO577 := n1_; have HI569 := n2_; have HB := n3_; clear n0_ n1_ n2_ n3_; have hcv23 := own_string (P := Try.prog) Try.underlying22 Try.underlying5 Try.underlying9 (Kd.own_of_R HO577.out)) | ((with_reducible refine gate_callee (f := 94) rfl ?_); refine goesL_ (some 12) rfl rfl Try.func94 (by kernel_rfl) rfl #[.pointer (some ⟨g569, 0, none⟩), .int .i64 2] rfl z66c ?_; (with_reducible refine (spec_l1Once.calls g569 t566 t573 t574 2 false t579 t580 w _ ?side1 ?side2 A5.out).mono ?_); (case side1 => exact z66a); (case side2 => exact z66b); rintro e w24 ⟨rfl, hi, hb, hk⟩; refine ⟨_, rfl, ?_⟩; replace HO572 := A_ (Kd.R_mono (Kd.R_keep (IsS105.apart (show IsS105 w _ g569 t566 t573 t574 from z66a) z66d (by decide)) hk (fun _ h => h.2)) (fun _ h => h.1)); replace HO577 := A_ (Kd.R_mono (Kd.R_keep (IsS105.apart (show IsS105 w _ g569 t566 t573 t574 from z66a) z66e (by decide)) hk (fun _ h => h.2)) (fun _ h => h.1)); replace HB := A_ (hb); replace HI569 := A_ (hi)) | ((with_reducible refine gate_dst (N := 17) rfl ?_); refine Go.Proofs.Ythkhfmomibfkjaa.Lib.R_conv _ 5 rfl (N := 17) rfl 9 22 (.tmp 16) rfl Try.underlying9 Try.underlying22 Try.underlying5 (strOfNums t575) rfl (ok := fun _ => True) (okp := fun _ => True) (fun _ hk => hk) trivial (of_decide_eq_true (by first | (with_reducible assumption) | assumption)) (Below.refl _ _) (Nat.le_refl _) ?_; intro v588 w25 ho26 hb hg_ hnew_; clear hg_ hnew_; (first | rw [← Ny587.out] at ho26 | (simp only [Int.reduceToNat] at ho26; rw [← Ny587.out] at ho26)); have n0_ := A_ (Kd.R_below z66d hb); have n1_ := A_ (Kd.R_elder' z66e (Kd.R_base ho26) hb); have n2_ := A_ (Kd.R_lower (Kd.R_new' ho26 (Kd.R_lt z66e)) (below_size z66b)); have n3_ := A_ (IsS105.below z66a hb); have n4_ := A_ (below_step z66b hb); clear HO572; clear HO577; clear HI569; clear HB; have HO572 := n0_; have HO577 := n1_; have HO589 := n2_; have HI569 := n3_; have HB := n4_; clear n0_ n1_ n2_ n3_ n4_; clear hb ho26))
 go_ret
 exact ⟨_, by first | rfl | (simp [errW_none, errW_some] <;> rfl) | (simp [*, errW_none, errW_some] <;> rfl), by (with_reducible repeat (first | apply Kd.R_alloc | apply Kd.R_drewN | apply Kd.R_drew)); exact Kd.R_mono HO589.out (fun _ hk => trivial), by repeat (first | (with_reducible first | exact HB.out | apply below_alloc | apply pw_below_drewN | apply below_drew1 | refine below_set ?_ (IsS105.ge HI569.out)) | exact HB.out)⟩
 }
 {
 rw [if_neg c18] at H
 exact absurd H (by simp)
 
 }
 }
theorem z67a {p_ : Prop} (h_ : p_ := by (try simp only [List.map_toArray, List.map_cons, List.map_nil]); first | done | rfl | (simp only [List.length_drop, List.length_take]; rfl)) : p_ := h_
theorem z67b {p_ : Prop} (h_ : p_ := by repeat (first | (with_reducible first | exact HI593.out | apply IsS105.alloc | apply IsS105.drewN | apply IsS105.drew | apply IsS105.set_1 | apply IsS105.set_2) | exact HI593.out)) : p_ := h_
theorem z67c {p_ : Prop} (h_ : p_ := by repeat (first | (with_reducible first | exact HB.out | apply below_alloc | apply pw_below_drewN | apply below_drew1 | refine below_set ?_ (IsS105.ge HI593.out)) | exact HB.out)) : p_ := h_
def spec_DrawCommon.f (k : Nat) (l0 : List Int) : Option (ByteArray × ByteArray) := (spec_l1New.f k l0).bind fun bt590 => ((spec_l1DrawText.f k bt590.1 bt590.2.1 bt590.2.2).bind fun bt594 => ((spec_l1Once.f bt590.1 bt594.2.1 bt594.2.2 2).bind fun bt597 => (if bt597.1 = true then ((spec_l1DrawText.f k bt590.1 bt597.2.1 bt597.2.2).bind fun bt600 => (if bt594.1.size + bt600.1.size ≤ 9223372036854775807 then (some (bt594.1, bt594.1 ++ bt600.1)) else (none))) else ((spec_l1DrawText.f k bt590.1 bt597.2.1 bt597.2.2).bind fun bt603 => (some (bt594.1, bt603.1))))))
set_option maxHeartbeats 8000000 in
set_option maxRecDepth 100000 in
theorem spec_DrawCommon.calls (k : Nat) (A0 : Option Addr) (c0 : Nat) (l0 : List Int) (r1 : ByteArray) (r2 : ByteArray) (w : World) (hr0 : Kd.C (Kd.int .u8) w A0 l0.length l0) (hc0 : l0.length ≤ c0) (h : spec_DrawCommon.f k l0 = some (r1, r2)) :
  Calls Try.prog 67 #[.slice A0 l0.length c0] w fun e w' => e = .returned (.tuple #[.string r1, .string r2]) ∧ Below w.heap.size w w' := by
 have HR0 := A_ hr0
 have HC0 := A_ hc0
 clear hr0 hc0
 have HB := A_ (Below.refl w.heap.size w)
 have H : ((spec_l1New.f k l0).bind fun bt590 => ((spec_l1DrawText.f k bt590.1 bt590.2.1 bt590.2.2).bind fun bt594 => ((spec_l1Once.f bt590.1 bt594.2.1 bt594.2.2 2).bind fun bt597 => (if bt597.1 = true then ((spec_l1DrawText.f k bt590.1 bt597.2.1 bt597.2.2).bind fun bt600 => (if bt594.1.size + bt600.1.size ≤ 9223372036854775807 then (some (bt594.1, bt594.1 ++ bt600.1)) else (none))) else ((spec_l1DrawText.f k bt590.1 bt597.2.1 bt597.2.2).bind fun bt603 => (some (bt594.1, bt603.1))))))) = some (r1, r2) := h
 clear h
 replace H := Option.bind_eq_some_iff.mp H
 obtain ⟨⟨t590, t591, t592⟩, A20, H⟩ := H
 (try dsimp only at H)
 have A2 := A_ A20
 clear A20
 replace H := Option.bind_eq_some_iff.mp H
 obtain ⟨⟨t594, t595, t596⟩, A30, H⟩ := H
 (try dsimp only at H)
 have A3 := A_ A30
 clear A30
 replace H := Option.bind_eq_some_iff.mp H
 obtain ⟨⟨t597, t598, t599⟩, A40, H⟩ := H
 (try dsimp only at H)
 have A4 := A_ A40
 clear A40
 by_cases c5 : t597 = true
 {
 subst c5
 rw [if_pos rfl] at H
 replace H := Option.bind_eq_some_iff.mp H
 obtain ⟨⟨t600, t601, t602⟩, A60, H⟩ := H
 (try dsimp only at H)
 have A6 := A_ A60
 clear A60
 by_cases c7 : t594.size + t600.size ≤ 9223372036854775807
 {
 rw [if_pos c7] at H
 have c7b0 := eq_true c7
 have c7b1 : decide (t594.size + t600.size ≤ 9223372036854775807) = true := decide_eq_true c7
 try have c7b2 : (9223372036854775807 < t594.size + t600.size) = False := eq_false (Nat.not_lt.2 c7)
 simp only [Option.some.injEq, Prod.mk.injEq] at H
 obtain ⟨rfl, rfl⟩ := H
 go_enter Try.func67, Try.ntmps67
 go_wp2_with (first | ((with_reducible refine gate_callee (f := 93) rfl ?_); refine goesL_ (some 7) rfl rfl Try.func93 (by kernel_rfl) rfl #[.slice A0 l0.length c0] rfl z67a ?_; (with_reducible refine (spec_l1New.calls k _ _ l0 t590 t591 t592 w _ ?side1 ?side2 ?side3 A2.out).mono ?_); (case side1 => exact (by repeat (first | (with_reducible first | exact HB.out | apply below_alloc | apply pw_below_drewN | apply below_drew1) | exact HB.out))); (case side2 => exact HR0.out); (case side3 => exact HC0.out); rintro e w8 ⟨g593, rfl, hi, hb, hb2⟩; refine ⟨_, rfl, ?_⟩; have n0_ := A_ (hb); have n1_ := A_ (hi); clear HB; have HB := n0_; have HI593 := n1_; clear n0_ n1_) | ((with_reducible refine gate_callee (f := 96) rfl ?_); refine goesL_ (some 9) rfl rfl Try.func96 (by kernel_rfl) rfl #[.pointer (some ⟨g593, 0, none⟩)] rfl z67a ?_; (with_reducible refine (spec_l1DrawText.calls k g593 t590 t591 t592 t594 t595 t596 w _ ?side1 ?side2 A3.out).mono ?_); (case side1 => exact z67b); (case side2 => exact z67c); rintro e w9 ⟨rfl, hi, hb, hk⟩; refine ⟨_, rfl, ?_⟩; replace HB := A_ (hb); replace HI593 := A_ (hi)) | ((with_reducible refine gate_callee (f := 94) rfl ?_); refine goesL_ (some 11) rfl rfl Try.func94 (by kernel_rfl) rfl #[.pointer (some ⟨g593, 0, none⟩), .int .i64 2] rfl z67a ?_; (with_reducible refine (spec_l1Once.calls g593 t590 t595 t596 2 true t598 t599 w _ ?side1 ?side2 A4.out).mono ?_); (case side1 => exact z67b); (case side2 => exact z67c); rintro e w10 ⟨rfl, hi, hb, hk⟩; refine ⟨_, rfl, ?_⟩; replace HB := A_ (hb); replace HI593 := A_ (hi)) | ((with_reducible refine gate_callee (f := 96) rfl ?_); refine goesL_ (some 15) rfl rfl Try.func96 (by kernel_rfl) rfl #[.pointer (some ⟨g593, 0, none⟩)] rfl z67a ?_; (with_reducible refine (spec_l1DrawText.calls k g593 t590 t598 t599 t600 t601 t602 w _ ?side1 ?side2 A6.out).mono ?_); (case side1 => exact z67b); (case side2 => exact z67c); rintro e w11 ⟨rfl, hi, hb, hk⟩; refine ⟨_, rfl, ?_⟩; replace HB := A_ (hb); replace HI593 := A_ (hi)))
 go_ret2
 exact ⟨by first | rfl | (simp [errW_none, errW_some] <;> rfl) | (simp [*, errW_none, errW_some] <;> rfl), by repeat (first | (with_reducible first | exact HB.out | apply below_alloc | apply pw_below_drewN | apply below_drew1 | refine below_set ?_ (IsS105.ge HI593.out)) | exact HB.out)⟩
 }
 {
 rw [if_neg c7] at H
 exact absurd H (by simp)
 }
 }
 {
 replace c5 := Bool.eq_false_iff.mpr c5
 subst c5
 rw [if_neg Bool.false_ne_true] at H
 replace H := Option.bind_eq_some_iff.mp H
 obtain ⟨⟨t603, t604, t605⟩, A120, H⟩ := H
 (try dsimp only at H)
 have A12 := A_ A120
 clear A120
 simp only [Option.some.injEq, Prod.mk.injEq] at H
 obtain ⟨rfl, rfl⟩ := H
 go_enter Try.func67, Try.ntmps67
 go_wp2_with (first | ((with_reducible refine gate_callee (f := 93) rfl ?_); refine goesL_ (some 7) rfl rfl Try.func93 (by kernel_rfl) rfl #[.slice A0 l0.length c0] rfl z67a ?_; (with_reducible refine (spec_l1New.calls k _ _ l0 t590 t591 t592 w _ ?side1 ?side2 ?side3 A2.out).mono ?_); (case side1 => exact (by repeat (first | (with_reducible first | exact HB.out | apply below_alloc | apply pw_below_drewN | apply below_drew1) | exact HB.out))); (case side2 => exact HR0.out); (case side3 => exact HC0.out); rintro e w13 ⟨g593, rfl, hi, hb, hb2⟩; refine ⟨_, rfl, ?_⟩; have n0_ := A_ (hb); have n1_ := A_ (hi); clear HB; have HB := n0_; have HI593 := n1_; clear n0_ n1_) | ((with_reducible refine gate_callee (f := 96) rfl ?_); refine goesL_ (some 9) rfl rfl Try.func96 (by kernel_rfl) rfl #[.pointer (some ⟨g593, 0, none⟩)] rfl z67a ?_; (with_reducible refine (spec_l1DrawText.calls k g593 t590 t591 t592 t594 t595 t596 w _ ?side1 ?side2 A3.out).mono ?_); (case side1 => exact z67b); (case side2 => exact z67c); rintro e w14 ⟨rfl, hi, hb, hk⟩; refine ⟨_, rfl, ?_⟩; replace HB := A_ (hb); replace HI593 := A_ (hi)) | ((with_reducible refine gate_callee (f := 94) rfl ?_); refine goesL_ (some 11) rfl rfl Try.func94 (by kernel_rfl) rfl #[.pointer (some ⟨g593, 0, none⟩), .int .i64 2] rfl z67a ?_; (with_reducible refine (spec_l1Once.calls g593 t590 t595 t596 2 false t598 t599 w _ ?side1 ?side2 A4.out).mono ?_); (case side1 => exact z67b); (case side2 => exact z67c); rintro e w15 ⟨rfl, hi, hb, hk⟩; refine ⟨_, rfl, ?_⟩; replace HB := A_ (hb); replace HI593 := A_ (hi)) | ((with_reducible refine gate_callee (f := 96) rfl ?_); refine goesL_ (some 19) rfl rfl Try.func96 (by kernel_rfl) rfl #[.pointer (some ⟨g593, 0, none⟩)] rfl z67a ?_; (with_reducible refine (spec_l1DrawText.calls k g593 t590 t598 t599 t603 t604 t605 w _ ?side1 ?side2 A12.out).mono ?_); (case side1 => exact z67b); (case side2 => exact z67c); rintro e w16 ⟨rfl, hi, hb, hk⟩; refine ⟨_, rfl, ?_⟩; replace HB := A_ (hb); replace HI593 := A_ (hi)))
 go_ret2
 exact ⟨by first | rfl | (simp [errW_none, errW_some] <;> rfl) | (simp [*, errW_none, errW_some] <;> rfl), by repeat (first | (with_reducible first | exact HB.out | apply below_alloc | apply pw_below_drewN | apply below_drew1 | refine below_set ?_ (IsS105.ge HI593.out)) | exact HB.out)⟩
 
 }
end Go.Proofs.Ythkhfmomibfkjaa.PFnPacked

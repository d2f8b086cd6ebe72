-- by a program of this session (wip/print/run.py) for this claim
import Derived.Test.YthkhfmomibfkjaaPFnRowsx0
import Derived.Test.YthkhfmomibfkjaaPFnRowsx1
import Derived.Test.YthkhfmomibfkjaaPFnRowsx2
import Derived.Test.YthkhfmomibfkjaaPFnRowsx3
import Derived.Test.YthkhfmomibfkjaaPFnRowsx4
import Derived.Test.YthkhfmomibfkjaaPFnRowsx5
namespace Go.Proofs.Ythkhfmomibfkjaa.PFnRows
open Go.RowKit Go.Proofs.YthkhfmomibfkjaaW.PrintWords Go.Proofs.YthkhfmomibfkjaaW.PrintLast Go.Proofs.YthkhfmomibfkjaaW.PrintMore
attribute [local go_sem] max2_int min2_int max_two min_two max_three min_three max_four min_four   -- for this text's walks alone
set_option linter.unusedVariables false
set_option linter.unusedSimpArgs false

/-! ### spec_DrawReadText: function 57 -/
theorem z57a {p_ : Prop} (h_ : p_ := by repeat (first | (with_reducible first | exact HI310.out | apply IsS105.alloc | apply IsS105.drewN | apply IsS105.drew | apply IsS105.set_1 | apply IsS105.set_2) | exact HI310.out)) : p_ := h_
theorem z57b {p_ : Prop} (h_ : p_ := by repeat (first | (with_reducible first | exact HB.out | apply below_alloc | apply pw_below_drewN | apply below_drew1 | refine below_set ?_ (IsS105.ge HI310.out)) | exact HB.out)) : p_ := h_
theorem z57c {p_ : Prop} (h_ : p_ := by (try simp only [List.map_toArray, List.map_cons, List.map_nil]); first | done | rfl | (simp only [List.length_drop, List.length_take]; rfl)) : p_ := h_
theorem z57d {p_ : Prop} (h_ : p_ := by (with_reducible repeat (first | apply Kd.R_alloc | apply Kd.R_drewN | apply Kd.R_drew)); exact HO314.out) : p_ := h_
theorem z57e {p_ : Prop} (h_ : p_ := by simp only [Act.put, List.setIfInBounds_toArray, List.set_cons_zero, List.set_cons_succ, i64_w, i32_w]; rfl) : p_ := h_
def spec_DrawReadText.f (k : Nat) (l0 : List Int) : Option (List Int) := (spec_l1New.f k l0).bind fun bt307 => ((spec_DrawText.f k l0).bind fun t311 => ((spec_Text.f k t311).bind fun t312 => ((spec_l1DrawText.f k bt307.1 bt307.2.1 bt307.2.2).bind fun bt315 => (if (strOfNums t312).size + bt315.1.size ≤ 9223372036854775807 then ((spec_l1Once.f bt307.1 bt315.2.1 bt315.2.2 2).bind fun bt318 => (if bt318.1 = true then ((spec_l1Bend.f k bt307.1 bt318.2.1 bt318.2.2 ((strOfNums t312) ++ bt315.1) (⟨#[0, 128, 255, 3, 97]⟩ : ByteArray)).bind fun bt321 => (if (bt321.1.size : Int) ≤ 140737488351232 then (some (bytesOf bt321.1)) else (none))) else (if (((strOfNums t312) ++ bt315.1).size : Int) ≤ 140737488351232 then (some (bytesOf ((strOfNums t312) ++ bt315.1))) else (none)))) else (none)))))
theorem spec_DrawReadText.mono : ∀ a0 k, LeO (spec_DrawReadText.f k a0) (spec_DrawReadText.f (k + 1) a0) := by
 intro a0 k
 unfold spec_DrawReadText.f
 repeat' first
   | (with_reducible exact spec_DrawText.mono _ _)
   | (with_reducible exact spec_Text.mono _ _)
   | (with_reducible exact spec_l1Bend.mono _ _ _ _ _ _)
   | (with_reducible exact spec_l1DrawText.mono _ _ _ _)
   | (with_reducible exact spec_l1New.mono _ _)
   | (with_reducible exact LeO.refl _)
   | (with_reducible exact LeO.none _)
   | (with_reducible refine LeO.ite ?_ ?_)
   | (with_reducible refine LeO.bind ?_ (fun _ => ?_))
   | exact spec_DrawText.mono _ _
   | exact spec_Text.mono _ _
   | exact spec_l1Bend.mono _ _ _ _ _ _
   | exact spec_l1DrawText.mono _ _ _ _
   | exact spec_l1New.mono _ _
   | exact LeO.none _
   | refine LeO.ite ?_ ?_
   | refine LeO.bind ?_ (fun _ => ?_)
def spec_DrawReadText.T2 : Bool × List (List Nat × List Nat) := (true, [([], []), ([0], [0]), ([1, 1], [1]), ([2], [2]), ([], []), ([4, 2], [4]), ([3, 5], [3, 5]), ([6, 5, 0, 1, 2, 3, 4, 5, 6], [6])])
def spec_DrawReadText.B2 : List Nat := [0, 1, 3, 7, 0, 23, 63, 127]
theorem spec_DrawReadText.tab2 : rtab .any (opsOf Try.f57 2) = spec_DrawReadText.T2 := by kernel_rfl
theorem spec_DrawReadText.bits2 : waitsOk spec_DrawReadText.T2.2 spec_DrawReadText.B2 = true := by kernel_rfl
set_option maxHeartbeats 8000000 in
set_option maxRecDepth 100000 in
theorem spec_DrawReadText.calls (k : Nat) (A0 : Option Addr) (c0 : Nat) (l0 : List Int) (r : List Int) (w : World) (hr0 : Kd.C (Kd.int .u8) w A0 l0.length l0) (hc0 : l0.length ≤ c0) (h : spec_DrawReadText.f k l0 = some r) :
  Calls Try.prog 57 #[.slice A0 l0.length c0] w fun e w' => ∃ v0_ : Value, e = .returned (v0_) ∧ Kd.R (Kd.int .u8) 5 w' w.heap.size (fun _ => True) v0_ r ∧ Below w.heap.size w w' := by
 have HR0 := Aside0.mk hr0
 have HC0 := Aside0.mk hc0
 clear hr0 hc0
 have HB := Aside0.mk (Below.refl w.heap.size w)
 have H : ((spec_l1New.f k l0).bind fun bt307 => ((spec_DrawText.f k l0).bind fun t311 => ((spec_Text.f k t311).bind fun t312 => ((spec_l1DrawText.f k bt307.1 bt307.2.1 bt307.2.2).bind fun bt315 => (if (strOfNums t312).size + bt315.1.size ≤ 9223372036854775807 then ((spec_l1Once.f bt307.1 bt315.2.1 bt315.2.2 2).bind fun bt318 => (if bt318.1 = true then ((spec_l1Bend.f k bt307.1 bt318.2.1 bt318.2.2 ((strOfNums t312) ++ bt315.1) (⟨#[0, 128, 255, 3, 97]⟩ : ByteArray)).bind fun bt321 => (if (bt321.1.size : Int) ≤ 140737488351232 then (some (bytesOf bt321.1)) else (none))) else (if (((strOfNums t312) ++ bt315.1).size : Int) ≤ 140737488351232 then (some (bytesOf ((strOfNums t312) ++ bt315.1))) else (none)))) else (none)))))) = some r := h
 clear h
 replace H := Option.bind_eq_some_iff.mp H
 obtain ⟨⟨t307, t308, t309⟩, A20, H⟩ := H
 replace H : ((spec_DrawText.f k l0).bind fun t311 => ((spec_Text.f k t311).bind fun t312 => ((spec_l1DrawText.f k t307 t308 t309).bind fun bt315 => (if (strOfNums t312).size + bt315.1.size ≤ 9223372036854775807 then ((spec_l1Once.f t307 bt315.2.1 bt315.2.2 2).bind fun bt318 => (if bt318.1 = true then ((spec_l1Bend.f k t307 bt318.2.1 bt318.2.2 ((strOfNums t312) ++ bt315.1) (⟨#[0, 128, 255, 3, 97]⟩ : ByteArray)).bind fun bt321 => (if (bt321.1.size : Int) ≤ 140737488351232 then (some (bytesOf bt321.1)) else (none))) else (if (((strOfNums t312) ++ bt315.1).size : Int) ≤ 140737488351232 then (some (bytesOf ((strOfNums t312) ++ bt315.1))) else (none)))) else (none))))) = some r := H
 have A2 := Aside0.mk A20
 clear A20
 replace H := Option.bind_eq_some_iff.mp H
 obtain ⟨t311, A30, H⟩ := H
 replace H : ((spec_Text.f k t311).bind fun t312 => ((spec_l1DrawText.f k t307 t308 t309).bind fun bt315 => (if (strOfNums t312).size + bt315.1.size ≤ 9223372036854775807 then ((spec_l1Once.f t307 bt315.2.1 bt315.2.2 2).bind fun bt318 => (if bt318.1 = true then ((spec_l1Bend.f k t307 bt318.2.1 bt318.2.2 ((strOfNums t312) ++ bt315.1) (⟨#[0, 128, 255, 3, 97]⟩ : ByteArray)).bind fun bt321 => (if (bt321.1.size : Int) ≤ 140737488351232 then (some (bytesOf bt321.1)) else (none))) else (if (((strOfNums t312) ++ bt315.1).size : Int) ≤ 140737488351232 then (some (bytesOf ((strOfNums t312) ++ bt315.1))) else (none)))) else (none)))) = some r := H
 have A3 := Aside0.mk A30
 clear A30
 replace H := Option.bind_eq_some_iff.mp H
 obtain ⟨t312, A40, H⟩ := H
 replace H : ((spec_l1DrawText.f k t307 t308 t309).bind fun bt315 => (if (strOfNums t312).size + bt315.1.size ≤ 9223372036854775807 then ((spec_l1Once.f t307 bt315.2.1 bt315.2.2 2).bind fun bt318 => (if bt318.1 = true then ((spec_l1Bend.f k t307 bt318.2.1 bt318.2.2 ((strOfNums t312) ++ bt315.1) (⟨#[0, 128, 255, 3, 97]⟩ : ByteArray)).bind fun bt321 => (if (bt321.1.size : Int) ≤ 140737488351232 then (some (bytesOf bt321.1)) else (none))) else (if (((strOfNums t312) ++ bt315.1).size : Int) ≤ 140737488351232 then (some (bytesOf ((strOfNums t312) ++ bt315.1))) else (none)))) else (none))) = some r := H
 have A4 := Aside0.mk A40
 clear A40
 replace H := Option.bind_eq_some_iff.mp H
 obtain ⟨⟨t315, t316, t317⟩, A50, H⟩ := H
 replace H : (if (strOfNums t312).size + t315.size ≤ 9223372036854775807 then ((spec_l1Once.f t307 t316 t317 2).bind fun bt318 => (if bt318.1 = true then ((spec_l1Bend.f k t307 bt318.2.1 bt318.2.2 ((strOfNums t312) ++ t315) (⟨#[0, 128, 255, 3, 97]⟩ : ByteArray)).bind fun bt321 => (if (bt321.1.size : Int) ≤ 140737488351232 then (some (bytesOf bt321.1)) else (none))) else (if (((strOfNums t312) ++ t315).size : Int) ≤ 140737488351232 then (some (bytesOf ((strOfNums t312) ++ t315))) else (none)))) else (none)) = some r := H
 have A5 := Aside0.mk A50
 clear A50
 by_cases c6 : (strOfNums t312).size + t315.size ≤ 9223372036854775807
 {
 rw [if_pos c6] at H
 have c6b0 := eq_true c6
 have c6b1 : decide ((strOfNums t312).size + t315.size ≤ 9223372036854775807) = true := decide_eq_true c6
 try have c6b2 : (9223372036854775807 < (strOfNums t312).size + t315.size) = False := eq_false (Nat.not_lt.2 c6)
 replace H := Option.bind_eq_some_iff.mp H
 obtain ⟨⟨t318, t319, t320⟩, A70, H⟩ := H
 replace H : (if t318 = true then ((spec_l1Bend.f k t307 t319 t320 ((strOfNums t312) ++ t315) (⟨#[0, 128, 255, 3, 97]⟩ : ByteArray)).bind fun bt321 => (if (bt321.1.size : Int) ≤ 140737488351232 then (some (bytesOf bt321.1)) else (none))) else (if (((strOfNums t312) ++ t315).size : Int) ≤ 140737488351232 then (some (bytesOf ((strOfNums t312) ++ t315))) else (none))) = some r := H
 have A7 := Aside0.mk A70
 clear A70
 by_cases c8 : t318 = true
 {
 subst c8
 have H1 : ((spec_l1Bend.f k t307 t319 t320 ((strOfNums t312) ++ t315) (⟨#[0, 128, 255, 3, 97]⟩ : ByteArray)).bind fun bt321 => (if (bt321.1.size : Int) ≤ 140737488351232 then (some (bytesOf bt321.1)) else (none))) = some r := by rw [if_pos rfl] at H; exact H
 clear H
 have H := H1
 clear H1
 replace H := Option.bind_eq_some_iff.mp H
 obtain ⟨⟨t321, t322, t323⟩, A90, H⟩ := H
 replace H : (if (t321.size : Int) ≤ 140737488351232 then (some (bytesOf t321)) else (none)) = some r := H
 have A9 := Aside0.mk A90
 clear A90
 by_cases c10 : (t321.size : Int) ≤ 140737488351232
 {
 rw [if_pos c10] at H
 have c10b0 := eq_true c10
 have c10b1 : decide ((t321.size : Int) ≤ 140737488351232) = true := decide_eq_true c10
 clear c10
 obtain ⟨y324, hy324⟩ : ∃ y_ : List Int, y_ = (bytesOf t321) := ⟨_, rfl⟩
 replace H : (some y324) = some r := by first | (rw [hy324]; with_reducible exact H) | (have H2_ := (Option.bind_some _ _).symm.trans H; rw [hy324]; with_reducible exact H2_) | (have H2_ := (Option.bind_some _ _).symm.trans H; with_reducible exact H2_) | with_reducible exact H | (rw [hy324]; exact H) | exact H
 have Ny324 := Aside0.mk hy324
 clear hy324
 obtain rfl := Option.some.inj H
 go_enter Try.func57, Try.ntmps57
 try go_wp2_with (first | ((with_reducible refine gate_callee (f := 93) rfl ?_); refine goesL_ (some 6) rfl rfl Try.func93 (by kernel_rfl) rfl #[.slice A0 l0.length c0] rfl z57c ?_; (with_reducible refine (spec_l1New.calls k _ _ l0 t307 t308 t309 w _ ?side1 ?side2 ?side3 A2.out).mono ?_); (case side1 => exact (by repeat (first | (with_reducible first | exact HB.out | apply below_alloc | apply pw_below_drewN | apply below_drew1) | exact HB.out))); (case side2 => exact HR0.out); (case side3 => exact HC0.out); rintro e w11 ⟨g310, rfl, hi, hb, hb2⟩; refine ⟨_, rfl, ?_⟩; have n0_ := Aside0.mk (hb); have n1_ := Aside0.mk (hi); clear HB; have HB := n0_; have HI310 := n1_; clear n0_ n1_; (try clear hb); (try clear hb2); (try clear hk); (try clear hi)))
 have n0_ := Aside0.mk (IsS105.drew HI310.out)
 have n1_ := Aside0.mk (below_drew1 HB.out)
 clear HI310
 clear HB
 have HI310 := n0_
 have HB := n1_
 clear n0_ n1_
 refine start_ (n := 8) (S := fun w' => True) (ds := []) #[X, X, X, X, X, X, X, X] (by kernel_rfl) rfl rfl trivial (fun hHeld => ?_); refine with_tabW spec_DrawReadText.tab2 spec_DrawReadText.bits2 (fun HT_ HW_ => ?_)
 generalize w11.drew = w12 at HI310 HB hHeld ⊢
 refine pure_ (i := 0) (N := some 7) (v := _) (a' := _) #[Y, X, X, X, X, X, X, X] rfl rfl (any_of HT_.out (by kernel_rfl)) (fun _ _ _ h => h) (Or.inl ⟨by rfl, (by intro w'; go_simp; with_reducible rfl)⟩) z57e ?_
 refine pure_ (i := 4) (N := some 11) (v := _) (a' := _) #[Y, X, X, X, Y, X, X, X] rfl rfl (any_of HT_.out (by kernel_rfl)) (fun _ _ _ h => h) (Or.inl ⟨by rfl, (by intro w'; go_simp; with_reducible rfl)⟩) z57e ?_
 refine one_ (i := 1) (N := some 8) #[Y, Y, X, X, Y, X, X, X] rfl rfl (one_of HT_.out (by kernel_rfl)) (by decide) (fun K hK => ?_)
 refine goes_ Try.func56 (by kernel_rfl) rfl #[.slice A0 l0.length c0] (by rfl) rfl rfl z57c ?_
 with_reducible refine (spec_DrawText.calls k _ _ l0 t311 _ ?side1 ?side2 A3.out).mono ?_
 (case side1 => exact (by repeat (first | exact (Kd.C_below HR0.out HB.out) | (with_reducible refine Kd.C_alloc ?_ _) | (with_reducible refine Kd.C_drewN ?_ _) | (with_reducible refine Kd.C_drew ?_))))
 (case side2 => exact HC0.out)
 rintro e w13 ⟨rfl, hb⟩
 refine ⟨_, rfl, ?_⟩
 have n0_ := Aside0.mk (IsS105.below z57a hb)
 have n1_ := Aside0.mk (below_step z57b hb)
 clear HI310
 clear HB
 have HI310 := n0_
 have HB := n1_
 clear n0_ n1_
 (try clear hb)
 (try clear hb2)
 (try clear hk)
 (try clear hi)
 refine hK.out _ _ trivial (fun hHeld => ?_)
 clear hK K
 refine norm_ (a' := ?_) ?_ ?_
 rotate_left
 {
 show Act.put _ (some 8) _ = _
 simp only [Act.put, List.setIfInBounds_toArray, List.set_cons_zero, List.set_cons_succ, i64_w, i32_w]
 rfl
 }
 refine one_ (i := 2) (N := some 9) #[Y, Y, Y, X, Y, X, X, X] rfl rfl (one_of HT_.out (by kernel_rfl)) (by decide) (fun K hK => ?_)
 refine goes_ Try.func22 (by kernel_rfl) rfl #[.string t311] (by rfl) rfl rfl z57c ?_
 with_reducible refine (spec_Text.calls k t311 t312 _ A4.out).mono ?_
 rintro e w14 ⟨v313, rfl, ho0, hb⟩
 refine ⟨_, rfl, ?_⟩
 have n0_ := Aside0.mk (Kd.R_lower ho0 (below_size z57b))
 have n1_ := Aside0.mk (IsS105.below z57a hb)
 have n2_ := Aside0.mk (below_step z57b hb)
 clear HI310
 clear HB
 have HO314 := n0_
 have HI310 := n1_
 have HB := n2_
 clear n0_ n1_ n2_
 (try clear hb)
 (try clear hb2)
 (try clear hk)
 (try clear hi)
 (try clear ho0)
 refine hK.out _ _ trivial (fun hHeld => ?_)
 clear hK K
 refine norm_ (a' := ?_) ?_ ?_
 rotate_left
 {
 show Act.put _ (some 9) _ = _
 simp only [Act.put, List.setIfInBounds_toArray, List.set_cons_zero, List.set_cons_succ, i64_w, i32_w]
 rfl
 }
 refine join_ (σ := Unit) 2 #[Y, Y, Y, Y, Y, Y, X, X] (fun s_ => [(10, .string (strOfNums t312)), (12, .string t315)]) (fun s_ w' => (Kd.R (Kd.int .u8) 5 w' w.heap.size (fun _ => True) v313 t312) ∧ (IsS105 w w' g310 t307 t316 t317) ∧ (Below w.heap.size w w')) ?_ ?_
 rotate_left
 {
 intro hCont
 refine two_ (i := 3) (j := 5) (Ni := some 10) (Nj := some 12) #[Y, Y, Y, Y, Y, X, X, X] #[Y, Y, Y, X, Y, Y, X, X] rfl rfl rfl rfl (two_of HT_.out (by kernel_rfl)) (by decide) (by decide) (fun K hK => ?_) (fun K hK => ?_)
 {
 skip
 have hcv15 := own_string (P := Try.prog) Try.underlying22 Try.underlying5 Try.underlying9 (Kd.own_of_R HO314.out)
 refine value_ (w1 := ?_) (v := ?_) (by rfl) rfl ?_ ?_
 rotate_left 2
 {
 go_simp
 constructor
 {
 rfl
 }
 {
 rfl
 }
 }
 clear hcv15
 refine hK.out _ _ trivial (fun hHeld => ?_)
 clear hK K
 refine norm_ (a' := ?_) ?_ ?_
 rotate_left
 {
 show Act.put _ (some 10) _ = _
 simp only [Act.put, List.setIfInBounds_toArray, List.set_cons_zero, List.set_cons_succ, i64_w, i32_w]
 rfl
 }
 refine one_ (i := 5) (N := some 12) #[Y, Y, Y, Y, Y, Y, X, X] rfl rfl (one_of HT_.out (by kernel_rfl)) (by decide) (fun K hK => ?_)
 refine goes_ Try.func96 (by kernel_rfl) rfl #[.pointer (some ⟨g310, 0, none⟩)] (by rfl) rfl rfl z57c ?_
 with_reducible refine (spec_l1DrawText.calls k g310 t307 t308 t309 t315 t316 t317 w _ ?side1 ?side2 A5.out).mono ?_
 (case side1 => exact z57a)
 (case side2 => exact z57b)
 rintro e w16 ⟨rfl, hi, hb, hk⟩
 refine ⟨_, rfl, ?_⟩
 have n0_ := Aside0.mk (Kd.R_mono (Kd.R_keep (IsS105.apart (show IsS105 w _ g310 t307 t308 t309 from z57a) z57d (by decide)) hk (fun _ h => h.2)) (fun _ h => h.1))
 have n1_ := Aside0.mk (hb)
 have n2_ := Aside0.mk (hi)
 clear HO314
 clear HB
 clear HI310
 have HO314 := n0_
 have HB := n1_
 have HI310 := n2_
 clear n0_ n1_ n2_
 (try clear hb)
 (try clear hb2)
 (try clear hk)
 (try clear hi)
 refine hK.out _ _ trivial (fun hHeld => ?_)
 clear hK K
 refine norm_ (a' := ?_) ?_ ?_
 rotate_left
 {
 show Act.put _ (some 12) _ = _
 simp only [Act.put, List.setIfInBounds_toArray, List.set_cons_zero, List.set_cons_succ, i64_w, i32_w]
 rfl
 }
 exact norm_ (by simp only [putAll, Act.put, List.setIfInBounds_toArray, List.set_cons_zero, List.set_cons_succ]) (hCont () _ ⟨z57d, z57a, z57b⟩)
 }
 {
 skip
 refine goes_ Try.func96 (by kernel_rfl) rfl #[.pointer (some ⟨g310, 0, none⟩)] (by rfl) rfl rfl z57c ?_
 with_reducible refine (spec_l1DrawText.calls k g310 t307 t308 t309 t315 t316 t317 w _ ?side1 ?side2 A5.out).mono ?_
 (case side1 => exact z57a)
 (case side2 => exact z57b)
 rintro e w15 ⟨rfl, hi, hb, hk⟩
 refine ⟨_, rfl, ?_⟩
 have n0_ := Aside0.mk (Kd.R_mono (Kd.R_keep (IsS105.apart (show IsS105 w _ g310 t307 t308 t309 from z57a) z57d (by decide)) hk (fun _ h => h.2)) (fun _ h => h.1))
 have n1_ := Aside0.mk (hb)
 have n2_ := Aside0.mk (hi)
 clear HO314
 clear HB
 clear HI310
 have HO314 := n0_
 have HB := n1_
 have HI310 := n2_
 clear n0_ n1_ n2_
 (try clear hb)
 (try clear hb2)
 (try clear hk)
 (try clear hi)
 refine hK.out _ _ trivial (fun hHeld => ?_)
 clear hK K
 refine norm_ (a' := ?_) ?_ ?_
 rotate_left
 {
 show Act.put _ (some 12) _ = _
 simp only [Act.put, List.setIfInBounds_toArray, List.set_cons_zero, List.set_cons_succ, i64_w, i32_w]
 rfl
 }
 refine one_ (i := 3) (N := some 10) #[Y, Y, Y, Y, Y, Y, X, X] rfl rfl (one_of HT_.out (by kernel_rfl)) (by decide) (fun K hK => ?_)
 have hcv16 := own_string (P := Try.prog) Try.underlying22 Try.underlying5 Try.underlying9 (Kd.own_of_R HO314.out)
 refine value_ (w1 := ?_) (v := ?_) (by rfl) rfl ?_ ?_
 rotate_left 2
 {
 go_simp
 constructor
 {
 rfl
 }
 {
 rfl
 }
 }
 clear hcv16
 refine hK.out _ _ trivial (fun hHeld => ?_)
 clear hK K
 refine norm_ (a' := ?_) ?_ ?_
 rotate_left
 {
 show Act.put _ (some 10) _ = _
 simp only [Act.put, List.setIfInBounds_toArray, List.set_cons_zero, List.set_cons_succ, i64_w, i32_w]
 rfl
 }
 exact norm_ (by simp only [putAll, Act.put, List.setIfInBounds_toArray, List.set_cons_zero, List.set_cons_succ]) (hCont () _ ⟨z57d, z57a, z57b⟩)
 }
 }
 rintro _ w17 ⟨h0_, h1_, h2_⟩
 have n0_ : Aside0 (Kd.R (Kd.int .u8) 5 w17 w.heap.size (fun _ => True) v313 t312) := ⟨h0_⟩
 have n1_ : Aside0 (IsS105 w w17 g310 t307 t316 t317) := ⟨h1_⟩
 have n2_ : Aside0 (Below w.heap.size w w17) := ⟨h2_⟩
 clear HI310
 clear HB
 clear h0_ h1_ h2_
 have HO314 := n0_
 have HI310 := n1_
 have HB := n2_
 clear n0_ n1_ n2_
 have hHeld := trivial
 refine norm_ (a' := ?_) ?_ ?_
 rotate_left
 exact (by simp only [putAll, Act.put, List.setIfInBounds_toArray, List.set_cons_zero, List.set_cons_succ]; rfl)
 refine pure_ (i := 6) (N := some 13) (v := _) (a' := _) #[Y, Y, Y, Y, Y, Y, Y, X] rfl rfl (any_of HT_.out (by kernel_rfl)) (fun _ _ _ h => h) (Or.inl ⟨by rfl, (by intro w'; go_simp; with_reducible rfl)⟩) z57e ?_
 refine pure_ (i := 7) (N := some 4) (v := _) (a' := _) #[Y, Y, Y, Y, Y, Y, Y, Y] rfl rfl (any_of HT_.out (by kernel_rfl)) (fun _ _ _ h => h) (Or.inl ⟨by rfl, (by intro w'; go_simp; with_reducible rfl)⟩) z57e ?_
 refine done_ (done_of HT_.out (by kernel_rfl)) ?_
 try go_wp2_with (first | ((with_reducible refine gate_callee (f := 94) rfl ?_); refine goesL_ (some 15) rfl rfl Try.func94 (by kernel_rfl) rfl #[.pointer (some ⟨g310, 0, none⟩), .int .i64 2] rfl z57c ?_; (with_reducible refine (spec_l1Once.calls g310 t307 t316 t317 2 true t319 t320 w _ ?side1 ?side2 A7.out).mono ?_); (case side1 => exact z57a); (case side2 => exact z57b); rintro e w18 ⟨rfl, hi, hb, hk⟩; refine ⟨_, rfl, ?_⟩; have n0_ := Aside0.mk (Kd.R_mono (Kd.R_keep (IsS105.apart (show IsS105 w _ g310 t307 t316 t317 from z57a) z57d (by decide)) hk (fun _ h => h.2)) (fun _ h => h.1)); have n1_ := Aside0.mk (hb); have n2_ := Aside0.mk (hi); clear HO314; clear HB; clear HI310; have HO314 := n0_; have HB := n1_; have HI310 := n2_; clear n0_ n1_ n2_; (try clear hb); (try clear hb2); (try clear hk); (try clear hi)) | ((with_reducible refine gate_callee (f := 97) rfl ?_); refine goesL_ (some 18) rfl rfl Try.func97 (by kernel_rfl) rfl #[.pointer (some ⟨g310, 0, none⟩), .string ((strOfNums t312) ++ t315), .string (⟨#[0, 128, 255, 3, 97]⟩ : ByteArray)] rfl z57c ?_; (with_reducible refine (spec_l1Bend.calls k g310 t307 t319 t320 ((strOfNums t312) ++ t315) (⟨#[0, 128, 255, 3, 97]⟩ : ByteArray) t321 t322 t323 w _ ?side1 ?side2 A9.out).mono ?_); (case side1 => exact z57a); (case side2 => exact z57b); rintro e w19 ⟨rfl, hi, hb, hk⟩; refine ⟨_, rfl, ?_⟩; have n0_ := Aside0.mk (Kd.R_mono (Kd.R_keep (IsS105.apart (show IsS105 w _ g310 t307 t319 t320 from z57a) z57d (by decide)) hk (fun _ h => h.2)) (fun _ h => h.1)); have n1_ := Aside0.mk (hb); have n2_ := Aside0.mk (hi); clear HO314; clear HB; clear HI310; have HO314 := n0_; have HB := n1_; have HI310 := n2_; clear n0_ n1_ n2_; (try clear hb); (try clear hb2); (try clear hk); (try clear hi)) | ((with_reducible refine gate_dst (N := 20) rfl ?_); refine Go.Proofs.Ythkhfmomibfkjaa.Lib.R_conv _ 5 rfl (N := 20) rfl 9 22 (.tmp 19) rfl Try.underlying9 Try.underlying22 Try.underlying5 t321 rfl (ok := fun _ => True) (okp := fun _ => True) (fun _ hk => hk) trivial (of_decide_eq_true (by first | (with_reducible assumption) | assumption)) (Below.refl _ _) (Nat.le_refl _) ?_; intro v325 w20 ho21 hb hg_ hnew_; clear hg_ hnew_; (first | rw [← Ny324.out] at ho21 | (simp only [Int.reduceToNat] at ho21; rw [← Ny324.out] at ho21)); have n0_ := Aside0.mk (Kd.R_elder' z57d (Kd.R_base ho21) hb); have n1_ := Aside0.mk (Kd.R_lower (Kd.R_new' ho21 (Kd.R_lt z57d)) (below_size z57b)); have n2_ := Aside0.mk (IsS105.below z57a hb); have n3_ := Aside0.mk (below_step z57b hb); clear HO314; clear HI310; clear HB; have HO314 := n0_; have HO326 := n1_; have HI310 := n2_; have HB := n3_; clear n0_ n1_ n2_ n3_; clear hb ho21))
 go_ret
 exact ⟨_, by first | rfl | (simp [errW_none, errW_some] <;> rfl) | (simp [*, errW_none, errW_some] <;> rfl), by (with_reducible repeat (first | apply Kd.R_alloc | apply Kd.R_drewN | apply Kd.R_drew)); exact Kd.R_mono HO326.out (fun _ hk => trivial), by repeat (first | (with_reducible first | exact HB.out | apply below_alloc | apply pw_below_drewN | apply below_drew1 | refine below_set ?_ (IsS105.ge HI310.out)) | exact HB.out)⟩
 }
 {
 rw [if_neg c10] at H
 exact absurd H (by simp)
 }
 }
 {
 replace c8 := Bool.eq_false_iff.mpr c8
 subst c8
 have H1 : (if (((strOfNums t312) ++ t315).size : Int) ≤ 140737488351232 then (some (bytesOf ((strOfNums t312) ++ t315))) else (none)) = some r := by rw [if_neg (show ¬ (false = true) by decide)] at H; exact H
 clear H
 have H := H1
 clear H1
 by_cases c22 : (((strOfNums t312) ++ t315).size : Int) ≤ 140737488351232
 {
 rw [if_pos c22] at H
 have c22b0 := eq_true c22
 have c22b1 : decide ((((strOfNums t312) ++ t315).size : Int) ≤ 140737488351232) = true := decide_eq_true c22
 obtain ⟨y327, hy327⟩ : ∃ y_ : List Int, y_ = (bytesOf ((strOfNums t312) ++ t315)) := ⟨_, rfl⟩
 replace H : (some y327) = some r := by first | (rw [hy327]; with_reducible exact H) | (have H2_ := (Option.bind_some _ _).symm.trans H; rw [hy327]; with_reducible exact H2_) | (have H2_ := (Option.bind_some _ _).symm.trans H; with_reducible exact H2_) | with_reducible exact H | (rw [hy327]; exact H) | exact H
 have Ny327 := Aside0.mk hy327
 clear hy327
 obtain rfl := Option.some.inj H
 go_enter Try.func57, Try.ntmps57
 try go_wp2_with (first | ((with_reducible refine gate_callee (f := 93) rfl ?_); refine goesL_ (some 6) rfl rfl Try.func93 (by kernel_rfl) rfl #[.slice A0 l0.length c0] rfl z57c ?_; (with_reducible refine (spec_l1New.calls k _ _ l0 t307 t308 t309 w _ ?side1 ?side2 ?side3 A2.out).mono ?_); (case side1 => exact (by repeat (first | (with_reducible first | exact HB.out | apply below_alloc | apply pw_below_drewN | apply below_drew1) | exact HB.out))); (case side2 => exact HR0.out); (case side3 => exact HC0.out); rintro e w23 ⟨g310, rfl, hi, hb, hb2⟩; refine ⟨_, rfl, ?_⟩; have n0_ := Aside0.mk (hb); have n1_ := Aside0.mk (hi); clear HB; have HB := n0_; have HI310 := n1_; clear n0_ n1_; (try clear hb); (try clear hb2); (try clear hk); (try clear hi)))
 have n0_ := Aside0.mk (IsS105.drew HI310.out)
 have n1_ := Aside0.mk (below_drew1 HB.out)
 clear HI310
 clear HB
 have HI310 := n0_
 have HB := n1_
 clear n0_ n1_
 refine start_ (n := 8) (S := fun w' => True) (ds := []) #[X, X, X, X, X, X, X, X] (by kernel_rfl) rfl rfl trivial (fun hHeld => ?_); refine with_tabW spec_DrawReadText.tab2 spec_DrawReadText.bits2 (fun HT_ HW_ => ?_)
 generalize w23.drew = w24 at HI310 HB hHeld ⊢
 refine pure_ (i := 0) (N := some 7) (v := _) (a' := _) #[Y, X, X, X, X, X, X, X] rfl rfl (any_of HT_.out (by kernel_rfl)) (fun _ _ _ h => h) (Or.inl ⟨by rfl, (by intro w'; go_simp; with_reducible rfl)⟩) z57e ?_
 refine pure_ (i := 4) (N := some 11) (v := _) (a' := _) #[Y, X, X, X, Y, X, X, X] rfl rfl (any_of HT_.out (by kernel_rfl)) (fun _ _ _ h => h) (Or.inl ⟨by rfl, (by intro w'; go_simp; with_reducible rfl)⟩) z57e ?_
 refine one_ (i := 1) (N := some 8) #[Y, Y, X, X, Y, X, X, X] rfl rfl (one_of HT_.out (by kernel_rfl)) (by decide) (fun K hK => ?_)
 refine goes_ Try.func56 (by kernel_rfl) rfl #[.slice A0 l0.length c0] (by rfl) rfl rfl z57c ?_
 with_reducible refine (spec_DrawText.calls k _ _ l0 t311 _ ?side1 ?side2 A3.out).mono ?_
 (case side1 => exact (by repeat (first | exact (Kd.C_below HR0.out HB.out) | (with_reducible refine Kd.C_alloc ?_ _) | (with_reducible refine Kd.C_drewN ?_ _) | (with_reducible refine Kd.C_drew ?_))))
 (case side2 => exact HC0.out)
 rintro e w25 ⟨rfl, hb⟩
 refine ⟨_, rfl, ?_⟩
 have n0_ := Aside0.mk (IsS105.below z57a hb)
 have n1_ := Aside0.mk (below_step z57b hb)
 clear HI310
 clear HB
 have HI310 := n0_
 have HB := n1_
 clear n0_ n1_
 (try clear hb)
 (try clear hb2)
 (try clear hk)
 (try clear hi)
 refine hK.out _ _ trivial (fun hHeld => ?_)
 clear hK K
 refine norm_ (a' := ?_) ?_ ?_
 rotate_left
 {
 show Act.put _ (some 8) _ = _
 simp only [Act.put, List.setIfInBounds_toArray, List.set_cons_zero, List.set_cons_succ, i64_w, i32_w]
 rfl
 }
 refine one_ (i := 2) (N := some 9) #[Y, Y, Y, X, Y, X, X, X] rfl rfl (one_of HT_.out (by kernel_rfl)) (by decide) (fun K hK => ?_)
 refine goes_ Try.func22 (by kernel_rfl) rfl #[.string t311] (by rfl) rfl rfl z57c ?_
 with_reducible refine (spec_Text.calls k t311 t312 _ A4.out).mono ?_
 rintro e w26 ⟨v313, rfl, ho0, hb⟩
 refine ⟨_, rfl, ?_⟩
 have n0_ := Aside0.mk (Kd.R_lower ho0 (below_size z57b))
 have n1_ := Aside0.mk (IsS105.below z57a hb)
 have n2_ := Aside0.mk (below_step z57b hb)
 clear HI310
 clear HB
 have HO314 := n0_
 have HI310 := n1_
 have HB := n2_
 clear n0_ n1_ n2_
 (try clear hb)
 (try clear hb2)
 (try clear hk)
 (try clear hi)
 (try clear ho0)
 refine hK.out _ _ trivial (fun hHeld => ?_)
 clear hK K
 refine norm_ (a' := ?_) ?_ ?_
 rotate_left
 {
 show Act.put _ (some 9) _ = _
 simp only [Act.put, List.setIfInBounds_toArray, List.set_cons_zero, List.set_cons_succ, i64_w, i32_w]
 rfl
 }
 refine join_ (σ := Unit) 2 #[Y, Y, Y, Y, Y, Y, X, X] (fun s_ => [(10, .string (strOfNums t312)), (12, .string t315)]) (fun s_ w' => (Kd.R (Kd.int .u8) 5 w' w.heap.size (fun _ => True) v313 t312) ∧ (IsS105 w w' g310 t307 t316 t317) ∧ (Below w.heap.size w w')) ?_ ?_
 rotate_left
 {
 intro hCont
 refine two_ (i := 3) (j := 5) (Ni := some 10) (Nj := some 12) #[Y, Y, Y, Y, Y, X, X, X] #[Y, Y, Y, X, Y, Y, X, X] rfl rfl rfl rfl (two_of HT_.out (by kernel_rfl)) (by decide) (by decide) (fun K hK => ?_) (fun K hK => ?_)
 {
 skip
 have hcv27 := own_string (P := Try.prog) Try.underlying22 Try.underlying5 Try.underlying9 (Kd.own_of_R HO314.out)
 refine value_ (w1 := ?_) (v := ?_) (by rfl) rfl ?_ ?_
 rotate_left 2
 {
 go_simp
 constructor
 {
 rfl
 }
 {
 rfl
 }
 }
 clear hcv27
 refine hK.out _ _ trivial (fun hHeld => ?_)
 clear hK K
 refine norm_ (a' := ?_) ?_ ?_
 rotate_left
 {
 show Act.put _ (some 10) _ = _
 simp only [Act.put, List.setIfInBounds_toArray, List.set_cons_zero, List.set_cons_succ, i64_w, i32_w]
 rfl
 }
 refine one_ (i := 5) (N := some 12) #[Y, Y, Y, Y, Y, Y, X, X] rfl rfl (one_of HT_.out (by kernel_rfl)) (by decide) (fun K hK => ?_)
 refine goes_ Try.func96 (by kernel_rfl) rfl #[.pointer (some ⟨g310, 0, none⟩)] (by rfl) rfl rfl z57c ?_
 with_reducible refine (spec_l1DrawText.calls k g310 t307 t308 t309 t315 t316 t317 w _ ?side1 ?side2 A5.out).mono ?_
 (case side1 => exact z57a)
 (case side2 => exact z57b)
 rintro e w28 ⟨rfl, hi, hb, hk⟩
 refine ⟨_, rfl, ?_⟩
 have n0_ := Aside0.mk (Kd.R_mono (Kd.R_keep (IsS105.apart (show IsS105 w _ g310 t307 t308 t309 from z57a) z57d (by decide)) hk (fun _ h => h.2)) (fun _ h => h.1))
 have n1_ := Aside0.mk (hb)
 have n2_ := Aside0.mk (hi)
 clear HO314
 clear HB
 clear HI310
 have HO314 := n0_
 have HB := n1_
 have HI310 := n2_
 clear n0_ n1_ n2_
 (try clear hb)
 (try clear hb2)
 (try clear hk)
 (try clear hi)
 refine hK.out _ _ trivial (fun hHeld => ?_)
 clear hK K
 refine norm_ (a' := ?_) ?_ ?_
 rotate_left
 {
 show Act.put _ (some 12) _ = _
 simp only [Act.put, List.setIfInBounds_toArray, List.set_cons_zero, List.set_cons_succ, i64_w, i32_w]
 rfl
 }
 exact norm_ (by simp only [putAll, Act.put, List.setIfInBounds_toArray, List.set_cons_zero, List.set_cons_succ]) (hCont () _ ⟨z57d, z57a, z57b⟩)
 }
 {
 skip
 refine goes_ Try.func96 (by kernel_rfl) rfl #[.pointer (some ⟨g310, 0, none⟩)] (by rfl) rfl rfl z57c ?_
 with_reducible refine (spec_l1DrawText.calls k g310 t307 t308 t309 t315 t316 t317 w _ ?side1 ?side2 A5.out).mono ?_
 (case side1 => exact z57a)
 (case side2 => exact z57b)
 rintro e w27 ⟨rfl, hi, hb, hk⟩
 refine ⟨_, rfl, ?_⟩
 have n0_ := Aside0.mk (Kd.R_mono (Kd.R_keep (IsS105.apart (show IsS105 w _ g310 t307 t308 t309 from z57a) z57d (by decide)) hk (fun _ h => h.2)) (fun _ h => h.1))
 have n1_ := Aside0.mk (hb)
 have n2_ := Aside0.mk (hi)
 clear HO314
 clear HB
 clear HI310
 have HO314 := n0_
 have HB := n1_
 have HI310 := n2_
 clear n0_ n1_ n2_
 (try clear hb)
 (try clear hb2)
 (try clear hk)
 (try clear hi)
 refine hK.out _ _ trivial (fun hHeld => ?_)
 clear hK K
 refine norm_ (a' := ?_) ?_ ?_
 rotate_left
 {
 show Act.put _ (some 12) _ = _
 simp only [Act.put, List.setIfInBounds_toArray, List.set_cons_zero, List.set_cons_succ, i64_w, i32_w]
 rfl
 }
 refine one_ (i := 3) (N := some 10) #[Y, Y, Y, Y, Y, Y, X, X] rfl rfl (one_of HT_.out (by kernel_rfl)) (by decide) (fun K hK => ?_)
 have hcv28 := own_string (P := Try.prog) Try.underlying22 Try.underlying5 Try.underlying9 (Kd.own_of_R HO314.out)
 refine value_ (w1 := ?_) (v := ?_) (by rfl) rfl ?_ ?_
 rotate_left 2
 {
 go_simp
 constructor
 {
 rfl
 }
 {
 rfl
 }
 }
 clear hcv28
 refine hK.out _ _ trivial (fun hHeld => ?_)
 clear hK K
 refine norm_ (a' := ?_) ?_ ?_
 rotate_left
 {
 show Act.put _ (some 10) _ = _
 simp only [Act.put, List.setIfInBounds_toArray, List.set_cons_zero, List.set_cons_succ, i64_w, i32_w]
 rfl
 }
 exact norm_ (by simp only [putAll, Act.put, List.setIfInBounds_toArray, List.set_cons_zero, List.set_cons_succ]) (hCont () _ ⟨z57d, z57a, z57b⟩)
 }
 }
 rintro _ w29 ⟨h0_, h1_, h2_⟩
 have n0_ : Aside0 (Kd.R (Kd.int .u8) 5 w29 w.heap.size (fun _ => True) v313 t312) := ⟨h0_⟩
 have n1_ : Aside0 (IsS105 w w29 g310 t307 t316 t317) := ⟨h1_⟩
 have n2_ : Aside0 (Below w.heap.size w w29) := ⟨h2_⟩
 clear HI310
 clear HB
 clear h0_ h1_ h2_
 have HO314 := n0_
 have HI310 := n1_
 have HB := n2_
 clear n0_ n1_ n2_
 have hHeld := trivial
 refine norm_ (a' := ?_) ?_ ?_
 rotate_left
 exact (by simp only [putAll, Act.put, List.setIfInBounds_toArray, List.set_cons_zero, List.set_cons_succ]; rfl)
 refine pure_ (i := 6) (N := some 13) (v := _) (a' := _) #[Y, Y, Y, Y, Y, Y, Y, X] rfl rfl (any_of HT_.out (by kernel_rfl)) (fun _ _ _ h => h) (Or.inl ⟨by rfl, (by intro w'; go_simp; with_reducible rfl)⟩) z57e ?_
 refine pure_ (i := 7) (N := some 4) (v := _) (a' := _) #[Y, Y, Y, Y, Y, Y, Y, Y] rfl rfl (any_of HT_.out (by kernel_rfl)) (fun _ _ _ h => h) (Or.inl ⟨by rfl, (by intro w'; go_simp; with_reducible rfl)⟩) z57e ?_
 refine done_ (done_of HT_.out (by kernel_rfl)) ?_
 try go_wp2_with (first | ((with_reducible refine gate_callee (f := 94) rfl ?_); refine goesL_ (some 15) rfl rfl Try.func94 (by kernel_rfl) rfl #[.pointer (some ⟨g310, 0, none⟩), .int .i64 2] rfl z57c ?_; (with_reducible refine (spec_l1Once.calls g310 t307 t316 t317 2 false t319 t320 w _ ?side1 ?side2 A7.out).mono ?_); (case side1 => exact z57a); (case side2 => exact z57b); rintro e w30 ⟨rfl, hi, hb, hk⟩; refine ⟨_, rfl, ?_⟩; have n0_ := Aside0.mk (Kd.R_mono (Kd.R_keep (IsS105.apart (show IsS105 w _ g310 t307 t316 t317 from z57a) z57d (by decide)) hk (fun _ h => h.2)) (fun _ h => h.1)); have n1_ := Aside0.mk (hb); have n2_ := Aside0.mk (hi); clear HO314; clear HB; clear HI310; have HO314 := n0_; have HB := n1_; have HI310 := n2_; clear n0_ n1_ n2_; (try clear hb); (try clear hb2); (try clear hk); (try clear hi)) | ((with_reducible refine gate_dst (N := 20) rfl ?_); refine Go.Proofs.Ythkhfmomibfkjaa.Lib.R_conv _ 5 rfl (N := 20) rfl 9 22 (.tmp 19) rfl Try.underlying9 Try.underlying22 Try.underlying5 ((strOfNums t312) ++ t315) rfl (ok := fun _ => True) (okp := fun _ => True) (fun _ hk => hk) trivial (of_decide_eq_true (by first | (with_reducible assumption) | assumption)) (Below.refl _ _) (Nat.le_refl _) ?_; intro v328 w31 ho32 hb hg_ hnew_; clear hg_ hnew_; (first | rw [← Ny327.out] at ho32 | (simp only [Int.reduceToNat] at ho32; rw [← Ny327.out] at ho32)); have n0_ := Aside0.mk (Kd.R_elder' z57d (Kd.R_base ho32) hb); have n1_ := Aside0.mk (Kd.R_lower (Kd.R_new' ho32 (Kd.R_lt z57d)) (below_size z57b)); have n2_ := Aside0.mk (IsS105.below z57a hb); have n3_ := Aside0.mk (below_step z57b hb); clear HO314; clear HI310; clear HB; have HO314 := n0_; have HO329 := n1_; have HI310 := n2_; have HB := n3_; clear n0_ n1_ n2_ n3_; clear hb ho32))
 go_ret
 exact ⟨_, by first | rfl | (simp [errW_none, errW_some] <;> rfl) | (simp [*, errW_none, errW_some] <;> rfl), by (with_reducible repeat (first | apply Kd.R_alloc | apply Kd.R_drewN | apply Kd.R_drew)); exact Kd.R_mono HO329.out (fun _ hk => trivial), by repeat (first | (with_reducible first | exact HB.out | apply below_alloc | apply pw_below_drewN | apply below_drew1 | refine below_set ?_ (IsS105.ge HI310.out)) | exact HB.out)⟩
 }
 {
 rw [if_neg c22] at H
 exact absurd H (by simp)
 }
 }
 }
 {
 rw [if_neg c6] at H
 exact absurd H (by simp)
 
 }
end Go.Proofs.Ythkhfmomibfkjaa.PFnRows

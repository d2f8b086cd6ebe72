-- by a program of this session (wip/print/run.py) for this claim
import Derived.Test.YthkhfmomibfkjaaPFnRowsx0
import Derived.Test.YthkhfmomibfkjaaPFnRowsx1
import Derived.Test.YthkhfmomibfkjaaPFnRowsx2
import Derived.Test.YthkhfmomibfkjaaPFnRowsx3
import Derived.Test.YthkhfmomibfkjaaPFnRowsx4
namespace Go.Proofs.Ythkhfmomibfkjaa.PFnRows
open Go.RowKit Go.Proofs.YthkhfmomibfkjaaW.PrintWords Go.Proofs.YthkhfmomibfkjaaW.PrintLast Go.Proofs.YthkhfmomibfkjaaW.PrintMore
attribute [local go_sem] max2_int min2_int max_two min_two max_three min_three max_four min_four   -- for this text's walks alone
set_option linter.unusedVariables false
set_option linter.unusedSimpArgs false

/-! ### spec_DrawReadNumber: function 54 -/
theorem z54a {p_ : Prop} (h_ : p_ := by repeat (first | (with_reducible first | exact HI277.out | apply IsS105.alloc | apply IsS105.drewN | apply IsS105.drew | apply IsS105.set_1 | apply IsS105.set_2) | exact HI277.out)) : p_ := h_
theorem z54b {p_ : Prop} (h_ : p_ := by repeat (first | (with_reducible first | exact HB.out | apply below_alloc | apply pw_below_drewN | apply below_drew1 | refine below_set ?_ (IsS105.ge HI277.out)) | exact HB.out)) : p_ := h_
theorem z54c {p_ : Prop} (h_ : p_ := by (try simp only [List.map_toArray, List.map_cons, List.map_nil]); first | done | rfl | (simp only [List.length_drop, List.length_take]; rfl)) : p_ := h_
theorem z54d {p_ : Prop} (h_ : p_ := by (with_reducible repeat (first | apply Kd.R_alloc | apply Kd.R_drewN | apply Kd.R_drew)); exact HO281.out) : p_ := h_
def spec_DrawReadNumber.f (k : Nat) (l0 : List Int) : Option (List Int) := (spec_l1New.f k l0).bind fun bt274 => ((spec_DrawNumber.f k l0).bind fun t278 => ((spec_Number.f k t278).bind fun t279 => ((spec_l1DrawText.f k bt274.1 bt274.2.1 bt274.2.2).bind fun bt282 => (if (strOfNums t279).size + bt282.1.size ≤ 9223372036854775807 then ((spec_l1Bend.f k bt274.1 bt282.2.1 bt282.2.2 ((strOfNums t279) ++ bt282.1) (⟨#[0, 128, 255, 1]⟩ : ByteArray)).bind fun bt285 => (if (bt285.1.size : Int) ≤ 140737488351232 then (some (bytesOf bt285.1)) else (none))) else (none)))))
theorem spec_DrawReadNumber.mono : ∀ a0 k, LeO (spec_DrawReadNumber.f k a0) (spec_DrawReadNumber.f (k + 1) a0) := by
 intro a0 k
 unfold spec_DrawReadNumber.f
 repeat' first
   | (with_reducible exact spec_DrawNumber.mono _ _)
   | (with_reducible exact spec_Number.mono _ _)
   | (with_reducible exact spec_l1Bend.mono _ _ _ _ _ _)
   | (with_reducible exact spec_l1DrawText.mono _ _ _ _)
   | (with_reducible exact spec_l1New.mono _ _)
   | (with_reducible exact LeO.refl _)
   | (with_reducible exact LeO.none _)
   | (with_reducible refine LeO.ite ?_ ?_)
   | (with_reducible refine LeO.bind ?_ (fun _ => ?_))
   | exact spec_DrawNumber.mono _ _
   | exact spec_Number.mono _ _
   | exact spec_l1Bend.mono _ _ _ _ _ _
   | exact spec_l1DrawText.mono _ _ _ _
   | exact spec_l1New.mono _ _
   | exact LeO.none _
   | refine LeO.ite ?_ ?_
   | refine LeO.bind ?_ (fun _ => ?_)
def spec_DrawReadNumber.T2 : Bool × List (List Nat × List Nat) := (true, [([], []), ([0], [0]), ([1, 1], [1]), ([2], [2]), ([], []), ([4, 2], [4]), ([3, 5], [3, 5]), ([6, 5, 0, 1, 2, 3, 4, 5, 6], [6])])
def spec_DrawReadNumber.B2 : List Nat := [0, 1, 3, 7, 0, 23, 63, 127]
theorem spec_DrawReadNumber.tab2 : rtab .any (opsOf Try.f54 2) = spec_DrawReadNumber.T2 := by kernel_rfl
theorem spec_DrawReadNumber.bits2 : waitsOk spec_DrawReadNumber.T2.2 spec_DrawReadNumber.B2 = true := by kernel_rfl
set_option maxHeartbeats 8000000 in
set_option maxRecDepth 100000 in
theorem spec_DrawReadNumber.calls (k : Nat) (A0 : Option Addr) (c0 : Nat) (l0 : List Int) (r : List Int) (w : World) (hr0 : Kd.C (Kd.int .u8) w A0 l0.length l0) (hc0 : l0.length ≤ c0) (h : spec_DrawReadNumber.f k l0 = some r) :
  Calls Try.prog 54 #[.slice A0 l0.length c0] w fun e w' => ∃ v0_ : Value, e = .returned (v0_) ∧ Kd.R (Kd.int .u8) 5 w' w.heap.size (fun _ => True) v0_ r ∧ Below w.heap.size w w' := by
 have HR0 := Aside0.mk hr0
 have HC0 := Aside0.mk hc0
 clear hr0 hc0
 have HB := Aside0.mk (Below.refl w.heap.size w)
 have H : ((spec_l1New.f k l0).bind fun bt274 => ((spec_DrawNumber.f k l0).bind fun t278 => ((spec_Number.f k t278).bind fun t279 => ((spec_l1DrawText.f k bt274.1 bt274.2.1 bt274.2.2).bind fun bt282 => (if (strOfNums t279).size + bt282.1.size ≤ 9223372036854775807 then ((spec_l1Bend.f k bt274.1 bt282.2.1 bt282.2.2 ((strOfNums t279) ++ bt282.1) (⟨#[0, 128, 255, 1]⟩ : ByteArray)).bind fun bt285 => (if (bt285.1.size : Int) ≤ 140737488351232 then (some (bytesOf bt285.1)) else (none))) else (none)))))) = some r := h
 clear h
 replace H := Option.bind_eq_some_iff.mp H
 obtain ⟨⟨t274, t275, t276⟩, A20, H⟩ := H
 replace H : ((spec_DrawNumber.f k l0).bind fun t278 => ((spec_Number.f k t278).bind fun t279 => ((spec_l1DrawText.f k t274 t275 t276).bind fun bt282 => (if (strOfNums t279).size + bt282.1.size ≤ 9223372036854775807 then ((spec_l1Bend.f k t274 bt282.2.1 bt282.2.2 ((strOfNums t279) ++ bt282.1) (⟨#[0, 128, 255, 1]⟩ : ByteArray)).bind fun bt285 => (if (bt285.1.size : Int) ≤ 140737488351232 then (some (bytesOf bt285.1)) else (none))) else (none))))) = some r := H
 have A2 := Aside0.mk A20
 clear A20
 replace H := Option.bind_eq_some_iff.mp H
 obtain ⟨t278, A30, H⟩ := H
 replace H : ((spec_Number.f k t278).bind fun t279 => ((spec_l1DrawText.f k t274 t275 t276).bind fun bt282 => (if (strOfNums t279).size + bt282.1.size ≤ 9223372036854775807 then ((spec_l1Bend.f k t274 bt282.2.1 bt282.2.2 ((strOfNums t279) ++ bt282.1) (⟨#[0, 128, 255, 1]⟩ : ByteArray)).bind fun bt285 => (if (bt285.1.size : Int) ≤ 140737488351232 then (some (bytesOf bt285.1)) else (none))) else (none)))) = some r := H
 have A3 := Aside0.mk A30
 clear A30
 replace H := Option.bind_eq_some_iff.mp H
 obtain ⟨t279, A40, H⟩ := H
 replace H : ((spec_l1DrawText.f k t274 t275 t276).bind fun bt282 => (if (strOfNums t279).size + bt282.1.size ≤ 9223372036854775807 then ((spec_l1Bend.f k t274 bt282.2.1 bt282.2.2 ((strOfNums t279) ++ bt282.1) (⟨#[0, 128, 255, 1]⟩ : ByteArray)).bind fun bt285 => (if (bt285.1.size : Int) ≤ 140737488351232 then (some (bytesOf bt285.1)) else (none))) else (none))) = some r := H
 have A4 := Aside0.mk A40
 clear A40
 replace H := Option.bind_eq_some_iff.mp H
 obtain ⟨⟨t282, t283, t284⟩, A50, H⟩ := H
 replace H : (if (strOfNums t279).size + t282.size ≤ 9223372036854775807 then ((spec_l1Bend.f k t274 t283 t284 ((strOfNums t279) ++ t282) (⟨#[0, 128, 255, 1]⟩ : ByteArray)).bind fun bt285 => (if (bt285.1.size : Int) ≤ 140737488351232 then (some (bytesOf bt285.1)) else (none))) else (none)) = some r := H
 have A5 := Aside0.mk A50
 clear A50
 by_cases c6 : (strOfNums t279).size + t282.size ≤ 9223372036854775807
 {
 rw [if_pos c6] at H
 have c6b0 := eq_true c6
 have c6b1 : decide ((strOfNums t279).size + t282.size ≤ 9223372036854775807) = true := decide_eq_true c6
 try have c6b2 : (9223372036854775807 < (strOfNums t279).size + t282.size) = False := eq_false (Nat.not_lt.2 c6)
 replace H := Option.bind_eq_some_iff.mp H
 obtain ⟨⟨t285, t286, t287⟩, A70, H⟩ := H
 replace H : (if (t285.size : Int) ≤ 140737488351232 then (some (bytesOf t285)) else (none)) = some r := H
 have A7 := Aside0.mk A70
 clear A70
 by_cases c8 : (t285.size : Int) ≤ 140737488351232
 {
 rw [if_pos c8] at H
 have c8b0 := eq_true c8
 have c8b1 : decide ((t285.size : Int) ≤ 140737488351232) = true := decide_eq_true c8
 clear c8
 obtain ⟨y288, hy288⟩ : ∃ y_ : List Int, y_ = (bytesOf t285) := ⟨_, rfl⟩
 replace H : (some y288) = some r := by first | (rw [hy288]; with_reducible exact H) | (have H2_ := (Option.bind_some _ _).symm.trans H; rw [hy288]; with_reducible exact H2_) | (have H2_ := (Option.bind_some _ _).symm.trans H; with_reducible exact H2_) | with_reducible exact H | (rw [hy288]; exact H) | exact H
 have Ny288 := Aside0.mk hy288
 clear hy288
 obtain rfl := Option.some.inj H
 go_enter Try.func54, Try.ntmps54
 try go_wp2_with (first | ((with_reducible refine gate_callee (f := 93) rfl ?_); refine goesL_ (some 6) rfl rfl Try.func93 (by kernel_rfl) rfl #[.slice A0 l0.length c0] rfl z54c ?_; (with_reducible refine (spec_l1New.calls k _ _ l0 t274 t275 t276 w _ ?side1 ?side2 ?side3 A2.out).mono ?_); (case side1 => exact (by repeat (first | (with_reducible first | exact HB.out | apply below_alloc | apply pw_below_drewN | apply below_drew1) | exact HB.out))); (case side2 => exact HR0.out); (case side3 => exact HC0.out); rintro e w9 ⟨g277, rfl, hi, hb, hb2⟩; refine ⟨_, rfl, ?_⟩; have n0_ := Aside0.mk (hb); have n1_ := Aside0.mk (hi); clear HB; have HB := n0_; have HI277 := n1_; clear n0_ n1_; (try clear hb); (try clear hb2); (try clear hk); (try clear hi)))
 have n0_ := Aside0.mk (IsS105.drew HI277.out)
 have n1_ := Aside0.mk (below_drew1 HB.out)
 clear HI277
 clear HB
 have HI277 := n0_
 have HB := n1_
 clear n0_ n1_
 refine start_ (n := 8) (S := fun w' => True) (ds := []) #[X, X, X, X, X, X, X, X] (by kernel_rfl) rfl rfl trivial (fun hHeld => ?_); refine with_tabW spec_DrawReadNumber.tab2 spec_DrawReadNumber.bits2 (fun HT_ HW_ => ?_)
 generalize w9.drew = w10 at HI277 HB hHeld ⊢
 refine pure_ (i := 0) (N := some 7) (v := _) (a' := _) #[Y, X, X, X, X, X, X, X] rfl rfl (any_of HT_.out (by kernel_rfl)) (fun _ _ _ h => h) (Or.inl ⟨by rfl, (by intro w'; go_simp; with_reducible rfl)⟩) (by simp only [Act.put, List.setIfInBounds_toArray, List.set_cons_zero, List.set_cons_succ, i64_w, i32_w]; rfl) ?_
 refine pure_ (i := 4) (N := some 11) (v := _) (a' := _) #[Y, X, X, X, Y, X, X, X] rfl rfl (any_of HT_.out (by kernel_rfl)) (fun _ _ _ h => h) (Or.inl ⟨by rfl, (by intro w'; go_simp; with_reducible rfl)⟩) (by simp only [Act.put, List.setIfInBounds_toArray, List.set_cons_zero, List.set_cons_succ, i64_w, i32_w]; rfl) ?_
 refine one_ (i := 1) (N := some 8) #[Y, Y, X, X, Y, X, X, X] rfl rfl (one_of HT_.out (by kernel_rfl)) (by decide) (fun K hK => ?_)
 refine goes_ Try.func53 (by kernel_rfl) rfl #[.slice A0 l0.length c0] (by rfl) rfl rfl z54c ?_
 with_reducible refine (spec_DrawNumber.calls k _ _ l0 t278 _ ?side1 ?side2 A3.out).mono ?_
 (case side1 => exact (by repeat (first | exact (Kd.C_below HR0.out HB.out) | (with_reducible refine Kd.C_alloc ?_ _) | (with_reducible refine Kd.C_drewN ?_ _) | (with_reducible refine Kd.C_drew ?_))))
 (case side2 => exact HC0.out)
 rintro e w11 ⟨rfl, hb⟩
 refine ⟨_, rfl, ?_⟩
 have n0_ := Aside0.mk (IsS105.below z54a hb)
 have n1_ := Aside0.mk (below_step z54b hb)
 clear HI277
 clear HB
 have HI277 := n0_
 have HB := n1_
 clear n0_ n1_
 (try clear hb)
 (try clear hb2)
 (try clear hk)
 (try clear hi)
 refine hK.out _ _ trivial (fun hHeld => ?_)
 clear hK K
 refine norm_ (a' := ?_) ?_ ?_
 rotate_left
 {
 show Act.put _ (some 8) _ = _
 simp only [Act.put, List.setIfInBounds_toArray, List.set_cons_zero, List.set_cons_succ, i64_w, i32_w]
 rfl
 }
 refine one_ (i := 2) (N := some 9) #[Y, Y, Y, X, Y, X, X, X] rfl rfl (one_of HT_.out (by kernel_rfl)) (by decide) (fun K hK => ?_)
 refine goes_ Try.func17 (by kernel_rfl) rfl #[.int .i64 t278] (by rfl) rfl rfl z54c ?_
 with_reducible refine (spec_Number.calls k t278 t279 _ A4.out).mono ?_
 rintro e w12 ⟨v280, rfl, ho0, hb⟩
 refine ⟨_, rfl, ?_⟩
 have n0_ := Aside0.mk (Kd.R_lower ho0 (below_size z54b))
 have n1_ := Aside0.mk (IsS105.below z54a hb)
 have n2_ := Aside0.mk (below_step z54b hb)
 clear HI277
 clear HB
 have HO281 := n0_
 have HI277 := n1_
 have HB := n2_
 clear n0_ n1_ n2_
 (try clear hb)
 (try clear hb2)
 (try clear hk)
 (try clear hi)
 (try clear ho0)
 refine hK.out _ _ trivial (fun hHeld => ?_)
 clear hK K
 refine norm_ (a' := ?_) ?_ ?_
 rotate_left
 {
 show Act.put _ (some 9) _ = _
 simp only [Act.put, List.setIfInBounds_toArray, List.set_cons_zero, List.set_cons_succ, i64_w, i32_w]
 rfl
 }
 refine join_ (σ := Unit) 2 #[Y, Y, Y, Y, Y, Y, X, X] (fun s_ => [(10, .string (strOfNums t279)), (12, .string t282)]) (fun s_ w' => (Kd.R (Kd.int .u8) 5 w' w.heap.size (fun _ => True) v280 t279) ∧ (IsS105 w w' g277 t274 t283 t284) ∧ (Below w.heap.size w w')) ?_ ?_
 rotate_left
 {
 intro hCont
 refine two_ (i := 3) (j := 5) (Ni := some 10) (Nj := some 12) #[Y, Y, Y, Y, Y, X, X, X] #[Y, Y, Y, X, Y, Y, X, X] rfl rfl rfl rfl (two_of HT_.out (by kernel_rfl)) (by decide) (by decide) (fun K hK => ?_) (fun K hK => ?_)
 {
 skip
 have hcv13 := own_string (P := Try.prog) Try.underlying22 Try.underlying5 Try.underlying9 (Kd.own_of_R HO281.out)
 refine value_ (w1 := ?_) (v := ?_) (by rfl) rfl ?_ ?_
 rotate_left 2
 {
 go_simp
 constructor
 {
 rfl
 }
 {
 rfl
 }
 }
 clear hcv13
 refine hK.out _ _ trivial (fun hHeld => ?_)
 clear hK K
 refine norm_ (a' := ?_) ?_ ?_
 rotate_left
 {
 show Act.put _ (some 10) _ = _
 simp only [Act.put, List.setIfInBounds_toArray, List.set_cons_zero, List.set_cons_succ, i64_w, i32_w]
 rfl
 }
 refine one_ (i := 5) (N := some 12) #[Y, Y, Y, Y, Y, Y, X, X] rfl rfl (one_of HT_.out (by kernel_rfl)) (by decide) (fun K hK => ?_)
 refine goes_ Try.func96 (by kernel_rfl) rfl #[.pointer (some ⟨g277, 0, none⟩)] (by rfl) rfl rfl z54c ?_
 with_reducible refine (spec_l1DrawText.calls k g277 t274 t275 t276 t282 t283 t284 w _ ?side1 ?side2 A5.out).mono ?_
 (case side1 => exact z54a)
 (case side2 => exact z54b)
 rintro e w14 ⟨rfl, hi, hb, hk⟩
 refine ⟨_, rfl, ?_⟩
 have n0_ := Aside0.mk (Kd.R_mono (Kd.R_keep (IsS105.apart (show IsS105 w _ g277 t274 t275 t276 from z54a) z54d (by decide)) hk (fun _ h => h.2)) (fun _ h => h.1))
 have n1_ := Aside0.mk (hb)
 have n2_ := Aside0.mk (hi)
 clear HO281
 clear HB
 clear HI277
 have HO281 := n0_
 have HB := n1_
 have HI277 := n2_
 clear n0_ n1_ n2_
 (try clear hb)
 (try clear hb2)
 (try clear hk)
 (try clear hi)
 refine hK.out _ _ trivial (fun hHeld => ?_)
 clear hK K
 refine norm_ (a' := ?_) ?_ ?_
 rotate_left
 {
 show Act.put _ (some 12) _ = _
 simp only [Act.put, List.setIfInBounds_toArray, List.set_cons_zero, List.set_cons_succ, i64_w, i32_w]
 rfl
 }
 exact norm_ (by simp only [putAll, Act.put, List.setIfInBounds_toArray, List.set_cons_zero, List.set_cons_succ]) (hCont () _ ⟨z54d, z54a, z54b⟩)
 }
 {
 skip
 refine goes_ Try.func96 (by kernel_rfl) rfl #[.pointer (some ⟨g277, 0, none⟩)] (by rfl) rfl rfl z54c ?_
 with_reducible refine (spec_l1DrawText.calls k g277 t274 t275 t276 t282 t283 t284 w _ ?side1 ?side2 A5.out).mono ?_
 (case side1 => exact z54a)
 (case side2 => exact z54b)
 rintro e w13 ⟨rfl, hi, hb, hk⟩
 refine ⟨_, rfl, ?_⟩
 have n0_ := Aside0.mk (Kd.R_mono (Kd.R_keep (IsS105.apart (show IsS105 w _ g277 t274 t275 t276 from z54a) z54d (by decide)) hk (fun _ h => h.2)) (fun _ h => h.1))
 have n1_ := Aside0.mk (hb)
 have n2_ := Aside0.mk (hi)
 clear HO281
 clear HB
 clear HI277
 have HO281 := n0_
 have HB := n1_
 have HI277 := n2_
 clear n0_ n1_ n2_
 (try clear hb)
 (try clear hb2)
 (try clear hk)
 (try clear hi)
 refine hK.out _ _ trivial (fun hHeld => ?_)
 clear hK K
 refine norm_ (a' := ?_) ?_ ?_
 rotate_left
 {
 show Act.put _ (some 12) _ = _
 simp only [Act.put, List.setIfInBounds_toArray, List.set_cons_zero, List.set_cons_succ, i64_w, i32_w]
 rfl
 }
 refine one_ (i := 3) (N := some 10) #[Y, Y, Y, Y, Y, Y, X, X] rfl rfl (one_of HT_.out (by kernel_rfl)) (by decide) (fun K hK => ?_)
 have hcv14 := own_string (P := Try.prog) Try.underlying22 Try.underlying5 Try.underlying9 (Kd.own_of_R HO281.out)
 refine value_ (w1 := ?_) (v := ?_) (by rfl) rfl ?_ ?_
 rotate_left 2
 {
 go_simp
 constructor
 {
 rfl
 }
 {
 rfl
 }
 }
 clear hcv14
 refine hK.out _ _ trivial (fun hHeld => ?_)
 clear hK K
 refine norm_ (a' := ?_) ?_ ?_
 rotate_left
 {
 show Act.put _ (some 10) _ = _
 simp only [Act.put, List.setIfInBounds_toArray, List.set_cons_zero, List.set_cons_succ, i64_w, i32_w]
 rfl
 }
 exact norm_ (by simp only [putAll, Act.put, List.setIfInBounds_toArray, List.set_cons_zero, List.set_cons_succ]) (hCont () _ ⟨z54d, z54a, z54b⟩)
 }
 }
 rintro _ w15 ⟨h0_, h1_, h2_⟩
 have n0_ : Aside0 (Kd.R (Kd.int .u8) 5 w15 w.heap.size (fun _ => True) v280 t279) := ⟨h0_⟩
 have n1_ : Aside0 (IsS105 w w15 g277 t274 t283 t284) := ⟨h1_⟩
 have n2_ : Aside0 (Below w.heap.size w w15) := ⟨h2_⟩
 clear HI277
 clear HB
 clear h0_ h1_ h2_
 have HO281 := n0_
 have HI277 := n1_
 have HB := n2_
 clear n0_ n1_ n2_
 have hHeld := trivial
 refine norm_ (a' := ?_) ?_ ?_
 rotate_left
 exact (by simp only [putAll, Act.put, List.setIfInBounds_toArray, List.set_cons_zero, List.set_cons_succ]; rfl)
 refine pure_ (i := 6) (N := some 13) (v := _) (a' := _) #[Y, Y, Y, Y, Y, Y, Y, X] rfl rfl (any_of HT_.out (by kernel_rfl)) (fun _ _ _ h => h) (Or.inl ⟨by rfl, (by intro w'; go_simp; with_reducible rfl)⟩) (by simp only [Act.put, List.setIfInBounds_toArray, List.set_cons_zero, List.set_cons_succ, i64_w, i32_w]; rfl) ?_
 refine pure_ (i := 7) (N := some 4) (v := _) (a' := _) #[Y, Y, Y, Y, Y, Y, Y, Y] rfl rfl (any_of HT_.out (by kernel_rfl)) (fun _ _ _ h => h) (Or.inl ⟨by rfl, (by intro w'; go_simp; with_reducible rfl)⟩) (by simp only [Act.put, List.setIfInBounds_toArray, List.set_cons_zero, List.set_cons_succ, i64_w, i32_w]; rfl) ?_
 refine done_ (done_of HT_.out (by kernel_rfl)) ?_
 try go_wp2_with (first | ((with_reducible refine gate_callee (f := 97) rfl ?_); refine goesL_ (some 16) rfl rfl Try.func97 (by kernel_rfl) rfl #[.pointer (some ⟨g277, 0, none⟩), .string ((strOfNums t279) ++ t282), .string (⟨#[0, 128, 255, 1]⟩ : ByteArray)] rfl z54c ?_; (with_reducible refine (spec_l1Bend.calls k g277 t274 t283 t284 ((strOfNums t279) ++ t282) (⟨#[0, 128, 255, 1]⟩ : ByteArray) t285 t286 t287 w _ ?side1 ?side2 A7.out).mono ?_); (case side1 => exact z54a); (case side2 => exact z54b); rintro e w16 ⟨rfl, hi, hb, hk⟩; refine ⟨_, rfl, ?_⟩; have n0_ := Aside0.mk (Kd.R_mono (Kd.R_keep (IsS105.apart (show IsS105 w _ g277 t274 t283 t284 from z54a) z54d (by decide)) hk (fun _ h => h.2)) (fun _ h => h.1)); have n1_ := Aside0.mk (hb); have n2_ := Aside0.mk (hi); clear HO281; clear HB; clear HI277; have HO281 := n0_; have HB := n1_; have HI277 := n2_; clear n0_ n1_ n2_; (try clear hb); (try clear hb2); (try clear hk); (try clear hi)) | ((with_reducible refine gate_dst (N := 17) rfl ?_); refine Go.Proofs.Ythkhfmomibfkjaa.Lib.R_conv _ 5 rfl (N := 17) rfl 9 22 (.tmp 16) rfl Try.underlying9 Try.underlying22 Try.underlying5 t285 rfl (ok := fun _ => True) (okp := fun _ => True) (fun _ hk => hk) trivial (of_decide_eq_true (by first | (with_reducible assumption) | assumption)) (Below.refl _ _) (Nat.le_refl _) ?_; intro v289 w17 ho18 hb hg_ hnew_; clear hg_ hnew_; (first | rw [← Ny288.out] at ho18 | (simp only [Int.reduceToNat] at ho18; rw [← Ny288.out] at ho18)); have n0_ := Aside0.mk (Kd.R_elder' z54d (Kd.R_base ho18) hb); have n1_ := Aside0.mk (Kd.R_lower (Kd.R_new' ho18 (Kd.R_lt z54d)) (below_size z54b)); have n2_ := Aside0.mk (IsS105.below z54a hb); have n3_ := Aside0.mk (below_step z54b hb); clear HO281; clear HI277; clear HB; have HO281 := n0_; have HO290 := n1_; have HI277 := n2_; have HB := n3_; clear n0_ n1_ n2_ n3_; clear hb ho18))
 go_ret
 exact ⟨_, by first | rfl | (simp [errW_none, errW_some] <;> rfl) | (simp [*, errW_none, errW_some] <;> rfl), by (with_reducible repeat (first | apply Kd.R_alloc | apply Kd.R_drewN | apply Kd.R_drew)); exact Kd.R_mono HO290.out (fun _ hk => trivial), by repeat (first | (with_reducible first | exact HB.out | apply below_alloc | apply pw_below_drewN | apply below_drew1 | refine below_set ?_ (IsS105.ge HI277.out)) | exact HB.out)⟩
 }
 {
 rw [if_neg c8] at H
 exact absurd H (by simp)
 }
 }
 {
 rw [if_neg c6] at H
 exact absurd H (by simp)
 
 }
/-! ### spec_DrawText: function 56 -/
theorem z56a {p_ : Prop} (h_ : p_ := by repeat (first | (with_reducible first | exact HB.out | apply below_alloc | apply pw_below_drewN | apply below_drew1 | refine below_set ?_ (IsS105.ge HI294.out)) | exact HB.out)) : p_ := h_
theorem z56b {p_ : Prop} (h_ : p_ := by repeat (first | (with_reducible first | exact HI294.out | apply IsS105.alloc | apply IsS105.drewN | apply IsS105.drew | apply IsS105.set_1 | apply IsS105.set_2) | exact HI294.out)) : p_ := h_
theorem z56c {p_ : Prop} (h_ : p_ := by (try simp only [List.map_toArray, List.map_cons, List.map_nil]); first | done | rfl | (simp only [List.length_drop, List.length_take]; rfl)) : p_ := h_
def spec_DrawText.f (k : Nat) (l0 : List Int) : Option (ByteArray) := (spec_l1New.f k l0).bind fun bt291 => ((spec_l1Once.f bt291.1 bt291.2.1 bt291.2.2 20).bind fun bt295 => (if bt295.1 = true then ((spec_l1Below.f bt291.1 bt295.2.1 bt295.2.2 2).bind fun bt298 => (if 0 ≤ (wrap64 (3000 + bt298.1)) then (if (wrap64 (3000 + bt298.1) : Int).toNat ≤ 281474976710656 then (some (strOfNums (List.replicate (wrap64 (3000 + bt298.1) : Int).toNat 0))) else (none)) else (none))) else ((spec_l1DrawText.f k bt291.1 bt295.2.1 bt295.2.2).bind fun bt304 => (some bt304.1))))
theorem spec_DrawText.mono : ∀ a0 k, LeO (spec_DrawText.f k a0) (spec_DrawText.f (k + 1) a0) := by
 intro a0 k
 unfold spec_DrawText.f
 repeat' first
   | (with_reducible exact spec_l1DrawText.mono _ _ _ _)
   | (with_reducible exact spec_l1New.mono _ _)
   | (with_reducible exact LeO.refl _)
   | (with_reducible exact LeO.none _)
   | (with_reducible refine LeO.ite ?_ ?_)
   | (with_reducible refine LeO.bind ?_ (fun _ => ?_))
   | exact spec_l1DrawText.mono _ _ _ _
   | exact spec_l1New.mono _ _
   | exact LeO.none _
   | refine LeO.ite ?_ ?_
   | refine LeO.bind ?_ (fun _ => ?_)
set_option maxHeartbeats 8000000 in
set_option maxRecDepth 100000 in
theorem spec_DrawText.calls (k : Nat) (A0 : Option Addr) (c0 : Nat) (l0 : List Int) (r : ByteArray) (w : World) (hr0 : Kd.C (Kd.int .u8) w A0 l0.length l0) (hc0 : l0.length ≤ c0) (h : spec_DrawText.f k l0 = some r) :
  Calls Try.prog 56 #[.slice A0 l0.length c0] w fun e w' => e = .returned (.string r) ∧ Below w.heap.size w w' := by
 have HR0 := Aside0.mk hr0
 have HC0 := Aside0.mk hc0
 clear hr0 hc0
 have HB := Aside0.mk (Below.refl w.heap.size w)
 have H : ((spec_l1New.f k l0).bind fun bt291 => ((spec_l1Once.f bt291.1 bt291.2.1 bt291.2.2 20).bind fun bt295 => (if bt295.1 = true then ((spec_l1Below.f bt291.1 bt295.2.1 bt295.2.2 2).bind fun bt298 => (if 0 ≤ (wrap64 (3000 + bt298.1)) then (if (wrap64 (3000 + bt298.1) : Int).toNat ≤ 281474976710656 then (some (strOfNums (List.replicate (wrap64 (3000 + bt298.1) : Int).toNat 0))) else (none)) else (none))) else ((spec_l1DrawText.f k bt291.1 bt295.2.1 bt295.2.2).bind fun bt304 => (some bt304.1))))) = some r := h
 clear h
 replace H := Option.bind_eq_some_iff.mp H
 obtain ⟨⟨t291, t292, t293⟩, A20, H⟩ := H
 replace H : ((spec_l1Once.f t291 t292 t293 20).bind fun bt295 => (if bt295.1 = true then ((spec_l1Below.f t291 bt295.2.1 bt295.2.2 2).bind fun bt298 => (if 0 ≤ (wrap64 (3000 + bt298.1)) then (if (wrap64 (3000 + bt298.1) : Int).toNat ≤ 281474976710656 then (some (strOfNums (List.replicate (wrap64 (3000 + bt298.1) : Int).toNat 0))) else (none)) else (none))) else ((spec_l1DrawText.f k t291 bt295.2.1 bt295.2.2).bind fun bt304 => (some bt304.1)))) = some r := H
 have A2 := Aside0.mk A20
 clear A20
 replace H := Option.bind_eq_some_iff.mp H
 obtain ⟨⟨t295, t296, t297⟩, A30, H⟩ := H
 replace H : (if t295 = true then ((spec_l1Below.f t291 t296 t297 2).bind fun bt298 => (if 0 ≤ (wrap64 (3000 + bt298.1)) then (if (wrap64 (3000 + bt298.1) : Int).toNat ≤ 281474976710656 then (some (strOfNums (List.replicate (wrap64 (3000 + bt298.1) : Int).toNat 0))) else (none)) else (none))) else ((spec_l1DrawText.f k t291 t296 t297).bind fun bt304 => (some bt304.1))) = some r := H
 have A3 := Aside0.mk A30
 clear A30
 by_cases c4 : t295 = true
 {
 subst c4
 have H1 : ((spec_l1Below.f t291 t296 t297 2).bind fun bt298 => (if 0 ≤ (wrap64 (3000 + bt298.1)) then (if (wrap64 (3000 + bt298.1) : Int).toNat ≤ 281474976710656 then (some (strOfNums (List.replicate (wrap64 (3000 + bt298.1) : Int).toNat 0))) else (none)) else (none))) = some r := by rw [if_pos rfl] at H; exact H
 clear H
 have H := H1
 clear H1
 replace H := Option.bind_eq_some_iff.mp H
 obtain ⟨⟨t298, t299, t300⟩, A50, H⟩ := H
 replace H : (if 0 ≤ (wrap64 (3000 + t298)) then (if (wrap64 (3000 + t298) : Int).toNat ≤ 281474976710656 then (some (strOfNums (List.replicate (wrap64 (3000 + t298) : Int).toNat 0))) else (none)) else (none)) = some r := H
 have A5 := Aside0.mk A50
 clear A50
 obtain ⟨ji6, hji6⟩ : ∃ j_ : Int, (wrap64 (3000 + t298)) = j_ := ⟨_, rfl⟩
 replace H : (if 0 ≤ (ji6) then (if (ji6 : Int).toNat ≤ 281474976710656 then (some (strOfNums (List.replicate (ji6 : Int).toNat 0))) else (none)) else (none)) = some r := by first | (rw [hji6] at H; exact H) | (simp only [hji6] at H ⊢; exact H)
 (try rw [hji6])
 (try rw [hji6] at A2)
 (try rw [hji6] at A3)
 (try rw [hji6] at A5)
 have hji6w : (IntKind.i64.wrap (3000 + t298)) = ji6 := (i64_w _).trans hji6
 by_cases c7 : 0 ≤ (ji6)
 {
 rw [if_pos c7] at H
 have c7b0 := eq_true c7
 have c7b1 : decide (0 ≤ (ji6)) = true := decide_eq_true c7
 clear c7
 by_cases c8 : (ji6 : Int).toNat ≤ 281474976710656
 {
 rw [if_pos c8] at H
 have c8b0 := eq_true c8
 have c8b1 : decide ((ji6 : Int).toNat ≤ 281474976710656) = true := decide_eq_true c8
 clear c8
 obtain ⟨y301, hy301⟩ : ∃ y_ : List Int, y_ = (List.replicate (ji6 : Int).toNat 0) := ⟨_, rfl⟩
 replace H : (some (strOfNums y301)) = some r := by first | (rw [hy301]; with_reducible exact H) | (have H2_ := (Option.bind_some _ _).symm.trans H; rw [hy301]; with_reducible exact H2_) | (have H2_ := (Option.bind_some _ _).symm.trans H; with_reducible exact H2_) | with_reducible exact H | (rw [hy301]; exact H) | exact H
 have Ny301 := Aside0.mk hy301
 clear hy301
 obtain rfl := Option.some.inj H
 go_enter Try.func56, Try.ntmps56
 go_wp2_with (first | ((with_reducible refine gate_callee (f := 93) rfl ?_); refine goesL_ (some 5) rfl rfl Try.func93 (by kernel_rfl) rfl #[.slice A0 l0.length c0] rfl z56c ?_; (with_reducible refine (spec_l1New.calls k _ _ l0 t291 t292 t293 w _ ?side1 ?side2 ?side3 A2.out).mono ?_); (case side1 => exact (by repeat (first | (with_reducible first | exact HB.out | apply below_alloc | apply pw_below_drewN | apply below_drew1) | exact HB.out))); (case side2 => exact HR0.out); (case side3 => exact HC0.out); rintro e w9 ⟨g294, rfl, hi, hb, hb2⟩; refine ⟨_, rfl, ?_⟩; have n0_ := Aside0.mk (hb); have n1_ := Aside0.mk (hi); clear HB; have HB := n0_; have HI294 := n1_; clear n0_ n1_; (try clear hb); (try clear hb2); (try clear hk); (try clear hi)) | ((with_reducible refine gate_callee (f := 94) rfl ?_); refine goesL_ (some 7) rfl rfl Try.func94 (by kernel_rfl) rfl #[.pointer (some ⟨g294, 0, none⟩), .int .i64 20] rfl z56c ?_; (with_reducible refine (spec_l1Once.calls g294 t291 t292 t293 20 true t296 t297 w _ ?side1 ?side2 A3.out).mono ?_); (case side1 => exact z56b); (case side2 => exact z56a); rintro e w10 ⟨rfl, hi, hb, hk⟩; refine ⟨_, rfl, ?_⟩; have n0_ := Aside0.mk (hb); have n1_ := Aside0.mk (hi); clear HB; clear HI294; have HB := n0_; have HI294 := n1_; clear n0_ n1_; (try clear hb); (try clear hb2); (try clear hk); (try clear hi)) | ((with_reducible refine gate_callee (f := 95) rfl ?_); refine goesL_ (some 9) rfl rfl Try.func95 (by kernel_rfl) rfl #[.pointer (some ⟨g294, 0, none⟩), .int .i64 2] rfl z56c ?_; (with_reducible refine (spec_l1Below.calls g294 t291 t296 t297 2 t298 t299 t300 w _ ?side1 ?side2 A5.out).mono ?_); (case side1 => exact z56b); (case side2 => exact z56a); rintro e w11 ⟨rfl, hi, hb, hk⟩; refine ⟨_, rfl, ?_⟩; have n0_ := Aside0.mk (hb); have n1_ := Aside0.mk (hi); clear HB; clear HI294; have HB := n0_; have HI294 := n1_; clear n0_ n1_; (try clear hb); (try clear hb2); (try clear hk); (try clear hi)) | ((with_reducible refine gate_dst (N := 11) rfl ?_); refine Kd.R_make (Kd.int .u8) _ 5 rfl (N := 11) rfl 22 _ _ rfl ji6 rfl rfl Try.underlying22 (.int .u8 0) 1 info5 rfl (by decide) (by omega) 0 (ok := fun _ => True) (okp := fun _ => True) rfl (fun _ hk => hk) trivial (of_decide_eq_true (by first | (with_reducible assumption) | assumption)) (Nat.le_trans (Nat.mul_le_mul_right _ (of_decide_eq_true (by first | (with_reducible assumption) | assumption) : ji6.toNat ≤ 281474976710656)) (by omega)) (Below.refl _ _) (Nat.le_refl _) ?_; intro v302 w12 ho13 hb hg_ hnew_; clear hg_ hnew_; (first | rw [← Ny301.out] at ho13 | (simp only [Int.reduceToNat] at ho13; rw [← Ny301.out] at ho13)); have n0_ := Aside0.mk (Kd.R_lower ho13 (below_size z56a)); have n1_ := Aside0.mk (IsS105.below z56b hb); have n2_ := Aside0.mk (below_step z56a hb); clear HI294; clear HB; have HO303 := n0_; have HI294 := n1_; have HB := n2_; clear n0_ n1_ n2_; clear hb ho13; have hcv14 := own_string (P := Try.prog) Try.underlying22 Try.underlying5 Try.underlying9 (Kd.own_of_R HO303.out)))
 go_ret
 exact ⟨by first | rfl | (simp [errW_none, errW_some] <;> rfl) | (simp only [← hji6]; first | rfl | (simp [errW_none, errW_some] <;> rfl)) | (simp [*, errW_none, errW_some] <;> rfl), by repeat (first | (with_reducible first | exact HB.out | apply below_alloc | apply pw_below_drewN | apply below_drew1 | refine below_set ?_ (IsS105.ge HI294.out)) | exact HB.out)⟩
 }
 {
 rw [if_neg c8] at H
 exact absurd H (by simp)
 }
 }
 {
 rw [if_neg c7] at H
 exact absurd H (by simp)
 }
 }
 {
 replace c4 := Bool.eq_false_iff.mpr c4
 subst c4
 have H1 : ((spec_l1DrawText.f k t291 t296 t297).bind fun bt304 => (some bt304.1)) = some r := by rw [if_neg (show ¬ (false = true) by decide)] at H; exact H
 clear H
 have H := H1
 clear H1
 replace H := Option.bind_eq_some_iff.mp H
 obtain ⟨⟨t304, t305, t306⟩, A150, H⟩ := H
 replace H : (some t304) = some r := H
 have A15 := Aside0.mk A150
 clear A150
 obtain rfl := Option.some.inj H
 go_enter Try.func56, Try.ntmps56
 go_wp2_with (first | ((with_reducible refine gate_callee (f := 93) rfl ?_); refine goesL_ (some 5) rfl rfl Try.func93 (by kernel_rfl) rfl #[.slice A0 l0.length c0] rfl z56c ?_; (with_reducible refine (spec_l1New.calls k _ _ l0 t291 t292 t293 w _ ?side1 ?side2 ?side3 A2.out).mono ?_); (case side1 => exact (by repeat (first | (with_reducible first | exact HB.out | apply below_alloc | apply pw_below_drewN | apply below_drew1) | exact HB.out))); (case side2 => exact HR0.out); (case side3 => exact HC0.out); rintro e w16 ⟨g294, rfl, hi, hb, hb2⟩; refine ⟨_, rfl, ?_⟩; have n0_ := Aside0.mk (hb); have n1_ := Aside0.mk (hi); clear HB; have HB := n0_; have HI294 := n1_; clear n0_ n1_; (try clear hb); (try clear hb2); (try clear hk); (try clear hi)) | ((with_reducible refine gate_callee (f := 94) rfl ?_); refine goesL_ (some 7) rfl rfl Try.func94 (by kernel_rfl) rfl #[.pointer (some ⟨g294, 0, none⟩), .int .i64 20] rfl z56c ?_; (with_reducible refine (spec_l1Once.calls g294 t291 t292 t293 20 false t296 t297 w _ ?side1 ?side2 A3.out).mono ?_); (case side1 => exact z56b); (case side2 => exact z56a); rintro e w17 ⟨rfl, hi, hb, hk⟩; refine ⟨_, rfl, ?_⟩; have n0_ := Aside0.mk (hb); have n1_ := Aside0.mk (hi); clear HB; clear HI294; have HB := n0_; have HI294 := n1_; clear n0_ n1_; (try clear hb); (try clear hb2); (try clear hk); (try clear hi)) | ((with_reducible refine gate_callee (f := 96) rfl ?_); refine goesL_ (some 14) rfl rfl Try.func96 (by kernel_rfl) rfl #[.pointer (some ⟨g294, 0, none⟩)] rfl z56c ?_; (with_reducible refine (spec_l1DrawText.calls k g294 t291 t296 t297 t304 t305 t306 w _ ?side1 ?side2 A15.out).mono ?_); (case side1 => exact z56b); (case side2 => exact z56a); rintro e w18 ⟨rfl, hi, hb, hk⟩; refine ⟨_, rfl, ?_⟩; have n0_ := Aside0.mk (hb); have n1_ := Aside0.mk (hi); clear HB; clear HI294; have HB := n0_; have HI294 := n1_; clear n0_ n1_; (try clear hb); (try clear hb2); (try clear hk); (try clear hi)))
 go_ret
 exact ⟨by first | rfl | (simp [errW_none, errW_some] <;> rfl) | (simp [*, errW_none, errW_some] <;> rfl), by repeat (first | (with_reducible first | exact HB.out | apply below_alloc | apply pw_below_drewN | apply below_drew1 | refine below_set ?_ (IsS105.ge HI294.out)) | exact HB.out)⟩
 
 }
end Go.Proofs.Ythkhfmomibfkjaa.PFnRows

-- by a program of this session (wip/print/run.py) for this claim
import Derived.Test.YthkhfmomibfkjaaLibPu
import Derived.Test.YthkhfmomibfkjaaPFnPackedx0
import Derived.Test.YthkhfmomibfkjaaPFnPackedx12
import Derived.Test.YthkhfmomibfkjaaPFnPackedx13
namespace Go.Proofs.Ythkhfmomibfkjaa.PFnPacked
open Go.Proofs.Ythkhfmomibfkjaa.Lib Go.RowKit Go.Proofs.YthkhfmomibfkjaaW.PrintWords Go.Proofs.YthkhfmomibfkjaaW.PrintLast Go.Proofs.YthkhfmomibfkjaaW.PrintMore
attribute [local go_sem] max2_int min2_int max_two min_two max_three min_three max_four min_four   -- for this text's walks alone
set_option linter.unusedVariables false
set_option linter.unusedSimpArgs false

theorem z99a {p_ : Prop} (h_ : p_ := by repeat (first | (with_reducible first | exact HI0.out | apply IsS105.alloc | apply IsS105.drewN | apply IsS105.drew | apply IsS105.set_1 | apply IsS105.set_2) | exact HI0.out)) : p_ := h_
theorem z99b {p_ : Prop} (h_ : p_ := by repeat (first | (with_reducible first | exact HK.out | apply KeepBut.set_ | apply keep_drewN | apply keep_drew | apply keep_alloc) | exact HK.out)) : p_ := h_
theorem z99c {p_ : Prop} (h_ : p_ := by repeat (first | (with_reducible first | exact HB.out | apply below_alloc | apply pw_below_drewN | apply below_drew1 | refine below_set ?_ (IsS105.ge HI0.out)) | exact HB.out)) : p_ := h_
theorem z99d {p_ : Prop} (h_ : p_ := by (with_reducible repeat (first | apply Kd.R_alloc | apply Kd.R_drewN | apply Kd.R_drew)); exact HO436.out) : p_ := h_
theorem z99e {p_ : Prop} (h_ : p_ := by first | (simp only [putAll, Act.put, List.setIfInBounds_toArray, List.set_cons_zero, List.set_cons_succ]; done) | (simp only [putAll, Act.put, List.setIfInBounds_toArray, List.set_cons_zero, List.set_cons_succ]; rfl)) : p_ := h_
theorem z99f {p_ : Prop} (h_ : p_ := by (with_reducible repeat (first | apply Kd.R_alloc | apply Kd.R_drewN | apply Kd.R_drew)); exact HO456.out) : p_ := h_
theorem z99g {p_ : Prop} (h_ : p_ := by (with_reducible repeat (first | apply Kd.R_alloc | apply Kd.R_drewN | apply Kd.R_drew)); exact HO466.out) : p_ := h_
theorem z99h {p_ : Prop} (h_ : p_ := by (try simp only [List.map_toArray, List.map_cons, List.map_nil]); first | done | rfl | (simp only [List.length_drop, List.length_take]; rfl)) : p_ := h_
theorem z99i {p_ : Prop} (h_ : p_ := by (with_reducible repeat (first | apply Kd.R_alloc | apply Kd.R_drewN | apply Kd.R_drew)); exact HO459.out) : p_ := h_
theorem z99j {p_ : Prop} (h_ : p_ := by simp only [putAll, Act.put, List.setIfInBounds_toArray, List.set_cons_zero, List.set_cons_succ]; rfl) : p_ := h_
theorem z99k {p_ : Prop} (h_ : p_ := by simp only [Act.put, List.setIfInBounds_toArray, List.set_cons_zero, List.set_cons_succ, i64_w, i32_w]; rfl) : p_ := h_
theorem z99l {p_ : Prop} (h_ : p_ := by first | (with_reducible assumption) | assumption) : p_ := h_
theorem z99m {p_ : Prop} (h_ : p_ := by (with_reducible repeat (first | apply Kd.R_alloc | apply Kd.R_drewN | apply Kd.R_drew)); exact HO479.out) : p_ := h_
def spec_l3DrawAny.l0 : Nat → List (S49) → Int → List Int → Int → Int → Option ((List (S49)) × Int × Int)
 | 0, _, _, _, _, _ => none
 | k + 1, x3, x4, x1000, x1001, x1002 => (spec_l1Below.f x1000 x1001 x1002 2).bind fun bt489 => (if x4 < (wrap64 (300 + bt489.1)) then (if x3.length < 2932031007402 then (spec_l3DrawAny.l0 k (x3 ++ [(⟨(⟨#[107]⟩ : ByteArray), (⟨#[]⟩ : ByteArray), wrap64 (1000 - x4), false⟩ : S49)]) (wrap64 (x4 + 1)) x1000 bt489.2.1 bt489.2.2) else (none)) else (some (x3, bt489.2.1, bt489.2.2)))
def spec_l3DrawAny.f (k : Nat) (s0_0 : List Int) (s0_1 : Int) (s0_2 : Int) : Option ((List (S49)) × Int × Int) := (spec_l3DrawFrom.f k s0_0 s0_1 s0_2 1 10).bind fun bt434 => ((spec_l1Once.f s0_0 bt434.2.1 bt434.2.2 12).bind fun bt439 => (if bt439.1 = true then ((spec_l1Below.f s0_0 bt439.2.1 bt439.2.2 4).bind fun bt442 => (if bt442.1 = 0 then ((spec_l3DrawEntry.f k s0_0 bt442.2.1 bt442.2.2 3).bind fun bt445 => (if bt434.1.length < 2932031007402 then (some ((bt434.1 ++ [(⟨bt445.1, bt445.2.1, bt445.2.2.1, bt445.2.2.2.1⟩ : S49)]), bt445.2.2.2.2.1, bt445.2.2.2.2.2)) else (none))) else (if bt442.1 = 1 then (if 41 ≤ 281474976710656 then ((some (([(⟨#[]⟩ : ByteArray), (⟨#[122, 122]⟩ : ByteArray), strOfNums (List.replicate 41 0)] : List ByteArray) : List ByteArray)).bind fun y457 => ((spec_l1Below.f s0_0 bt442.2.1 bt442.2.2 3).bind fun bt460 => (if 0 ≤ bt460.1 then (if bt460.1 < (y457.length : Int) then ((some (([0, 1, 1000000, 1000001] : List Int) : List Int)).bind fun y464 => ((spec_l1Below.f s0_0 bt460.2.1 bt460.2.2 4).bind fun bt467 => (if 0 ≤ bt467.1 then (if bt467.1 < (y464.length : Int) then (if bt434.1.length < 2932031007402 then (some ((bt434.1 ++ [(⟨rdOf ByteArray.empty y457 bt460.1, (⟨#[]⟩ : ByteArray), rd y464 bt467.1, false⟩ : S49)]), bt467.2.1, bt467.2.2)) else (none)) else (none)) else (none)))) else (none)) else (none)))) else (none)) else (if bt442.1 = 2 then ((spec_l1Below.f s0_0 bt442.2.1 bt442.2.2 2).bind fun bt474 => (if 0 ≤ (wrap64 (200 + bt474.1)) then (if (wrap64 (200 + bt474.1) : Int).toNat ≤ 281474976710656 then ((spec_l1Once.f s0_0 bt474.2.1 bt474.2.2 2).bind fun bt480 => (if bt434.1.length < 2932031007402 then (some ((bt434.1 ++ [(⟨(⟨#[122, 122]⟩ : ByteArray), strOfNums (List.replicate (wrap64 (200 + bt474.1) : Int).toNat 0), 1, bt480.1⟩ : S49)]), bt480.2.1, bt480.2.2)) else (none))) else (none)) else (none))) else (if bt442.1 = 3 then (spec_l3DrawAny.l0 k (([] : List (S49))) 0 s0_0 bt442.2.1 bt442.2.2) else (some (bt434.1, bt442.2.1, bt442.2.2))))))) else (some (bt434.1, bt439.2.1, bt439.2.2))))
def spec_l3DrawAny.T7 : Bool × List (List Nat × List Nat) := (true, [([], []), ([], []), ([1], [1]), ([2], [2]), ([], []), ([4], [4]), ([3, 5], [3, 5]), ([6], [6]), ([], []), ([], []), ([9, 5], [9]), ([8, 10], [8, 10]), ([11], [11]), ([7, 12], [7, 12]), ([13], [13]), ([0, 14, 10], [0, 14]), ([15, 15, 0, 1, 2, 3, 4, 5, 6, 7, 8, 9, 10, 11, 12, 13, 14, 15], [0, 15])])
def spec_l3DrawAny.B7 : List Nat := [0, 0, 2, 6, 0, 16, 62, 126, 0, 0, 560, 1840, 3888, 8190, 16382, 32767, 65535]
theorem spec_l3DrawAny.tab7 : rtab .any (opsOf Try.f99 7) = spec_l3DrawAny.T7 := by kernel_rfl
theorem spec_l3DrawAny.bits7 : waitsOk spec_l3DrawAny.T7.2 spec_l3DrawAny.B7 = true := by kernel_rfl
def spec_l3DrawAny.T9 : Bool × List (List Nat × List Nat) := (true, [([], []), ([], []), ([1], [1]), ([2], [2]), ([3, 3], [3]), ([4], [4]), ([], []), ([6, 2], [6]), ([5, 7], [5, 7]), ([8], [8]), ([0, 9, 7], [0, 9]), ([10, 10, 0, 1, 2, 3, 4, 5, 6, 7, 8, 9, 10], [0, 10])])
def spec_l3DrawAny.B9 : List Nat := [0, 0, 2, 6, 14, 30, 0, 70, 254, 510, 1023, 2047]
theorem spec_l3DrawAny.tab9 : rtab .any (opsOf Try.f99 9) = spec_l3DrawAny.T9 := by kernel_rfl
theorem spec_l3DrawAny.bits9 : waitsOk spec_l3DrawAny.T9.2 spec_l3DrawAny.B9 = true := by kernel_rfl
set_option maxHeartbeats 8000000 in
set_option maxRecDepth 100000 in
theorem spec_l3DrawAny.calls (k : Nat) (g : Nat) (s0_0 : List Int) (s0_1 : Int) (s0_2 : Int) (r1 : List (S49)) (r2 : Int) (r3 : Int) (w0 w : World) (hI : IsS105 w0 w g s0_0 s0_1 s0_2) (hB : Below w0.heap.size w0 w) (h : spec_l3DrawAny.f k s0_0 s0_1 s0_2 = some (r1, r2, r3)) :
  Calls Try.prog 99 #[.pointer (some ⟨g, 0, none⟩)] w fun e w' => ∃ v0_ : Value, e = .returned (v0_) ∧ Kd.R k49 49 w' w.heap.size (fun _ => True) v0_ r1 ∧ IsS105 w0 w' g s0_0 r2 r3 ∧ Below w0.heap.size w0 w' ∧ KeepBut w w' g none := by
 have hu49 := Try.underlying49
 have HI0 := A_ hI
 have HK := A_ (KeepBut.refl w g none)
 have HL := A_ hB.size
 clear hI
 have HW0 := A_ hB.size
 have HB := A_ hB
 clear hB
 have H : ((spec_l3DrawFrom.f k s0_0 s0_1 s0_2 1 10).bind fun bt434 => ((spec_l1Once.f s0_0 bt434.2.1 bt434.2.2 12).bind fun bt439 => (if bt439.1 = true then ((spec_l1Below.f s0_0 bt439.2.1 bt439.2.2 4).bind fun bt442 => (if bt442.1 = 0 then ((spec_l3DrawEntry.f k s0_0 bt442.2.1 bt442.2.2 3).bind fun bt445 => (if bt434.1.length < 2932031007402 then (some ((bt434.1 ++ [(⟨bt445.1, bt445.2.1, bt445.2.2.1, bt445.2.2.2.1⟩ : S49)]), bt445.2.2.2.2.1, bt445.2.2.2.2.2)) else (none))) else (if bt442.1 = 1 then (if 41 ≤ 281474976710656 then ((some (([(⟨#[]⟩ : ByteArray), (⟨#[122, 122]⟩ : ByteArray), strOfNums (List.replicate 41 0)] : List ByteArray) : List ByteArray)).bind fun y457 => ((spec_l1Below.f s0_0 bt442.2.1 bt442.2.2 3).bind fun bt460 => (if 0 ≤ bt460.1 then (if bt460.1 < (y457.length : Int) then ((some (([0, 1, 1000000, 1000001] : List Int) : List Int)).bind fun y464 => ((spec_l1Below.f s0_0 bt460.2.1 bt460.2.2 4).bind fun bt467 => (if 0 ≤ bt467.1 then (if bt467.1 < (y464.length : Int) then (if bt434.1.length < 2932031007402 then (some ((bt434.1 ++ [(⟨rdOf ByteArray.empty y457 bt460.1, (⟨#[]⟩ : ByteArray), rd y464 bt467.1, false⟩ : S49)]), bt467.2.1, bt467.2.2)) else (none)) else (none)) else (none)))) else (none)) else (none)))) else (none)) else (if bt442.1 = 2 then ((spec_l1Below.f s0_0 bt442.2.1 bt442.2.2 2).bind fun bt474 => (if 0 ≤ (wrap64 (200 + bt474.1)) then (if (wrap64 (200 + bt474.1) : Int).toNat ≤ 281474976710656 then ((spec_l1Once.f s0_0 bt474.2.1 bt474.2.2 2).bind fun bt480 => (if bt434.1.length < 2932031007402 then (some ((bt434.1 ++ [(⟨(⟨#[122, 122]⟩ : ByteArray), strOfNums (List.replicate (wrap64 (200 + bt474.1) : Int).toNat 0), 1, bt480.1⟩ : S49)]), bt480.2.1, bt480.2.2)) else (none))) else (none)) else (none))) else (if bt442.1 = 3 then (spec_l3DrawAny.l0 k (([] : List (S49))) 0 s0_0 bt442.2.1 bt442.2.2) else (some (bt434.1, bt442.2.1, bt442.2.2))))))) else (some (bt434.1, bt439.2.1, bt439.2.2))))) = some (r1, r2, r3) := h
 clear h
 replace H := Option.bind_eq_some_iff.mp H
 obtain ⟨⟨t434, t437, t438⟩, A20, H⟩ := H
 (try dsimp only at H)
 have A2 := A_ A20
 clear A20
 replace H := Option.bind_eq_some_iff.mp H
 obtain ⟨⟨t439, t440, t441⟩, A30, H⟩ := H
 (try dsimp only at H)
 have A3 := A_ A30
 clear A30
 by_cases c4 : t439 = true
 {
 subst c4
 rw [if_pos rfl] at H
 replace H := Option.bind_eq_some_iff.mp H
 obtain ⟨⟨t442, t443, t444⟩, A50, H⟩ := H
 (try dsimp only at H)
 have A5 := A_ A50
 clear A50
 by_cases c6 : t442 = 0
 {
 rw [if_pos c6] at H
 have c6b0 : (t442 == 0) = true := beq_iff_eq.mpr c6
 have c6b1 : (t442 != 0) = false := bne_eq_false_iff_eq.mpr c6
 clear c6
 replace H := Option.bind_eq_some_iff.mp H
 obtain ⟨⟨t445, t446, t447, t448, t449, t450⟩, A70, H⟩ := H
 (try dsimp only at H)
 have A7 := A_ A70
 clear A70
 by_cases c8 : t434.length < 2932031007402
 {
 rw [if_pos c8] at H
 have LMc8 := A_ c8
 clear c8
 obtain ⟨y451, hy451⟩ : ∃ y_ : List (S49), y_ = (t434 ++ [(⟨t445, t446, t447, t448⟩ : S49)]) := ⟨_, rfl⟩
 replace H : (some (y451, t449, t450)) = some (r1, r2, r3) := by first | (rw [hy451]; with_reducible exact H) | (have H2_ := (Option.bind_some _ _).symm.trans H; rw [hy451]; with_reducible exact H2_) | (have H2_ := (Option.bind_some _ _).symm.trans H; with_reducible exact H2_) | with_reducible exact H | (rw [hy451]; exact H) | exact H
 have Ny451 := A_ hy451
 clear hy451
 simp only [Option.some.injEq, Prod.mk.injEq] at H
 obtain ⟨rfl, rfl, rfl⟩ := H
 go_enter Try.func99, Try.ntmps99
 go_wp2_with (first | ((with_reducible refine gate_callee (f := 108) rfl ?_); refine goesL_ (some 6) rfl rfl Try.func108 (by kernel_rfl) rfl #[.pointer (some ⟨g, 0, none⟩), .int .i64 1, .int .i64 10] rfl z99h ?_; (with_reducible refine (spec_l3DrawFrom.calls k g s0_0 s0_1 s0_2 1 10 t434 t437 t438 w0 _ ?side1 ?side2 A2.out).mono ?_); (case side1 => exact z99a); (case side2 => exact z99c); rintro e w9 ⟨v435, rfl, ho0, hi, hb, hk⟩; refine ⟨_, rfl, ?_⟩; have n0_ := A_ (Kd.R_lower ho0 (keep_size (w := w) (g := g) (row := none) z99b)); have n1_ := A_ (KeepBut.trans z99b hk (.inl rfl)); have n2_ := A_ (hb); have n3_ := A_ (hi); clear HK; clear HB; clear HI0; have HO436 := n0_; have HK := n1_; have HB := n2_; have HI0 := n3_; clear n0_ n1_ n2_ n3_) | ((with_reducible refine gate_callee (f := 94) rfl ?_); refine goesL_ (some 8) rfl rfl Try.func94 (by kernel_rfl) rfl #[.pointer (some ⟨g, 0, none⟩), .int .i64 12] rfl z99h ?_; (with_reducible refine (spec_l1Once.calls g s0_0 t437 t438 12 true t440 t441 w0 _ ?side1 ?side2 A3.out).mono ?_); (case side1 => exact z99a); (case side2 => exact z99c); rintro e w10 ⟨rfl, hi, hb, hk⟩; refine ⟨_, rfl, ?_⟩; replace HO436 := A_ (Kd.R_mono (Kd.R_keep (IsS105.apart (show IsS105 w0 _ g s0_0 t437 t438 from z99a) z99d (by decide)) hk (fun _ h => h.2)) (fun _ h => h.1)); replace HK := A_ (KeepBut.trans z99b hk (.inl rfl)); replace HB := A_ (hb); replace HI0 := A_ (hi)) | ((with_reducible refine gate_callee (f := 95) rfl ?_); refine goesL_ (some 10) rfl rfl Try.func95 (by kernel_rfl) rfl #[.pointer (some ⟨g, 0, none⟩), .int .i64 4] rfl z99h ?_; (with_reducible refine (spec_l1Below.calls g s0_0 t440 t441 4 t442 t443 t444 w0 _ ?side1 ?side2 A5.out).mono ?_); (case side1 => exact z99a); (case side2 => exact z99c); rintro e w11 ⟨rfl, hi, hb, hk⟩; refine ⟨_, rfl, ?_⟩; replace HO436 := A_ (Kd.R_mono (Kd.R_keep (IsS105.apart (show IsS105 w0 _ g s0_0 t440 t441 from z99a) z99d (by decide)) hk (fun _ h => h.2)) (fun _ h => h.1)); replace HK := A_ (KeepBut.trans z99b hk (.inl rfl)); replace HB := A_ (hb); replace HI0 := A_ (hi)) | ((with_reducible refine gate_callee (f := 109) rfl ?_); refine goesL_ (some 15) rfl rfl Try.func109 (by kernel_rfl) rfl #[.pointer (some ⟨g, 0, none⟩), .int .i64 3] rfl z99h ?_; (with_reducible refine (spec_l3DrawEntry.calls k g s0_0 t443 t444 3 t445 t446 t447 t448 t449 t450 w0 _ ?side1 ?side2 A7.out).mono ?_); (case side1 => exact z99a); (case side2 => exact z99c); rintro e w12 ⟨rfl, hi, hb, hk⟩; refine ⟨_, rfl, ?_⟩; replace HO436 := A_ (Kd.R_mono (Kd.R_keep (IsS105.apart (show IsS105 w0 _ g s0_0 t443 t444 from z99a) z99d (by decide)) hk (fun _ h => h.2)) (fun _ h => h.1)); replace HK := A_ (KeepBut.trans z99b hk (.inl rfl)); replace HB := A_ (hb); replace HI0 := A_ (hi)) | ((with_reducible refine gate_builtin (b := .append) (xs := #[.tmp 13, .tmp 16]) rfl ?_); at_builtin; refine Kd.R_append k49 w.heap.size rfl (.tmp 13) (.tmp 16) 44 49 (.agg #[(.string ⟨#[]⟩), (.string ⟨#[]⟩), (.int .i64 0), (.bool false)]) 48 rfl Try.underlying44 info49 rfl (by decide) (by omega) v435 t434 (⟨t445, t446, t447, t448⟩ : S49) [.string t445, .string t446, .int .i64 t447, .bool t448] (fun _ => True) (fun _ => False) rfl rfl ?aP (fun _ hk => hk.elim) ?aF ?aO (Below.refl _ _) ?aS ?aL ?_; (case aP => exact k49_mkM _ _ _ (⟨t445, t446, t447, t448⟩ : S49)); (case aF => exact (fun _ _ => trivial)); (case aO => exact z99d); (case aS => exact (keep_size (w := w) (g := g) (row := none) z99b)); (case aL => have := LMc8.out; omega); intro v452 w13 ho hb hg hat; rw [← Ny451.out] at ho; have n0_ := A_ (IsS105.grown z99a hg (IsS105.own_ne HI0.out HO436.out (by decide))); have n1_ := A_ (below_weaken z99c HL.out hb); have n2_ := A_ (KeepBut.trans z99b (KeepBut.of_grown hg g) (Kd.R_base2 HO436.out)); have n3_ := A_ (ho); clear HI0; clear HB; clear HK; clear HO436; have HI0 := n0_; have HB := n1_; have HK := n2_; have HO453 := n3_; clear n0_ n1_ n2_ n3_; clear ho hb hg hat))
 go_ret
 exact ⟨_, by first | rfl | (simp [errW_none, errW_some] <;> rfl) | (simp [*, errW_none, errW_some] <;> rfl), by (with_reducible repeat (first | apply Kd.R_alloc | apply Kd.R_drewN | apply Kd.R_drew)); exact HO453.out, by repeat (first | (with_reducible first | exact HI0.out | apply IsS105.alloc | apply IsS105.drewN | apply IsS105.drew | apply IsS105.set_1 | apply IsS105.set_2) | exact HI0.out), by repeat (first | (with_reducible first | exact HB.out | apply below_alloc | apply pw_below_drewN | apply below_drew1 | refine below_set ?_ (IsS105.ge HI0.out)) | exact HB.out), by repeat (first | (with_reducible first | exact HK.out | apply KeepBut.set_ | apply keep_drewN | apply keep_drew | apply keep_alloc) | exact HK.out)⟩
 }
 {
 rw [if_neg c8] at H
 exact absurd H (by simp)
 }
 }
 {
 rw [if_neg c6] at H
 have c6b0 : (t442 == 0) = false := beq_eq_false_iff_ne.mpr c6
 have c6b1 : (t442 != 0) = true := bne_iff_ne.mpr c6
 by_cases c14 : t442 = 1
 {
 rw [if_pos c14] at H
 have c14b0 : (t442 == 1) = true := beq_iff_eq.mpr c14
 have c14b1 : (t442 != 1) = false := bne_eq_false_iff_eq.mpr c14
 clear c14
 by_cases c15 : 41 ≤ 281474976710656
 {
 rw [if_pos c15] at H
 have c15b0 := eq_true c15
 have c15b1 : decide (41 ≤ 281474976710656) = true := decide_eq_true c15
 clear c15
 obtain ⟨y454, hy454⟩ : ∃ y_ : List Int, y_ = (List.replicate 41 0) := ⟨_, rfl⟩
 replace H : ((some (([(⟨#[]⟩ : ByteArray), (⟨#[122, 122]⟩ : ByteArray), strOfNums y454] : List ByteArray) : List ByteArray)).bind fun y457 => ((spec_l1Below.f s0_0 t443 t444 3).bind fun bt460 => (if 0 ≤ bt460.1 then (if bt460.1 < (y457.length : Int) then ((some (([0, 1, 1000000, 1000001] : List Int) : List Int)).bind fun y464 => ((spec_l1Below.f s0_0 bt460.2.1 bt460.2.2 4).bind fun bt467 => (if 0 ≤ bt467.1 then (if bt467.1 < (y464.length : Int) then (if t434.length < 2932031007402 then (some ((t434 ++ [(⟨rdOf ByteArray.empty y457 bt460.1, (⟨#[]⟩ : ByteArray), rd y464 bt467.1, false⟩ : S49)]), bt467.2.1, bt467.2.2)) else (none)) else (none)) else (none)))) else (none)) else (none)))) = some (r1, r2, r3) := by first | (rw [hy454]; with_reducible exact H) | (have H2_ := (Option.bind_some _ _).symm.trans H; rw [hy454]; with_reducible exact H2_) | (have H2_ := (Option.bind_some _ _).symm.trans H; with_reducible exact H2_) | with_reducible exact H | (rw [hy454]; exact H) | exact H
 have Ny454 := A_ hy454
 clear hy454
 obtain ⟨y457, hy457⟩ : ∃ y_ : List ByteArray, y_ = (([(⟨#[]⟩ : ByteArray), (⟨#[122, 122]⟩ : ByteArray), strOfNums y454] : List ByteArray)) := ⟨_, rfl⟩
 replace H : ((spec_l1Below.f s0_0 t443 t444 3).bind fun bt460 => (if 0 ≤ bt460.1 then (if bt460.1 < (y457.length : Int) then ((some (([0, 1, 1000000, 1000001] : List Int) : List Int)).bind fun y464 => ((spec_l1Below.f s0_0 bt460.2.1 bt460.2.2 4).bind fun bt467 => (if 0 ≤ bt467.1 then (if bt467.1 < (y464.length : Int) then (if t434.length < 2932031007402 then (some ((t434 ++ [(⟨rdOf ByteArray.empty y457 bt460.1, (⟨#[]⟩ : ByteArray), rd y464 bt467.1, false⟩ : S49)]), bt467.2.1, bt467.2.2)) else (none)) else (none)) else (none)))) else (none)) else (none))) = some (r1, r2, r3) := by first | (rw [hy457]; with_reducible exact H) | (have H2_ := (Option.bind_some _ _).symm.trans H; rw [hy457]; with_reducible exact H2_) | (have H2_ := (Option.bind_some _ _).symm.trans H; with_reducible exact H2_) | with_reducible exact H | (rw [hy457]; exact H) | exact H
 have Ny457 := A_ hy457
 clear hy457
 replace H := Option.bind_eq_some_iff.mp H
 obtain ⟨⟨t460, t461, t462⟩, A160, H⟩ := H
 (try dsimp only at H)
 have A16 := A_ A160
 clear A160
 by_cases c17 : 0 ≤ t460
 {
 rw [if_pos c17] at H
 have c17b0 : decide (0 ≤ t460) = true := decide_eq_true c17
 clear c17
 by_cases c18 : t460 < (y457.length : Int)
 {
 rw [if_pos c18] at H
 have c18b0 : decide (t460 < (y457.length : Int)) = true := decide_eq_true c18
 clear c18
 obtain ⟨y464, hy464⟩ : ∃ y_ : List Int, y_ = (([0, 1, 1000000, 1000001] : List Int)) := ⟨_, rfl⟩
 replace H : ((spec_l1Below.f s0_0 t461 t462 4).bind fun bt467 => (if 0 ≤ bt467.1 then (if bt467.1 < (y464.length : Int) then (if t434.length < 2932031007402 then (some ((t434 ++ [(⟨rdOf ByteArray.empty y457 t460, (⟨#[]⟩ : ByteArray), rd y464 bt467.1, false⟩ : S49)]), bt467.2.1, bt467.2.2)) else (none)) else (none)) else (none))) = some (r1, r2, r3) := by first | (rw [hy464]; with_reducible exact H) | (have H2_ := (Option.bind_some _ _).symm.trans H; rw [hy464]; with_reducible exact H2_) | (have H2_ := (Option.bind_some _ _).symm.trans H; with_reducible exact H2_) | with_reducible exact H | (rw [hy464]; exact H) | exact H
 have Ny464 := A_ hy464
 clear hy464
 replace H := Option.bind_eq_some_iff.mp H
 obtain ⟨⟨t467, t468, t469⟩, A190, H⟩ := H
 (try dsimp only at H)
 have A19 := A_ A190
 clear A190
 by_cases c20 : 0 ≤ t467
 {
 rw [if_pos c20] at H
 have c20b0 : decide (0 ≤ t467) = true := decide_eq_true c20
 clear c20
 by_cases c21 : t467 < (y464.length : Int)
 {
 rw [if_pos c21] at H
 have c21b0 : decide (t467 < (y464.length : Int)) = true := decide_eq_true c21
 clear c21
 by_cases c22 : t434.length < 2932031007402
 {
 rw [if_pos c22] at H
 have LMc22 := A_ c22
 clear c22
 obtain ⟨y471, hy471⟩ : ∃ y_ : List (S49), y_ = (t434 ++ [(⟨rdOf ByteArray.empty y457 t460, (⟨#[]⟩ : ByteArray), rd y464 t467, false⟩ : S49)]) := ⟨_, rfl⟩
 replace H : (some (y471, t468, t469)) = some (r1, r2, r3) := by first | (rw [hy471]; with_reducible exact H) | (have H2_ := (Option.bind_some _ _).symm.trans H; rw [hy471]; with_reducible exact H2_) | (have H2_ := (Option.bind_some _ _).symm.trans H; with_reducible exact H2_) | with_reducible exact H | (rw [hy471]; exact H) | exact H
 have Ny471 := A_ hy471
 clear hy471
 simp only [Option.some.injEq, Prod.mk.injEq] at H
 obtain ⟨rfl, rfl, rfl⟩ := H
 go_enter Try.func99, Try.ntmps99
 try go_wp2_with (first | ((with_reducible refine gate_callee (f := 108) rfl ?_); refine goesL_ (some 6) rfl rfl Try.func108 (by kernel_rfl) rfl #[.pointer (some ⟨g, 0, none⟩), .int .i64 1, .int .i64 10] rfl z99h ?_; (with_reducible refine (spec_l3DrawFrom.calls k g s0_0 s0_1 s0_2 1 10 t434 t437 t438 w0 _ ?side1 ?side2 A2.out).mono ?_); (case side1 => exact z99a); (case side2 => exact z99c); rintro e w23 ⟨v435, rfl, ho0, hi, hb, hk⟩; refine ⟨_, rfl, ?_⟩; have n0_ := A_ (Kd.R_lower ho0 (keep_size (w := w) (g := g) (row := none) z99b)); have n1_ := A_ (KeepBut.trans z99b hk (.inl rfl)); have n2_ := A_ (hb); have n3_ := A_ (hi); clear HK; clear HB; clear HI0; have HO436 := n0_; have HK := n1_; have HB := n2_; have HI0 := n3_; clear n0_ n1_ n2_ n3_) | ((with_reducible refine gate_callee (f := 94) rfl ?_); refine goesL_ (some 8) rfl rfl Try.func94 (by kernel_rfl) rfl #[.pointer (some ⟨g, 0, none⟩), .int .i64 12] rfl z99h ?_; (with_reducible refine (spec_l1Once.calls g s0_0 t437 t438 12 true t440 t441 w0 _ ?side1 ?side2 A3.out).mono ?_); (case side1 => exact z99a); (case side2 => exact z99c); rintro e w24 ⟨rfl, hi, hb, hk⟩; refine ⟨_, rfl, ?_⟩; replace HO436 := A_ (Kd.R_mono (Kd.R_keep (IsS105.apart (show IsS105 w0 _ g s0_0 t437 t438 from z99a) z99d (by decide)) hk (fun _ h => h.2)) (fun _ h => h.1)); replace HK := A_ (KeepBut.trans z99b hk (.inl rfl)); replace HB := A_ (hb); replace HI0 := A_ (hi)) | ((with_reducible refine gate_callee (f := 95) rfl ?_); refine goesL_ (some 10) rfl rfl Try.func95 (by kernel_rfl) rfl #[.pointer (some ⟨g, 0, none⟩), .int .i64 4] rfl z99h ?_; (with_reducible refine (spec_l1Below.calls g s0_0 t440 t441 4 t442 t443 t444 w0 _ ?side1 ?side2 A5.out).mono ?_); (case side1 => exact z99a); (case side2 => exact z99c); rintro e w25 ⟨rfl, hi, hb, hk⟩; refine ⟨_, rfl, ?_⟩; replace HO436 := A_ (Kd.R_mono (Kd.R_keep (IsS105.apart (show IsS105 w0 _ g s0_0 t440 t441 from z99a) z99d (by decide)) hk (fun _ h => h.2)) (fun _ h => h.1)); replace HK := A_ (KeepBut.trans z99b hk (.inl rfl)); replace HB := A_ (hb); replace HI0 := A_ (hi); obtain ⟨Ao26, co26, eo26⟩ := Kd.R_slice HO436.out; subst eo26))
 have pi463 : (0 ≤ (t460 : Int)) = True := eq_true (of_decide_eq_true z99l)
 have qi463 : (t460 < (y457.length : Int)) = True := eq_true (of_decide_eq_true z99l)
 have pi470 : (0 ≤ (t467 : Int)) = True := eq_true (of_decide_eq_true z99l)
 have qi470 : (t467 < (y464.length : Int)) = True := eq_true (of_decide_eq_true z99l)
 replace HO436 := A_ (Kd.R_drew HO436.out)
 replace HI0 := A_ (IsS105.drew HI0.out)
 replace HK := A_ (keep_drew HK.out)
 replace HB := A_ (below_drew1 HB.out)
 refine start_ (n := 17) (S := fun w' => True) (ds := []) (bs "XXXXXXXXXXXXXXXXX") (by kernel_rfl) rfl rfl trivial (fun hHeld => ?_); refine with_tabW spec_l3DrawAny.tab7 spec_l3DrawAny.bits7 (fun HT_ HW_ => ?_)
 generalize w25.drew = w27 at HO436 HI0 HK HB hHeld ⊢
 refine pu_ 0 (some 20) (bs "YXXXXXXXXXXXXXXXX") ?_
 refine pu_ 4 (some 24) (bs "YXXXYXXXXXXXXXXXX") ?_
 refine pu_ 9 (some 29) (bs "YXXXYXXXXYXXXXXXX") ?_
 refine join_ (σ := Value × Value × Addr × Value × Addr) 4 (bs "YYYYYYYYYYYYYXXXX") (fun s_ => [(21, s_.1), (22, .string (strOfNums y454)), (23, s_.2.1), (25, .int .i64 t460), (27, .string (rdOf ByteArray.empty y457 t460)), (28, s_.2.2.2.1), (30, .int .i64 t467), (32, .int .i64 (rd y464 t467)), (26, .pointer (some (s_.2.2.1.add (t460).toNat))), (31, .pointer (some (s_.2.2.2.2.add (t467).toNat)))]) (fun s_ w' => (Kd.R k49 49 w' w.heap.size (fun _ => True) (.slice Ao26 t434.length co26) t434) ∧ (Kd.R (Kd.int .u8) 5 w' w.heap.size (fun _ => True) s_.1 y454) ∧ (Kd.R Kd.string 9 w' w.heap.size (fun _ => True) s_.2.1 y457) ∧ (Kd.R (Kd.int .i64) 2 w' w.heap.size (fun _ => True) s_.2.2.2.1 y464) ∧ (∃ c_, (s_.2.1 : Value) = .slice (some s_.2.2.1) y457.length c_) ∧ (∃ c_, (s_.2.2.2.1 : Value) = .slice (some s_.2.2.2.2) y464.length c_) ∧ (IsS105 w0 w' g s0_0 t468 t469) ∧ (KeepBut w w' g none) ∧ (Below w0.heap.size w0 w')) ?_ ?_
 rotate_left
 {
 intro hJ1_2_3_5_7_8_10_12
 refine join_ (σ := Value × Value × Addr × Value × Addr) 5 (bs "YYYYYYYYYYYYXXXXX") (fun s_ => [(21, s_.1), (22, .string (strOfNums y454)), (23, s_.2.1), (25, .int .i64 t460), (27, .string (rdOf ByteArray.empty y457 t460)), (28, s_.2.2.2.1), (30, .int .i64 t467), (26, .pointer (some (s_.2.2.1.add (t460).toNat))), (31, .pointer (some (s_.2.2.2.2.add (t467).toNat)))]) (fun s_ w' => (Kd.R k49 49 w' w.heap.size (fun _ => True) (.slice Ao26 t434.length co26) t434) ∧ (Kd.R (Kd.int .u8) 5 w' w.heap.size (fun _ => True) s_.1 y454) ∧ (Kd.R Kd.string 9 w' w.heap.size (fun _ => True) s_.2.1 y457) ∧ (Kd.R (Kd.int .i64) 2 w' w.heap.size (fun _ => True) s_.2.2.2.1 y464) ∧ (∃ c_, (s_.2.1 : Value) = .slice (some s_.2.2.1) y457.length c_) ∧ (∃ c_, (s_.2.2.2.1 : Value) = .slice (some s_.2.2.2.2) y464.length c_) ∧ (IsS105 w0 w' g s0_0 t468 t469) ∧ (KeepBut w w' g none) ∧ (Below w0.heap.size w0 w')) ?_ ?_
 rotate_left
 {
 intro hJ1_2_3_5_7_8_10
 refine join_ (σ := Value × Value × Addr × Value × Addr) 5 (bs "YYYYYYYXYYYYYXXXX") (fun s_ => [(21, s_.1), (22, .string (strOfNums y454)), (23, s_.2.1), (25, .int .i64 t460), (28, s_.2.2.2.1), (30, .int .i64 t467), (32, .int .i64 (rd y464 t467)), (26, .pointer (some (s_.2.2.1.add (t460).toNat))), (31, .pointer (some (s_.2.2.2.2.add (t467).toNat)))]) (fun s_ w' => (Kd.R k49 49 w' w.heap.size (fun _ => True) (.slice Ao26 t434.length co26) t434) ∧ (Kd.R (Kd.int .u8) 5 w' w.heap.size (fun _ => True) s_.1 y454) ∧ (Kd.R Kd.string 9 w' w.heap.size (fun _ => True) s_.2.1 y457) ∧ (Kd.R (Kd.int .i64) 2 w' w.heap.size (fun _ => True) s_.2.2.2.1 y464) ∧ (∃ c_, (s_.2.1 : Value) = .slice (some s_.2.2.1) y457.length c_) ∧ (∃ c_, (s_.2.2.2.1 : Value) = .slice (some s_.2.2.2.2) y464.length c_) ∧ (IsS105 w0 w' g s0_0 t468 t469) ∧ (KeepBut w w' g none) ∧ (Below w0.heap.size w0 w')) ?_ ?_
 rotate_left
 {
 intro hJ1_2_3_5_8_10_12
 refine join_ (σ := Value × Value × Addr × Value × Addr) 7 (bs "YYYYYYYYYYXXXXXXX") (fun s_ => [(21, s_.1), (22, .string (strOfNums y454)), (23, s_.2.1), (25, .int .i64 t460), (27, .string (rdOf ByteArray.empty y457 t460)), (28, s_.2.2.2.1), (26, .pointer (some (s_.2.2.1.add (t460).toNat)))]) (fun s_ w' => (Kd.R k49 49 w' w.heap.size (fun _ => True) (.slice Ao26 t434.length co26) t434) ∧ (Kd.R (Kd.int .u8) 5 w' w.heap.size (fun _ => True) s_.1 y454) ∧ (Kd.R Kd.string 9 w' w.heap.size (fun _ => True) s_.2.1 y457) ∧ (Kd.R (Kd.int .i64) 2 w' w.heap.size (fun _ => True) s_.2.2.2.1 y464) ∧ (∃ c_, (s_.2.1 : Value) = .slice (some s_.2.2.1) y457.length c_) ∧ (∃ c_, (s_.2.2.2.1 : Value) = .slice (some s_.2.2.2.2) y464.length c_) ∧ (IsS105 w0 w' g s0_0 t461 t462) ∧ (KeepBut w w' g none) ∧ (Below w0.heap.size w0 w')) ?_ ?_
 rotate_left
 {
 intro hJ1_2_3_5_7_8
 refine join_ (σ := Value × Value × Addr) 7 (bs "YYYYYYYYXYYXXXXXX") (fun s_ => [(21, s_.1), (22, .string (strOfNums y454)), (23, s_.2.1), (25, .int .i64 t460), (27, .string (rdOf ByteArray.empty y457 t460)), (30, .int .i64 t467), (26, .pointer (some (s_.2.2.add (t460).toNat)))]) (fun s_ w' => (Kd.R k49 49 w' w.heap.size (fun _ => True) (.slice Ao26 t434.length co26) t434) ∧ (Kd.R (Kd.int .u8) 5 w' w.heap.size (fun _ => True) s_.1 y454) ∧ (Kd.R Kd.string 9 w' w.heap.size (fun _ => True) s_.2.1 y457) ∧ (∃ c_, (s_.2.1 : Value) = .slice (some s_.2.2) y457.length c_) ∧ (IsS105 w0 w' g s0_0 t468 t469) ∧ (KeepBut w w' g none) ∧ (Below w0.heap.size w0 w')) ?_ ?_
 rotate_left
 {
 intro hJ1_2_3_5_7_10
 refine join_ (σ := Value × Value × Addr × Value × Addr) 6 (bs "YYYYYYYXYYYYXXXXX") (fun s_ => [(21, s_.1), (22, .string (strOfNums y454)), (23, s_.2.1), (25, .int .i64 t460), (28, s_.2.2.2.1), (30, .int .i64 t467), (26, .pointer (some (s_.2.2.1.add (t460).toNat))), (31, .pointer (some (s_.2.2.2.2.add (t467).toNat)))]) (fun s_ w' => (Kd.R k49 49 w' w.heap.size (fun _ => True) (.slice Ao26 t434.length co26) t434) ∧ (Kd.R (Kd.int .u8) 5 w' w.heap.size (fun _ => True) s_.1 y454) ∧ (Kd.R Kd.string 9 w' w.heap.size (fun _ => True) s_.2.1 y457) ∧ (Kd.R (Kd.int .i64) 2 w' w.heap.size (fun _ => True) s_.2.2.2.1 y464) ∧ (∃ c_, (s_.2.1 : Value) = .slice (some s_.2.2.1) y457.length c_) ∧ (∃ c_, (s_.2.2.2.1 : Value) = .slice (some s_.2.2.2.2) y464.length c_) ∧ (IsS105 w0 w' g s0_0 t468 t469) ∧ (KeepBut w w' g none) ∧ (Below w0.heap.size w0 w')) ?_ ?_
 rotate_left
 {
 intro hJ1_2_3_5_8_10
 refine join_ (σ := Value × Value × Addr) 7 (bs "YYYXYYXXYYYYYXXXX") (fun s_ => [(21, s_.1), (22, .string (strOfNums y454)), (25, .int .i64 t460), (28, s_.2.1), (30, .int .i64 t467), (32, .int .i64 (rd y464 t467)), (31, .pointer (some (s_.2.2.add (t467).toNat)))]) (fun s_ w' => (Kd.R k49 49 w' w.heap.size (fun _ => True) (.slice Ao26 t434.length co26) t434) ∧ (Kd.R (Kd.int .u8) 5 w' w.heap.size (fun _ => True) s_.1 y454) ∧ (Kd.R (Kd.int .i64) 2 w' w.heap.size (fun _ => True) s_.2.1 y464) ∧ (∃ c_, (s_.2.1 : Value) = .slice (some s_.2.2) y464.length c_) ∧ (IsS105 w0 w' g s0_0 t468 t469) ∧ (KeepBut w w' g none) ∧ (Below w0.heap.size w0 w')) ?_ ?_
 rotate_left
 {
 intro hJ1_2_5_8_10_12
 refine join_ (σ := Value × Value × Addr) 8 (bs "YYYYYYYYXYXXXXXXX") (fun s_ => [(21, s_.1), (22, .string (strOfNums y454)), (23, s_.2.1), (25, .int .i64 t460), (27, .string (rdOf ByteArray.empty y457 t460)), (26, .pointer (some (s_.2.2.add (t460).toNat)))]) (fun s_ w' => (Kd.R k49 49 w' w.heap.size (fun _ => True) (.slice Ao26 t434.length co26) t434) ∧ (Kd.R (Kd.int .u8) 5 w' w.heap.size (fun _ => True) s_.1 y454) ∧ (Kd.R Kd.string 9 w' w.heap.size (fun _ => True) s_.2.1 y457) ∧ (∃ c_, (s_.2.1 : Value) = .slice (some s_.2.2) y457.length c_) ∧ (IsS105 w0 w' g s0_0 t461 t462) ∧ (KeepBut w w' g none) ∧ (Below w0.heap.size w0 w')) ?_ ?_
 rotate_left
 {
 intro hJ1_2_3_5_7
 refine join_ (σ := Value × Value × Addr × Value × Addr) 8 (bs "YYYYYYYXYYXXXXXXX") (fun s_ => [(21, s_.1), (22, .string (strOfNums y454)), (23, s_.2.1), (25, .int .i64 t460), (28, s_.2.2.2.1), (26, .pointer (some (s_.2.2.1.add (t460).toNat)))]) (fun s_ w' => (Kd.R k49 49 w' w.heap.size (fun _ => True) (.slice Ao26 t434.length co26) t434) ∧ (Kd.R (Kd.int .u8) 5 w' w.heap.size (fun _ => True) s_.1 y454) ∧ (Kd.R Kd.string 9 w' w.heap.size (fun _ => True) s_.2.1 y457) ∧ (Kd.R (Kd.int .i64) 2 w' w.heap.size (fun _ => True) s_.2.2.2.1 y464) ∧ (∃ c_, (s_.2.1 : Value) = .slice (some s_.2.2.1) y457.length c_) ∧ (∃ c_, (s_.2.2.2.1 : Value) = .slice (some s_.2.2.2.2) y464.length c_) ∧ (IsS105 w0 w' g s0_0 t461 t462) ∧ (KeepBut w w' g none) ∧ (Below w0.heap.size w0 w')) ?_ ?_
 rotate_left
 {
 intro hJ1_2_3_5_8
 refine join_ (σ := Value × Value × Addr) 8 (bs "YYYYYYYXXYYXXXXXX") (fun s_ => [(21, s_.1), (22, .string (strOfNums y454)), (23, s_.2.1), (25, .int .i64 t460), (30, .int .i64 t467), (26, .pointer (some (s_.2.2.add (t460).toNat)))]) (fun s_ w' => (Kd.R k49 49 w' w.heap.size (fun _ => True) (.slice Ao26 t434.length co26) t434) ∧ (Kd.R (Kd.int .u8) 5 w' w.heap.size (fun _ => True) s_.1 y454) ∧ (Kd.R Kd.string 9 w' w.heap.size (fun _ => True) s_.2.1 y457) ∧ (∃ c_, (s_.2.1 : Value) = .slice (some s_.2.2) y457.length c_) ∧ (IsS105 w0 w' g s0_0 t468 t469) ∧ (KeepBut w w' g none) ∧ (Below w0.heap.size w0 w')) ?_ ?_
 rotate_left
 {
 intro hJ1_2_3_5_10
 refine join_ (σ := Value × Value × Addr) 8 (bs "YYYXYYXXYYYYXXXXX") (fun s_ => [(21, s_.1), (22, .string (strOfNums y454)), (25, .int .i64 t460), (28, s_.2.1), (30, .int .i64 t467), (31, .pointer (some (s_.2.2.add (t467).toNat)))]) (fun s_ w' => (Kd.R k49 49 w' w.heap.size (fun _ => True) (.slice Ao26 t434.length co26) t434) ∧ (Kd.R (Kd.int .u8) 5 w' w.heap.size (fun _ => True) s_.1 y454) ∧ (Kd.R (Kd.int .i64) 2 w' w.heap.size (fun _ => True) s_.2.1 y464) ∧ (∃ c_, (s_.2.1 : Value) = .slice (some s_.2.2) y464.length c_) ∧ (IsS105 w0 w' g s0_0 t468 t469) ∧ (KeepBut w w' g none) ∧ (Below w0.heap.size w0 w')) ?_ ?_
 rotate_left
 {
 intro hJ1_2_5_8_10
 refine join_ (σ := Value × Value × Addr) 8 (bs "YYXXYYXXYYYYYXXXX") (fun s_ => [(21, s_.1), (25, .int .i64 t460), (28, s_.2.1), (30, .int .i64 t467), (32, .int .i64 (rd y464 t467)), (31, .pointer (some (s_.2.2.add (t467).toNat)))]) (fun s_ w' => (Kd.R k49 49 w' w.heap.size (fun _ => True) (.slice Ao26 t434.length co26) t434) ∧ (Kd.R (Kd.int .u8) 5 w' w.heap.size (fun _ => True) s_.1 y454) ∧ (Kd.R (Kd.int .i64) 2 w' w.heap.size (fun _ => True) s_.2.1 y464) ∧ (∃ c_, (s_.2.1 : Value) = .slice (some s_.2.2) y464.length c_) ∧ (IsS105 w0 w' g s0_0 t468 t469) ∧ (KeepBut w w' g none) ∧ (Below w0.heap.size w0 w')) ?_ ?_
 rotate_left
 {
 intro hJ1_5_8_10_12
 refine join_ (σ := Value × Value × Addr) 9 (bs "YYYYYYYXXYXXXXXXX") (fun s_ => [(21, s_.1), (22, .string (strOfNums y454)), (23, s_.2.1), (25, .int .i64 t460), (26, .pointer (some (s_.2.2.add (t460).toNat)))]) (fun s_ w' => (Kd.R k49 49 w' w.heap.size (fun _ => True) (.slice Ao26 t434.length co26) t434) ∧ (Kd.R (Kd.int .u8) 5 w' w.heap.size (fun _ => True) s_.1 y454) ∧ (Kd.R Kd.string 9 w' w.heap.size (fun _ => True) s_.2.1 y457) ∧ (∃ c_, (s_.2.1 : Value) = .slice (some s_.2.2) y457.length c_) ∧ (IsS105 w0 w' g s0_0 t461 t462) ∧ (KeepBut w w' g none) ∧ (Below w0.heap.size w0 w')) ?_ ?_
 rotate_left
 {
 intro hJ1_2_3_5
 refine join_ (σ := Value × Value × Addr × Value × Addr) 10 (bs "YYYYYXXXYYXXXXXXX") (fun s_ => [(21, s_.1), (22, .string (strOfNums y454)), (23, s_.2.1), (28, s_.2.2.2.1)]) (fun s_ w' => (Kd.R k49 49 w' w.heap.size (fun _ => True) (.slice Ao26 t434.length co26) t434) ∧ (Kd.R (Kd.int .u8) 5 w' w.heap.size (fun _ => True) s_.1 y454) ∧ (Kd.R Kd.string 9 w' w.heap.size (fun _ => True) s_.2.1 y457) ∧ (Kd.R (Kd.int .i64) 2 w' w.heap.size (fun _ => True) s_.2.2.2.1 y464) ∧ (∃ c_, (s_.2.1 : Value) = .slice (some s_.2.2.1) y457.length c_) ∧ (∃ c_, (s_.2.2.2.1 : Value) = .slice (some s_.2.2.2.2) y464.length c_) ∧ (IsS105 w0 w' g s0_0 t443 t444) ∧ (KeepBut w w' g none) ∧ (Below w0.heap.size w0 w')) ?_ ?_
 rotate_left
 {
 intro hJ1_2_3_8
 refine join_ (σ := Value × Value × Addr) 10 (bs "YYYXYYXXYYXXXXXXX") (fun s_ => [(21, s_.1), (22, .string (strOfNums y454)), (25, .int .i64 t460), (28, s_.2.1)]) (fun s_ w' => (Kd.R k49 49 w' w.heap.size (fun _ => True) (.slice Ao26 t434.length co26) t434) ∧ (Kd.R (Kd.int .u8) 5 w' w.heap.size (fun _ => True) s_.1 y454) ∧ (Kd.R (Kd.int .i64) 2 w' w.heap.size (fun _ => True) s_.2.1 y464) ∧ (∃ c_, (s_.2.1 : Value) = .slice (some s_.2.2) y464.length c_) ∧ (IsS105 w0 w' g s0_0 t461 t462) ∧ (KeepBut w w' g none) ∧ (Below w0.heap.size w0 w')) ?_ ?_
 rotate_left
 {
 intro hJ1_2_5_8
 refine join_ (σ := Value) 10 (bs "YYYXYYXXXYYXXXXXX") (fun s_ => [(21, s_), (22, .string (strOfNums y454)), (25, .int .i64 t460), (30, .int .i64 t467)]) (fun s_ w' => (Kd.R k49 49 w' w.heap.size (fun _ => True) (.slice Ao26 t434.length co26) t434) ∧ (Kd.R (Kd.int .u8) 5 w' w.heap.size (fun _ => True) s_ y454) ∧ (IsS105 w0 w' g s0_0 t468 t469) ∧ (KeepBut w w' g none) ∧ (Below w0.heap.size w0 w')) ?_ ?_
 rotate_left
 {
 intro hJ1_2_5_10
 refine join_ (σ := Value × Value × Addr) 9 (bs "YYXXYYXXYYYYXXXXX") (fun s_ => [(21, s_.1), (25, .int .i64 t460), (28, s_.2.1), (30, .int .i64 t467), (31, .pointer (some (s_.2.2.add (t467).toNat)))]) (fun s_ w' => (Kd.R k49 49 w' w.heap.size (fun _ => True) (.slice Ao26 t434.length co26) t434) ∧ (Kd.R (Kd.int .u8) 5 w' w.heap.size (fun _ => True) s_.1 y454) ∧ (Kd.R (Kd.int .i64) 2 w' w.heap.size (fun _ => True) s_.2.1 y464) ∧ (∃ c_, (s_.2.1 : Value) = .slice (some s_.2.2) y464.length c_) ∧ (IsS105 w0 w' g s0_0 t468 t469) ∧ (KeepBut w w' g none) ∧ (Below w0.heap.size w0 w')) ?_ ?_
 rotate_left
 {
 intro hJ1_5_8_10
 refine join_ (σ := Value × Addr) 9 (bs "YXXXYYXXYYYYYXXXX") (fun s_ => [(25, .int .i64 t460), (28, s_.1), (30, .int .i64 t467), (32, .int .i64 (rd y464 t467)), (31, .pointer (some (s_.2.add (t467).toNat)))]) (fun s_ w' => (Kd.R k49 49 w' w.heap.size (fun _ => True) (.slice Ao26 t434.length co26) t434) ∧ (Kd.R (Kd.int .i64) 2 w' w.heap.size (fun _ => True) s_.1 y464) ∧ (∃ c_, (s_.1 : Value) = .slice (some s_.2) y464.length c_) ∧ (IsS105 w0 w' g s0_0 t468 t469) ∧ (KeepBut w w' g none) ∧ (Below w0.heap.size w0 w')) ?_ ?_
 rotate_left
 {
 intro hJ5_8_10_12
 refine join_ (σ := Value × Value × Addr) 11 (bs "YYYYYXXXXYXXXXXXX") (fun s_ => [(21, s_.1), (22, .string (strOfNums y454)), (23, s_.2.1)]) (fun s_ w' => (Kd.R k49 49 w' w.heap.size (fun _ => True) (.slice Ao26 t434.length co26) t434) ∧ (Kd.R (Kd.int .u8) 5 w' w.heap.size (fun _ => True) s_.1 y454) ∧ (Kd.R Kd.string 9 w' w.heap.size (fun _ => True) s_.2.1 y457) ∧ (∃ c_, (s_.2.1 : Value) = .slice (some s_.2.2) y457.length c_) ∧ (IsS105 w0 w' g s0_0 t443 t444) ∧ (KeepBut w w' g none) ∧ (Below w0.heap.size w0 w')) ?_ ?_
 rotate_left
 {
 intro hJ1_2_3
 refine join_ (σ := Value) 11 (bs "YYYXYYXXXYXXXXXXX") (fun s_ => [(21, s_), (22, .string (strOfNums y454)), (25, .int .i64 t460)]) (fun s_ w' => (Kd.R k49 49 w' w.heap.size (fun _ => True) (.slice Ao26 t434.length co26) t434) ∧ (Kd.R (Kd.int .u8) 5 w' w.heap.size (fun _ => True) s_ y454) ∧ (IsS105 w0 w' g s0_0 t461 t462) ∧ (KeepBut w w' g none) ∧ (Below w0.heap.size w0 w')) ?_ ?_
 rotate_left
 {
 intro hJ1_2_5
 refine join_ (σ := Value × Value × Addr) 11 (bs "YYYXYXXXYYXXXXXXX") (fun s_ => [(21, s_.1), (22, .string (strOfNums y454)), (28, s_.2.1)]) (fun s_ w' => (Kd.R k49 49 w' w.heap.size (fun _ => True) (.slice Ao26 t434.length co26) t434) ∧ (Kd.R (Kd.int .u8) 5 w' w.heap.size (fun _ => True) s_.1 y454) ∧ (Kd.R (Kd.int .i64) 2 w' w.heap.size (fun _ => True) s_.2.1 y464) ∧ (∃ c_, (s_.2.1 : Value) = .slice (some s_.2.2) y464.length c_) ∧ (IsS105 w0 w' g s0_0 t443 t444) ∧ (KeepBut w w' g none) ∧ (Below w0.heap.size w0 w')) ?_ ?_
 rotate_left
 {
 intro hJ1_2_8
 refine join_ (σ := Value × Value × Addr) 11 (bs "YYXXYYXXYYXXXXXXX") (fun s_ => [(21, s_.1), (25, .int .i64 t460), (28, s_.2.1)]) (fun s_ w' => (Kd.R k49 49 w' w.heap.size (fun _ => True) (.slice Ao26 t434.length co26) t434) ∧ (Kd.R (Kd.int .u8) 5 w' w.heap.size (fun _ => True) s_.1 y454) ∧ (Kd.R (Kd.int .i64) 2 w' w.heap.size (fun _ => True) s_.2.1 y464) ∧ (∃ c_, (s_.2.1 : Value) = .slice (some s_.2.2) y464.length c_) ∧ (IsS105 w0 w' g s0_0 t461 t462) ∧ (KeepBut w w' g none) ∧ (Below w0.heap.size w0 w')) ?_ ?_
 rotate_left
 {
 intro hJ1_5_8
 refine join_ (σ := Value) 11 (bs "YYXXYYXXXYYXXXXXX") (fun s_ => [(21, s_), (25, .int .i64 t460), (30, .int .i64 t467)]) (fun s_ w' => (Kd.R k49 49 w' w.heap.size (fun _ => True) (.slice Ao26 t434.length co26) t434) ∧ (Kd.R (Kd.int .u8) 5 w' w.heap.size (fun _ => True) s_ y454) ∧ (IsS105 w0 w' g s0_0 t468 t469) ∧ (KeepBut w w' g none) ∧ (Below w0.heap.size w0 w')) ?_ ?_
 rotate_left
 {
 intro hJ1_5_10
 refine join_ (σ := Value × Addr) 10 (bs "YXXXYYXXYYYYXXXXX") (fun s_ => [(25, .int .i64 t460), (28, s_.1), (30, .int .i64 t467), (31, .pointer (some (s_.2.add (t467).toNat)))]) (fun s_ w' => (Kd.R k49 49 w' w.heap.size (fun _ => True) (.slice Ao26 t434.length co26) t434) ∧ (Kd.R (Kd.int .i64) 2 w' w.heap.size (fun _ => True) s_.1 y464) ∧ (∃ c_, (s_.1 : Value) = .slice (some s_.2) y464.length c_) ∧ (IsS105 w0 w' g s0_0 t468 t469) ∧ (KeepBut w w' g none) ∧ (Below w0.heap.size w0 w')) ?_ ?_
 rotate_left
 {
 intro hJ5_8_10
 refine join_ (σ := Value) 12 (bs "YYYXYXXXXYXXXXXXX") (fun s_ => [(21, s_), (22, .string (strOfNums y454))]) (fun s_ w' => (Kd.R k49 49 w' w.heap.size (fun _ => True) (.slice Ao26 t434.length co26) t434) ∧ (Kd.R (Kd.int .u8) 5 w' w.heap.size (fun _ => True) s_ y454) ∧ (IsS105 w0 w' g s0_0 t443 t444) ∧ (KeepBut w w' g none) ∧ (Below w0.heap.size w0 w')) ?_ ?_
 rotate_left
 {
 intro hJ1_2
 refine join_ (σ := Value) 12 (bs "YYXXYYXXXYXXXXXXX") (fun s_ => [(21, s_), (25, .int .i64 t460)]) (fun s_ w' => (Kd.R k49 49 w' w.heap.size (fun _ => True) (.slice Ao26 t434.length co26) t434) ∧ (Kd.R (Kd.int .u8) 5 w' w.heap.size (fun _ => True) s_ y454) ∧ (IsS105 w0 w' g s0_0 t461 t462) ∧ (KeepBut w w' g none) ∧ (Below w0.heap.size w0 w')) ?_ ?_
 rotate_left
 {
 intro hJ1_5
 refine join_ (σ := Value × Value × Addr) 12 (bs "YYXXYXXXYYXXXXXXX") (fun s_ => [(21, s_.1), (28, s_.2.1)]) (fun s_ w' => (Kd.R k49 49 w' w.heap.size (fun _ => True) (.slice Ao26 t434.length co26) t434) ∧ (Kd.R (Kd.int .u8) 5 w' w.heap.size (fun _ => True) s_.1 y454) ∧ (Kd.R (Kd.int .i64) 2 w' w.heap.size (fun _ => True) s_.2.1 y464) ∧ (∃ c_, (s_.2.1 : Value) = .slice (some s_.2.2) y464.length c_) ∧ (IsS105 w0 w' g s0_0 t443 t444) ∧ (KeepBut w w' g none) ∧ (Below w0.heap.size w0 w')) ?_ ?_
 rotate_left
 {
 intro hJ1_8
 refine join_ (σ := Value × Addr) 12 (bs "YXXXYYXXYYXXXXXXX") (fun s_ => [(25, .int .i64 t460), (28, s_.1)]) (fun s_ w' => (Kd.R k49 49 w' w.heap.size (fun _ => True) (.slice Ao26 t434.length co26) t434) ∧ (Kd.R (Kd.int .i64) 2 w' w.heap.size (fun _ => True) s_.1 y464) ∧ (∃ c_, (s_.1 : Value) = .slice (some s_.2) y464.length c_) ∧ (IsS105 w0 w' g s0_0 t461 t462) ∧ (KeepBut w w' g none) ∧ (Below w0.heap.size w0 w')) ?_ ?_
 rotate_left
 {
 intro hJ5_8
 refine join_ (σ := Unit) 12 (bs "YXXXYYXXXYYXXXXXX") (fun s_ => [(25, .int .i64 t460), (30, .int .i64 t467)]) (fun s_ w' => (Kd.R k49 49 w' w.heap.size (fun _ => True) (.slice Ao26 t434.length co26) t434) ∧ (IsS105 w0 w' g s0_0 t468 t469) ∧ (KeepBut w w' g none) ∧ (Below w0.heap.size w0 w')) ?_ ?_
 rotate_left
 {
 intro hJ5_10
 refine join_ (σ := Value) 13 (bs "YYXXYXXXXYXXXXXXX") (fun s_ => [(21, s_)]) (fun s_ w' => (Kd.R k49 49 w' w.heap.size (fun _ => True) (.slice Ao26 t434.length co26) t434) ∧ (Kd.R (Kd.int .u8) 5 w' w.heap.size (fun _ => True) s_ y454) ∧ (IsS105 w0 w' g s0_0 t443 t444) ∧ (KeepBut w w' g none) ∧ (Below w0.heap.size w0 w')) ?_ ?_
 rotate_left
 {
 intro hJ1
 refine join_ (σ := Unit) 13 (bs "YXXXYYXXXYXXXXXXX") (fun s_ => [(25, .int .i64 t460)]) (fun s_ w' => (Kd.R k49 49 w' w.heap.size (fun _ => True) (.slice Ao26 t434.length co26) t434) ∧ (IsS105 w0 w' g s0_0 t461 t462) ∧ (KeepBut w w' g none) ∧ (Below w0.heap.size w0 w')) ?_ ?_
 rotate_left
 {
 intro hJ5
 refine join_ (σ := Value × Addr) 13 (bs "YXXXYXXXYYXXXXXXX") (fun s_ => [(28, s_.1)]) (fun s_ w' => (Kd.R k49 49 w' w.heap.size (fun _ => True) (.slice Ao26 t434.length co26) t434) ∧ (Kd.R (Kd.int .i64) 2 w' w.heap.size (fun _ => True) s_.1 y464) ∧ (∃ c_, (s_.1 : Value) = .slice (some s_.2) y464.length c_) ∧ (IsS105 w0 w' g s0_0 t443 t444) ∧ (KeepBut w w' g none) ∧ (Below w0.heap.size w0 w')) ?_ ?_
 rotate_left
 {
 intro hJ8
 refine three_ (i := 1) (j := 5) (k := 8) (Ni := some 21) (Nj := some 25) (Nk := some 28) (bs "YYXXYXXXXYXXXXXXX") (bs "YXXXYYXXXYXXXXXXX") (bs "YXXXYXXXYYXXXXXXX") rfl rfl rfl rfl rfl rfl (three_of HT_.out (by kernel_rfl)) (by decide) (by decide) (by decide) (fun K hK => ?_) (fun K hK => ?_) (fun K hK => ?_)
 {
 skip
 refine Kd.R_make_step (Kd.int .u8) _ 5 (by rfl) (N := 21) rfl 22 _ _ rfl 41 rfl rfl Try.underlying22 (.int .u8 0) 1 info5 rfl (by decide) (by omega) 0 (ok := fun _ => True) (okp := fun _ => True) rfl (fun _ hk => hk) trivial (by omega) (by omega) (Below.refl _ _) (Nat.le_refl _) ?_
 intro v455 w28 ho29 hb hg_ hnew_
 clear hg_ hnew_
 (first | rw [← Ny454.out] at ho29 | (simp only [Int.reduceToNat] at ho29; rw [← Ny454.out] at ho29))
 have n0_ := A_ (Kd.R_below z99d hb)
 have n1_ := A_ (Kd.R_lower ho29 (keep_size (w := w) (g := g) (row := none) z99b))
 have n2_ := A_ (IsS105.below z99a hb)
 have n3_ := A_ (KeepBut.trans z99b (KeepBut.of_below hb g none) (.inl rfl))
 have n4_ := A_ (below_step z99c hb)
 clear HO436
 clear HI0
 clear HK
 clear HB
 have HO436 := n0_
 have HO456 := n1_
 have HI0 := n2_
 have HK := n3_
 have HB := n4_
 clear n0_ n1_ n2_ n3_ n4_
 clear hb ho29
 refine hK.out _ _ trivial (fun hHeld => ?_)
 clear hK K
 refine norm_ (nz_ 21) ?_
 exact norm_ z99e (hJ1 (v455) _ ⟨z99d, z99f, z99a, z99b, z99c⟩)
 }
 {
 skip
 refine goes_ Try.func95 (by kernel_rfl) rfl #[.pointer (some ⟨g, 0, none⟩), .int .i64 3] (by rfl) rfl rfl z99h ?_
 with_reducible refine (spec_l1Below.calls g s0_0 t443 t444 3 t460 t461 t462 w0 _ ?side1 ?side2 A16.out).mono ?_
 (case side1 => exact z99a)
 (case side2 => exact z99c)
 rintro e w28 ⟨rfl, hi, hb, hk⟩
 refine ⟨_, rfl, ?_⟩
 replace HO436 := A_ (Kd.R_mono (Kd.R_keep (IsS105.apart (show IsS105 w0 _ g s0_0 t443 t444 from z99a) z99d (by decide)) hk (fun _ h => h.2)) (fun _ h => h.1))
 replace HK := A_ (KeepBut.trans z99b hk (.inl rfl))
 replace HB := A_ (hb)
 replace HI0 := A_ (hi)
 refine hK.out _ _ trivial (fun hHeld => ?_)
 clear hK K
 refine norm_ (nz_ 25) ?_
 exact norm_ z99e (hJ5 () _ ⟨z99d, z99a, z99b, z99c⟩)
 }
 {
 skip
 refine Kd.R_lit_step (Kd.int .i64) _ 2 ?hg (N := 28) ?hd (xs := ([0, 1, 1000000, 1000001] : List Int)) (inner := [.int .i64 0, .int .i64 1, .int .i64 1000000, .int .i64 1000001]) (ok := fun _ => True) (okp := fun _ => True) ?hr ?hp (fun _ hk => hk) trivial (Below.refl _ _) (Nat.le_refl _) (by simp) ?_; (case hd => rfl); (case hg => rfl); (case hr => first | (go_simp; done) | (go_simp; rfl)); (case hp => exact (Reps.one (show Kd.M (Kd.int .i64) _ _ _ 0 [.int .i64 0] from rfl) (Reps.one (show Kd.M (Kd.int .i64) _ _ _ 1 [.int .i64 1] from rfl) (Reps.one (show Kd.M (Kd.int .i64) _ _ _ 1000000 [.int .i64 1000000] from rfl) (Reps.one (show Kd.M (Kd.int .i64) _ _ _ 1000001 [.int .i64 1000001] from rfl) (Reps.none _ _))))))
 intro v465 w28 ho29 hb hg_ hnew_
 clear hg_ hnew_
 (first | rw [← Ny464.out] at ho29 | (simp only [Int.reduceToNat] at ho29; rw [← Ny464.out] at ho29))
 have n0_ := A_ (Kd.R_below z99d hb)
 have n1_ := A_ (Kd.R_lower ho29 (keep_size (w := w) (g := g) (row := none) z99b))
 have n2_ := A_ (IsS105.below z99a hb)
 have n3_ := A_ (KeepBut.trans z99b (KeepBut.of_below hb g none) (.inl rfl))
 have n4_ := A_ (below_step z99c hb)
 clear HO436
 clear HI0
 clear HK
 clear HB
 have HO436 := n0_
 have HO466 := n1_
 have HI0 := n2_
 have HK := n3_
 have HB := n4_
 clear n0_ n1_ n2_ n3_ n4_
 clear hb ho29
 obtain ⟨Ao30, co30, eo30⟩ := Kd.R_slice HO466.out
 subst eo30
 obtain ⟨ado30, fo30, _⟩ := Kd.at_int (Kd.R_reads' HO466.out).2.2 0 (by decide) (by rw [Ny464.out]; simp)
 cases fo30
 refine hK.out _ _ trivial (fun hHeld => ?_)
 clear hK K
 refine norm_ (nz_ 28) ?_
 exact norm_ z99e (hJ8 (.slice (some ado30) y464.length co30, ado30) _ ⟨z99d, z99g, ⟨_, rfl⟩, z99a, z99b, z99c⟩)
 }
 }
 {
 skip
 rintro ⟨v465, adz_v465⟩ w31 ⟨h0_, h1_, h2_, h3_, h4_, h5_⟩
 have n0_ : Aside0 (Kd.R k49 49 w31 w.heap.size (fun _ => True) (.slice Ao26 t434.length co26) t434) := ⟨h0_⟩
 have n1_ : Aside0 (Kd.R (Kd.int .i64) 2 w31 w.heap.size (fun _ => True) v465 y464) := ⟨h1_⟩
 have n2_ : Aside0 (∃ c_, (v465 : Value) = .slice (some adz_v465) y464.length c_) := ⟨h2_⟩
 have n3_ : Aside0 (IsS105 w0 w31 g s0_0 t443 t444) := ⟨h3_⟩
 have n4_ : Aside0 (KeepBut w w31 g none) := ⟨h4_⟩
 have n5_ : Aside0 (Below w0.heap.size w0 w31) := ⟨h5_⟩
 clear HO436
 clear HI0
 clear HK
 clear HB
 clear h0_ h1_ h2_ h3_ h4_ h5_
 have HO436 := n0_
 have HO466 := n1_
 have HA_HO466 := n2_
 have HI0 := n3_
 have HK := n4_
 have HB := n5_
 clear n0_ n1_ n2_ n3_ n4_ n5_
 have hHeld := trivial
 obtain ⟨co32, eo32⟩ := HA_HO466.out
 clear HA_HO466
 subst eo32
 refine norm_ (a' := ?_) ?_ ?_
 rotate_left
 exact z99j
 refine two_ (i := 1) (j := 5) (Ni := some 21) (Nj := some 25) (bs "YYXXYXXXYYXXXXXXX") (bs "YXXXYYXXYYXXXXXXX") rfl rfl rfl rfl (two_of HT_.out (by kernel_rfl)) (by decide) (by decide) (fun K hK => ?_) (fun K hK => ?_)
 {
 skip
 refine Kd.R_make_step (Kd.int .u8) _ 5 (by rfl) (N := 21) rfl 22 _ _ rfl 41 rfl rfl Try.underlying22 (.int .u8 0) 1 info5 rfl (by decide) (by omega) 0 (ok := fun _ => True) (okp := fun _ => True) rfl (fun _ hk => hk) trivial (by omega) (by omega) (Below.refl _ _) (Nat.le_refl _) ?_
 intro v455 w33 ho34 hb hg_ hnew_
 clear hg_ hnew_
 (first | rw [← Ny454.out] at ho34 | (simp only [Int.reduceToNat] at ho34; rw [← Ny454.out] at ho34))
 have n0_ := A_ (Kd.R_below z99d hb)
 have n1_ := A_ (Kd.R_below z99g hb)
 have n2_ := A_ (Kd.R_lower ho34 (keep_size (w := w) (g := g) (row := none) z99b))
 have n3_ := A_ (IsS105.below z99a hb)
 have n4_ := A_ (KeepBut.trans z99b (KeepBut.of_below hb g none) (.inl rfl))
 have n5_ := A_ (below_step z99c hb)
 clear HO436
 clear HO466
 clear HI0
 clear HK
 clear HB
 have HO436 := n0_
 have HO466 := n1_
 have HO456 := n2_
 have HI0 := n3_
 have HK := n4_
 have HB := n5_
 clear n0_ n1_ n2_ n3_ n4_ n5_
 clear hb ho34
 refine hK.out _ _ trivial (fun hHeld => ?_)
 clear hK K
 refine norm_ (nz_ 21) ?_
 exact norm_ z99e (hJ1_8 (v455, .slice (some adz_v465) y464.length co32, adz_v465) _ ⟨z99d, z99f, z99g, ⟨_, rfl⟩, z99a, z99b, z99c⟩)
 }
 {
 skip
 refine goes_ Try.func95 (by kernel_rfl) rfl #[.pointer (some ⟨g, 0, none⟩), .int .i64 3] (by rfl) rfl rfl z99h ?_
 with_reducible refine (spec_l1Below.calls g s0_0 t443 t444 3 t460 t461 t462 w0 _ ?side1 ?side2 A16.out).mono ?_
 (case side1 => exact z99a)
 (case side2 => exact z99c)
 rintro e w33 ⟨rfl, hi, hb, hk⟩
 refine ⟨_, rfl, ?_⟩
 replace HO436 := A_ (Kd.R_mono (Kd.R_keep (IsS105.apart (show IsS105 w0 _ g s0_0 t443 t444 from z99a) z99d (by decide)) hk (fun _ h => h.2)) (fun _ h => h.1))
 replace HO466 := A_ (Kd.R_mono (Kd.R_keep (IsS105.apart (show IsS105 w0 _ g s0_0 t443 t444 from z99a) z99g (by decide)) hk (fun _ h => h.2)) (fun _ h => h.1))
 replace HK := A_ (KeepBut.trans z99b hk (.inl rfl))
 replace HB := A_ (hb)
 replace HI0 := A_ (hi)
 refine hK.out _ _ trivial (fun hHeld => ?_)
 clear hK K
 refine norm_ (nz_ 25) ?_
 exact norm_ z99e (hJ5_8 (.slice (some adz_v465) y464.length co32, adz_v465) _ ⟨z99d, z99g, ⟨_, rfl⟩, z99a, z99b, z99c⟩)
 }
 }
 }
 {
 skip
 rintro _ w29 ⟨h0_, h1_, h2_, h3_⟩
 have n0_ : Aside0 (Kd.R k49 49 w29 w.heap.size (fun _ => True) (.slice Ao26 t434.length co26) t434) := ⟨h0_⟩
 have n1_ : Aside0 (IsS105 w0 w29 g s0_0 t461 t462) := ⟨h1_⟩
 have n2_ : Aside0 (KeepBut w w29 g none) := ⟨h2_⟩
 have n3_ : Aside0 (Below w0.heap.size w0 w29) := ⟨h3_⟩
 clear HO436
 clear HI0
 clear HK
 clear HB
 clear h0_ h1_ h2_ h3_
 have HO436 := n0_
 have HI0 := n1_
 have HK := n2_
 have HB := n3_
 clear n0_ n1_ n2_ n3_
 have hHeld := trivial
 refine norm_ (a' := ?_) ?_ ?_
 rotate_left
 exact z99j
 refine three_ (i := 1) (j := 8) (k := 10) (Ni := some 21) (Nj := some 28) (Nk := some 30) (bs "YYXXYYXXXYXXXXXXX") (bs "YXXXYYXXYYXXXXXXX") (bs "YXXXYYXXXYYXXXXXX") rfl rfl rfl rfl rfl rfl (three_of HT_.out (by kernel_rfl)) (by decide) (by decide) (by decide) (fun K hK => ?_) (fun K hK => ?_) (fun K hK => ?_)
 {
 skip
 refine Kd.R_make_step (Kd.int .u8) _ 5 (by rfl) (N := 21) rfl 22 _ _ rfl 41 rfl rfl Try.underlying22 (.int .u8 0) 1 info5 rfl (by decide) (by omega) 0 (ok := fun _ => True) (okp := fun _ => True) rfl (fun _ hk => hk) trivial (by omega) (by omega) (Below.refl _ _) (Nat.le_refl _) ?_
 intro v455 w30 ho31 hb hg_ hnew_
 clear hg_ hnew_
 (first | rw [← Ny454.out] at ho31 | (simp only [Int.reduceToNat] at ho31; rw [← Ny454.out] at ho31))
 have n0_ := A_ (Kd.R_below z99d hb)
 have n1_ := A_ (Kd.R_lower ho31 (keep_size (w := w) (g := g) (row := none) z99b))
 have n2_ := A_ (IsS105.below z99a hb)
 have n3_ := A_ (KeepBut.trans z99b (KeepBut.of_below hb g none) (.inl rfl))
 have n4_ := A_ (below_step z99c hb)
 clear HO436
 clear HI0
 clear HK
 clear HB
 have HO436 := n0_
 have HO456 := n1_
 have HI0 := n2_
 have HK := n3_
 have HB := n4_
 clear n0_ n1_ n2_ n3_ n4_
 clear hb ho31
 refine hK.out _ _ trivial (fun hHeld => ?_)
 clear hK K
 refine norm_ (nz_ 21) ?_
 exact norm_ z99e (hJ1_5 (v455) _ ⟨z99d, z99f, z99a, z99b, z99c⟩)
 }
 {
 skip
 refine Kd.R_lit_step (Kd.int .i64) _ 2 ?hg (N := 28) ?hd (xs := ([0, 1, 1000000, 1000001] : List Int)) (inner := [.int .i64 0, .int .i64 1, .int .i64 1000000, .int .i64 1000001]) (ok := fun _ => True) (okp := fun _ => True) ?hr ?hp (fun _ hk => hk) trivial (Below.refl _ _) (Nat.le_refl _) (by simp) ?_; (case hd => rfl); (case hg => rfl); (case hr => first | (go_simp; done) | (go_simp; rfl)); (case hp => exact (Reps.one (show Kd.M (Kd.int .i64) _ _ _ 0 [.int .i64 0] from rfl) (Reps.one (show Kd.M (Kd.int .i64) _ _ _ 1 [.int .i64 1] from rfl) (Reps.one (show Kd.M (Kd.int .i64) _ _ _ 1000000 [.int .i64 1000000] from rfl) (Reps.one (show Kd.M (Kd.int .i64) _ _ _ 1000001 [.int .i64 1000001] from rfl) (Reps.none _ _))))))
 intro v465 w30 ho31 hb hg_ hnew_
 clear hg_ hnew_
 (first | rw [← Ny464.out] at ho31 | (simp only [Int.reduceToNat] at ho31; rw [← Ny464.out] at ho31))
 have n0_ := A_ (Kd.R_below z99d hb)
 have n1_ := A_ (Kd.R_lower ho31 (keep_size (w := w) (g := g) (row := none) z99b))
 have n2_ := A_ (IsS105.below z99a hb)
 have n3_ := A_ (KeepBut.trans z99b (KeepBut.of_below hb g none) (.inl rfl))
 have n4_ := A_ (below_step z99c hb)
 clear HO436
 clear HI0
 clear HK
 clear HB
 have HO436 := n0_
 have HO466 := n1_
 have HI0 := n2_
 have HK := n3_
 have HB := n4_
 clear n0_ n1_ n2_ n3_ n4_
 clear hb ho31
 obtain ⟨Ao32, co32, eo32⟩ := Kd.R_slice HO466.out
 subst eo32
 obtain ⟨ado32, fo32, _⟩ := Kd.at_int (Kd.R_reads' HO466.out).2.2 0 (by decide) (by rw [Ny464.out]; simp)
 cases fo32
 refine hK.out _ _ trivial (fun hHeld => ?_)
 clear hK K
 refine norm_ (nz_ 28) ?_
 exact norm_ z99e (hJ5_8 (.slice (some ado32) y464.length co32, ado32) _ ⟨z99d, z99g, ⟨_, rfl⟩, z99a, z99b, z99c⟩)
 }
 {
 skip
 refine goes_ Try.func95 (by kernel_rfl) rfl #[.pointer (some ⟨g, 0, none⟩), .int .i64 4] (by rfl) rfl rfl z99h ?_
 with_reducible refine (spec_l1Below.calls g s0_0 t461 t462 4 t467 t468 t469 w0 _ ?side1 ?side2 A19.out).mono ?_
 (case side1 => exact z99a)
 (case side2 => exact z99c)
 rintro e w30 ⟨rfl, hi, hb, hk⟩
 refine ⟨_, rfl, ?_⟩
 replace HO436 := A_ (Kd.R_mono (Kd.R_keep (IsS105.apart (show IsS105 w0 _ g s0_0 t461 t462 from z99a) z99d (by decide)) hk (fun _ h => h.2)) (fun _ h => h.1))
 replace HK := A_ (KeepBut.trans z99b hk (.inl rfl))
 replace HB := A_ (hb)
 replace HI0 := A_ (hi)
 refine hK.out _ _ trivial (fun hHeld => ?_)
 clear hK K
 refine norm_ (nz_ 30) ?_
 exact norm_ z99e (hJ5_10 () _ ⟨z99d, z99a, z99b, z99c⟩)
 }
 }
 }
 {
 skip
 rintro v455 w30 ⟨h0_, h1_, h2_, h3_, h4_⟩
 have n0_ : Aside0 (Kd.R k49 49 w30 w.heap.size (fun _ => True) (.slice Ao26 t434.length co26) t434) := ⟨h0_⟩
 have n1_ : Aside0 (Kd.R (Kd.int .u8) 5 w30 w.heap.size (fun _ => True) v455 y454) := ⟨h1_⟩
 have n2_ : Aside0 (IsS105 w0 w30 g s0_0 t443 t444) := ⟨h2_⟩
 have n3_ : Aside0 (KeepBut w w30 g none) := ⟨h3_⟩
 have n4_ : Aside0 (Below w0.heap.size w0 w30) := ⟨h4_⟩
 clear HO436
 clear HI0
 clear HK
 clear HB
 clear h0_ h1_ h2_ h3_ h4_
 have HO436 := n0_
 have HO456 := n1_
 have HI0 := n2_
 have HK := n3_
 have HB := n4_
 clear n0_ n1_ n2_ n3_ n4_
 have hHeld := trivial
 refine norm_ (a' := ?_) ?_ ?_
 rotate_left
 exact z99j
 refine three_ (i := 2) (j := 5) (k := 8) (Ni := some 22) (Nj := some 25) (Nk := some 28) (bs "YYYXYXXXXYXXXXXXX") (bs "YYXXYYXXXYXXXXXXX") (bs "YYXXYXXXYYXXXXXXX") rfl rfl rfl rfl rfl rfl (three_of HT_.out (by kernel_rfl)) (by decide) (by decide) (by decide) (fun K hK => ?_) (fun K hK => ?_) (fun K hK => ?_)
 {
 skip
 have hcv31 := own_string (P := Try.prog) Try.underlying22 Try.underlying5 Try.underlying9 (Kd.own_of_R HO456.out)
 refine value_ (w1 := ?_) (v := ?_) (by rfl) rfl ?_ ?_
 rotate_left 2
 {
 go_simp
 constructor
 {
 rfl
 }
 {
 rfl
 }
 }
 clear hcv31
 refine hK.out _ _ trivial (fun hHeld => ?_)
 clear hK K
 refine norm_ (nz_ 22) ?_
 exact norm_ z99e (hJ1_2 (v455) _ ⟨z99d, z99f, z99a, z99b, z99c⟩)
 }
 {
 skip
 refine goes_ Try.func95 (by kernel_rfl) rfl #[.pointer (some ⟨g, 0, none⟩), .int .i64 3] (by rfl) rfl rfl z99h ?_
 with_reducible refine (spec_l1Below.calls g s0_0 t443 t444 3 t460 t461 t462 w0 _ ?side1 ?side2 A16.out).mono ?_
 (case side1 => exact z99a)
 (case side2 => exact z99c)
 rintro e w31 ⟨rfl, hi, hb, hk⟩
 refine ⟨_, rfl, ?_⟩
 replace HO436 := A_ (Kd.R_mono (Kd.R_keep (IsS105.apart (show IsS105 w0 _ g s0_0 t443 t444 from z99a) z99d (by decide)) hk (fun _ h => h.2)) (fun _ h => h.1))
 replace HO456 := A_ (Kd.R_mono (Kd.R_keep (IsS105.apart (show IsS105 w0 _ g s0_0 t443 t444 from z99a) z99f (by decide)) hk (fun _ h => h.2)) (fun _ h => h.1))
 replace HK := A_ (KeepBut.trans z99b hk (.inl rfl))
 replace HB := A_ (hb)
 replace HI0 := A_ (hi)
 refine hK.out _ _ trivial (fun hHeld => ?_)
 clear hK K
 refine norm_ (nz_ 25) ?_
 exact norm_ z99e (hJ1_5 (v455) _ ⟨z99d, z99f, z99a, z99b, z99c⟩)
 }
 {
 skip
 refine Kd.R_lit_step (Kd.int .i64) _ 2 ?hg (N := 28) ?hd (xs := ([0, 1, 1000000, 1000001] : List Int)) (inner := [.int .i64 0, .int .i64 1, .int .i64 1000000, .int .i64 1000001]) (ok := fun _ => True) (okp := fun _ => True) ?hr ?hp (fun _ hk => hk) trivial (Below.refl _ _) (Nat.le_refl _) (by simp) ?_; (case hd => rfl); (case hg => rfl); (case hr => first | (go_simp; done) | (go_simp; rfl)); (case hp => exact (Reps.one (show Kd.M (Kd.int .i64) _ _ _ 0 [.int .i64 0] from rfl) (Reps.one (show Kd.M (Kd.int .i64) _ _ _ 1 [.int .i64 1] from rfl) (Reps.one (show Kd.M (Kd.int .i64) _ _ _ 1000000 [.int .i64 1000000] from rfl) (Reps.one (show Kd.M (Kd.int .i64) _ _ _ 1000001 [.int .i64 1000001] from rfl) (Reps.none _ _))))))
 intro v465 w31 ho32 hb hg_ hnew_
 clear hg_ hnew_
 (first | rw [← Ny464.out] at ho32 | (simp only [Int.reduceToNat] at ho32; rw [← Ny464.out] at ho32))
 have n0_ := A_ (Kd.R_below z99d hb)
 have n1_ := A_ (Kd.R_below z99f hb)
 have n2_ := A_ (Kd.R_lower ho32 (keep_size (w := w) (g := g) (row := none) z99b))
 have n3_ := A_ (IsS105.below z99a hb)
 have n4_ := A_ (KeepBut.trans z99b (KeepBut.of_below hb g none) (.inl rfl))
 have n5_ := A_ (below_step z99c hb)
 clear HO436
 clear HO456
 clear HI0
 clear HK
 clear HB
 have HO436 := n0_
 have HO456 := n1_
 have HO466 := n2_
 have HI0 := n3_
 have HK := n4_
 have HB := n5_
 clear n0_ n1_ n2_ n3_ n4_ n5_
 clear hb ho32
 obtain ⟨Ao33, co33, eo33⟩ := Kd.R_slice HO466.out
 subst eo33
 obtain ⟨ado33, fo33, _⟩ := Kd.at_int (Kd.R_reads' HO466.out).2.2 0 (by decide) (by rw [Ny464.out]; simp)
 cases fo33
 refine hK.out _ _ trivial (fun hHeld => ?_)
 clear hK K
 refine norm_ (nz_ 28) ?_
 exact norm_ z99e (hJ1_8 (v455, .slice (some ado33) y464.length co33, ado33) _ ⟨z99d, z99f, z99g, ⟨_, rfl⟩, z99a, z99b, z99c⟩)
 }
 }
 }
 {
 skip
 rintro _ w30 ⟨h0_, h1_, h2_, h3_⟩
 have n0_ : Aside0 (Kd.R k49 49 w30 w.heap.size (fun _ => True) (.slice Ao26 t434.length co26) t434) := ⟨h0_⟩
 have n1_ : Aside0 (IsS105 w0 w30 g s0_0 t468 t469) := ⟨h1_⟩
 have n2_ : Aside0 (KeepBut w w30 g none) := ⟨h2_⟩
 have n3_ : Aside0 (Below w0.heap.size w0 w30) := ⟨h3_⟩
 clear HO436
 clear HI0
 clear HK
 clear HB
 clear h0_ h1_ h2_ h3_
 have HO436 := n0_
 have HI0 := n1_
 have HK := n2_
 have HB := n3_
 clear n0_ n1_ n2_ n3_
 have hHeld := trivial
 refine norm_ (a' := ?_) ?_ ?_
 rotate_left
 exact z99j
 refine two_ (i := 1) (j := 8) (Ni := some 21) (Nj := some 28) (bs "YYXXYYXXXYYXXXXXX") (bs "YXXXYYXXYYYXXXXXX") rfl rfl rfl rfl (two_of HT_.out (by kernel_rfl)) (by decide) (by decide) (fun K hK => ?_) (fun K hK => ?_)
 {
 skip
 refine Kd.R_make_step (Kd.int .u8) _ 5 (by rfl) (N := 21) rfl 22 _ _ rfl 41 rfl rfl Try.underlying22 (.int .u8 0) 1 info5 rfl (by decide) (by omega) 0 (ok := fun _ => True) (okp := fun _ => True) rfl (fun _ hk => hk) trivial (by omega) (by omega) (Below.refl _ _) (Nat.le_refl _) ?_
 intro v455 w31 ho32 hb hg_ hnew_
 clear hg_ hnew_
 (first | rw [← Ny454.out] at ho32 | (simp only [Int.reduceToNat] at ho32; rw [← Ny454.out] at ho32))
 have n0_ := A_ (Kd.R_below z99d hb)
 have n1_ := A_ (Kd.R_lower ho32 (keep_size (w := w) (g := g) (row := none) z99b))
 have n2_ := A_ (IsS105.below z99a hb)
 have n3_ := A_ (KeepBut.trans z99b (KeepBut.of_below hb g none) (.inl rfl))
 have n4_ := A_ (below_step z99c hb)
 clear HO436
 clear HI0
 clear HK
 clear HB
 have HO436 := n0_
 have HO456 := n1_
 have HI0 := n2_
 have HK := n3_
 have HB := n4_
 clear n0_ n1_ n2_ n3_ n4_
 clear hb ho32
 refine hK.out _ _ trivial (fun hHeld => ?_)
 clear hK K
 refine norm_ (nz_ 21) ?_
 exact norm_ z99e (hJ1_5_10 (v455) _ ⟨z99d, z99f, z99a, z99b, z99c⟩)
 }
 {
 skip
 refine Kd.R_lit_step (Kd.int .i64) _ 2 ?hg (N := 28) ?hd (xs := ([0, 1, 1000000, 1000001] : List Int)) (inner := [.int .i64 0, .int .i64 1, .int .i64 1000000, .int .i64 1000001]) (ok := fun _ => True) (okp := fun _ => True) ?hr ?hp (fun _ hk => hk) trivial (Below.refl _ _) (Nat.le_refl _) (by simp) ?_; (case hd => rfl); (case hg => rfl); (case hr => first | (go_simp; done) | (go_simp; rfl)); (case hp => exact (Reps.one (show Kd.M (Kd.int .i64) _ _ _ 0 [.int .i64 0] from rfl) (Reps.one (show Kd.M (Kd.int .i64) _ _ _ 1 [.int .i64 1] from rfl) (Reps.one (show Kd.M (Kd.int .i64) _ _ _ 1000000 [.int .i64 1000000] from rfl) (Reps.one (show Kd.M (Kd.int .i64) _ _ _ 1000001 [.int .i64 1000001] from rfl) (Reps.none _ _))))))
 intro v465 w31 ho32 hb hg_ hnew_
 clear hg_ hnew_
 (first | rw [← Ny464.out] at ho32 | (simp only [Int.reduceToNat] at ho32; rw [← Ny464.out] at ho32))
 have n0_ := A_ (Kd.R_below z99d hb)
 have n1_ := A_ (Kd.R_lower ho32 (keep_size (w := w) (g := g) (row := none) z99b))
 have n2_ := A_ (IsS105.below z99a hb)
 have n3_ := A_ (KeepBut.trans z99b (KeepBut.of_below hb g none) (.inl rfl))
 have n4_ := A_ (below_step z99c hb)
 clear HO436
 clear HI0
 clear HK
 clear HB
 have HO436 := n0_
 have HO466 := n1_
 have HI0 := n2_
 have HK := n3_
 have HB := n4_
 clear n0_ n1_ n2_ n3_ n4_
 clear hb ho32
 obtain ⟨Ao33, co33, eo33⟩ := Kd.R_slice HO466.out
 subst eo33
 obtain ⟨ado33, fo33, _⟩ := Kd.at_int (Kd.R_reads' HO466.out).2.2 0 (by decide) (by rw [Ny464.out]; simp)
 cases fo33
 refine hK.out _ _ trivial (fun hHeld => ?_)
 clear hK K
 refine norm_ (nz_ 28) ?_
 refine pu_ 11 (some 31) (bs "YXXXYYXXYYYYXXXXX") ?_
 exact norm_ z99e (hJ5_8_10 (.slice (some ado33) y464.length co33, ado33) _ ⟨z99d, z99g, ⟨_, rfl⟩, z99a, z99b, z99c⟩)
 }
 }
 }
 {
 skip
 rintro ⟨v465, adz_v465⟩ w32 ⟨h0_, h1_, h2_, h3_, h4_, h5_⟩
 have n0_ : Aside0 (Kd.R k49 49 w32 w.heap.size (fun _ => True) (.slice Ao26 t434.length co26) t434) := ⟨h0_⟩
 have n1_ : Aside0 (Kd.R (Kd.int .i64) 2 w32 w.heap.size (fun _ => True) v465 y464) := ⟨h1_⟩
 have n2_ : Aside0 (∃ c_, (v465 : Value) = .slice (some adz_v465) y464.length c_) := ⟨h2_⟩
 have n3_ : Aside0 (IsS105 w0 w32 g s0_0 t461 t462) := ⟨h3_⟩
 have n4_ : Aside0 (KeepBut w w32 g none) := ⟨h4_⟩
 have n5_ : Aside0 (Below w0.heap.size w0 w32) := ⟨h5_⟩
 clear HO436
 clear HI0
 clear HK
 clear HB
 clear h0_ h1_ h2_ h3_ h4_ h5_
 have HO436 := n0_
 have HO466 := n1_
 have HA_HO466 := n2_
 have HI0 := n3_
 have HK := n4_
 have HB := n5_
 clear n0_ n1_ n2_ n3_ n4_ n5_
 have hHeld := trivial
 obtain ⟨co33, eo33⟩ := HA_HO466.out
 clear HA_HO466
 subst eo33
 refine norm_ (a' := ?_) ?_ ?_
 rotate_left
 exact z99j
 refine two_ (i := 1) (j := 10) (Ni := some 21) (Nj := some 30) (bs "YYXXYYXXYYXXXXXXX") (bs "YXXXYYXXYYYXXXXXX") rfl rfl rfl rfl (two_of HT_.out (by kernel_rfl)) (by decide) (by decide) (fun K hK => ?_) (fun K hK => ?_)
 {
 skip
 refine Kd.R_make_step (Kd.int .u8) _ 5 (by rfl) (N := 21) rfl 22 _ _ rfl 41 rfl rfl Try.underlying22 (.int .u8 0) 1 info5 rfl (by decide) (by omega) 0 (ok := fun _ => True) (okp := fun _ => True) rfl (fun _ hk => hk) trivial (by omega) (by omega) (Below.refl _ _) (Nat.le_refl _) ?_
 intro v455 w34 ho35 hb hg_ hnew_
 clear hg_ hnew_
 (first | rw [← Ny454.out] at ho35 | (simp only [Int.reduceToNat] at ho35; rw [← Ny454.out] at ho35))
 have n0_ := A_ (Kd.R_below z99d hb)
 have n1_ := A_ (Kd.R_below z99g hb)
 have n2_ := A_ (Kd.R_lower ho35 (keep_size (w := w) (g := g) (row := none) z99b))
 have n3_ := A_ (IsS105.below z99a hb)
 have n4_ := A_ (KeepBut.trans z99b (KeepBut.of_below hb g none) (.inl rfl))
 have n5_ := A_ (below_step z99c hb)
 clear HO436
 clear HO466
 clear HI0
 clear HK
 clear HB
 have HO436 := n0_
 have HO466 := n1_
 have HO456 := n2_
 have HI0 := n3_
 have HK := n4_
 have HB := n5_
 clear n0_ n1_ n2_ n3_ n4_ n5_
 clear hb ho35
 refine hK.out _ _ trivial (fun hHeld => ?_)
 clear hK K
 refine norm_ (nz_ 21) ?_
 exact norm_ z99e (hJ1_5_8 (v455, .slice (some adz_v465) y464.length co33, adz_v465) _ ⟨z99d, z99f, z99g, ⟨_, rfl⟩, z99a, z99b, z99c⟩)
 }
 {
 skip
 refine goes_ Try.func95 (by kernel_rfl) rfl #[.pointer (some ⟨g, 0, none⟩), .int .i64 4] (by rfl) rfl rfl z99h ?_
 with_reducible refine (spec_l1Below.calls g s0_0 t461 t462 4 t467 t468 t469 w0 _ ?side1 ?side2 A19.out).mono ?_
 (case side1 => exact z99a)
 (case side2 => exact z99c)
 rintro e w34 ⟨rfl, hi, hb, hk⟩
 refine ⟨_, rfl, ?_⟩
 replace HO436 := A_ (Kd.R_mono (Kd.R_keep (IsS105.apart (show IsS105 w0 _ g s0_0 t461 t462 from z99a) z99d (by decide)) hk (fun _ h => h.2)) (fun _ h => h.1))
 replace HO466 := A_ (Kd.R_mono (Kd.R_keep (IsS105.apart (show IsS105 w0 _ g s0_0 t461 t462 from z99a) z99g (by decide)) hk (fun _ h => h.2)) (fun _ h => h.1))
 replace HK := A_ (KeepBut.trans z99b hk (.inl rfl))
 replace HB := A_ (hb)
 replace HI0 := A_ (hi)
 refine hK.out _ _ trivial (fun hHeld => ?_)
 clear hK K
 refine norm_ (nz_ 30) ?_
 refine pu_ 11 (some 31) (bs "YXXXYYXXYYYYXXXXX") ?_
 exact norm_ z99e (hJ5_8_10 (.slice (some adz_v465) y464.length co33, adz_v465) _ ⟨z99d, z99g, ⟨_, rfl⟩, z99a, z99b, z99c⟩)
 }
 }
 }
 {
 skip
 rintro ⟨v455, v465, adz_v465⟩ w33 ⟨h0_, h1_, h2_, h3_, h4_, h5_, h6_⟩
 have n0_ : Aside0 (Kd.R k49 49 w33 w.heap.size (fun _ => True) (.slice Ao26 t434.length co26) t434) := ⟨h0_⟩
 have n1_ : Aside0 (Kd.R (Kd.int .u8) 5 w33 w.heap.size (fun _ => True) v455 y454) := ⟨h1_⟩
 have n2_ : Aside0 (Kd.R (Kd.int .i64) 2 w33 w.heap.size (fun _ => True) v465 y464) := ⟨h2_⟩
 have n3_ : Aside0 (∃ c_, (v465 : Value) = .slice (some adz_v465) y464.length c_) := ⟨h3_⟩
 have n4_ : Aside0 (IsS105 w0 w33 g s0_0 t443 t444) := ⟨h4_⟩
 have n5_ : Aside0 (KeepBut w w33 g none) := ⟨h5_⟩
 have n6_ : Aside0 (Below w0.heap.size w0 w33) := ⟨h6_⟩
 clear HO436
 clear HI0
 clear HK
 clear HB
 clear h0_ h1_ h2_ h3_ h4_ h5_ h6_
 have HO436 := n0_
 have HO456 := n1_
 have HO466 := n2_
 have HA_HO466 := n3_
 have HI0 := n4_
 have HK := n5_
 have HB := n6_
 clear n0_ n1_ n2_ n3_ n4_ n5_ n6_
 have hHeld := trivial
 obtain ⟨co34, eo34⟩ := HA_HO466.out
 clear HA_HO466
 subst eo34
 refine norm_ (a' := ?_) ?_ ?_
 rotate_left
 exact z99j
 refine two_ (i := 2) (j := 5) (Ni := some 22) (Nj := some 25) (bs "YYYXYXXXYYXXXXXXX") (bs "YYXXYYXXYYXXXXXXX") rfl rfl rfl rfl (two_of HT_.out (by kernel_rfl)) (by decide) (by decide) (fun K hK => ?_) (fun K hK => ?_)
 {
 skip
 have hcv35 := own_string (P := Try.prog) Try.underlying22 Try.underlying5 Try.underlying9 (Kd.own_of_R HO456.out)
 refine value_ (w1 := ?_) (v := ?_) (by rfl) rfl ?_ ?_
 rotate_left 2
 {
 go_simp
 constructor
 {
 rfl
 }
 {
 rfl
 }
 }
 clear hcv35
 refine hK.out _ _ trivial (fun hHeld => ?_)
 clear hK K
 refine norm_ (nz_ 22) ?_
 exact norm_ z99e (hJ1_2_8 (v455, .slice (some adz_v465) y464.length co34, adz_v465) _ ⟨z99d, z99f, z99g, ⟨_, rfl⟩, z99a, z99b, z99c⟩)
 }
 {
 skip
 refine goes_ Try.func95 (by kernel_rfl) rfl #[.pointer (some ⟨g, 0, none⟩), .int .i64 3] (by rfl) rfl rfl z99h ?_
 with_reducible refine (spec_l1Below.calls g s0_0 t443 t444 3 t460 t461 t462 w0 _ ?side1 ?side2 A16.out).mono ?_
 (case side1 => exact z99a)
 (case side2 => exact z99c)
 rintro e w35 ⟨rfl, hi, hb, hk⟩
 refine ⟨_, rfl, ?_⟩
 replace HO436 := A_ (Kd.R_mono (Kd.R_keep (IsS105.apart (show IsS105 w0 _ g s0_0 t443 t444 from z99a) z99d (by decide)) hk (fun _ h => h.2)) (fun _ h => h.1))
 replace HO456 := A_ (Kd.R_mono (Kd.R_keep (IsS105.apart (show IsS105 w0 _ g s0_0 t443 t444 from z99a) z99f (by decide)) hk (fun _ h => h.2)) (fun _ h => h.1))
 replace HO466 := A_ (Kd.R_mono (Kd.R_keep (IsS105.apart (show IsS105 w0 _ g s0_0 t443 t444 from z99a) z99g (by decide)) hk (fun _ h => h.2)) (fun _ h => h.1))
 replace HK := A_ (KeepBut.trans z99b hk (.inl rfl))
 replace HB := A_ (hb)
 replace HI0 := A_ (hi)
 refine hK.out _ _ trivial (fun hHeld => ?_)
 clear hK K
 refine norm_ (nz_ 25) ?_
 exact norm_ z99e (hJ1_5_8 (v455, .slice (some adz_v465) y464.length co34, adz_v465) _ ⟨z99d, z99f, z99g, ⟨_, rfl⟩, z99a, z99b, z99c⟩)
 }
 }
 }
 {
 skip
 rintro v455 w31 ⟨h0_, h1_, h2_, h3_, h4_⟩
 have n0_ : Aside0 (Kd.R k49 49 w31 w.heap.size (fun _ => True) (.slice Ao26 t434.length co26) t434) := ⟨h0_⟩
 have n1_ : Aside0 (Kd.R (Kd.int .u8) 5 w31 w.heap.size (fun _ => True) v455 y454) := ⟨h1_⟩
 have n2_ : Aside0 (IsS105 w0 w31 g s0_0 t461 t462) := ⟨h2_⟩
 have n3_ : Aside0 (KeepBut w w31 g none) := ⟨h3_⟩
 have n4_ : Aside0 (Below w0.heap.size w0 w31) := ⟨h4_⟩
 clear HO436
 clear HI0
 clear HK
 clear HB
 clear h0_ h1_ h2_ h3_ h4_
 have HO436 := n0_
 have HO456 := n1_
 have HI0 := n2_
 have HK := n3_
 have HB := n4_
 clear n0_ n1_ n2_ n3_ n4_
 have hHeld := trivial
 refine norm_ (a' := ?_) ?_ ?_
 rotate_left
 exact z99j
 refine three_ (i := 2) (j := 8) (k := 10) (Ni := some 22) (Nj := some 28) (Nk := some 30) (bs "YYYXYYXXXYXXXXXXX") (bs "YYXXYYXXYYXXXXXXX") (bs "YYXXYYXXXYYXXXXXX") rfl rfl rfl rfl rfl rfl (three_of HT_.out (by kernel_rfl)) (by decide) (by decide) (by decide) (fun K hK => ?_) (fun K hK => ?_) (fun K hK => ?_)
 {
 skip
 have hcv32 := own_string (P := Try.prog) Try.underlying22 Try.underlying5 Try.underlying9 (Kd.own_of_R HO456.out)
 refine value_ (w1 := ?_) (v := ?_) (by rfl) rfl ?_ ?_
 rotate_left 2
 {
 go_simp
 constructor
 {
 rfl
 }
 {
 rfl
 }
 }
 clear hcv32
 refine hK.out _ _ trivial (fun hHeld => ?_)
 clear hK K
 refine norm_ (nz_ 22) ?_
 exact norm_ z99e (hJ1_2_5 (v455) _ ⟨z99d, z99f, z99a, z99b, z99c⟩)
 }
 {
 skip
 refine Kd.R_lit_step (Kd.int .i64) _ 2 ?hg (N := 28) ?hd (xs := ([0, 1, 1000000, 1000001] : List Int)) (inner := [.int .i64 0, .int .i64 1, .int .i64 1000000, .int .i64 1000001]) (ok := fun _ => True) (okp := fun _ => True) ?hr ?hp (fun _ hk => hk) trivial (Below.refl _ _) (Nat.le_refl _) (by simp) ?_; (case hd => rfl); (case hg => rfl); (case hr => first | (go_simp; done) | (go_simp; rfl)); (case hp => exact (Reps.one (show Kd.M (Kd.int .i64) _ _ _ 0 [.int .i64 0] from rfl) (Reps.one (show Kd.M (Kd.int .i64) _ _ _ 1 [.int .i64 1] from rfl) (Reps.one (show Kd.M (Kd.int .i64) _ _ _ 1000000 [.int .i64 1000000] from rfl) (Reps.one (show Kd.M (Kd.int .i64) _ _ _ 1000001 [.int .i64 1000001] from rfl) (Reps.none _ _))))))
 intro v465 w32 ho33 hb hg_ hnew_
 clear hg_ hnew_
 (first | rw [← Ny464.out] at ho33 | (simp only [Int.reduceToNat] at ho33; rw [← Ny464.out] at ho33))
 have n0_ := A_ (Kd.R_below z99d hb)
 have n1_ := A_ (Kd.R_below z99f hb)
 have n2_ := A_ (Kd.R_lower ho33 (keep_size (w := w) (g := g) (row := none) z99b))
 have n3_ := A_ (IsS105.below z99a hb)
 have n4_ := A_ (KeepBut.trans z99b (KeepBut.of_below hb g none) (.inl rfl))
 have n5_ := A_ (below_step z99c hb)
 clear HO436
 clear HO456
 clear HI0
 clear HK
 clear HB
 have HO436 := n0_
 have HO456 := n1_
 have HO466 := n2_
 have HI0 := n3_
 have HK := n4_
 have HB := n5_
 clear n0_ n1_ n2_ n3_ n4_ n5_
 clear hb ho33
 obtain ⟨Ao34, co34, eo34⟩ := Kd.R_slice HO466.out
 subst eo34
 obtain ⟨ado34, fo34, _⟩ := Kd.at_int (Kd.R_reads' HO466.out).2.2 0 (by decide) (by rw [Ny464.out]; simp)
 cases fo34
 refine hK.out _ _ trivial (fun hHeld => ?_)
 clear hK K
 refine norm_ (nz_ 28) ?_
 exact norm_ z99e (hJ1_5_8 (v455, .slice (some ado34) y464.length co34, ado34) _ ⟨z99d, z99f, z99g, ⟨_, rfl⟩, z99a, z99b, z99c⟩)
 }
 {
 skip
 refine goes_ Try.func95 (by kernel_rfl) rfl #[.pointer (some ⟨g, 0, none⟩), .int .i64 4] (by rfl) rfl rfl z99h ?_
 with_reducible refine (spec_l1Below.calls g s0_0 t461 t462 4 t467 t468 t469 w0 _ ?side1 ?side2 A19.out).mono ?_
 (case side1 => exact z99a)
 (case side2 => exact z99c)
 rintro e w32 ⟨rfl, hi, hb, hk⟩
 refine ⟨_, rfl, ?_⟩
 replace HO436 := A_ (Kd.R_mono (Kd.R_keep (IsS105.apart (show IsS105 w0 _ g s0_0 t461 t462 from z99a) z99d (by decide)) hk (fun _ h => h.2)) (fun _ h => h.1))
 replace HO456 := A_ (Kd.R_mono (Kd.R_keep (IsS105.apart (show IsS105 w0 _ g s0_0 t461 t462 from z99a) z99f (by decide)) hk (fun _ h => h.2)) (fun _ h => h.1))
 replace HK := A_ (KeepBut.trans z99b hk (.inl rfl))
 replace HB := A_ (hb)
 replace HI0 := A_ (hi)
 refine hK.out _ _ trivial (fun hHeld => ?_)
 clear hK K
 refine norm_ (nz_ 30) ?_
 exact norm_ z99e (hJ1_5_10 (v455) _ ⟨z99d, z99f, z99a, z99b, z99c⟩)
 }
 }
 }
 {
 skip
 rintro v455 w31 ⟨h0_, h1_, h2_, h3_, h4_⟩
 have n0_ : Aside0 (Kd.R k49 49 w31 w.heap.size (fun _ => True) (.slice Ao26 t434.length co26) t434) := ⟨h0_⟩
 have n1_ : Aside0 (Kd.R (Kd.int .u8) 5 w31 w.heap.size (fun _ => True) v455 y454) := ⟨h1_⟩
 have n2_ : Aside0 (IsS105 w0 w31 g s0_0 t443 t444) := ⟨h2_⟩
 have n3_ : Aside0 (KeepBut w w31 g none) := ⟨h3_⟩
 have n4_ : Aside0 (Below w0.heap.size w0 w31) := ⟨h4_⟩
 clear HO436
 clear HI0
 clear HK
 clear HB
 clear h0_ h1_ h2_ h3_ h4_
 have HO436 := n0_
 have HO456 := n1_
 have HI0 := n2_
 have HK := n3_
 have HB := n4_
 clear n0_ n1_ n2_ n3_ n4_
 have hHeld := trivial
 refine norm_ (a' := ?_) ?_ ?_
 rotate_left
 exact z99j
 refine three_ (i := 3) (j := 5) (k := 8) (Ni := some 23) (Nj := some 25) (Nk := some 28) (bs "YYYYYXXXXYXXXXXXX") (bs "YYYXYYXXXYXXXXXXX") (bs "YYYXYXXXYYXXXXXXX") rfl rfl rfl rfl rfl rfl (three_of HT_.out (by kernel_rfl)) (by decide) (by decide) (by decide) (fun K hK => ?_) (fun K hK => ?_) (fun K hK => ?_)
 {
 skip
 refine Kd.R_lit_step Kd.string _ 9 ?hg (N := 23) ?hd (xs := ([(⟨#[]⟩ : ByteArray), (⟨#[122, 122]⟩ : ByteArray), strOfNums y454] : List ByteArray)) (inner := [.string (⟨#[]⟩ : ByteArray), .string (⟨#[122, 122]⟩ : ByteArray), .string (strOfNums y454)]) (ok := fun _ => True) (okp := fun _ => True) ?hr ?hp (fun _ hk => hk) trivial (Below.refl _ _) (Nat.le_refl _) (by simp) ?_; (case hd => rfl); (case hg => rfl); (case hr => first | (go_simp; done) | (go_simp; rfl)); (case hp => exact (Reps.one (show Kd.M Kd.string _ _ _ (⟨#[]⟩ : ByteArray) [.string (⟨#[]⟩ : ByteArray)] from rfl) (Reps.one (show Kd.M Kd.string _ _ _ (⟨#[122, 122]⟩ : ByteArray) [.string (⟨#[122, 122]⟩ : ByteArray)] from rfl) (Reps.one (show Kd.M Kd.string _ _ _ (strOfNums y454) [.string (strOfNums y454)] from rfl) (Reps.none _ _)))))
 intro v458 w32 ho33 hb hg_ hnew_
 clear hg_ hnew_
 (first | rw [← Ny457.out] at ho33 | (simp only [Int.reduceToNat] at ho33; rw [← Ny457.out] at ho33))
 have n0_ := A_ (Kd.R_below z99d hb)
 have n1_ := A_ (Kd.R_below z99f hb)
 have n2_ := A_ (Kd.R_lower ho33 (keep_size (w := w) (g := g) (row := none) z99b))
 have n3_ := A_ (IsS105.below z99a hb)
 have n4_ := A_ (KeepBut.trans z99b (KeepBut.of_below hb g none) (.inl rfl))
 have n5_ := A_ (below_step z99c hb)
 clear HO436
 clear HO456
 clear HI0
 clear HK
 clear HB
 have HO436 := n0_
 have HO456 := n1_
 have HO459 := n2_
 have HI0 := n3_
 have HK := n4_
 have HB := n5_
 clear n0_ n1_ n2_ n3_ n4_ n5_
 clear hb ho33
 obtain ⟨Ao34, co34, eo34⟩ := Kd.R_slice HO459.out
 subst eo34
 obtain ⟨ado34, fo34, _⟩ := Kd.at_string (Kd.R_reads' HO459.out).2.2 0 (by decide) (by rw [Ny457.out]; simp)
 cases fo34
 refine hK.out _ _ trivial (fun hHeld => ?_)
 clear hK K
 refine norm_ (nz_ 23) ?_
 exact norm_ z99e (hJ1_2_3 (v455, .slice (some ado34) y457.length co34, ado34) _ ⟨z99d, z99f, z99i, ⟨_, rfl⟩, z99a, z99b, z99c⟩)
 }
 {
 skip
 refine goes_ Try.func95 (by kernel_rfl) rfl #[.pointer (some ⟨g, 0, none⟩), .int .i64 3] (by rfl) rfl rfl z99h ?_
 with_reducible refine (spec_l1Below.calls g s0_0 t443 t444 3 t460 t461 t462 w0 _ ?side1 ?side2 A16.out).mono ?_
 (case side1 => exact z99a)
 (case side2 => exact z99c)
 rintro e w32 ⟨rfl, hi, hb, hk⟩
 refine ⟨_, rfl, ?_⟩
 replace HO436 := A_ (Kd.R_mono (Kd.R_keep (IsS105.apart (show IsS105 w0 _ g s0_0 t443 t444 from z99a) z99d (by decide)) hk (fun _ h => h.2)) (fun _ h => h.1))
 replace HO456 := A_ (Kd.R_mono (Kd.R_keep (IsS105.apart (show IsS105 w0 _ g s0_0 t443 t444 from z99a) z99f (by decide)) hk (fun _ h => h.2)) (fun _ h => h.1))
 replace HK := A_ (KeepBut.trans z99b hk (.inl rfl))
 replace HB := A_ (hb)
 replace HI0 := A_ (hi)
 refine hK.out _ _ trivial (fun hHeld => ?_)
 clear hK K
 refine norm_ (nz_ 25) ?_
 exact norm_ z99e (hJ1_2_5 (v455) _ ⟨z99d, z99f, z99a, z99b, z99c⟩)
 }
 {
 skip
 refine Kd.R_lit_step (Kd.int .i64) _ 2 ?hg (N := 28) ?hd (xs := ([0, 1, 1000000, 1000001] : List Int)) (inner := [.int .i64 0, .int .i64 1, .int .i64 1000000, .int .i64 1000001]) (ok := fun _ => True) (okp := fun _ => True) ?hr ?hp (fun _ hk => hk) trivial (Below.refl _ _) (Nat.le_refl _) (by simp) ?_; (case hd => rfl); (case hg => rfl); (case hr => first | (go_simp; done) | (go_simp; rfl)); (case hp => exact (Reps.one (show Kd.M (Kd.int .i64) _ _ _ 0 [.int .i64 0] from rfl) (Reps.one (show Kd.M (Kd.int .i64) _ _ _ 1 [.int .i64 1] from rfl) (Reps.one (show Kd.M (Kd.int .i64) _ _ _ 1000000 [.int .i64 1000000] from rfl) (Reps.one (show Kd.M (Kd.int .i64) _ _ _ 1000001 [.int .i64 1000001] from rfl) (Reps.none _ _))))))
 intro v465 w32 ho33 hb hg_ hnew_
 clear hg_ hnew_
 (first | rw [← Ny464.out] at ho33 | (simp only [Int.reduceToNat] at ho33; rw [← Ny464.out] at ho33))
 have n0_ := A_ (Kd.R_below z99d hb)
 have n1_ := A_ (Kd.R_below z99f hb)
 have n2_ := A_ (Kd.R_lower ho33 (keep_size (w := w) (g := g) (row := none) z99b))
 have n3_ := A_ (IsS105.below z99a hb)
 have n4_ := A_ (KeepBut.trans z99b (KeepBut.of_below hb g none) (.inl rfl))
 have n5_ := A_ (below_step z99c hb)
 clear HO436
 clear HO456
 clear HI0
 clear HK
 clear HB
 have HO436 := n0_
 have HO456 := n1_
 have HO466 := n2_
 have HI0 := n3_
 have HK := n4_
 have HB := n5_
 clear n0_ n1_ n2_ n3_ n4_ n5_
 clear hb ho33
 obtain ⟨Ao34, co34, eo34⟩ := Kd.R_slice HO466.out
 subst eo34
 obtain ⟨ado34, fo34, _⟩ := Kd.at_int (Kd.R_reads' HO466.out).2.2 0 (by decide) (by rw [Ny464.out]; simp)
 cases fo34
 refine hK.out _ _ trivial (fun hHeld => ?_)
 clear hK K
 refine norm_ (nz_ 28) ?_
 exact norm_ z99e (hJ1_2_8 (v455, .slice (some ado34) y464.length co34, ado34) _ ⟨z99d, z99f, z99g, ⟨_, rfl⟩, z99a, z99b, z99c⟩)
 }
 }
 }
 {
 skip
 rintro ⟨v465, adz_v465⟩ w33 ⟨h0_, h1_, h2_, h3_, h4_, h5_⟩
 have n0_ : Aside0 (Kd.R k49 49 w33 w.heap.size (fun _ => True) (.slice Ao26 t434.length co26) t434) := ⟨h0_⟩
 have n1_ : Aside0 (Kd.R (Kd.int .i64) 2 w33 w.heap.size (fun _ => True) v465 y464) := ⟨h1_⟩
 have n2_ : Aside0 (∃ c_, (v465 : Value) = .slice (some adz_v465) y464.length c_) := ⟨h2_⟩
 have n3_ : Aside0 (IsS105 w0 w33 g s0_0 t468 t469) := ⟨h3_⟩
 have n4_ : Aside0 (KeepBut w w33 g none) := ⟨h4_⟩
 have n5_ : Aside0 (Below w0.heap.size w0 w33) := ⟨h5_⟩
 clear HO436
 clear HI0
 clear HK
 clear HB
 clear h0_ h1_ h2_ h3_ h4_ h5_
 have HO436 := n0_
 have HO466 := n1_
 have HA_HO466 := n2_
 have HI0 := n3_
 have HK := n4_
 have HB := n5_
 clear n0_ n1_ n2_ n3_ n4_ n5_
 have hHeld := trivial
 obtain ⟨co34, eo34⟩ := HA_HO466.out
 clear HA_HO466
 subst eo34
 refine norm_ (a' := ?_) ?_ ?_
 rotate_left
 exact z99j
 refine two_ (i := 1) (j := 12) (Ni := some 21) (Nj := some 32) (bs "YYXXYYXXYYYYXXXXX") (bs "YXXXYYXXYYYYYXXXX") rfl rfl rfl rfl (two_of HT_.out (by kernel_rfl)) (by decide) (by decide) (fun K hK => ?_) (fun K hK => ?_)
 {
 skip
 refine Kd.R_make_step (Kd.int .u8) _ 5 (by rfl) (N := 21) rfl 22 _ _ rfl 41 rfl rfl Try.underlying22 (.int .u8 0) 1 info5 rfl (by decide) (by omega) 0 (ok := fun _ => True) (okp := fun _ => True) rfl (fun _ hk => hk) trivial (by omega) (by omega) (Below.refl _ _) (Nat.le_refl _) ?_
 intro v455 w35 ho36 hb hg_ hnew_
 clear hg_ hnew_
 (first | rw [← Ny454.out] at ho36 | (simp only [Int.reduceToNat] at ho36; rw [← Ny454.out] at ho36))
 have n0_ := A_ (Kd.R_below z99d hb)
 have n1_ := A_ (Kd.R_below z99g hb)
 have n2_ := A_ (Kd.R_lower ho36 (keep_size (w := w) (g := g) (row := none) z99b))
 have n3_ := A_ (IsS105.below z99a hb)
 have n4_ := A_ (KeepBut.trans z99b (KeepBut.of_below hb g none) (.inl rfl))
 have n5_ := A_ (below_step z99c hb)
 clear HO436
 clear HO466
 clear HI0
 clear HK
 clear HB
 have HO436 := n0_
 have HO466 := n1_
 have HO456 := n2_
 have HI0 := n3_
 have HK := n4_
 have HB := n5_
 clear n0_ n1_ n2_ n3_ n4_ n5_
 clear hb ho36
 refine hK.out _ _ trivial (fun hHeld => ?_)
 clear hK K
 refine norm_ (nz_ 21) ?_
 exact norm_ z99e (hJ1_5_8_10 (v455, .slice (some adz_v465) y464.length co34, adz_v465) _ ⟨z99d, z99f, z99g, ⟨_, rfl⟩, z99a, z99b, z99c⟩)
 }
 {
 skip
 (have p470 : 0 ≤ (t467 : Int) := of_decide_eq_true z99l; have q470 : t467 < (y464.length : Int) := of_decide_eq_true z99l; obtain ⟨ad470, e470, hx470_0⟩ := Kd.at_int (Kd.R_reads' HO466.out).2.2 t467 p470 q470; obtain rfl : adz_v465 = ad470 := (by injection e470))
 refine value_ (w1 := ?_) (v := ?_) (by rfl) rfl ?_ ?_
 rotate_left 2
 {
 go_simp
 constructor
 {
 rfl
 }
 {
 rfl
 }
 }
 clear hx470_0
 refine hK.out _ _ trivial (fun hHeld => ?_)
 clear hK K
 refine norm_ (nz_ 32) ?_
 exact norm_ z99e (hJ5_8_10_12 (.slice (some adz_v465) y464.length co34, adz_v465) _ ⟨z99d, z99g, ⟨_, rfl⟩, z99a, z99b, z99c⟩)
 }
 }
 }
 {
 skip
 rintro v455 w32 ⟨h0_, h1_, h2_, h3_, h4_⟩
 have n0_ : Aside0 (Kd.R k49 49 w32 w.heap.size (fun _ => True) (.slice Ao26 t434.length co26) t434) := ⟨h0_⟩
 have n1_ : Aside0 (Kd.R (Kd.int .u8) 5 w32 w.heap.size (fun _ => True) v455 y454) := ⟨h1_⟩
 have n2_ : Aside0 (IsS105 w0 w32 g s0_0 t468 t469) := ⟨h2_⟩
 have n3_ : Aside0 (KeepBut w w32 g none) := ⟨h3_⟩
 have n4_ : Aside0 (Below w0.heap.size w0 w32) := ⟨h4_⟩
 clear HO436
 clear HI0
 clear HK
 clear HB
 clear h0_ h1_ h2_ h3_ h4_
 have HO436 := n0_
 have HO456 := n1_
 have HI0 := n2_
 have HK := n3_
 have HB := n4_
 clear n0_ n1_ n2_ n3_ n4_
 have hHeld := trivial
 refine norm_ (a' := ?_) ?_ ?_
 rotate_left
 exact z99j
 refine two_ (i := 2) (j := 8) (Ni := some 22) (Nj := some 28) (bs "YYYXYYXXXYYXXXXXX") (bs "YYXXYYXXYYYXXXXXX") rfl rfl rfl rfl (two_of HT_.out (by kernel_rfl)) (by decide) (by decide) (fun K hK => ?_) (fun K hK => ?_)
 {
 skip
 have hcv33 := own_string (P := Try.prog) Try.underlying22 Try.underlying5 Try.underlying9 (Kd.own_of_R HO456.out)
 refine value_ (w1 := ?_) (v := ?_) (by rfl) rfl ?_ ?_
 rotate_left 2
 {
 go_simp
 constructor
 {
 rfl
 }
 {
 rfl
 }
 }
 clear hcv33
 refine hK.out _ _ trivial (fun hHeld => ?_)
 clear hK K
 refine norm_ (nz_ 22) ?_
 exact norm_ z99e (hJ1_2_5_10 (v455) _ ⟨z99d, z99f, z99a, z99b, z99c⟩)
 }
 {
 skip
 refine Kd.R_lit_step (Kd.int .i64) _ 2 ?hg (N := 28) ?hd (xs := ([0, 1, 1000000, 1000001] : List Int)) (inner := [.int .i64 0, .int .i64 1, .int .i64 1000000, .int .i64 1000001]) (ok := fun _ => True) (okp := fun _ => True) ?hr ?hp (fun _ hk => hk) trivial (Below.refl _ _) (Nat.le_refl _) (by simp) ?_; (case hd => rfl); (case hg => rfl); (case hr => first | (go_simp; done) | (go_simp; rfl)); (case hp => exact (Reps.one (show Kd.M (Kd.int .i64) _ _ _ 0 [.int .i64 0] from rfl) (Reps.one (show Kd.M (Kd.int .i64) _ _ _ 1 [.int .i64 1] from rfl) (Reps.one (show Kd.M (Kd.int .i64) _ _ _ 1000000 [.int .i64 1000000] from rfl) (Reps.one (show Kd.M (Kd.int .i64) _ _ _ 1000001 [.int .i64 1000001] from rfl) (Reps.none _ _))))))
 intro v465 w33 ho34 hb hg_ hnew_
 clear hg_ hnew_
 (first | rw [← Ny464.out] at ho34 | (simp only [Int.reduceToNat] at ho34; rw [← Ny464.out] at ho34))
 have n0_ := A_ (Kd.R_below z99d hb)
 have n1_ := A_ (Kd.R_below z99f hb)
 have n2_ := A_ (Kd.R_lower ho34 (keep_size (w := w) (g := g) (row := none) z99b))
 have n3_ := A_ (IsS105.below z99a hb)
 have n4_ := A_ (KeepBut.trans z99b (KeepBut.of_below hb g none) (.inl rfl))
 have n5_ := A_ (below_step z99c hb)
 clear HO436
 clear HO456
 clear HI0
 clear HK
 clear HB
 have HO436 := n0_
 have HO456 := n1_
 have HO466 := n2_
 have HI0 := n3_
 have HK := n4_
 have HB := n5_
 clear n0_ n1_ n2_ n3_ n4_ n5_
 clear hb ho34
 obtain ⟨Ao35, co35, eo35⟩ := Kd.R_slice HO466.out
 subst eo35
 obtain ⟨ado35, fo35, _⟩ := Kd.at_int (Kd.R_reads' HO466.out).2.2 0 (by decide) (by rw [Ny464.out]; simp)
 cases fo35
 refine hK.out _ _ trivial (fun hHeld => ?_)
 clear hK K
 refine norm_ (nz_ 28) ?_
 refine pu_ 11 (some 31) (bs "YYXXYYXXYYYYXXXXX") ?_
 exact norm_ z99e (hJ1_5_8_10 (v455, .slice (some ado35) y464.length co35, ado35) _ ⟨z99d, z99f, z99g, ⟨_, rfl⟩, z99a, z99b, z99c⟩)
 }
 }
 }
 {
 skip
 rintro ⟨v455, v465, adz_v465⟩ w34 ⟨h0_, h1_, h2_, h3_, h4_, h5_, h6_⟩
 have n0_ : Aside0 (Kd.R k49 49 w34 w.heap.size (fun _ => True) (.slice Ao26 t434.length co26) t434) := ⟨h0_⟩
 have n1_ : Aside0 (Kd.R (Kd.int .u8) 5 w34 w.heap.size (fun _ => True) v455 y454) := ⟨h1_⟩
 have n2_ : Aside0 (Kd.R (Kd.int .i64) 2 w34 w.heap.size (fun _ => True) v465 y464) := ⟨h2_⟩
 have n3_ : Aside0 (∃ c_, (v465 : Value) = .slice (some adz_v465) y464.length c_) := ⟨h3_⟩
 have n4_ : Aside0 (IsS105 w0 w34 g s0_0 t461 t462) := ⟨h4_⟩
 have n5_ : Aside0 (KeepBut w w34 g none) := ⟨h5_⟩
 have n6_ : Aside0 (Below w0.heap.size w0 w34) := ⟨h6_⟩
 clear HO436
 clear HI0
 clear HK
 clear HB
 clear h0_ h1_ h2_ h3_ h4_ h5_ h6_
 have HO436 := n0_
 have HO456 := n1_
 have HO466 := n2_
 have HA_HO466 := n3_
 have HI0 := n4_
 have HK := n5_
 have HB := n6_
 clear n0_ n1_ n2_ n3_ n4_ n5_ n6_
 have hHeld := trivial
 obtain ⟨co35, eo35⟩ := HA_HO466.out
 clear HA_HO466
 subst eo35
 refine norm_ (a' := ?_) ?_ ?_
 rotate_left
 exact z99j
 refine two_ (i := 2) (j := 10) (Ni := some 22) (Nj := some 30) (bs "YYYXYYXXYYXXXXXXX") (bs "YYXXYYXXYYYXXXXXX") rfl rfl rfl rfl (two_of HT_.out (by kernel_rfl)) (by decide) (by decide) (fun K hK => ?_) (fun K hK => ?_)
 {
 skip
 have hcv36 := own_string (P := Try.prog) Try.underlying22 Try.underlying5 Try.underlying9 (Kd.own_of_R HO456.out)
 refine value_ (w1 := ?_) (v := ?_) (by rfl) rfl ?_ ?_
 rotate_left 2
 {
 go_simp
 constructor
 {
 rfl
 }
 {
 rfl
 }
 }
 clear hcv36
 refine hK.out _ _ trivial (fun hHeld => ?_)
 clear hK K
 refine norm_ (nz_ 22) ?_
 exact norm_ z99e (hJ1_2_5_8 (v455, .slice (some adz_v465) y464.length co35, adz_v465) _ ⟨z99d, z99f, z99g, ⟨_, rfl⟩, z99a, z99b, z99c⟩)
 }
 {
 skip
 refine goes_ Try.func95 (by kernel_rfl) rfl #[.pointer (some ⟨g, 0, none⟩), .int .i64 4] (by rfl) rfl rfl z99h ?_
 with_reducible refine (spec_l1Below.calls g s0_0 t461 t462 4 t467 t468 t469 w0 _ ?side1 ?side2 A19.out).mono ?_
 (case side1 => exact z99a)
 (case side2 => exact z99c)
 rintro e w36 ⟨rfl, hi, hb, hk⟩
 refine ⟨_, rfl, ?_⟩
 replace HO436 := A_ (Kd.R_mono (Kd.R_keep (IsS105.apart (show IsS105 w0 _ g s0_0 t461 t462 from z99a) z99d (by decide)) hk (fun _ h => h.2)) (fun _ h => h.1))
 replace HO456 := A_ (Kd.R_mono (Kd.R_keep (IsS105.apart (show IsS105 w0 _ g s0_0 t461 t462 from z99a) z99f (by decide)) hk (fun _ h => h.2)) (fun _ h => h.1))
 replace HO466 := A_ (Kd.R_mono (Kd.R_keep (IsS105.apart (show IsS105 w0 _ g s0_0 t461 t462 from z99a) z99g (by decide)) hk (fun _ h => h.2)) (fun _ h => h.1))
 replace HK := A_ (KeepBut.trans z99b hk (.inl rfl))
 replace HB := A_ (hb)
 replace HI0 := A_ (hi)
 refine hK.out _ _ trivial (fun hHeld => ?_)
 clear hK K
 refine norm_ (nz_ 30) ?_
 refine pu_ 11 (some 31) (bs "YYXXYYXXYYYYXXXXX") ?_
 exact norm_ z99e (hJ1_5_8_10 (v455, .slice (some adz_v465) y464.length co35, adz_v465) _ ⟨z99d, z99f, z99g, ⟨_, rfl⟩, z99a, z99b, z99c⟩)
 }
 }
 }
 {
 skip
 rintro ⟨v455, v465, adz_v465⟩ w34 ⟨h0_, h1_, h2_, h3_, h4_, h5_, h6_⟩
 have n0_ : Aside0 (Kd.R k49 49 w34 w.heap.size (fun _ => True) (.slice Ao26 t434.length co26) t434) := ⟨h0_⟩
 have n1_ : Aside0 (Kd.R (Kd.int .u8) 5 w34 w.heap.size (fun _ => True) v455 y454) := ⟨h1_⟩
 have n2_ : Aside0 (Kd.R (Kd.int .i64) 2 w34 w.heap.size (fun _ => True) v465 y464) := ⟨h2_⟩
 have n3_ : Aside0 (∃ c_, (v465 : Value) = .slice (some adz_v465) y464.length c_) := ⟨h3_⟩
 have n4_ : Aside0 (IsS105 w0 w34 g s0_0 t443 t444) := ⟨h4_⟩
 have n5_ : Aside0 (KeepBut w w34 g none) := ⟨h5_⟩
 have n6_ : Aside0 (Below w0.heap.size w0 w34) := ⟨h6_⟩
 clear HO436
 clear HI0
 clear HK
 clear HB
 clear h0_ h1_ h2_ h3_ h4_ h5_ h6_
 have HO436 := n0_
 have HO456 := n1_
 have HO466 := n2_
 have HA_HO466 := n3_
 have HI0 := n4_
 have HK := n5_
 have HB := n6_
 clear n0_ n1_ n2_ n3_ n4_ n5_ n6_
 have hHeld := trivial
 obtain ⟨co35, eo35⟩ := HA_HO466.out
 clear HA_HO466
 subst eo35
 refine norm_ (a' := ?_) ?_ ?_
 rotate_left
 exact z99j
 refine two_ (i := 3) (j := 5) (Ni := some 23) (Nj := some 25) (bs "YYYYYXXXYYXXXXXXX") (bs "YYYXYYXXYYXXXXXXX") rfl rfl rfl rfl (two_of HT_.out (by kernel_rfl)) (by decide) (by decide) (fun K hK => ?_) (fun K hK => ?_)
 {
 skip
 refine Kd.R_lit_step Kd.string _ 9 ?hg (N := 23) ?hd (xs := ([(⟨#[]⟩ : ByteArray), (⟨#[122, 122]⟩ : ByteArray), strOfNums y454] : List ByteArray)) (inner := [.string (⟨#[]⟩ : ByteArray), .string (⟨#[122, 122]⟩ : ByteArray), .string (strOfNums y454)]) (ok := fun _ => True) (okp := fun _ => True) ?hr ?hp (fun _ hk => hk) trivial (Below.refl _ _) (Nat.le_refl _) (by simp) ?_; (case hd => rfl); (case hg => rfl); (case hr => first | (go_simp; done) | (go_simp; rfl)); (case hp => exact (Reps.one (show Kd.M Kd.string _ _ _ (⟨#[]⟩ : ByteArray) [.string (⟨#[]⟩ : ByteArray)] from rfl) (Reps.one (show Kd.M Kd.string _ _ _ (⟨#[122, 122]⟩ : ByteArray) [.string (⟨#[122, 122]⟩ : ByteArray)] from rfl) (Reps.one (show Kd.M Kd.string _ _ _ (strOfNums y454) [.string (strOfNums y454)] from rfl) (Reps.none _ _)))))
 intro v458 w36 ho37 hb hg_ hnew_
 clear hg_ hnew_
 (first | rw [← Ny457.out] at ho37 | (simp only [Int.reduceToNat] at ho37; rw [← Ny457.out] at ho37))
 have n0_ := A_ (Kd.R_below z99d hb)
 have n1_ := A_ (Kd.R_below z99f hb)
 have n2_ := A_ (Kd.R_below z99g hb)
 have n3_ := A_ (Kd.R_lower ho37 (keep_size (w := w) (g := g) (row := none) z99b))
 have n4_ := A_ (IsS105.below z99a hb)
 have n5_ := A_ (KeepBut.trans z99b (KeepBut.of_below hb g none) (.inl rfl))
 have n6_ := A_ (below_step z99c hb)
 clear HO436
 clear HO456
 clear HO466
 clear HI0
 clear HK
 clear HB
 have HO436 := n0_
 have HO456 := n1_
 have HO466 := n2_
 have HO459 := n3_
 have HI0 := n4_
 have HK := n5_
 have HB := n6_
 clear n0_ n1_ n2_ n3_ n4_ n5_ n6_
 clear hb ho37
 obtain ⟨Ao38, co38, eo38⟩ := Kd.R_slice HO459.out
 subst eo38
 obtain ⟨ado38, fo38, _⟩ := Kd.at_string (Kd.R_reads' HO459.out).2.2 0 (by decide) (by rw [Ny457.out]; simp)
 cases fo38
 refine hK.out _ _ trivial (fun hHeld => ?_)
 clear hK K
 refine norm_ (nz_ 23) ?_
 exact norm_ z99e (hJ1_2_3_8 (v455, .slice (some ado38) y457.length co38, ado38, .slice (some adz_v465) y464.length co35, adz_v465) _ ⟨z99d, z99f, z99i, z99g, ⟨_, rfl⟩, ⟨_, rfl⟩, z99a, z99b, z99c⟩)
 }
 {
 skip
 refine goes_ Try.func95 (by kernel_rfl) rfl #[.pointer (some ⟨g, 0, none⟩), .int .i64 3] (by rfl) rfl rfl z99h ?_
 with_reducible refine (spec_l1Below.calls g s0_0 t443 t444 3 t460 t461 t462 w0 _ ?side1 ?side2 A16.out).mono ?_
 (case side1 => exact z99a)
 (case side2 => exact z99c)
 rintro e w36 ⟨rfl, hi, hb, hk⟩
 refine ⟨_, rfl, ?_⟩
 replace HO436 := A_ (Kd.R_mono (Kd.R_keep (IsS105.apart (show IsS105 w0 _ g s0_0 t443 t444 from z99a) z99d (by decide)) hk (fun _ h => h.2)) (fun _ h => h.1))
 replace HO456 := A_ (Kd.R_mono (Kd.R_keep (IsS105.apart (show IsS105 w0 _ g s0_0 t443 t444 from z99a) z99f (by decide)) hk (fun _ h => h.2)) (fun _ h => h.1))
 replace HO466 := A_ (Kd.R_mono (Kd.R_keep (IsS105.apart (show IsS105 w0 _ g s0_0 t443 t444 from z99a) z99g (by decide)) hk (fun _ h => h.2)) (fun _ h => h.1))
 replace HK := A_ (KeepBut.trans z99b hk (.inl rfl))
 replace HB := A_ (hb)
 replace HI0 := A_ (hi)
 refine hK.out _ _ trivial (fun hHeld => ?_)
 clear hK K
 refine norm_ (nz_ 25) ?_
 exact norm_ z99e (hJ1_2_5_8 (v455, .slice (some adz_v465) y464.length co35, adz_v465) _ ⟨z99d, z99f, z99g, ⟨_, rfl⟩, z99a, z99b, z99c⟩)
 }
 }
 }
 {
 skip
 rintro v455 w32 ⟨h0_, h1_, h2_, h3_, h4_⟩
 have n0_ : Aside0 (Kd.R k49 49 w32 w.heap.size (fun _ => True) (.slice Ao26 t434.length co26) t434) := ⟨h0_⟩
 have n1_ : Aside0 (Kd.R (Kd.int .u8) 5 w32 w.heap.size (fun _ => True) v455 y454) := ⟨h1_⟩
 have n2_ : Aside0 (IsS105 w0 w32 g s0_0 t461 t462) := ⟨h2_⟩
 have n3_ : Aside0 (KeepBut w w32 g none) := ⟨h3_⟩
 have n4_ : Aside0 (Below w0.heap.size w0 w32) := ⟨h4_⟩
 clear HO436
 clear HI0
 clear HK
 clear HB
 clear h0_ h1_ h2_ h3_ h4_
 have HO436 := n0_
 have HO456 := n1_
 have HI0 := n2_
 have HK := n3_
 have HB := n4_
 clear n0_ n1_ n2_ n3_ n4_
 have hHeld := trivial
 refine norm_ (a' := ?_) ?_ ?_
 rotate_left
 exact z99j
 refine three_ (i := 3) (j := 8) (k := 10) (Ni := some 23) (Nj := some 28) (Nk := some 30) (bs "YYYYYYXXXYXXXXXXX") (bs "YYYXYYXXYYXXXXXXX") (bs "YYYXYYXXXYYXXXXXX") rfl rfl rfl rfl rfl rfl (three_of HT_.out (by kernel_rfl)) (by decide) (by decide) (by decide) (fun K hK => ?_) (fun K hK => ?_) (fun K hK => ?_)
 {
 skip
 refine Kd.R_lit_step Kd.string _ 9 ?hg (N := 23) ?hd (xs := ([(⟨#[]⟩ : ByteArray), (⟨#[122, 122]⟩ : ByteArray), strOfNums y454] : List ByteArray)) (inner := [.string (⟨#[]⟩ : ByteArray), .string (⟨#[122, 122]⟩ : ByteArray), .string (strOfNums y454)]) (ok := fun _ => True) (okp := fun _ => True) ?hr ?hp (fun _ hk => hk) trivial (Below.refl _ _) (Nat.le_refl _) (by simp) ?_; (case hd => rfl); (case hg => rfl); (case hr => first | (go_simp; done) | (go_simp; rfl)); (case hp => exact (Reps.one (show Kd.M Kd.string _ _ _ (⟨#[]⟩ : ByteArray) [.string (⟨#[]⟩ : ByteArray)] from rfl) (Reps.one (show Kd.M Kd.string _ _ _ (⟨#[122, 122]⟩ : ByteArray) [.string (⟨#[122, 122]⟩ : ByteArray)] from rfl) (Reps.one (show Kd.M Kd.string _ _ _ (strOfNums y454) [.string (strOfNums y454)] from rfl) (Reps.none _ _)))))
 intro v458 w33 ho34 hb hg_ hnew_
 clear hg_ hnew_
 (first | rw [← Ny457.out] at ho34 | (simp only [Int.reduceToNat] at ho34; rw [← Ny457.out] at ho34))
 have n0_ := A_ (Kd.R_below z99d hb)
 have n1_ := A_ (Kd.R_below z99f hb)
 have n2_ := A_ (Kd.R_lower ho34 (keep_size (w := w) (g := g) (row := none) z99b))
 have n3_ := A_ (IsS105.below z99a hb)
 have n4_ := A_ (KeepBut.trans z99b (KeepBut.of_below hb g none) (.inl rfl))
 have n5_ := A_ (below_step z99c hb)
 clear HO436
 clear HO456
 clear HI0
 clear HK
 clear HB
 have HO436 := n0_
 have HO456 := n1_
 have HO459 := n2_
 have HI0 := n3_
 have HK := n4_
 have HB := n5_
 clear n0_ n1_ n2_ n3_ n4_ n5_
 clear hb ho34
 obtain ⟨Ao35, co35, eo35⟩ := Kd.R_slice HO459.out
 subst eo35
 obtain ⟨ado35, fo35, _⟩ := Kd.at_string (Kd.R_reads' HO459.out).2.2 0 (by decide) (by rw [Ny457.out]; simp)
 cases fo35
 refine hK.out _ _ trivial (fun hHeld => ?_)
 clear hK K
 refine norm_ (nz_ 23) ?_
 refine pu_ 6 (some 26) (bs "YYYYYYYXXYXXXXXXX") ?_
 exact norm_ z99e (hJ1_2_3_5 (v455, .slice (some ado35) y457.length co35, ado35) _ ⟨z99d, z99f, z99i, ⟨_, rfl⟩, z99a, z99b, z99c⟩)
 }
 {
 skip
 refine Kd.R_lit_step (Kd.int .i64) _ 2 ?hg (N := 28) ?hd (xs := ([0, 1, 1000000, 1000001] : List Int)) (inner := [.int .i64 0, .int .i64 1, .int .i64 1000000, .int .i64 1000001]) (ok := fun _ => True) (okp := fun _ => True) ?hr ?hp (fun _ hk => hk) trivial (Below.refl _ _) (Nat.le_refl _) (by simp) ?_; (case hd => rfl); (case hg => rfl); (case hr => first | (go_simp; done) | (go_simp; rfl)); (case hp => exact (Reps.one (show Kd.M (Kd.int .i64) _ _ _ 0 [.int .i64 0] from rfl) (Reps.one (show Kd.M (Kd.int .i64) _ _ _ 1 [.int .i64 1] from rfl) (Reps.one (show Kd.M (Kd.int .i64) _ _ _ 1000000 [.int .i64 1000000] from rfl) (Reps.one (show Kd.M (Kd.int .i64) _ _ _ 1000001 [.int .i64 1000001] from rfl) (Reps.none _ _))))))
 intro v465 w33 ho34 hb hg_ hnew_
 clear hg_ hnew_
 (first | rw [← Ny464.out] at ho34 | (simp only [Int.reduceToNat] at ho34; rw [← Ny464.out] at ho34))
 have n0_ := A_ (Kd.R_below z99d hb)
 have n1_ := A_ (Kd.R_below z99f hb)
 have n2_ := A_ (Kd.R_lower ho34 (keep_size (w := w) (g := g) (row := none) z99b))
 have n3_ := A_ (IsS105.below z99a hb)
 have n4_ := A_ (KeepBut.trans z99b (KeepBut.of_below hb g none) (.inl rfl))
 have n5_ := A_ (below_step z99c hb)
 clear HO436
 clear HO456
 clear HI0
 clear HK
 clear HB
 have HO436 := n0_
 have HO456 := n1_
 have HO466 := n2_
 have HI0 := n3_
 have HK := n4_
 have HB := n5_
 clear n0_ n1_ n2_ n3_ n4_ n5_
 clear hb ho34
 obtain ⟨Ao35, co35, eo35⟩ := Kd.R_slice HO466.out
 subst eo35
 obtain ⟨ado35, fo35, _⟩ := Kd.at_int (Kd.R_reads' HO466.out).2.2 0 (by decide) (by rw [Ny464.out]; simp)
 cases fo35
 refine hK.out _ _ trivial (fun hHeld => ?_)
 clear hK K
 refine norm_ (nz_ 28) ?_
 exact norm_ z99e (hJ1_2_5_8 (v455, .slice (some ado35) y464.length co35, ado35) _ ⟨z99d, z99f, z99g, ⟨_, rfl⟩, z99a, z99b, z99c⟩)
 }
 {
 skip
 refine goes_ Try.func95 (by kernel_rfl) rfl #[.pointer (some ⟨g, 0, none⟩), .int .i64 4] (by rfl) rfl rfl z99h ?_
 with_reducible refine (spec_l1Below.calls g s0_0 t461 t462 4 t467 t468 t469 w0 _ ?side1 ?side2 A19.out).mono ?_
 (case side1 => exact z99a)
 (case side2 => exact z99c)
 rintro e w33 ⟨rfl, hi, hb, hk⟩
 refine ⟨_, rfl, ?_⟩
 replace HO436 := A_ (Kd.R_mono (Kd.R_keep (IsS105.apart (show IsS105 w0 _ g s0_0 t461 t462 from z99a) z99d (by decide)) hk (fun _ h => h.2)) (fun _ h => h.1))
 replace HO456 := A_ (Kd.R_mono (Kd.R_keep (IsS105.apart (show IsS105 w0 _ g s0_0 t461 t462 from z99a) z99f (by decide)) hk (fun _ h => h.2)) (fun _ h => h.1))
 replace HK := A_ (KeepBut.trans z99b hk (.inl rfl))
 replace HB := A_ (hb)
 replace HI0 := A_ (hi)
 refine hK.out _ _ trivial (fun hHeld => ?_)
 clear hK K
 refine norm_ (nz_ 30) ?_
 exact norm_ z99e (hJ1_2_5_10 (v455) _ ⟨z99d, z99f, z99a, z99b, z99c⟩)
 }
 }
 }
 {
 skip
 rintro ⟨v455, v458, adz_v458⟩ w34 ⟨h0_, h1_, h2_, h3_, h4_, h5_, h6_⟩
 have n0_ : Aside0 (Kd.R k49 49 w34 w.heap.size (fun _ => True) (.slice Ao26 t434.length co26) t434) := ⟨h0_⟩
 have n1_ : Aside0 (Kd.R (Kd.int .u8) 5 w34 w.heap.size (fun _ => True) v455 y454) := ⟨h1_⟩
 have n2_ : Aside0 (Kd.R Kd.string 9 w34 w.heap.size (fun _ => True) v458 y457) := ⟨h2_⟩
 have n3_ : Aside0 (∃ c_, (v458 : Value) = .slice (some adz_v458) y457.length c_) := ⟨h3_⟩
 have n4_ : Aside0 (IsS105 w0 w34 g s0_0 t443 t444) := ⟨h4_⟩
 have n5_ : Aside0 (KeepBut w w34 g none) := ⟨h5_⟩
 have n6_ : Aside0 (Below w0.heap.size w0 w34) := ⟨h6_⟩
 clear HO436
 clear HI0
 clear HK
 clear HB
 clear h0_ h1_ h2_ h3_ h4_ h5_ h6_
 have HO436 := n0_
 have HO456 := n1_
 have HO459 := n2_
 have HA_HO459 := n3_
 have HI0 := n4_
 have HK := n5_
 have HB := n6_
 clear n0_ n1_ n2_ n3_ n4_ n5_ n6_
 have hHeld := trivial
 obtain ⟨co35, eo35⟩ := HA_HO459.out
 clear HA_HO459
 subst eo35
 refine norm_ (a' := ?_) ?_ ?_
 rotate_left
 exact z99j
 refine two_ (i := 5) (j := 8) (Ni := some 25) (Nj := some 28) (bs "YYYYYYXXXYXXXXXXX") (bs "YYYYYXXXYYXXXXXXX") rfl rfl rfl rfl (two_of HT_.out (by kernel_rfl)) (by decide) (by decide) (fun K hK => ?_) (fun K hK => ?_)
 {
 skip
 refine goes_ Try.func95 (by kernel_rfl) rfl #[.pointer (some ⟨g, 0, none⟩), .int .i64 3] (by rfl) rfl rfl z99h ?_
 with_reducible refine (spec_l1Below.calls g s0_0 t443 t444 3 t460 t461 t462 w0 _ ?side1 ?side2 A16.out).mono ?_
 (case side1 => exact z99a)
 (case side2 => exact z99c)
 rintro e w36 ⟨rfl, hi, hb, hk⟩
 refine ⟨_, rfl, ?_⟩
 replace HO436 := A_ (Kd.R_mono (Kd.R_keep (IsS105.apart (show IsS105 w0 _ g s0_0 t443 t444 from z99a) z99d (by decide)) hk (fun _ h => h.2)) (fun _ h => h.1))
 replace HO456 := A_ (Kd.R_mono (Kd.R_keep (IsS105.apart (show IsS105 w0 _ g s0_0 t443 t444 from z99a) z99f (by decide)) hk (fun _ h => h.2)) (fun _ h => h.1))
 replace HO459 := A_ (Kd.R_mono (Kd.R_keep (IsS105.apart (show IsS105 w0 _ g s0_0 t443 t444 from z99a) z99i (by decide)) hk (fun _ h => h.2)) (fun _ h => h.1))
 replace HK := A_ (KeepBut.trans z99b hk (.inl rfl))
 replace HB := A_ (hb)
 replace HI0 := A_ (hi)
 refine hK.out _ _ trivial (fun hHeld => ?_)
 clear hK K
 refine norm_ (nz_ 25) ?_
 refine pu_ 6 (some 26) (bs "YYYYYYYXXYXXXXXXX") ?_
 exact norm_ z99e (hJ1_2_3_5 (v455, .slice (some adz_v458) y457.length co35, adz_v458) _ ⟨z99d, z99f, z99i, ⟨_, rfl⟩, z99a, z99b, z99c⟩)
 }
 {
 skip
 refine Kd.R_lit_step (Kd.int .i64) _ 2 ?hg (N := 28) ?hd (xs := ([0, 1, 1000000, 1000001] : List Int)) (inner := [.int .i64 0, .int .i64 1, .int .i64 1000000, .int .i64 1000001]) (ok := fun _ => True) (okp := fun _ => True) ?hr ?hp (fun _ hk => hk) trivial (Below.refl _ _) (Nat.le_refl _) (by simp) ?_; (case hd => rfl); (case hg => rfl); (case hr => first | (go_simp; done) | (go_simp; rfl)); (case hp => exact (Reps.one (show Kd.M (Kd.int .i64) _ _ _ 0 [.int .i64 0] from rfl) (Reps.one (show Kd.M (Kd.int .i64) _ _ _ 1 [.int .i64 1] from rfl) (Reps.one (show Kd.M (Kd.int .i64) _ _ _ 1000000 [.int .i64 1000000] from rfl) (Reps.one (show Kd.M (Kd.int .i64) _ _ _ 1000001 [.int .i64 1000001] from rfl) (Reps.none _ _))))))
 intro v465 w36 ho37 hb hg_ hnew_
 clear hg_ hnew_
 (first | rw [← Ny464.out] at ho37 | (simp only [Int.reduceToNat] at ho37; rw [← Ny464.out] at ho37))
 have n0_ := A_ (Kd.R_below z99d hb)
 have n1_ := A_ (Kd.R_below z99f hb)
 have n2_ := A_ (Kd.R_below z99i hb)
 have n3_ := A_ (Kd.R_lower ho37 (keep_size (w := w) (g := g) (row := none) z99b))
 have n4_ := A_ (IsS105.below z99a hb)
 have n5_ := A_ (KeepBut.trans z99b (KeepBut.of_below hb g none) (.inl rfl))
 have n6_ := A_ (below_step z99c hb)
 clear HO436
 clear HO456
 clear HO459
 clear HI0
 clear HK
 clear HB
 have HO436 := n0_
 have HO456 := n1_
 have HO459 := n2_
 have HO466 := n3_
 have HI0 := n4_
 have HK := n5_
 have HB := n6_
 clear n0_ n1_ n2_ n3_ n4_ n5_ n6_
 clear hb ho37
 obtain ⟨Ao38, co38, eo38⟩ := Kd.R_slice HO466.out
 subst eo38
 obtain ⟨ado38, fo38, _⟩ := Kd.at_int (Kd.R_reads' HO466.out).2.2 0 (by decide) (by rw [Ny464.out]; simp)
 cases fo38
 refine hK.out _ _ trivial (fun hHeld => ?_)
 clear hK K
 refine norm_ (nz_ 28) ?_
 exact norm_ z99e (hJ1_2_3_8 (v455, .slice (some adz_v458) y457.length co35, adz_v458, .slice (some ado38) y464.length co38, ado38) _ ⟨z99d, z99f, z99i, z99g, ⟨_, rfl⟩, ⟨_, rfl⟩, z99a, z99b, z99c⟩)
 }
 }
 }
 {
 skip
 rintro ⟨v465, adz_v465⟩ w33 ⟨h0_, h1_, h2_, h3_, h4_, h5_⟩
 have n0_ : Aside0 (Kd.R k49 49 w33 w.heap.size (fun _ => True) (.slice Ao26 t434.length co26) t434) := ⟨h0_⟩
 have n1_ : Aside0 (Kd.R (Kd.int .i64) 2 w33 w.heap.size (fun _ => True) v465 y464) := ⟨h1_⟩
 have n2_ : Aside0 (∃ c_, (v465 : Value) = .slice (some adz_v465) y464.length c_) := ⟨h2_⟩
 have n3_ : Aside0 (IsS105 w0 w33 g s0_0 t468 t469) := ⟨h3_⟩
 have n4_ : Aside0 (KeepBut w w33 g none) := ⟨h4_⟩
 have n5_ : Aside0 (Below w0.heap.size w0 w33) := ⟨h5_⟩
 clear HO436
 clear HI0
 clear HK
 clear HB
 clear h0_ h1_ h2_ h3_ h4_ h5_
 have HO436 := n0_
 have HO466 := n1_
 have HA_HO466 := n2_
 have HI0 := n3_
 have HK := n4_
 have HB := n5_
 clear n0_ n1_ n2_ n3_ n4_ n5_
 have hHeld := trivial
 obtain ⟨co34, eo34⟩ := HA_HO466.out
 clear HA_HO466
 subst eo34
 refine norm_ (a' := ?_) ?_ ?_
 rotate_left
 exact z99j
 refine one_ (i := 1) (N := some 21) (bs "YYXXYYXXYYYYYXXXX") rfl rfl (one_of HT_.out (by kernel_rfl)) (by decide) (fun K hK => ?_)
 refine Kd.R_make_step (Kd.int .u8) _ 5 (by rfl) (N := 21) rfl 22 _ _ rfl 41 rfl rfl Try.underlying22 (.int .u8 0) 1 info5 rfl (by decide) (by omega) 0 (ok := fun _ => True) (okp := fun _ => True) rfl (fun _ hk => hk) trivial (by omega) (by omega) (Below.refl _ _) (Nat.le_refl _) ?_
 intro v455 w35 ho36 hb hg_ hnew_
 clear hg_ hnew_
 (first | rw [← Ny454.out] at ho36 | (simp only [Int.reduceToNat] at ho36; rw [← Ny454.out] at ho36))
 have n0_ := A_ (Kd.R_below z99d hb)
 have n1_ := A_ (Kd.R_below z99g hb)
 have n2_ := A_ (Kd.R_lower ho36 (keep_size (w := w) (g := g) (row := none) z99b))
 have n3_ := A_ (IsS105.below z99a hb)
 have n4_ := A_ (KeepBut.trans z99b (KeepBut.of_below hb g none) (.inl rfl))
 have n5_ := A_ (below_step z99c hb)
 clear HO436
 clear HO466
 clear HI0
 clear HK
 clear HB
 have HO436 := n0_
 have HO466 := n1_
 have HO456 := n2_
 have HI0 := n3_
 have HK := n4_
 have HB := n5_
 clear n0_ n1_ n2_ n3_ n4_ n5_
 clear hb ho36
 refine hK.out _ _ trivial (fun hHeld => ?_)
 clear hK K
 refine norm_ (nz_ 21) ?_
 exact norm_ z99e (hJ1_5_8_10_12 (v455, .slice (some adz_v465) y464.length co34, adz_v465) _ ⟨z99d, z99f, z99g, ⟨_, rfl⟩, z99a, z99b, z99c⟩)
 }
 }
 {
 skip
 rintro ⟨v455, v465, adz_v465⟩ w35 ⟨h0_, h1_, h2_, h3_, h4_, h5_, h6_⟩
 have n0_ : Aside0 (Kd.R k49 49 w35 w.heap.size (fun _ => True) (.slice Ao26 t434.length co26) t434) := ⟨h0_⟩
 have n1_ : Aside0 (Kd.R (Kd.int .u8) 5 w35 w.heap.size (fun _ => True) v455 y454) := ⟨h1_⟩
 have n2_ : Aside0 (Kd.R (Kd.int .i64) 2 w35 w.heap.size (fun _ => True) v465 y464) := ⟨h2_⟩
 have n3_ : Aside0 (∃ c_, (v465 : Value) = .slice (some adz_v465) y464.length c_) := ⟨h3_⟩
 have n4_ : Aside0 (IsS105 w0 w35 g s0_0 t468 t469) := ⟨h4_⟩
 have n5_ : Aside0 (KeepBut w w35 g none) := ⟨h5_⟩
 have n6_ : Aside0 (Below w0.heap.size w0 w35) := ⟨h6_⟩
 clear HO436
 clear HI0
 clear HK
 clear HB
 clear h0_ h1_ h2_ h3_ h4_ h5_ h6_
 have HO436 := n0_
 have HO456 := n1_
 have HO466 := n2_
 have HA_HO466 := n3_
 have HI0 := n4_
 have HK := n5_
 have HB := n6_
 clear n0_ n1_ n2_ n3_ n4_ n5_ n6_
 have hHeld := trivial
 obtain ⟨co36, eo36⟩ := HA_HO466.out
 clear HA_HO466
 subst eo36
 refine norm_ (a' := ?_) ?_ ?_
 rotate_left
 exact z99j
 refine two_ (i := 2) (j := 12) (Ni := some 22) (Nj := some 32) (bs "YYYXYYXXYYYYXXXXX") (bs "YYXXYYXXYYYYYXXXX") rfl rfl rfl rfl (two_of HT_.out (by kernel_rfl)) (by decide) (by decide) (fun K hK => ?_) (fun K hK => ?_)
 {
 skip
 have hcv37 := own_string (P := Try.prog) Try.underlying22 Try.underlying5 Try.underlying9 (Kd.own_of_R HO456.out)
 refine value_ (w1 := ?_) (v := ?_) (by rfl) rfl ?_ ?_
 rotate_left 2
 {
 go_simp
 constructor
 {
 rfl
 }
 {
 rfl
 }
 }
 clear hcv37
 refine hK.out _ _ trivial (fun hHeld => ?_)
 clear hK K
 refine norm_ (nz_ 22) ?_
 exact norm_ z99e (hJ1_2_5_8_10 (v455, .slice (some adz_v465) y464.length co36, adz_v465) _ ⟨z99d, z99f, z99g, ⟨_, rfl⟩, z99a, z99b, z99c⟩)
 }
 {
 skip
 (have p470 : 0 ≤ (t467 : Int) := of_decide_eq_true z99l; have q470 : t467 < (y464.length : Int) := of_decide_eq_true z99l; obtain ⟨ad470, e470, hx470_0⟩ := Kd.at_int (Kd.R_reads' HO466.out).2.2 t467 p470 q470; obtain rfl : adz_v465 = ad470 := (by injection e470))
 refine value_ (w1 := ?_) (v := ?_) (by rfl) rfl ?_ ?_
 rotate_left 2
 {
 go_simp
 constructor
 {
 rfl
 }
 {
 rfl
 }
 }
 clear hx470_0
 refine hK.out _ _ trivial (fun hHeld => ?_)
 clear hK K
 refine norm_ (nz_ 32) ?_
 exact norm_ z99e (hJ1_5_8_10_12 (v455, .slice (some adz_v465) y464.length co36, adz_v465) _ ⟨z99d, z99f, z99g, ⟨_, rfl⟩, z99a, z99b, z99c⟩)
 }
 }
 }
 {
 skip
 rintro v455 w33 ⟨h0_, h1_, h2_, h3_, h4_⟩
 have n0_ : Aside0 (Kd.R k49 49 w33 w.heap.size (fun _ => True) (.slice Ao26 t434.length co26) t434) := ⟨h0_⟩
 have n1_ : Aside0 (Kd.R (Kd.int .u8) 5 w33 w.heap.size (fun _ => True) v455 y454) := ⟨h1_⟩
 have n2_ : Aside0 (IsS105 w0 w33 g s0_0 t468 t469) := ⟨h2_⟩
 have n3_ : Aside0 (KeepBut w w33 g none) := ⟨h3_⟩
 have n4_ : Aside0 (Below w0.heap.size w0 w33) := ⟨h4_⟩
 clear HO436
 clear HI0
 clear HK
 clear HB
 clear h0_ h1_ h2_ h3_ h4_
 have HO436 := n0_
 have HO456 := n1_
 have HI0 := n2_
 have HK := n3_
 have HB := n4_
 clear n0_ n1_ n2_ n3_ n4_
 have hHeld := trivial
 refine norm_ (a' := ?_) ?_ ?_
 rotate_left
 exact z99j
 refine two_ (i := 3) (j := 8) (Ni := some 23) (Nj := some 28) (bs "YYYYYYXXXYYXXXXXX") (bs "YYYXYYXXYYYXXXXXX") rfl rfl rfl rfl (two_of HT_.out (by kernel_rfl)) (by decide) (by decide) (fun K hK => ?_) (fun K hK => ?_)
 {
 skip
 refine Kd.R_lit_step Kd.string _ 9 ?hg (N := 23) ?hd (xs := ([(⟨#[]⟩ : ByteArray), (⟨#[122, 122]⟩ : ByteArray), strOfNums y454] : List ByteArray)) (inner := [.string (⟨#[]⟩ : ByteArray), .string (⟨#[122, 122]⟩ : ByteArray), .string (strOfNums y454)]) (ok := fun _ => True) (okp := fun _ => True) ?hr ?hp (fun _ hk => hk) trivial (Below.refl _ _) (Nat.le_refl _) (by simp) ?_; (case hd => rfl); (case hg => rfl); (case hr => first | (go_simp; done) | (go_simp; rfl)); (case hp => exact (Reps.one (show Kd.M Kd.string _ _ _ (⟨#[]⟩ : ByteArray) [.string (⟨#[]⟩ : ByteArray)] from rfl) (Reps.one (show Kd.M Kd.string _ _ _ (⟨#[122, 122]⟩ : ByteArray) [.string (⟨#[122, 122]⟩ : ByteArray)] from rfl) (Reps.one (show Kd.M Kd.string _ _ _ (strOfNums y454) [.string (strOfNums y454)] from rfl) (Reps.none _ _)))))
 intro v458 w34 ho35 hb hg_ hnew_
 clear hg_ hnew_
 (first | rw [← Ny457.out] at ho35 | (simp only [Int.reduceToNat] at ho35; rw [← Ny457.out] at ho35))
 have n0_ := A_ (Kd.R_below z99d hb)
 have n1_ := A_ (Kd.R_below z99f hb)
 have n2_ := A_ (Kd.R_lower ho35 (keep_size (w := w) (g := g) (row := none) z99b))
 have n3_ := A_ (IsS105.below z99a hb)
 have n4_ := A_ (KeepBut.trans z99b (KeepBut.of_below hb g none) (.inl rfl))
 have n5_ := A_ (below_step z99c hb)
 clear HO436
 clear HO456
 clear HI0
 clear HK
 clear HB
 have HO436 := n0_
 have HO456 := n1_
 have HO459 := n2_
 have HI0 := n3_
 have HK := n4_
 have HB := n5_
 clear n0_ n1_ n2_ n3_ n4_ n5_
 clear hb ho35
 obtain ⟨Ao36, co36, eo36⟩ := Kd.R_slice HO459.out
 subst eo36
 obtain ⟨ado36, fo36, _⟩ := Kd.at_string (Kd.R_reads' HO459.out).2.2 0 (by decide) (by rw [Ny457.out]; simp)
 cases fo36
 refine hK.out _ _ trivial (fun hHeld => ?_)
 clear hK K
 refine norm_ (nz_ 23) ?_
 refine pu_ 6 (some 26) (bs "YYYYYYYXXYYXXXXXX") ?_
 exact norm_ z99e (hJ1_2_3_5_10 (v455, .slice (some ado36) y457.length co36, ado36) _ ⟨z99d, z99f, z99i, ⟨_, rfl⟩, z99a, z99b, z99c⟩)
 }
 {
 skip
 refine Kd.R_lit_step (Kd.int .i64) _ 2 ?hg (N := 28) ?hd (xs := ([0, 1, 1000000, 1000001] : List Int)) (inner := [.int .i64 0, .int .i64 1, .int .i64 1000000, .int .i64 1000001]) (ok := fun _ => True) (okp := fun _ => True) ?hr ?hp (fun _ hk => hk) trivial (Below.refl _ _) (Nat.le_refl _) (by simp) ?_; (case hd => rfl); (case hg => rfl); (case hr => first | (go_simp; done) | (go_simp; rfl)); (case hp => exact (Reps.one (show Kd.M (Kd.int .i64) _ _ _ 0 [.int .i64 0] from rfl) (Reps.one (show Kd.M (Kd.int .i64) _ _ _ 1 [.int .i64 1] from rfl) (Reps.one (show Kd.M (Kd.int .i64) _ _ _ 1000000 [.int .i64 1000000] from rfl) (Reps.one (show Kd.M (Kd.int .i64) _ _ _ 1000001 [.int .i64 1000001] from rfl) (Reps.none _ _))))))
 intro v465 w34 ho35 hb hg_ hnew_
 clear hg_ hnew_
 (first | rw [← Ny464.out] at ho35 | (simp only [Int.reduceToNat] at ho35; rw [← Ny464.out] at ho35))
 have n0_ := A_ (Kd.R_below z99d hb)
 have n1_ := A_ (Kd.R_below z99f hb)
 have n2_ := A_ (Kd.R_lower ho35 (keep_size (w := w) (g := g) (row := none) z99b))
 have n3_ := A_ (IsS105.below z99a hb)
 have n4_ := A_ (KeepBut.trans z99b (KeepBut.of_below hb g none) (.inl rfl))
 have n5_ := A_ (below_step z99c hb)
 clear HO436
 clear HO456
 clear HI0
 clear HK
 clear HB
 have HO436 := n0_
 have HO456 := n1_
 have HO466 := n2_
 have HI0 := n3_
 have HK := n4_
 have HB := n5_
 clear n0_ n1_ n2_ n3_ n4_ n5_
 clear hb ho35
 obtain ⟨Ao36, co36, eo36⟩ := Kd.R_slice HO466.out
 subst eo36
 obtain ⟨ado36, fo36, _⟩ := Kd.at_int (Kd.R_reads' HO466.out).2.2 0 (by decide) (by rw [Ny464.out]; simp)
 cases fo36
 refine hK.out _ _ trivial (fun hHeld => ?_)
 clear hK K
 refine norm_ (nz_ 28) ?_
 refine pu_ 11 (some 31) (bs "YYYXYYXXYYYYXXXXX") ?_
 exact norm_ z99e (hJ1_2_5_8_10 (v455, .slice (some ado36) y464.length co36, ado36) _ ⟨z99d, z99f, z99g, ⟨_, rfl⟩, z99a, z99b, z99c⟩)
 }
 }
 }
 {
 skip
 rintro ⟨v455, v465, adz_v465⟩ w35 ⟨h0_, h1_, h2_, h3_, h4_, h5_, h6_⟩
 have n0_ : Aside0 (Kd.R k49 49 w35 w.heap.size (fun _ => True) (.slice Ao26 t434.length co26) t434) := ⟨h0_⟩
 have n1_ : Aside0 (Kd.R (Kd.int .u8) 5 w35 w.heap.size (fun _ => True) v455 y454) := ⟨h1_⟩
 have n2_ : Aside0 (Kd.R (Kd.int .i64) 2 w35 w.heap.size (fun _ => True) v465 y464) := ⟨h2_⟩
 have n3_ : Aside0 (∃ c_, (v465 : Value) = .slice (some adz_v465) y464.length c_) := ⟨h3_⟩
 have n4_ : Aside0 (IsS105 w0 w35 g s0_0 t461 t462) := ⟨h4_⟩
 have n5_ : Aside0 (KeepBut w w35 g none) := ⟨h5_⟩
 have n6_ : Aside0 (Below w0.heap.size w0 w35) := ⟨h6_⟩
 clear HO436
 clear HI0
 clear HK
 clear HB
 clear h0_ h1_ h2_ h3_ h4_ h5_ h6_
 have HO436 := n0_
 have HO456 := n1_
 have HO466 := n2_
 have HA_HO466 := n3_
 have HI0 := n4_
 have HK := n5_
 have HB := n6_
 clear n0_ n1_ n2_ n3_ n4_ n5_ n6_
 have hHeld := trivial
 obtain ⟨co36, eo36⟩ := HA_HO466.out
 clear HA_HO466
 subst eo36
 refine norm_ (a' := ?_) ?_ ?_
 rotate_left
 exact z99j
 refine two_ (i := 3) (j := 10) (Ni := some 23) (Nj := some 30) (bs "YYYYYYXXYYXXXXXXX") (bs "YYYXYYXXYYYXXXXXX") rfl rfl rfl rfl (two_of HT_.out (by kernel_rfl)) (by decide) (by decide) (fun K hK => ?_) (fun K hK => ?_)
 {
 skip
 refine Kd.R_lit_step Kd.string _ 9 ?hg (N := 23) ?hd (xs := ([(⟨#[]⟩ : ByteArray), (⟨#[122, 122]⟩ : ByteArray), strOfNums y454] : List ByteArray)) (inner := [.string (⟨#[]⟩ : ByteArray), .string (⟨#[122, 122]⟩ : ByteArray), .string (strOfNums y454)]) (ok := fun _ => True) (okp := fun _ => True) ?hr ?hp (fun _ hk => hk) trivial (Below.refl _ _) (Nat.le_refl _) (by simp) ?_; (case hd => rfl); (case hg => rfl); (case hr => first | (go_simp; done) | (go_simp; rfl)); (case hp => exact (Reps.one (show Kd.M Kd.string _ _ _ (⟨#[]⟩ : ByteArray) [.string (⟨#[]⟩ : ByteArray)] from rfl) (Reps.one (show Kd.M Kd.string _ _ _ (⟨#[122, 122]⟩ : ByteArray) [.string (⟨#[122, 122]⟩ : ByteArray)] from rfl) (Reps.one (show Kd.M Kd.string _ _ _ (strOfNums y454) [.string (strOfNums y454)] from rfl) (Reps.none _ _)))))
 intro v458 w37 ho38 hb hg_ hnew_
 clear hg_ hnew_
 (first | rw [← Ny457.out] at ho38 | (simp only [Int.reduceToNat] at ho38; rw [← Ny457.out] at ho38))
 have n0_ := A_ (Kd.R_below z99d hb)
 have n1_ := A_ (Kd.R_below z99f hb)
 have n2_ := A_ (Kd.R_below z99g hb)
 have n3_ := A_ (Kd.R_lower ho38 (keep_size (w := w) (g := g) (row := none) z99b))
 have n4_ := A_ (IsS105.below z99a hb)
 have n5_ := A_ (KeepBut.trans z99b (KeepBut.of_below hb g none) (.inl rfl))
 have n6_ := A_ (below_step z99c hb)
 clear HO436
 clear HO456
 clear HO466
 clear HI0
 clear HK
 clear HB
 have HO436 := n0_
 have HO456 := n1_
 have HO466 := n2_
 have HO459 := n3_
 have HI0 := n4_
 have HK := n5_
 have HB := n6_
 clear n0_ n1_ n2_ n3_ n4_ n5_ n6_
 clear hb ho38
 obtain ⟨Ao39, co39, eo39⟩ := Kd.R_slice HO459.out
 subst eo39
 obtain ⟨ado39, fo39, _⟩ := Kd.at_string (Kd.R_reads' HO459.out).2.2 0 (by decide) (by rw [Ny457.out]; simp)
 cases fo39
 refine hK.out _ _ trivial (fun hHeld => ?_)
 clear hK K
 refine norm_ (nz_ 23) ?_
 refine pu_ 6 (some 26) (bs "YYYYYYYXYYXXXXXXX") ?_
 exact norm_ z99e (hJ1_2_3_5_8 (v455, .slice (some ado39) y457.length co39, ado39, .slice (some adz_v465) y464.length co36, adz_v465) _ ⟨z99d, z99f, z99i, z99g, ⟨_, rfl⟩, ⟨_, rfl⟩, z99a, z99b, z99c⟩)
 }
 {
 skip
 refine goes_ Try.func95 (by kernel_rfl) rfl #[.pointer (some ⟨g, 0, none⟩), .int .i64 4] (by rfl) rfl rfl z99h ?_
 with_reducible refine (spec_l1Below.calls g s0_0 t461 t462 4 t467 t468 t469 w0 _ ?side1 ?side2 A19.out).mono ?_
 (case side1 => exact z99a)
 (case side2 => exact z99c)
 rintro e w37 ⟨rfl, hi, hb, hk⟩
 refine ⟨_, rfl, ?_⟩
 replace HO436 := A_ (Kd.R_mono (Kd.R_keep (IsS105.apart (show IsS105 w0 _ g s0_0 t461 t462 from z99a) z99d (by decide)) hk (fun _ h => h.2)) (fun _ h => h.1))
 replace HO456 := A_ (Kd.R_mono (Kd.R_keep (IsS105.apart (show IsS105 w0 _ g s0_0 t461 t462 from z99a) z99f (by decide)) hk (fun _ h => h.2)) (fun _ h => h.1))
 replace HO466 := A_ (Kd.R_mono (Kd.R_keep (IsS105.apart (show IsS105 w0 _ g s0_0 t461 t462 from z99a) z99g (by decide)) hk (fun _ h => h.2)) (fun _ h => h.1))
 replace HK := A_ (KeepBut.trans z99b hk (.inl rfl))
 replace HB := A_ (hb)
 replace HI0 := A_ (hi)
 refine hK.out _ _ trivial (fun hHeld => ?_)
 clear hK K
 refine norm_ (nz_ 30) ?_
 refine pu_ 11 (some 31) (bs "YYYXYYXXYYYYXXXXX") ?_
 exact norm_ z99e (hJ1_2_5_8_10 (v455, .slice (some adz_v465) y464.length co36, adz_v465) _ ⟨z99d, z99f, z99g, ⟨_, rfl⟩, z99a, z99b, z99c⟩)
 }
 }
 }
 {
 skip
 rintro ⟨v455, v458, adz_v458, v465, adz_v465⟩ w37 ⟨h0_, h1_, h2_, h3_, h4_, h5_, h6_, h7_, h8_⟩
 have n0_ : Aside0 (Kd.R k49 49 w37 w.heap.size (fun _ => True) (.slice Ao26 t434.length co26) t434) := ⟨h0_⟩
 have n1_ : Aside0 (Kd.R (Kd.int .u8) 5 w37 w.heap.size (fun _ => True) v455 y454) := ⟨h1_⟩
 have n2_ : Aside0 (Kd.R Kd.string 9 w37 w.heap.size (fun _ => True) v458 y457) := ⟨h2_⟩
 have n3_ : Aside0 (Kd.R (Kd.int .i64) 2 w37 w.heap.size (fun _ => True) v465 y464) := ⟨h3_⟩
 have n4_ : Aside0 (∃ c_, (v458 : Value) = .slice (some adz_v458) y457.length c_) := ⟨h4_⟩
 have n5_ : Aside0 (∃ c_, (v465 : Value) = .slice (some adz_v465) y464.length c_) := ⟨h5_⟩
 have n6_ : Aside0 (IsS105 w0 w37 g s0_0 t443 t444) := ⟨h6_⟩
 have n7_ : Aside0 (KeepBut w w37 g none) := ⟨h7_⟩
 have n8_ : Aside0 (Below w0.heap.size w0 w37) := ⟨h8_⟩
 clear HO436
 clear HI0
 clear HK
 clear HB
 clear h0_ h1_ h2_ h3_ h4_ h5_ h6_ h7_ h8_
 have HO436 := n0_
 have HO456 := n1_
 have HO459 := n2_
 have HO466 := n3_
 have HA_HO459 := n4_
 have HA_HO466 := n5_
 have HI0 := n6_
 have HK := n7_
 have HB := n8_
 clear n0_ n1_ n2_ n3_ n4_ n5_ n6_ n7_ n8_
 have hHeld := trivial
 obtain ⟨co38, eo38⟩ := HA_HO459.out
 clear HA_HO459
 subst eo38
 obtain ⟨co39, eo39⟩ := HA_HO466.out
 clear HA_HO466
 subst eo39
 refine norm_ (a' := ?_) ?_ ?_
 rotate_left
 exact z99j
 refine one_ (i := 5) (N := some 25) (bs "YYYYYYXXYYXXXXXXX") rfl rfl (one_of HT_.out (by kernel_rfl)) (by decide) (fun K hK => ?_)
 refine goes_ Try.func95 (by kernel_rfl) rfl #[.pointer (some ⟨g, 0, none⟩), .int .i64 3] (by rfl) rfl rfl z99h ?_
 with_reducible refine (spec_l1Below.calls g s0_0 t443 t444 3 t460 t461 t462 w0 _ ?side1 ?side2 A16.out).mono ?_
 (case side1 => exact z99a)
 (case side2 => exact z99c)
 rintro e w40 ⟨rfl, hi, hb, hk⟩
 refine ⟨_, rfl, ?_⟩
 replace HO436 := A_ (Kd.R_mono (Kd.R_keep (IsS105.apart (show IsS105 w0 _ g s0_0 t443 t444 from z99a) z99d (by decide)) hk (fun _ h => h.2)) (fun _ h => h.1))
 replace HO456 := A_ (Kd.R_mono (Kd.R_keep (IsS105.apart (show IsS105 w0 _ g s0_0 t443 t444 from z99a) z99f (by decide)) hk (fun _ h => h.2)) (fun _ h => h.1))
 replace HO459 := A_ (Kd.R_mono (Kd.R_keep (IsS105.apart (show IsS105 w0 _ g s0_0 t443 t444 from z99a) z99i (by decide)) hk (fun _ h => h.2)) (fun _ h => h.1))
 replace HO466 := A_ (Kd.R_mono (Kd.R_keep (IsS105.apart (show IsS105 w0 _ g s0_0 t443 t444 from z99a) z99g (by decide)) hk (fun _ h => h.2)) (fun _ h => h.1))
 replace HK := A_ (KeepBut.trans z99b hk (.inl rfl))
 replace HB := A_ (hb)
 replace HI0 := A_ (hi)
 refine hK.out _ _ trivial (fun hHeld => ?_)
 clear hK K
 refine norm_ (nz_ 25) ?_
 refine pu_ 6 (some 26) (bs "YYYYYYYXYYXXXXXXX") ?_
 exact norm_ z99e (hJ1_2_3_5_8 (v455, .slice (some adz_v458) y457.length co38, adz_v458, .slice (some adz_v465) y464.length co39, adz_v465) _ ⟨z99d, z99f, z99i, z99g, ⟨_, rfl⟩, ⟨_, rfl⟩, z99a, z99b, z99c⟩)
 }
 }
 {
 skip
 rintro ⟨v455, v458, adz_v458⟩ w35 ⟨h0_, h1_, h2_, h3_, h4_, h5_, h6_⟩
 have n0_ : Aside0 (Kd.R k49 49 w35 w.heap.size (fun _ => True) (.slice Ao26 t434.length co26) t434) := ⟨h0_⟩
 have n1_ : Aside0 (Kd.R (Kd.int .u8) 5 w35 w.heap.size (fun _ => True) v455 y454) := ⟨h1_⟩
 have n2_ : Aside0 (Kd.R Kd.string 9 w35 w.heap.size (fun _ => True) v458 y457) := ⟨h2_⟩
 have n3_ : Aside0 (∃ c_, (v458 : Value) = .slice (some adz_v458) y457.length c_) := ⟨h3_⟩
 have n4_ : Aside0 (IsS105 w0 w35 g s0_0 t461 t462) := ⟨h4_⟩
 have n5_ : Aside0 (KeepBut w w35 g none) := ⟨h5_⟩
 have n6_ : Aside0 (Below w0.heap.size w0 w35) := ⟨h6_⟩
 clear HO436
 clear HI0
 clear HK
 clear HB
 clear h0_ h1_ h2_ h3_ h4_ h5_ h6_
 have HO436 := n0_
 have HO456 := n1_
 have HO459 := n2_
 have HA_HO459 := n3_
 have HI0 := n4_
 have HK := n5_
 have HB := n6_
 clear n0_ n1_ n2_ n3_ n4_ n5_ n6_
 have hHeld := trivial
 obtain ⟨co36, eo36⟩ := HA_HO459.out
 clear HA_HO459
 subst eo36
 refine norm_ (a' := ?_) ?_ ?_
 rotate_left
 exact z99j
 refine three_ (i := 7) (j := 8) (k := 10) (Ni := some 27) (Nj := some 28) (Nk := some 30) (bs "YYYYYYYYXYXXXXXXX") (bs "YYYYYYYXYYXXXXXXX") (bs "YYYYYYYXXYYXXXXXX") rfl rfl rfl rfl rfl rfl (three_of HT_.out (by kernel_rfl)) (by decide) (by decide) (by decide) (fun K hK => ?_) (fun K hK => ?_) (fun K hK => ?_)
 {
 skip
 (have p463 : 0 ≤ (t460 : Int) := of_decide_eq_true z99l; have q463 : t460 < (y457.length : Int) := of_decide_eq_true z99l; obtain ⟨ad463, e463, hx463_0⟩ := Kd.at_string (Kd.R_reads' HO459.out).2.2 t460 p463 q463; obtain rfl : adz_v458 = ad463 := (by injection e463))
 refine value_ (w1 := ?_) (v := ?_) (by rfl) rfl ?_ ?_
 rotate_left 2
 {
 go_simp
 constructor
 {
 rfl
 }
 {
 rfl
 }
 }
 clear hx463_0
 refine hK.out _ _ trivial (fun hHeld => ?_)
 clear hK K
 refine norm_ (nz_ 27) ?_
 exact norm_ z99e (hJ1_2_3_5_7 (v455, .slice (some adz_v458) y457.length co36, adz_v458) _ ⟨z99d, z99f, z99i, ⟨_, rfl⟩, z99a, z99b, z99c⟩)
 }
 {
 skip
 refine Kd.R_lit_step (Kd.int .i64) _ 2 ?hg (N := 28) ?hd (xs := ([0, 1, 1000000, 1000001] : List Int)) (inner := [.int .i64 0, .int .i64 1, .int .i64 1000000, .int .i64 1000001]) (ok := fun _ => True) (okp := fun _ => True) ?hr ?hp (fun _ hk => hk) trivial (Below.refl _ _) (Nat.le_refl _) (by simp) ?_; (case hd => rfl); (case hg => rfl); (case hr => first | (go_simp; done) | (go_simp; rfl)); (case hp => exact (Reps.one (show Kd.M (Kd.int .i64) _ _ _ 0 [.int .i64 0] from rfl) (Reps.one (show Kd.M (Kd.int .i64) _ _ _ 1 [.int .i64 1] from rfl) (Reps.one (show Kd.M (Kd.int .i64) _ _ _ 1000000 [.int .i64 1000000] from rfl) (Reps.one (show Kd.M (Kd.int .i64) _ _ _ 1000001 [.int .i64 1000001] from rfl) (Reps.none _ _))))))
 intro v465 w37 ho38 hb hg_ hnew_
 clear hg_ hnew_
 (first | rw [← Ny464.out] at ho38 | (simp only [Int.reduceToNat] at ho38; rw [← Ny464.out] at ho38))
 have n0_ := A_ (Kd.R_below z99d hb)
 have n1_ := A_ (Kd.R_below z99f hb)
 have n2_ := A_ (Kd.R_below z99i hb)
 have n3_ := A_ (Kd.R_lower ho38 (keep_size (w := w) (g := g) (row := none) z99b))
 have n4_ := A_ (IsS105.below z99a hb)
 have n5_ := A_ (KeepBut.trans z99b (KeepBut.of_below hb g none) (.inl rfl))
 have n6_ := A_ (below_step z99c hb)
 clear HO436
 clear HO456
 clear HO459
 clear HI0
 clear HK
 clear HB
 have HO436 := n0_
 have HO456 := n1_
 have HO459 := n2_
 have HO466 := n3_
 have HI0 := n4_
 have HK := n5_
 have HB := n6_
 clear n0_ n1_ n2_ n3_ n4_ n5_ n6_
 clear hb ho38
 obtain ⟨Ao39, co39, eo39⟩ := Kd.R_slice HO466.out
 subst eo39
 obtain ⟨ado39, fo39, _⟩ := Kd.at_int (Kd.R_reads' HO466.out).2.2 0 (by decide) (by rw [Ny464.out]; simp)
 cases fo39
 refine hK.out _ _ trivial (fun hHeld => ?_)
 clear hK K
 refine norm_ (nz_ 28) ?_
 exact norm_ z99e (hJ1_2_3_5_8 (v455, .slice (some adz_v458) y457.length co36, adz_v458, .slice (some ado39) y464.length co39, ado39) _ ⟨z99d, z99f, z99i, z99g, ⟨_, rfl⟩, ⟨_, rfl⟩, z99a, z99b, z99c⟩)
 }
 {
 skip
 refine goes_ Try.func95 (by kernel_rfl) rfl #[.pointer (some ⟨g, 0, none⟩), .int .i64 4] (by rfl) rfl rfl z99h ?_
 with_reducible refine (spec_l1Below.calls g s0_0 t461 t462 4 t467 t468 t469 w0 _ ?side1 ?side2 A19.out).mono ?_
 (case side1 => exact z99a)
 (case side2 => exact z99c)
 rintro e w37 ⟨rfl, hi, hb, hk⟩
 refine ⟨_, rfl, ?_⟩
 replace HO436 := A_ (Kd.R_mono (Kd.R_keep (IsS105.apart (show IsS105 w0 _ g s0_0 t461 t462 from z99a) z99d (by decide)) hk (fun _ h => h.2)) (fun _ h => h.1))
 replace HO456 := A_ (Kd.R_mono (Kd.R_keep (IsS105.apart (show IsS105 w0 _ g s0_0 t461 t462 from z99a) z99f (by decide)) hk (fun _ h => h.2)) (fun _ h => h.1))
 replace HO459 := A_ (Kd.R_mono (Kd.R_keep (IsS105.apart (show IsS105 w0 _ g s0_0 t461 t462 from z99a) z99i (by decide)) hk (fun _ h => h.2)) (fun _ h => h.1))
 replace HK := A_ (KeepBut.trans z99b hk (.inl rfl))
 replace HB := A_ (hb)
 replace HI0 := A_ (hi)
 refine hK.out _ _ trivial (fun hHeld => ?_)
 clear hK K
 refine norm_ (nz_ 30) ?_
 exact norm_ z99e (hJ1_2_3_5_10 (v455, .slice (some adz_v458) y457.length co36, adz_v458) _ ⟨z99d, z99f, z99i, ⟨_, rfl⟩, z99a, z99b, z99c⟩)
 }
 }
 }
 {
 skip
 rintro ⟨v455, v465, adz_v465⟩ w35 ⟨h0_, h1_, h2_, h3_, h4_, h5_, h6_⟩
 have n0_ : Aside0 (Kd.R k49 49 w35 w.heap.size (fun _ => True) (.slice Ao26 t434.length co26) t434) := ⟨h0_⟩
 have n1_ : Aside0 (Kd.R (Kd.int .u8) 5 w35 w.heap.size (fun _ => True) v455 y454) := ⟨h1_⟩
 have n2_ : Aside0 (Kd.R (Kd.int .i64) 2 w35 w.heap.size (fun _ => True) v465 y464) := ⟨h2_⟩
 have n3_ : Aside0 (∃ c_, (v465 : Value) = .slice (some adz_v465) y464.length c_) := ⟨h3_⟩
 have n4_ : Aside0 (IsS105 w0 w35 g s0_0 t468 t469) := ⟨h4_⟩
 have n5_ : Aside0 (KeepBut w w35 g none) := ⟨h5_⟩
 have n6_ : Aside0 (Below w0.heap.size w0 w35) := ⟨h6_⟩
 clear HO436
 clear HI0
 clear HK
 clear HB
 clear h0_ h1_ h2_ h3_ h4_ h5_ h6_
 have HO436 := n0_
 have HO456 := n1_
 have HO466 := n2_
 have HA_HO466 := n3_
 have HI0 := n4_
 have HK := n5_
 have HB := n6_
 clear n0_ n1_ n2_ n3_ n4_ n5_ n6_
 have hHeld := trivial
 obtain ⟨co36, eo36⟩ := HA_HO466.out
 clear HA_HO466
 subst eo36
 refine norm_ (a' := ?_) ?_ ?_
 rotate_left
 exact z99j
 refine one_ (i := 2) (N := some 22) (bs "YYYXYYXXYYYYYXXXX") rfl rfl (one_of HT_.out (by kernel_rfl)) (by decide) (fun K hK => ?_)
 have hcv37 := own_string (P := Try.prog) Try.underlying22 Try.underlying5 Try.underlying9 (Kd.own_of_R HO456.out)
 refine value_ (w1 := ?_) (v := ?_) (by rfl) rfl ?_ ?_
 rotate_left 2
 {
 go_simp
 constructor
 {
 rfl
 }
 {
 rfl
 }
 }
 clear hcv37
 refine hK.out _ _ trivial (fun hHeld => ?_)
 clear hK K
 refine norm_ (nz_ 22) ?_
 exact norm_ z99e (hJ1_2_5_8_10_12 (v455, .slice (some adz_v465) y464.length co36, adz_v465) _ ⟨z99d, z99f, z99g, ⟨_, rfl⟩, z99a, z99b, z99c⟩)
 }
 }
 {
 skip
 rintro ⟨v455, v465, adz_v465⟩ w36 ⟨h0_, h1_, h2_, h3_, h4_, h5_, h6_⟩
 have n0_ : Aside0 (Kd.R k49 49 w36 w.heap.size (fun _ => True) (.slice Ao26 t434.length co26) t434) := ⟨h0_⟩
 have n1_ : Aside0 (Kd.R (Kd.int .u8) 5 w36 w.heap.size (fun _ => True) v455 y454) := ⟨h1_⟩
 have n2_ : Aside0 (Kd.R (Kd.int .i64) 2 w36 w.heap.size (fun _ => True) v465 y464) := ⟨h2_⟩
 have n3_ : Aside0 (∃ c_, (v465 : Value) = .slice (some adz_v465) y464.length c_) := ⟨h3_⟩
 have n4_ : Aside0 (IsS105 w0 w36 g s0_0 t468 t469) := ⟨h4_⟩
 have n5_ : Aside0 (KeepBut w w36 g none) := ⟨h5_⟩
 have n6_ : Aside0 (Below w0.heap.size w0 w36) := ⟨h6_⟩
 clear HO436
 clear HI0
 clear HK
 clear HB
 clear h0_ h1_ h2_ h3_ h4_ h5_ h6_
 have HO436 := n0_
 have HO456 := n1_
 have HO466 := n2_
 have HA_HO466 := n3_
 have HI0 := n4_
 have HK := n5_
 have HB := n6_
 clear n0_ n1_ n2_ n3_ n4_ n5_ n6_
 have hHeld := trivial
 obtain ⟨co37, eo37⟩ := HA_HO466.out
 clear HA_HO466
 subst eo37
 refine norm_ (a' := ?_) ?_ ?_
 rotate_left
 exact z99j
 refine two_ (i := 3) (j := 12) (Ni := some 23) (Nj := some 32) (bs "YYYYYYXXYYYYXXXXX") (bs "YYYXYYXXYYYYYXXXX") rfl rfl rfl rfl (two_of HT_.out (by kernel_rfl)) (by decide) (by decide) (fun K hK => ?_) (fun K hK => ?_)
 {
 skip
 refine Kd.R_lit_step Kd.string _ 9 ?hg (N := 23) ?hd (xs := ([(⟨#[]⟩ : ByteArray), (⟨#[122, 122]⟩ : ByteArray), strOfNums y454] : List ByteArray)) (inner := [.string (⟨#[]⟩ : ByteArray), .string (⟨#[122, 122]⟩ : ByteArray), .string (strOfNums y454)]) (ok := fun _ => True) (okp := fun _ => True) ?hr ?hp (fun _ hk => hk) trivial (Below.refl _ _) (Nat.le_refl _) (by simp) ?_; (case hd => rfl); (case hg => rfl); (case hr => first | (go_simp; done) | (go_simp; rfl)); (case hp => exact (Reps.one (show Kd.M Kd.string _ _ _ (⟨#[]⟩ : ByteArray) [.string (⟨#[]⟩ : ByteArray)] from rfl) (Reps.one (show Kd.M Kd.string _ _ _ (⟨#[122, 122]⟩ : ByteArray) [.string (⟨#[122, 122]⟩ : ByteArray)] from rfl) (Reps.one (show Kd.M Kd.string _ _ _ (strOfNums y454) [.string (strOfNums y454)] from rfl) (Reps.none _ _)))))
 intro v458 w38 ho39 hb hg_ hnew_
 clear hg_ hnew_
 (first | rw [← Ny457.out] at ho39 | (simp only [Int.reduceToNat] at ho39; rw [← Ny457.out] at ho39))
 have n0_ := A_ (Kd.R_below z99d hb)
 have n1_ := A_ (Kd.R_below z99f hb)
 have n2_ := A_ (Kd.R_below z99g hb)
 have n3_ := A_ (Kd.R_lower ho39 (keep_size (w := w) (g := g) (row := none) z99b))
 have n4_ := A_ (IsS105.below z99a hb)
 have n5_ := A_ (KeepBut.trans z99b (KeepBut.of_below hb g none) (.inl rfl))
 have n6_ := A_ (below_step z99c hb)
 clear HO436
 clear HO456
 clear HO466
 clear HI0
 clear HK
 clear HB
 have HO436 := n0_
 have HO456 := n1_
 have HO466 := n2_
 have HO459 := n3_
 have HI0 := n4_
 have HK := n5_
 have HB := n6_
 clear n0_ n1_ n2_ n3_ n4_ n5_ n6_
 clear hb ho39
 obtain ⟨Ao40, co40, eo40⟩ := Kd.R_slice HO459.out
 subst eo40
 obtain ⟨ado40, fo40, _⟩ := Kd.at_string (Kd.R_reads' HO459.out).2.2 0 (by decide) (by rw [Ny457.out]; simp)
 cases fo40
 refine hK.out _ _ trivial (fun hHeld => ?_)
 clear hK K
 refine norm_ (nz_ 23) ?_
 refine pu_ 6 (some 26) (bs "YYYYYYYXYYYYXXXXX") ?_
 exact norm_ z99e (hJ1_2_3_5_8_10 (v455, .slice (some ado40) y457.length co40, ado40, .slice (some adz_v465) y464.length co37, adz_v465) _ ⟨z99d, z99f, z99i, z99g, ⟨_, rfl⟩, ⟨_, rfl⟩, z99a, z99b, z99c⟩)
 }
 {
 skip
 (have p470 : 0 ≤ (t467 : Int) := of_decide_eq_true z99l; have q470 : t467 < (y464.length : Int) := of_decide_eq_true z99l; obtain ⟨ad470, e470, hx470_0⟩ := Kd.at_int (Kd.R_reads' HO466.out).2.2 t467 p470 q470; obtain rfl : adz_v465 = ad470 := (by injection e470))
 refine value_ (w1 := ?_) (v := ?_) (by rfl) rfl ?_ ?_
 rotate_left 2
 {
 go_simp
 constructor
 {
 rfl
 }
 {
 rfl
 }
 }
 clear hx470_0
 refine hK.out _ _ trivial (fun hHeld => ?_)
 clear hK K
 refine norm_ (nz_ 32) ?_
 exact norm_ z99e (hJ1_2_5_8_10_12 (v455, .slice (some adz_v465) y464.length co37, adz_v465) _ ⟨z99d, z99f, z99g, ⟨_, rfl⟩, z99a, z99b, z99c⟩)
 }
 }
 }
 {
 skip
 rintro ⟨v455, v458, adz_v458⟩ w36 ⟨h0_, h1_, h2_, h3_, h4_, h5_, h6_⟩
 have n0_ : Aside0 (Kd.R k49 49 w36 w.heap.size (fun _ => True) (.slice Ao26 t434.length co26) t434) := ⟨h0_⟩
 have n1_ : Aside0 (Kd.R (Kd.int .u8) 5 w36 w.heap.size (fun _ => True) v455 y454) := ⟨h1_⟩
 have n2_ : Aside0 (Kd.R Kd.string 9 w36 w.heap.size (fun _ => True) v458 y457) := ⟨h2_⟩
 have n3_ : Aside0 (∃ c_, (v458 : Value) = .slice (some adz_v458) y457.length c_) := ⟨h3_⟩
 have n4_ : Aside0 (IsS105 w0 w36 g s0_0 t468 t469) := ⟨h4_⟩
 have n5_ : Aside0 (KeepBut w w36 g none) := ⟨h5_⟩
 have n6_ : Aside0 (Below w0.heap.size w0 w36) := ⟨h6_⟩
 clear HO436
 clear HI0
 clear HK
 clear HB
 clear h0_ h1_ h2_ h3_ h4_ h5_ h6_
 have HO436 := n0_
 have HO456 := n1_
 have HO459 := n2_
 have HA_HO459 := n3_
 have HI0 := n4_
 have HK := n5_
 have HB := n6_
 clear n0_ n1_ n2_ n3_ n4_ n5_ n6_
 have hHeld := trivial
 obtain ⟨co37, eo37⟩ := HA_HO459.out
 clear HA_HO459
 subst eo37
 refine norm_ (a' := ?_) ?_ ?_
 rotate_left
 exact z99j
 refine two_ (i := 7) (j := 8) (Ni := some 27) (Nj := some 28) (bs "YYYYYYYYXYYXXXXXX") (bs "YYYYYYYXYYYXXXXXX") rfl rfl rfl rfl (two_of HT_.out (by kernel_rfl)) (by decide) (by decide) (fun K hK => ?_) (fun K hK => ?_)
 {
 skip
 (have p463 : 0 ≤ (t460 : Int) := of_decide_eq_true z99l; have q463 : t460 < (y457.length : Int) := of_decide_eq_true z99l; obtain ⟨ad463, e463, hx463_0⟩ := Kd.at_string (Kd.R_reads' HO459.out).2.2 t460 p463 q463; obtain rfl : adz_v458 = ad463 := (by injection e463))
 refine value_ (w1 := ?_) (v := ?_) (by rfl) rfl ?_ ?_
 rotate_left 2
 {
 go_simp
 constructor
 {
 rfl
 }
 {
 rfl
 }
 }
 clear hx463_0
 refine hK.out _ _ trivial (fun hHeld => ?_)
 clear hK K
 refine norm_ (nz_ 27) ?_
 exact norm_ z99e (hJ1_2_3_5_7_10 (v455, .slice (some adz_v458) y457.length co37, adz_v458) _ ⟨z99d, z99f, z99i, ⟨_, rfl⟩, z99a, z99b, z99c⟩)
 }
 {
 skip
 refine Kd.R_lit_step (Kd.int .i64) _ 2 ?hg (N := 28) ?hd (xs := ([0, 1, 1000000, 1000001] : List Int)) (inner := [.int .i64 0, .int .i64 1, .int .i64 1000000, .int .i64 1000001]) (ok := fun _ => True) (okp := fun _ => True) ?hr ?hp (fun _ hk => hk) trivial (Below.refl _ _) (Nat.le_refl _) (by simp) ?_; (case hd => rfl); (case hg => rfl); (case hr => first | (go_simp; done) | (go_simp; rfl)); (case hp => exact (Reps.one (show Kd.M (Kd.int .i64) _ _ _ 0 [.int .i64 0] from rfl) (Reps.one (show Kd.M (Kd.int .i64) _ _ _ 1 [.int .i64 1] from rfl) (Reps.one (show Kd.M (Kd.int .i64) _ _ _ 1000000 [.int .i64 1000000] from rfl) (Reps.one (show Kd.M (Kd.int .i64) _ _ _ 1000001 [.int .i64 1000001] from rfl) (Reps.none _ _))))))
 intro v465 w38 ho39 hb hg_ hnew_
 clear hg_ hnew_
 (first | rw [← Ny464.out] at ho39 | (simp only [Int.reduceToNat] at ho39; rw [← Ny464.out] at ho39))
 have n0_ := A_ (Kd.R_below z99d hb)
 have n1_ := A_ (Kd.R_below z99f hb)
 have n2_ := A_ (Kd.R_below z99i hb)
 have n3_ := A_ (Kd.R_lower ho39 (keep_size (w := w) (g := g) (row := none) z99b))
 have n4_ := A_ (IsS105.below z99a hb)
 have n5_ := A_ (KeepBut.trans z99b (KeepBut.of_below hb g none) (.inl rfl))
 have n6_ := A_ (below_step z99c hb)
 clear HO436
 clear HO456
 clear HO459
 clear HI0
 clear HK
 clear HB
 have HO436 := n0_
 have HO456 := n1_
 have HO459 := n2_
 have HO466 := n3_
 have HI0 := n4_
 have HK := n5_
 have HB := n6_
 clear n0_ n1_ n2_ n3_ n4_ n5_ n6_
 clear hb ho39
 obtain ⟨Ao40, co40, eo40⟩ := Kd.R_slice HO466.out
 subst eo40
 obtain ⟨ado40, fo40, _⟩ := Kd.at_int (Kd.R_reads' HO466.out).2.2 0 (by decide) (by rw [Ny464.out]; simp)
 cases fo40
 refine hK.out _ _ trivial (fun hHeld => ?_)
 clear hK K
 refine norm_ (nz_ 28) ?_
 refine pu_ 11 (some 31) (bs "YYYYYYYXYYYYXXXXX") ?_
 exact norm_ z99e (hJ1_2_3_5_8_10 (v455, .slice (some adz_v458) y457.length co37, adz_v458, .slice (some ado40) y464.length co40, ado40) _ ⟨z99d, z99f, z99i, z99g, ⟨_, rfl⟩, ⟨_, rfl⟩, z99a, z99b, z99c⟩)
 }
 }
 }
 {
 skip
 rintro ⟨v455, v458, adz_v458, v465, adz_v465⟩ w38 ⟨h0_, h1_, h2_, h3_, h4_, h5_, h6_, h7_, h8_⟩
 have n0_ : Aside0 (Kd.R k49 49 w38 w.heap.size (fun _ => True) (.slice Ao26 t434.length co26) t434) := ⟨h0_⟩
 have n1_ : Aside0 (Kd.R (Kd.int .u8) 5 w38 w.heap.size (fun _ => True) v455 y454) := ⟨h1_⟩
 have n2_ : Aside0 (Kd.R Kd.string 9 w38 w.heap.size (fun _ => True) v458 y457) := ⟨h2_⟩
 have n3_ : Aside0 (Kd.R (Kd.int .i64) 2 w38 w.heap.size (fun _ => True) v465 y464) := ⟨h3_⟩
 have n4_ : Aside0 (∃ c_, (v458 : Value) = .slice (some adz_v458) y457.length c_) := ⟨h4_⟩
 have n5_ : Aside0 (∃ c_, (v465 : Value) = .slice (some adz_v465) y464.length c_) := ⟨h5_⟩
 have n6_ : Aside0 (IsS105 w0 w38 g s0_0 t461 t462) := ⟨h6_⟩
 have n7_ : Aside0 (KeepBut w w38 g none) := ⟨h7_⟩
 have n8_ : Aside0 (Below w0.heap.size w0 w38) := ⟨h8_⟩
 clear HO436
 clear HI0
 clear HK
 clear HB
 clear h0_ h1_ h2_ h3_ h4_ h5_ h6_ h7_ h8_
 have HO436 := n0_
 have HO456 := n1_
 have HO459 := n2_
 have HO466 := n3_
 have HA_HO459 := n4_
 have HA_HO466 := n5_
 have HI0 := n6_
 have HK := n7_
 have HB := n8_
 clear n0_ n1_ n2_ n3_ n4_ n5_ n6_ n7_ n8_
 have hHeld := trivial
 obtain ⟨co39, eo39⟩ := HA_HO459.out
 clear HA_HO459
 subst eo39
 obtain ⟨co40, eo40⟩ := HA_HO466.out
 clear HA_HO466
 subst eo40
 refine norm_ (a' := ?_) ?_ ?_
 rotate_left
 exact z99j
 refine two_ (i := 7) (j := 10) (Ni := some 27) (Nj := some 30) (bs "YYYYYYYYYYXXXXXXX") (bs "YYYYYYYXYYYXXXXXX") rfl rfl rfl rfl (two_of HT_.out (by kernel_rfl)) (by decide) (by decide) (fun K hK => ?_) (fun K hK => ?_)
 {
 skip
 (have p463 : 0 ≤ (t460 : Int) := of_decide_eq_true z99l; have q463 : t460 < (y457.length : Int) := of_decide_eq_true z99l; obtain ⟨ad463, e463, hx463_0⟩ := Kd.at_string (Kd.R_reads' HO459.out).2.2 t460 p463 q463; obtain rfl : adz_v458 = ad463 := (by injection e463))
 refine value_ (w1 := ?_) (v := ?_) (by rfl) rfl ?_ ?_
 rotate_left 2
 {
 go_simp
 constructor
 {
 rfl
 }
 {
 rfl
 }
 }
 clear hx463_0
 refine hK.out _ _ trivial (fun hHeld => ?_)
 clear hK K
 refine norm_ (nz_ 27) ?_
 exact norm_ z99e (hJ1_2_3_5_7_8 (v455, .slice (some adz_v458) y457.length co39, adz_v458, .slice (some adz_v465) y464.length co40, adz_v465) _ ⟨z99d, z99f, z99i, z99g, ⟨_, rfl⟩, ⟨_, rfl⟩, z99a, z99b, z99c⟩)
 }
 {
 skip
 refine goes_ Try.func95 (by kernel_rfl) rfl #[.pointer (some ⟨g, 0, none⟩), .int .i64 4] (by rfl) rfl rfl z99h ?_
 with_reducible refine (spec_l1Below.calls g s0_0 t461 t462 4 t467 t468 t469 w0 _ ?side1 ?side2 A19.out).mono ?_
 (case side1 => exact z99a)
 (case side2 => exact z99c)
 rintro e w41 ⟨rfl, hi, hb, hk⟩
 refine ⟨_, rfl, ?_⟩
 replace HO436 := A_ (Kd.R_mono (Kd.R_keep (IsS105.apart (show IsS105 w0 _ g s0_0 t461 t462 from z99a) z99d (by decide)) hk (fun _ h => h.2)) (fun _ h => h.1))
 replace HO456 := A_ (Kd.R_mono (Kd.R_keep (IsS105.apart (show IsS105 w0 _ g s0_0 t461 t462 from z99a) z99f (by decide)) hk (fun _ h => h.2)) (fun _ h => h.1))
 replace HO459 := A_ (Kd.R_mono (Kd.R_keep (IsS105.apart (show IsS105 w0 _ g s0_0 t461 t462 from z99a) z99i (by decide)) hk (fun _ h => h.2)) (fun _ h => h.1))
 replace HO466 := A_ (Kd.R_mono (Kd.R_keep (IsS105.apart (show IsS105 w0 _ g s0_0 t461 t462 from z99a) z99g (by decide)) hk (fun _ h => h.2)) (fun _ h => h.1))
 replace HK := A_ (KeepBut.trans z99b hk (.inl rfl))
 replace HB := A_ (hb)
 replace HI0 := A_ (hi)
 refine hK.out _ _ trivial (fun hHeld => ?_)
 clear hK K
 refine norm_ (nz_ 30) ?_
 refine pu_ 11 (some 31) (bs "YYYYYYYXYYYYXXXXX") ?_
 exact norm_ z99e (hJ1_2_3_5_8_10 (v455, .slice (some adz_v458) y457.length co39, adz_v458, .slice (some adz_v465) y464.length co40, adz_v465) _ ⟨z99d, z99f, z99i, z99g, ⟨_, rfl⟩, ⟨_, rfl⟩, z99a, z99b, z99c⟩)
 }
 }
 }
 {
 skip
 rintro ⟨v455, v458, adz_v458⟩ w35 ⟨h0_, h1_, h2_, h3_, h4_, h5_, h6_⟩
 have n0_ : Aside0 (Kd.R k49 49 w35 w.heap.size (fun _ => True) (.slice Ao26 t434.length co26) t434) := ⟨h0_⟩
 have n1_ : Aside0 (Kd.R (Kd.int .u8) 5 w35 w.heap.size (fun _ => True) v455 y454) := ⟨h1_⟩
 have n2_ : Aside0 (Kd.R Kd.string 9 w35 w.heap.size (fun _ => True) v458 y457) := ⟨h2_⟩
 have n3_ : Aside0 (∃ c_, (v458 : Value) = .slice (some adz_v458) y457.length c_) := ⟨h3_⟩
 have n4_ : Aside0 (IsS105 w0 w35 g s0_0 t461 t462) := ⟨h4_⟩
 have n5_ : Aside0 (KeepBut w w35 g none) := ⟨h5_⟩
 have n6_ : Aside0 (Below w0.heap.size w0 w35) := ⟨h6_⟩
 clear HO436
 clear HI0
 clear HK
 clear HB
 clear h0_ h1_ h2_ h3_ h4_ h5_ h6_
 have HO436 := n0_
 have HO456 := n1_
 have HO459 := n2_
 have HA_HO459 := n3_
 have HI0 := n4_
 have HK := n5_
 have HB := n6_
 clear n0_ n1_ n2_ n3_ n4_ n5_ n6_
 have hHeld := trivial
 obtain ⟨co36, eo36⟩ := HA_HO459.out
 clear HA_HO459
 subst eo36
 refine norm_ (a' := ?_) ?_ ?_
 rotate_left
 exact z99j
 refine two_ (i := 8) (j := 10) (Ni := some 28) (Nj := some 30) (bs "YYYYYYYYYYXXXXXXX") (bs "YYYYYYYYXYYXXXXXX") rfl rfl rfl rfl (two_of HT_.out (by kernel_rfl)) (by decide) (by decide) (fun K hK => ?_) (fun K hK => ?_)
 {
 skip
 refine Kd.R_lit_step (Kd.int .i64) _ 2 ?hg (N := 28) ?hd (xs := ([0, 1, 1000000, 1000001] : List Int)) (inner := [.int .i64 0, .int .i64 1, .int .i64 1000000, .int .i64 1000001]) (ok := fun _ => True) (okp := fun _ => True) ?hr ?hp (fun _ hk => hk) trivial (Below.refl _ _) (Nat.le_refl _) (by simp) ?_; (case hd => rfl); (case hg => rfl); (case hr => first | (go_simp; done) | (go_simp; rfl)); (case hp => exact (Reps.one (show Kd.M (Kd.int .i64) _ _ _ 0 [.int .i64 0] from rfl) (Reps.one (show Kd.M (Kd.int .i64) _ _ _ 1 [.int .i64 1] from rfl) (Reps.one (show Kd.M (Kd.int .i64) _ _ _ 1000000 [.int .i64 1000000] from rfl) (Reps.one (show Kd.M (Kd.int .i64) _ _ _ 1000001 [.int .i64 1000001] from rfl) (Reps.none _ _))))))
 intro v465 w37 ho38 hb hg_ hnew_
 clear hg_ hnew_
 (first | rw [← Ny464.out] at ho38 | (simp only [Int.reduceToNat] at ho38; rw [← Ny464.out] at ho38))
 have n0_ := A_ (Kd.R_below z99d hb)
 have n1_ := A_ (Kd.R_below z99f hb)
 have n2_ := A_ (Kd.R_below z99i hb)
 have n3_ := A_ (Kd.R_lower ho38 (keep_size (w := w) (g := g) (row := none) z99b))
 have n4_ := A_ (IsS105.below z99a hb)
 have n5_ := A_ (KeepBut.trans z99b (KeepBut.of_below hb g none) (.inl rfl))
 have n6_ := A_ (below_step z99c hb)
 clear HO436
 clear HO456
 clear HO459
 clear HI0
 clear HK
 clear HB
 have HO436 := n0_
 have HO456 := n1_
 have HO459 := n2_
 have HO466 := n3_
 have HI0 := n4_
 have HK := n5_
 have HB := n6_
 clear n0_ n1_ n2_ n3_ n4_ n5_ n6_
 clear hb ho38
 obtain ⟨Ao39, co39, eo39⟩ := Kd.R_slice HO466.out
 subst eo39
 obtain ⟨ado39, fo39, _⟩ := Kd.at_int (Kd.R_reads' HO466.out).2.2 0 (by decide) (by rw [Ny464.out]; simp)
 cases fo39
 refine hK.out _ _ trivial (fun hHeld => ?_)
 clear hK K
 refine norm_ (nz_ 28) ?_
 exact norm_ z99e (hJ1_2_3_5_7_8 (v455, .slice (some adz_v458) y457.length co36, adz_v458, .slice (some ado39) y464.length co39, ado39) _ ⟨z99d, z99f, z99i, z99g, ⟨_, rfl⟩, ⟨_, rfl⟩, z99a, z99b, z99c⟩)
 }
 {
 skip
 refine goes_ Try.func95 (by kernel_rfl) rfl #[.pointer (some ⟨g, 0, none⟩), .int .i64 4] (by rfl) rfl rfl z99h ?_
 with_reducible refine (spec_l1Below.calls g s0_0 t461 t462 4 t467 t468 t469 w0 _ ?side1 ?side2 A19.out).mono ?_
 (case side1 => exact z99a)
 (case side2 => exact z99c)
 rintro e w37 ⟨rfl, hi, hb, hk⟩
 refine ⟨_, rfl, ?_⟩
 replace HO436 := A_ (Kd.R_mono (Kd.R_keep (IsS105.apart (show IsS105 w0 _ g s0_0 t461 t462 from z99a) z99d (by decide)) hk (fun _ h => h.2)) (fun _ h => h.1))
 replace HO456 := A_ (Kd.R_mono (Kd.R_keep (IsS105.apart (show IsS105 w0 _ g s0_0 t461 t462 from z99a) z99f (by decide)) hk (fun _ h => h.2)) (fun _ h => h.1))
 replace HO459 := A_ (Kd.R_mono (Kd.R_keep (IsS105.apart (show IsS105 w0 _ g s0_0 t461 t462 from z99a) z99i (by decide)) hk (fun _ h => h.2)) (fun _ h => h.1))
 replace HK := A_ (KeepBut.trans z99b hk (.inl rfl))
 replace HB := A_ (hb)
 replace HI0 := A_ (hi)
 refine hK.out _ _ trivial (fun hHeld => ?_)
 clear hK K
 refine norm_ (nz_ 30) ?_
 exact norm_ z99e (hJ1_2_3_5_7_10 (v455, .slice (some adz_v458) y457.length co36, adz_v458) _ ⟨z99d, z99f, z99i, ⟨_, rfl⟩, z99a, z99b, z99c⟩)
 }
 }
 }
 {
 skip
 rintro ⟨v455, v465, adz_v465⟩ w36 ⟨h0_, h1_, h2_, h3_, h4_, h5_, h6_⟩
 have n0_ : Aside0 (Kd.R k49 49 w36 w.heap.size (fun _ => True) (.slice Ao26 t434.length co26) t434) := ⟨h0_⟩
 have n1_ : Aside0 (Kd.R (Kd.int .u8) 5 w36 w.heap.size (fun _ => True) v455 y454) := ⟨h1_⟩
 have n2_ : Aside0 (Kd.R (Kd.int .i64) 2 w36 w.heap.size (fun _ => True) v465 y464) := ⟨h2_⟩
 have n3_ : Aside0 (∃ c_, (v465 : Value) = .slice (some adz_v465) y464.length c_) := ⟨h3_⟩
 have n4_ : Aside0 (IsS105 w0 w36 g s0_0 t468 t469) := ⟨h4_⟩
 have n5_ : Aside0 (KeepBut w w36 g none) := ⟨h5_⟩
 have n6_ : Aside0 (Below w0.heap.size w0 w36) := ⟨h6_⟩
 clear HO436
 clear HI0
 clear HK
 clear HB
 clear h0_ h1_ h2_ h3_ h4_ h5_ h6_
 have HO436 := n0_
 have HO456 := n1_
 have HO466 := n2_
 have HA_HO466 := n3_
 have HI0 := n4_
 have HK := n5_
 have HB := n6_
 clear n0_ n1_ n2_ n3_ n4_ n5_ n6_
 have hHeld := trivial
 obtain ⟨co37, eo37⟩ := HA_HO466.out
 clear HA_HO466
 subst eo37
 refine norm_ (a' := ?_) ?_ ?_
 rotate_left
 exact z99j
 refine one_ (i := 3) (N := some 23) (bs "YYYYYYXXYYYYYXXXX") rfl rfl (one_of HT_.out (by kernel_rfl)) (by decide) (fun K hK => ?_)
 refine Kd.R_lit_step Kd.string _ 9 ?hg (N := 23) ?hd (xs := ([(⟨#[]⟩ : ByteArray), (⟨#[122, 122]⟩ : ByteArray), strOfNums y454] : List ByteArray)) (inner := [.string (⟨#[]⟩ : ByteArray), .string (⟨#[122, 122]⟩ : ByteArray), .string (strOfNums y454)]) (ok := fun _ => True) (okp := fun _ => True) ?hr ?hp (fun _ hk => hk) trivial (Below.refl _ _) (Nat.le_refl _) (by simp) ?_; (case hd => rfl); (case hg => rfl); (case hr => first | (go_simp; done) | (go_simp; rfl)); (case hp => exact (Reps.one (show Kd.M Kd.string _ _ _ (⟨#[]⟩ : ByteArray) [.string (⟨#[]⟩ : ByteArray)] from rfl) (Reps.one (show Kd.M Kd.string _ _ _ (⟨#[122, 122]⟩ : ByteArray) [.string (⟨#[122, 122]⟩ : ByteArray)] from rfl) (Reps.one (show Kd.M Kd.string _ _ _ (strOfNums y454) [.string (strOfNums y454)] from rfl) (Reps.none _ _)))))
 intro v458 w38 ho39 hb hg_ hnew_
 clear hg_ hnew_
 (first | rw [← Ny457.out] at ho39 | (simp only [Int.reduceToNat] at ho39; rw [← Ny457.out] at ho39))
 have n0_ := A_ (Kd.R_below z99d hb)
 have n1_ := A_ (Kd.R_below z99f hb)
 have n2_ := A_ (Kd.R_below z99g hb)
 have n3_ := A_ (Kd.R_lower ho39 (keep_size (w := w) (g := g) (row := none) z99b))
 have n4_ := A_ (IsS105.below z99a hb)
 have n5_ := A_ (KeepBut.trans z99b (KeepBut.of_below hb g none) (.inl rfl))
 have n6_ := A_ (below_step z99c hb)
 clear HO436
 clear HO456
 clear HO466
 clear HI0
 clear HK
 clear HB
 have HO436 := n0_
 have HO456 := n1_
 have HO466 := n2_
 have HO459 := n3_
 have HI0 := n4_
 have HK := n5_
 have HB := n6_
 clear n0_ n1_ n2_ n3_ n4_ n5_ n6_
 clear hb ho39
 obtain ⟨Ao40, co40, eo40⟩ := Kd.R_slice HO459.out
 subst eo40
 obtain ⟨ado40, fo40, _⟩ := Kd.at_string (Kd.R_reads' HO459.out).2.2 0 (by decide) (by rw [Ny457.out]; simp)
 cases fo40
 refine hK.out _ _ trivial (fun hHeld => ?_)
 clear hK K
 refine norm_ (nz_ 23) ?_
 refine pu_ 6 (some 26) (bs "YYYYYYYXYYYYYXXXX") ?_
 exact norm_ z99e (hJ1_2_3_5_8_10_12 (v455, .slice (some ado40) y457.length co40, ado40, .slice (some adz_v465) y464.length co37, adz_v465) _ ⟨z99d, z99f, z99i, z99g, ⟨_, rfl⟩, ⟨_, rfl⟩, z99a, z99b, z99c⟩)
 }
 }
 {
 skip
 rintro ⟨v455, v458, adz_v458, v465, adz_v465⟩ w39 ⟨h0_, h1_, h2_, h3_, h4_, h5_, h6_, h7_, h8_⟩
 have n0_ : Aside0 (Kd.R k49 49 w39 w.heap.size (fun _ => True) (.slice Ao26 t434.length co26) t434) := ⟨h0_⟩
 have n1_ : Aside0 (Kd.R (Kd.int .u8) 5 w39 w.heap.size (fun _ => True) v455 y454) := ⟨h1_⟩
 have n2_ : Aside0 (Kd.R Kd.string 9 w39 w.heap.size (fun _ => True) v458 y457) := ⟨h2_⟩
 have n3_ : Aside0 (Kd.R (Kd.int .i64) 2 w39 w.heap.size (fun _ => True) v465 y464) := ⟨h3_⟩
 have n4_ : Aside0 (∃ c_, (v458 : Value) = .slice (some adz_v458) y457.length c_) := ⟨h4_⟩
 have n5_ : Aside0 (∃ c_, (v465 : Value) = .slice (some adz_v465) y464.length c_) := ⟨h5_⟩
 have n6_ : Aside0 (IsS105 w0 w39 g s0_0 t468 t469) := ⟨h6_⟩
 have n7_ : Aside0 (KeepBut w w39 g none) := ⟨h7_⟩
 have n8_ : Aside0 (Below w0.heap.size w0 w39) := ⟨h8_⟩
 clear HO436
 clear HI0
 clear HK
 clear HB
 clear h0_ h1_ h2_ h3_ h4_ h5_ h6_ h7_ h8_
 have HO436 := n0_
 have HO456 := n1_
 have HO459 := n2_
 have HO466 := n3_
 have HA_HO459 := n4_
 have HA_HO466 := n5_
 have HI0 := n6_
 have HK := n7_
 have HB := n8_
 clear n0_ n1_ n2_ n3_ n4_ n5_ n6_ n7_ n8_
 have hHeld := trivial
 obtain ⟨co40, eo40⟩ := HA_HO459.out
 clear HA_HO459
 subst eo40
 obtain ⟨co41, eo41⟩ := HA_HO466.out
 clear HA_HO466
 subst eo41
 refine norm_ (a' := ?_) ?_ ?_
 rotate_left
 exact z99j
 refine two_ (i := 7) (j := 12) (Ni := some 27) (Nj := some 32) (bs "YYYYYYYYYYYYXXXXX") (bs "YYYYYYYXYYYYYXXXX") rfl rfl rfl rfl (two_of HT_.out (by kernel_rfl)) (by decide) (by decide) (fun K hK => ?_) (fun K hK => ?_)
 {
 skip
 (have p463 : 0 ≤ (t460 : Int) := of_decide_eq_true z99l; have q463 : t460 < (y457.length : Int) := of_decide_eq_true z99l; obtain ⟨ad463, e463, hx463_0⟩ := Kd.at_string (Kd.R_reads' HO459.out).2.2 t460 p463 q463; obtain rfl : adz_v458 = ad463 := (by injection e463))
 refine value_ (w1 := ?_) (v := ?_) (by rfl) rfl ?_ ?_
 rotate_left 2
 {
 go_simp
 constructor
 {
 rfl
 }
 {
 rfl
 }
 }
 clear hx463_0
 refine hK.out _ _ trivial (fun hHeld => ?_)
 clear hK K
 refine norm_ (nz_ 27) ?_
 exact norm_ z99e (hJ1_2_3_5_7_8_10 (v455, .slice (some adz_v458) y457.length co40, adz_v458, .slice (some adz_v465) y464.length co41, adz_v465) _ ⟨z99d, z99f, z99i, z99g, ⟨_, rfl⟩, ⟨_, rfl⟩, z99a, z99b, z99c⟩)
 }
 {
 skip
 (have p470 : 0 ≤ (t467 : Int) := of_decide_eq_true z99l; have q470 : t467 < (y464.length : Int) := of_decide_eq_true z99l; obtain ⟨ad470, e470, hx470_0⟩ := Kd.at_int (Kd.R_reads' HO466.out).2.2 t467 p470 q470; obtain rfl : adz_v465 = ad470 := (by injection e470))
 refine value_ (w1 := ?_) (v := ?_) (by rfl) rfl ?_ ?_
 rotate_left 2
 {
 go_simp
 constructor
 {
 rfl
 }
 {
 rfl
 }
 }
 clear hx470_0
 refine hK.out _ _ trivial (fun hHeld => ?_)
 clear hK K
 refine norm_ (nz_ 32) ?_
 exact norm_ z99e (hJ1_2_3_5_8_10_12 (v455, .slice (some adz_v458) y457.length co40, adz_v458, .slice (some adz_v465) y464.length co41, adz_v465) _ ⟨z99d, z99f, z99i, z99g, ⟨_, rfl⟩, ⟨_, rfl⟩, z99a, z99b, z99c⟩)
 }
 }
 }
 {
 skip
 rintro ⟨v455, v458, adz_v458⟩ w36 ⟨h0_, h1_, h2_, h3_, h4_, h5_, h6_⟩
 have n0_ : Aside0 (Kd.R k49 49 w36 w.heap.size (fun _ => True) (.slice Ao26 t434.length co26) t434) := ⟨h0_⟩
 have n1_ : Aside0 (Kd.R (Kd.int .u8) 5 w36 w.heap.size (fun _ => True) v455 y454) := ⟨h1_⟩
 have n2_ : Aside0 (Kd.R Kd.string 9 w36 w.heap.size (fun _ => True) v458 y457) := ⟨h2_⟩
 have n3_ : Aside0 (∃ c_, (v458 : Value) = .slice (some adz_v458) y457.length c_) := ⟨h3_⟩
 have n4_ : Aside0 (IsS105 w0 w36 g s0_0 t468 t469) := ⟨h4_⟩
 have n5_ : Aside0 (KeepBut w w36 g none) := ⟨h5_⟩
 have n6_ : Aside0 (Below w0.heap.size w0 w36) := ⟨h6_⟩
 clear HO436
 clear HI0
 clear HK
 clear HB
 clear h0_ h1_ h2_ h3_ h4_ h5_ h6_
 have HO436 := n0_
 have HO456 := n1_
 have HO459 := n2_
 have HA_HO459 := n3_
 have HI0 := n4_
 have HK := n5_
 have HB := n6_
 clear n0_ n1_ n2_ n3_ n4_ n5_ n6_
 have hHeld := trivial
 obtain ⟨co37, eo37⟩ := HA_HO459.out
 clear HA_HO459
 subst eo37
 refine norm_ (a' := ?_) ?_ ?_
 rotate_left
 exact z99j
 refine one_ (i := 8) (N := some 28) (bs "YYYYYYYYYYYXXXXXX") rfl rfl (one_of HT_.out (by kernel_rfl)) (by decide) (fun K hK => ?_)
 refine Kd.R_lit_step (Kd.int .i64) _ 2 ?hg (N := 28) ?hd (xs := ([0, 1, 1000000, 1000001] : List Int)) (inner := [.int .i64 0, .int .i64 1, .int .i64 1000000, .int .i64 1000001]) (ok := fun _ => True) (okp := fun _ => True) ?hr ?hp (fun _ hk => hk) trivial (Below.refl _ _) (Nat.le_refl _) (by simp) ?_; (case hd => rfl); (case hg => rfl); (case hr => first | (go_simp; done) | (go_simp; rfl)); (case hp => exact (Reps.one (show Kd.M (Kd.int .i64) _ _ _ 0 [.int .i64 0] from rfl) (Reps.one (show Kd.M (Kd.int .i64) _ _ _ 1 [.int .i64 1] from rfl) (Reps.one (show Kd.M (Kd.int .i64) _ _ _ 1000000 [.int .i64 1000000] from rfl) (Reps.one (show Kd.M (Kd.int .i64) _ _ _ 1000001 [.int .i64 1000001] from rfl) (Reps.none _ _))))))
 intro v465 w38 ho39 hb hg_ hnew_
 clear hg_ hnew_
 (first | rw [← Ny464.out] at ho39 | (simp only [Int.reduceToNat] at ho39; rw [← Ny464.out] at ho39))
 have n0_ := A_ (Kd.R_below z99d hb)
 have n1_ := A_ (Kd.R_below z99f hb)
 have n2_ := A_ (Kd.R_below z99i hb)
 have n3_ := A_ (Kd.R_lower ho39 (keep_size (w := w) (g := g) (row := none) z99b))
 have n4_ := A_ (IsS105.below z99a hb)
 have n5_ := A_ (KeepBut.trans z99b (KeepBut.of_below hb g none) (.inl rfl))
 have n6_ := A_ (below_step z99c hb)
 clear HO436
 clear HO456
 clear HO459
 clear HI0
 clear HK
 clear HB
 have HO436 := n0_
 have HO456 := n1_
 have HO459 := n2_
 have HO466 := n3_
 have HI0 := n4_
 have HK := n5_
 have HB := n6_
 clear n0_ n1_ n2_ n3_ n4_ n5_ n6_
 clear hb ho39
 obtain ⟨Ao40, co40, eo40⟩ := Kd.R_slice HO466.out
 subst eo40
 obtain ⟨ado40, fo40, _⟩ := Kd.at_int (Kd.R_reads' HO466.out).2.2 0 (by decide) (by rw [Ny464.out]; simp)
 cases fo40
 refine hK.out _ _ trivial (fun hHeld => ?_)
 clear hK K
 refine norm_ (nz_ 28) ?_
 refine pu_ 11 (some 31) (bs "YYYYYYYYYYYYXXXXX") ?_
 exact norm_ z99e (hJ1_2_3_5_7_8_10 (v455, .slice (some adz_v458) y457.length co37, adz_v458, .slice (some ado40) y464.length co40, ado40) _ ⟨z99d, z99f, z99i, z99g, ⟨_, rfl⟩, ⟨_, rfl⟩, z99a, z99b, z99c⟩)
 }
 }
 {
 skip
 rintro ⟨v455, v458, adz_v458, v465, adz_v465⟩ w38 ⟨h0_, h1_, h2_, h3_, h4_, h5_, h6_, h7_, h8_⟩
 have n0_ : Aside0 (Kd.R k49 49 w38 w.heap.size (fun _ => True) (.slice Ao26 t434.length co26) t434) := ⟨h0_⟩
 have n1_ : Aside0 (Kd.R (Kd.int .u8) 5 w38 w.heap.size (fun _ => True) v455 y454) := ⟨h1_⟩
 have n2_ : Aside0 (Kd.R Kd.string 9 w38 w.heap.size (fun _ => True) v458 y457) := ⟨h2_⟩
 have n3_ : Aside0 (Kd.R (Kd.int .i64) 2 w38 w.heap.size (fun _ => True) v465 y464) := ⟨h3_⟩
 have n4_ : Aside0 (∃ c_, (v458 : Value) = .slice (some adz_v458) y457.length c_) := ⟨h4_⟩
 have n5_ : Aside0 (∃ c_, (v465 : Value) = .slice (some adz_v465) y464.length c_) := ⟨h5_⟩
 have n6_ : Aside0 (IsS105 w0 w38 g s0_0 t461 t462) := ⟨h6_⟩
 have n7_ : Aside0 (KeepBut w w38 g none) := ⟨h7_⟩
 have n8_ : Aside0 (Below w0.heap.size w0 w38) := ⟨h8_⟩
 clear HO436
 clear HI0
 clear HK
 clear HB
 clear h0_ h1_ h2_ h3_ h4_ h5_ h6_ h7_ h8_
 have HO436 := n0_
 have HO456 := n1_
 have HO459 := n2_
 have HO466 := n3_
 have HA_HO459 := n4_
 have HA_HO466 := n5_
 have HI0 := n6_
 have HK := n7_
 have HB := n8_
 clear n0_ n1_ n2_ n3_ n4_ n5_ n6_ n7_ n8_
 have hHeld := trivial
 obtain ⟨co39, eo39⟩ := HA_HO459.out
 clear HA_HO459
 subst eo39
 obtain ⟨co40, eo40⟩ := HA_HO466.out
 clear HA_HO466
 subst eo40
 refine norm_ (a' := ?_) ?_ ?_
 rotate_left
 exact z99j
 refine one_ (i := 10) (N := some 30) (bs "YYYYYYYYYYYXXXXXX") rfl rfl (one_of HT_.out (by kernel_rfl)) (by decide) (fun K hK => ?_)
 refine goes_ Try.func95 (by kernel_rfl) rfl #[.pointer (some ⟨g, 0, none⟩), .int .i64 4] (by rfl) rfl rfl z99h ?_
 with_reducible refine (spec_l1Below.calls g s0_0 t461 t462 4 t467 t468 t469 w0 _ ?side1 ?side2 A19.out).mono ?_
 (case side1 => exact z99a)
 (case side2 => exact z99c)
 rintro e w41 ⟨rfl, hi, hb, hk⟩
 refine ⟨_, rfl, ?_⟩
 replace HO436 := A_ (Kd.R_mono (Kd.R_keep (IsS105.apart (show IsS105 w0 _ g s0_0 t461 t462 from z99a) z99d (by decide)) hk (fun _ h => h.2)) (fun _ h => h.1))
 replace HO456 := A_ (Kd.R_mono (Kd.R_keep (IsS105.apart (show IsS105 w0 _ g s0_0 t461 t462 from z99a) z99f (by decide)) hk (fun _ h => h.2)) (fun _ h => h.1))
 replace HO459 := A_ (Kd.R_mono (Kd.R_keep (IsS105.apart (show IsS105 w0 _ g s0_0 t461 t462 from z99a) z99i (by decide)) hk (fun _ h => h.2)) (fun _ h => h.1))
 replace HO466 := A_ (Kd.R_mono (Kd.R_keep (IsS105.apart (show IsS105 w0 _ g s0_0 t461 t462 from z99a) z99g (by decide)) hk (fun _ h => h.2)) (fun _ h => h.1))
 replace HK := A_ (KeepBut.trans z99b hk (.inl rfl))
 replace HB := A_ (hb)
 replace HI0 := A_ (hi)
 refine hK.out _ _ trivial (fun hHeld => ?_)
 clear hK K
 refine norm_ (nz_ 30) ?_
 refine pu_ 11 (some 31) (bs "YYYYYYYYYYYYXXXXX") ?_
 exact norm_ z99e (hJ1_2_3_5_7_8_10 (v455, .slice (some adz_v458) y457.length co39, adz_v458, .slice (some adz_v465) y464.length co40, adz_v465) _ ⟨z99d, z99f, z99i, z99g, ⟨_, rfl⟩, ⟨_, rfl⟩, z99a, z99b, z99c⟩)
 }
 }
 {
 skip
 rintro ⟨v455, v458, adz_v458, v465, adz_v465⟩ w39 ⟨h0_, h1_, h2_, h3_, h4_, h5_, h6_, h7_, h8_⟩
 have n0_ : Aside0 (Kd.R k49 49 w39 w.heap.size (fun _ => True) (.slice Ao26 t434.length co26) t434) := ⟨h0_⟩
 have n1_ : Aside0 (Kd.R (Kd.int .u8) 5 w39 w.heap.size (fun _ => True) v455 y454) := ⟨h1_⟩
 have n2_ : Aside0 (Kd.R Kd.string 9 w39 w.heap.size (fun _ => True) v458 y457) := ⟨h2_⟩
 have n3_ : Aside0 (Kd.R (Kd.int .i64) 2 w39 w.heap.size (fun _ => True) v465 y464) := ⟨h3_⟩
 have n4_ : Aside0 (∃ c_, (v458 : Value) = .slice (some adz_v458) y457.length c_) := ⟨h4_⟩
 have n5_ : Aside0 (∃ c_, (v465 : Value) = .slice (some adz_v465) y464.length c_) := ⟨h5_⟩
 have n6_ : Aside0 (IsS105 w0 w39 g s0_0 t468 t469) := ⟨h6_⟩
 have n7_ : Aside0 (KeepBut w w39 g none) := ⟨h7_⟩
 have n8_ : Aside0 (Below w0.heap.size w0 w39) := ⟨h8_⟩
 clear HO436
 clear HI0
 clear HK
 clear HB
 clear h0_ h1_ h2_ h3_ h4_ h5_ h6_ h7_ h8_
 have HO436 := n0_
 have HO456 := n1_
 have HO459 := n2_
 have HO466 := n3_
 have HA_HO459 := n4_
 have HA_HO466 := n5_
 have HI0 := n6_
 have HK := n7_
 have HB := n8_
 clear n0_ n1_ n2_ n3_ n4_ n5_ n6_ n7_ n8_
 have hHeld := trivial
 obtain ⟨co40, eo40⟩ := HA_HO459.out
 clear HA_HO459
 subst eo40
 obtain ⟨co41, eo41⟩ := HA_HO466.out
 clear HA_HO466
 subst eo41
 refine norm_ (a' := ?_) ?_ ?_
 rotate_left
 exact z99j
 refine one_ (i := 7) (N := some 27) (bs "YYYYYYYYYYYYYXXXX") rfl rfl (one_of HT_.out (by kernel_rfl)) (by decide) (fun K hK => ?_)
 (have p463 : 0 ≤ (t460 : Int) := of_decide_eq_true z99l; have q463 : t460 < (y457.length : Int) := of_decide_eq_true z99l; obtain ⟨ad463, e463, hx463_0⟩ := Kd.at_string (Kd.R_reads' HO459.out).2.2 t460 p463 q463; obtain rfl : adz_v458 = ad463 := (by injection e463))
 refine value_ (w1 := ?_) (v := ?_) (by rfl) rfl ?_ ?_
 rotate_left 2
 {
 go_simp
 constructor
 {
 rfl
 }
 {
 rfl
 }
 }
 clear hx463_0
 refine hK.out _ _ trivial (fun hHeld => ?_)
 clear hK K
 refine norm_ (nz_ 27) ?_
 exact norm_ z99e (hJ1_2_3_5_7_8_10_12 (v455, .slice (some adz_v458) y457.length co40, adz_v458, .slice (some adz_v465) y464.length co41, adz_v465) _ ⟨z99d, z99f, z99i, z99g, ⟨_, rfl⟩, ⟨_, rfl⟩, z99a, z99b, z99c⟩)
 }
 }
 {
 skip
 rintro ⟨v455, v458, adz_v458, v465, adz_v465⟩ w39 ⟨h0_, h1_, h2_, h3_, h4_, h5_, h6_, h7_, h8_⟩
 have n0_ : Aside0 (Kd.R k49 49 w39 w.heap.size (fun _ => True) (.slice Ao26 t434.length co26) t434) := ⟨h0_⟩
 have n1_ : Aside0 (Kd.R (Kd.int .u8) 5 w39 w.heap.size (fun _ => True) v455 y454) := ⟨h1_⟩
 have n2_ : Aside0 (Kd.R Kd.string 9 w39 w.heap.size (fun _ => True) v458 y457) := ⟨h2_⟩
 have n3_ : Aside0 (Kd.R (Kd.int .i64) 2 w39 w.heap.size (fun _ => True) v465 y464) := ⟨h3_⟩
 have n4_ : Aside0 (∃ c_, (v458 : Value) = .slice (some adz_v458) y457.length c_) := ⟨h4_⟩
 have n5_ : Aside0 (∃ c_, (v465 : Value) = .slice (some adz_v465) y464.length c_) := ⟨h5_⟩
 have n6_ : Aside0 (IsS105 w0 w39 g s0_0 t468 t469) := ⟨h6_⟩
 have n7_ : Aside0 (KeepBut w w39 g none) := ⟨h7_⟩
 have n8_ : Aside0 (Below w0.heap.size w0 w39) := ⟨h8_⟩
 clear HO436
 clear HI0
 clear HK
 clear HB
 clear h0_ h1_ h2_ h3_ h4_ h5_ h6_ h7_ h8_
 have HO436 := n0_
 have HO456 := n1_
 have HO459 := n2_
 have HO466 := n3_
 have HA_HO459 := n4_
 have HA_HO466 := n5_
 have HI0 := n6_
 have HK := n7_
 have HB := n8_
 clear n0_ n1_ n2_ n3_ n4_ n5_ n6_ n7_ n8_
 have hHeld := trivial
 obtain ⟨co40, eo40⟩ := HA_HO459.out
 clear HA_HO459
 subst eo40
 obtain ⟨co41, eo41⟩ := HA_HO466.out
 clear HA_HO466
 subst eo41
 refine norm_ (a' := ?_) ?_ ?_
 rotate_left
 exact z99j
 refine one_ (i := 12) (N := some 32) (bs "YYYYYYYYYYYYYXXXX") rfl rfl (one_of HT_.out (by kernel_rfl)) (by decide) (fun K hK => ?_)
 (have p470 : 0 ≤ (t467 : Int) := of_decide_eq_true z99l; have q470 : t467 < (y464.length : Int) := of_decide_eq_true z99l; obtain ⟨ad470, e470, hx470_0⟩ := Kd.at_int (Kd.R_reads' HO466.out).2.2 t467 p470 q470; obtain rfl : adz_v465 = ad470 := (by injection e470))
 refine value_ (w1 := ?_) (v := ?_) (by rfl) rfl ?_ ?_
 rotate_left 2
 {
 go_simp
 constructor
 {
 rfl
 }
 {
 rfl
 }
 }
 clear hx470_0
 refine hK.out _ _ trivial (fun hHeld => ?_)
 clear hK K
 refine norm_ (nz_ 32) ?_
 exact norm_ z99e (hJ1_2_3_5_7_8_10_12 (v455, .slice (some adz_v458) y457.length co40, adz_v458, .slice (some adz_v465) y464.length co41, adz_v465) _ ⟨z99d, z99f, z99i, z99g, ⟨_, rfl⟩, ⟨_, rfl⟩, z99a, z99b, z99c⟩)
 }
 }
 rintro ⟨v455, v458, adz_v458, v465, adz_v465⟩ w39 ⟨h0_, h1_, h2_, h3_, h4_, h5_, h6_, h7_, h8_⟩
 have n0_ : Aside0 (Kd.R k49 49 w39 w.heap.size (fun _ => True) (.slice Ao26 t434.length co26) t434) := ⟨h0_⟩
 have n1_ : Aside0 (Kd.R (Kd.int .u8) 5 w39 w.heap.size (fun _ => True) v455 y454) := ⟨h1_⟩
 have n2_ : Aside0 (Kd.R Kd.string 9 w39 w.heap.size (fun _ => True) v458 y457) := ⟨h2_⟩
 have n3_ : Aside0 (Kd.R (Kd.int .i64) 2 w39 w.heap.size (fun _ => True) v465 y464) := ⟨h3_⟩
 have n4_ : Aside0 (∃ c_, (v458 : Value) = .slice (some adz_v458) y457.length c_) := ⟨h4_⟩
 have n5_ : Aside0 (∃ c_, (v465 : Value) = .slice (some adz_v465) y464.length c_) := ⟨h5_⟩
 have n6_ : Aside0 (IsS105 w0 w39 g s0_0 t468 t469) := ⟨h6_⟩
 have n7_ : Aside0 (KeepBut w w39 g none) := ⟨h7_⟩
 have n8_ : Aside0 (Below w0.heap.size w0 w39) := ⟨h8_⟩
 clear HO436
 clear HI0
 clear HK
 clear HB
 clear h0_ h1_ h2_ h3_ h4_ h5_ h6_ h7_ h8_
 have HO436 := n0_
 have HO456 := n1_
 have HO459 := n2_
 have HO466 := n3_
 have HA_HO459 := n4_
 have HA_HO466 := n5_
 have HI0 := n6_
 have HK := n7_
 have HB := n8_
 clear n0_ n1_ n2_ n3_ n4_ n5_ n6_ n7_ n8_
 have hHeld := trivial
 obtain ⟨co40, eo40⟩ := HA_HO459.out
 clear HA_HO459
 subst eo40
 obtain ⟨co41, eo41⟩ := HA_HO466.out
 clear HA_HO466
 subst eo41
 refine norm_ (a' := ?_) ?_ ?_
 rotate_left
 exact z99j
 refine pu_ 13 (some 33) (bs "YYYYYYYYYYYYYYXXX") ?_
 refine one_ (i := 14) (N := some 34) (bs "YYYYYYYYYYYYYYYXX") rfl rfl (one_of HT_.out (by kernel_rfl)) (by decide) (fun K hK => ?_)
 refine value_ (w1 := ?_) (v := ?_) (by rfl) rfl ?_ ?_
 rotate_left 2
 {
 go_simp
 constructor
 {
 rfl
 }
 {
 rfl
 }
 }
 refine hK.out _ _ trivial (fun hHeld => ?_)
 clear hK K
 refine norm_ (nz_ 34) ?_
 refine one_ (i := 15) (N := some 35) (bs "YYYYYYYYYYYYYYYYX") rfl rfl (one_of HT_.out (by kernel_rfl)) (by decide) (fun K hK => ?_)
 refine Kd.R_append_step k49 w.heap.size (by rfl) (.tmp 20) (.tmp 34) 44 49 (.agg #[(.string ⟨#[]⟩), (.string ⟨#[]⟩), (.int .i64 0), (.bool false)]) 48 rfl Try.underlying44 info49 rfl (by decide) (by omega) (.slice Ao26 t434.length co26) t434 (⟨rdOf ByteArray.empty y457 t460, (⟨#[]⟩ : ByteArray), rd y464 t467, false⟩ : S49) [.string (rdOf ByteArray.empty y457 t460), .string (⟨#[]⟩ : ByteArray), .int .i64 (rd y464 t467), .bool false] (fun _ => True) (fun _ => False) rfl rfl ?aP (fun _ hk => hk.elim) ?aF ?aO (Below.refl _ _) ?aS ?aL ?_
 (case aP => exact k49_mkM _ _ _ (⟨rdOf ByteArray.empty y457 t460, (⟨#[]⟩ : ByteArray), rd y464 t467, false⟩ : S49))
 (case aF => exact (fun _ _ => trivial))
 (case aO => exact z99d)
 (case aS => exact (keep_size (w := w) (g := g) (row := none) z99b))
 (case aL => have := LMc22.out; omega)
 intro v472 w42 ho hb hg hat
 rw [← Ny471.out] at ho
 have n0_ := A_ (IsS105.grown z99a hg (IsS105.own_ne HI0.out HO436.out (by decide)))
 have n1_ := A_ (Kd.R_over' z99f (Kd.R_typed z99d) (by decide) hg)
 have n2_ := A_ (Kd.R_over' z99i (Kd.R_typed z99d) (by decide) hg)
 have n3_ := A_ (Kd.R_over' z99g (Kd.R_typed z99d) (by decide) hg)
 have n4_ := A_ (below_weaken z99c HL.out hb)
 have n5_ := A_ (KeepBut.trans z99b (KeepBut.of_grown hg g) (Kd.R_base2 HO436.out))
 have n6_ := A_ (ho)
 clear HI0
 clear HO456
 clear HO459
 clear HO466
 clear HB
 clear HK
 clear HO436
 have HI0 := n0_
 have HO456 := n1_
 have HO459 := n2_
 have HO466 := n3_
 have HB := n4_
 have HK := n5_
 have HO473 := n6_
 clear n0_ n1_ n2_ n3_ n4_ n5_ n6_
 clear ho hb hg hat
 refine hK.out _ _ trivial (fun hHeld => ?_)
 clear hK K
 refine norm_ (nz_ 35) ?_
 refine pu_ 16 (some 3) (bs "YYYYYYYYYYYYYYYYY") ?_
 refine done_ (done_of HT_.out (by kernel_rfl)) ?_
 try go_wp2
 go_ret
 exact ⟨_, by first | rfl | (simp [errW_none, errW_some] <;> rfl) | (simp [*, errW_none, errW_some] <;> rfl), by (with_reducible repeat (first | apply Kd.R_alloc | apply Kd.R_drewN | apply Kd.R_drew)); exact HO473.out, by repeat (first | (with_reducible first | exact HI0.out | apply IsS105.alloc | apply IsS105.drewN | apply IsS105.drew | apply IsS105.set_1 | apply IsS105.set_2) | exact HI0.out), by repeat (first | (with_reducible first | exact HB.out | apply below_alloc | apply pw_below_drewN | apply below_drew1 | refine below_set ?_ (IsS105.ge HI0.out)) | exact HB.out), by repeat (first | (with_reducible first | exact HK.out | apply KeepBut.set_ | apply keep_drewN | apply keep_drew | apply keep_alloc) | exact HK.out)⟩
 }
 {
 rw [if_neg c22] at H
 exact absurd H (by simp)
 }
 }
 {
 rw [if_neg c21] at H
 exact absurd H (by simp)
 }
 }
 {
 rw [if_neg c20] at H
 exact absurd H (by simp)
 }
 }
 {
 rw [if_neg c18] at H
 exact absurd H (by simp)
 }
 }
 {
 rw [if_neg c17] at H
 exact absurd H (by simp)
 }
 }
 {
 rw [if_neg c15] at H
 exact absurd H (by simp)
 }
 }
 {
 rw [if_neg c14] at H
 have c14b0 : (t442 == 1) = false := beq_eq_false_iff_ne.mpr c14
 have c14b1 : (t442 != 1) = true := bne_iff_ne.mpr c14
 by_cases c43 : t442 = 2
 {
 rw [if_pos c43] at H
 have c43b0 : (t442 == 2) = true := beq_iff_eq.mpr c43
 have c43b1 : (t442 != 2) = false := bne_eq_false_iff_eq.mpr c43
 clear c43
 replace H := Option.bind_eq_some_iff.mp H
 obtain ⟨⟨t474, t475, t476⟩, A440, H⟩ := H
 (try dsimp only at H)
 have A44 := A_ A440
 clear A440
 obtain ⟨ji45, hji45⟩ : ∃ j_ : Int, (wrap64 (200 + t474)) = j_ := ⟨_, rfl⟩
 replace H : (if 0 ≤ (ji45) then (if (ji45 : Int).toNat ≤ 281474976710656 then ((spec_l1Once.f s0_0 t475 t476 2).bind fun bt480 => (if t434.length < 2932031007402 then (some ((t434 ++ [(⟨(⟨#[122, 122]⟩ : ByteArray), strOfNums (List.replicate (ji45 : Int).toNat 0), 1, bt480.1⟩ : S49)]), bt480.2.1, bt480.2.2)) else (none))) else (none)) else (none)) = some (r1, r2, r3) := by first | (rw [hji45] at H; exact H) | (simp only [hji45] at H ⊢; exact H)
 (try rw [hji45])
 (try rw [hji45] at A2)
 (try rw [hji45] at A3)
 (try rw [hji45] at A5)
 (try rw [hji45] at A44)
 have hji45w : (IntKind.i64.wrap (200 + t474)) = ji45 := (i64_w _).trans hji45
 by_cases c46 : 0 ≤ (ji45)
 {
 rw [if_pos c46] at H
 have c46b0 := eq_true c46
 have c46b1 : decide (0 ≤ (ji45)) = true := decide_eq_true c46
 clear c46
 by_cases c47 : (ji45 : Int).toNat ≤ 281474976710656
 {
 rw [if_pos c47] at H
 have c47b0 := eq_true c47
 have c47b1 : decide ((ji45 : Int).toNat ≤ 281474976710656) = true := decide_eq_true c47
 clear c47
 obtain ⟨y477, hy477⟩ : ∃ y_ : List Int, y_ = (List.replicate (ji45 : Int).toNat 0) := ⟨_, rfl⟩
 replace H : ((spec_l1Once.f s0_0 t475 t476 2).bind fun bt480 => (if t434.length < 2932031007402 then (some ((t434 ++ [(⟨(⟨#[122, 122]⟩ : ByteArray), strOfNums y477, 1, bt480.1⟩ : S49)]), bt480.2.1, bt480.2.2)) else (none))) = some (r1, r2, r3) := by first | (rw [hy477]; with_reducible exact H) | (have H2_ := (Option.bind_some _ _).symm.trans H; rw [hy477]; with_reducible exact H2_) | (have H2_ := (Option.bind_some _ _).symm.trans H; with_reducible exact H2_) | with_reducible exact H | (rw [hy477]; exact H) | exact H
 have Ny477 := A_ hy477
 clear hy477
 replace H := Option.bind_eq_some_iff.mp H
 obtain ⟨⟨t480, t481, t482⟩, A480, H⟩ := H
 (try dsimp only at H)
 have A48 := A_ A480
 clear A480
 by_cases c49 : t434.length < 2932031007402
 {
 rw [if_pos c49] at H
 have LMc49 := A_ c49
 clear c49
 obtain ⟨y483, hy483⟩ : ∃ y_ : List (S49), y_ = (t434 ++ [(⟨(⟨#[122, 122]⟩ : ByteArray), strOfNums y477, 1, t480⟩ : S49)]) := ⟨_, rfl⟩
 replace H : (some (y483, t481, t482)) = some (r1, r2, r3) := by first | (rw [hy483]; with_reducible exact H) | (have H2_ := (Option.bind_some _ _).symm.trans H; rw [hy483]; with_reducible exact H2_) | (have H2_ := (Option.bind_some _ _).symm.trans H; with_reducible exact H2_) | with_reducible exact H | (rw [hy483]; exact H) | exact H
 have Ny483 := A_ hy483
 clear hy483
 simp only [Option.some.injEq, Prod.mk.injEq] at H
 obtain ⟨rfl, rfl, rfl⟩ := H
 go_enter Try.func99, Try.ntmps99
 try go_wp2_with (first | ((with_reducible refine gate_callee (f := 108) rfl ?_); refine goesL_ (some 6) rfl rfl Try.func108 (by kernel_rfl) rfl #[.pointer (some ⟨g, 0, none⟩), .int .i64 1, .int .i64 10] rfl z99h ?_; (with_reducible refine (spec_l3DrawFrom.calls k g s0_0 s0_1 s0_2 1 10 t434 t437 t438 w0 _ ?side1 ?side2 A2.out).mono ?_); (case side1 => exact z99a); (case side2 => exact z99c); rintro e w50 ⟨v435, rfl, ho0, hi, hb, hk⟩; refine ⟨_, rfl, ?_⟩; have n0_ := A_ (Kd.R_lower ho0 (keep_size (w := w) (g := g) (row := none) z99b)); have n1_ := A_ (KeepBut.trans z99b hk (.inl rfl)); have n2_ := A_ (hb); have n3_ := A_ (hi); clear HK; clear HB; clear HI0; have HO436 := n0_; have HK := n1_; have HB := n2_; have HI0 := n3_; clear n0_ n1_ n2_ n3_) | ((with_reducible refine gate_callee (f := 94) rfl ?_); refine goesL_ (some 8) rfl rfl Try.func94 (by kernel_rfl) rfl #[.pointer (some ⟨g, 0, none⟩), .int .i64 12] rfl z99h ?_; (with_reducible refine (spec_l1Once.calls g s0_0 t437 t438 12 true t440 t441 w0 _ ?side1 ?side2 A3.out).mono ?_); (case side1 => exact z99a); (case side2 => exact z99c); rintro e w51 ⟨rfl, hi, hb, hk⟩; refine ⟨_, rfl, ?_⟩; replace HO436 := A_ (Kd.R_mono (Kd.R_keep (IsS105.apart (show IsS105 w0 _ g s0_0 t437 t438 from z99a) z99d (by decide)) hk (fun _ h => h.2)) (fun _ h => h.1)); replace HK := A_ (KeepBut.trans z99b hk (.inl rfl)); replace HB := A_ (hb); replace HI0 := A_ (hi)) | ((with_reducible refine gate_callee (f := 95) rfl ?_); refine goesL_ (some 10) rfl rfl Try.func95 (by kernel_rfl) rfl #[.pointer (some ⟨g, 0, none⟩), .int .i64 4] rfl z99h ?_; (with_reducible refine (spec_l1Below.calls g s0_0 t440 t441 4 t442 t443 t444 w0 _ ?side1 ?side2 A5.out).mono ?_); (case side1 => exact z99a); (case side2 => exact z99c); rintro e w52 ⟨rfl, hi, hb, hk⟩; refine ⟨_, rfl, ?_⟩; replace HO436 := A_ (Kd.R_mono (Kd.R_keep (IsS105.apart (show IsS105 w0 _ g s0_0 t440 t441 from z99a) z99d (by decide)) hk (fun _ h => h.2)) (fun _ h => h.1)); replace HK := A_ (KeepBut.trans z99b hk (.inl rfl)); replace HB := A_ (hb); replace HI0 := A_ (hi); obtain ⟨Ao53, co53, eo53⟩ := Kd.R_slice HO436.out; subst eo53))
 replace HO436 := A_ (Kd.R_drew HO436.out)
 replace HI0 := A_ (IsS105.drew HI0.out)
 replace HK := A_ (keep_drew HK.out)
 replace HB := A_ (below_drew1 HB.out)
 refine start_ (n := 12) (S := fun w' => True) (ds := []) (bs "XXXXXXXXXXXX") (by kernel_rfl) rfl rfl trivial (fun hHeld => ?_); refine with_tabW spec_l3DrawAny.tab9 spec_l3DrawAny.bits9 (fun HT_ HW_ => ?_)
 generalize w52.drew = w54 at HO436 HI0 HK HB hHeld ⊢
 refine pu_ 0 (some 38) (bs "YXXXXXXXXXXX") ?_
 refine pu_ 1 (some 39) (bs "YYXXXXXXXXXX") ?_
 refine pu_ 6 (some 44) (bs "YYXXXXYXXXXX") ?_
 refine one_ (i := 2) (N := some 40) (bs "YYYXXXYXXXXX") rfl rfl (one_of HT_.out (by kernel_rfl)) (by decide) (fun K hK => ?_)
 refine goes_ Try.func95 (by kernel_rfl) rfl #[.pointer (some ⟨g, 0, none⟩), .int .i64 2] (by rfl) rfl rfl z99h ?_
 with_reducible refine (spec_l1Below.calls g s0_0 t443 t444 2 t474 t475 t476 w0 _ ?side1 ?side2 A44.out).mono ?_
 (case side1 => exact z99a)
 (case side2 => exact z99c)
 rintro e w55 ⟨rfl, hi, hb, hk⟩
 refine ⟨_, rfl, ?_⟩
 replace HO436 := A_ (Kd.R_mono (Kd.R_keep (IsS105.apart (show IsS105 w0 _ g s0_0 t443 t444 from z99a) z99d (by decide)) hk (fun _ h => h.2)) (fun _ h => h.1))
 replace HK := A_ (KeepBut.trans z99b hk (.inl rfl))
 replace HB := A_ (hb)
 replace HI0 := A_ (hi)
 refine hK.out _ _ trivial (fun hHeld => ?_)
 clear hK K
 refine norm_ (nz_ 40) ?_
 refine pu_ 3 (some 41) (bs "YYYYXXYXXXXX") ?_
 refine join_ (σ := Value) 4 (bs "YYYYYYYYXXXX") (fun s_ => [(42, s_), (43, .string (strOfNums y477)), (45, .bool t480)]) (fun s_ w' => (Kd.R k49 49 w' w.heap.size (fun _ => True) (.slice Ao53 t434.length co53) t434) ∧ (Kd.R (Kd.int .u8) 5 w' w.heap.size (fun _ => True) s_ y477) ∧ (IsS105 w0 w' g s0_0 t481 t482) ∧ (KeepBut w w' g none) ∧ (Below w0.heap.size w0 w')) ?_ ?_
 rotate_left
 {
 intro hCont
 refine two_ (i := 4) (j := 7) (Ni := some 42) (Nj := some 45) (bs "YYYYYXYXXXXX") (bs "YYYYXXYYXXXX") rfl rfl rfl rfl (two_of HT_.out (by kernel_rfl)) (by decide) (by decide) (fun K hK => ?_) (fun K hK => ?_)
 {
 skip
 refine Kd.R_make_step (Kd.int .u8) _ 5 (by rfl) (N := 42) rfl 22 _ _ rfl ji45 rfl rfl Try.underlying22 (.int .u8 0) 1 info5 rfl (by decide) (by omega) 0 (ok := fun _ => True) (okp := fun _ => True) rfl (fun _ hk => hk) trivial (of_decide_eq_true z99l) (Nat.le_trans (Nat.mul_le_mul_right _ (of_decide_eq_true z99l : ji45.toNat ≤ 281474976710656)) (by omega)) (Below.refl _ _) (Nat.le_refl _) ?_
 intro v478 w56 ho57 hb hg_ hnew_
 clear hg_ hnew_
 (first | rw [← Ny477.out] at ho57 | (simp only [Int.reduceToNat] at ho57; rw [← Ny477.out] at ho57))
 have n0_ := A_ (Kd.R_below z99d hb)
 have n1_ := A_ (Kd.R_lower ho57 (keep_size (w := w) (g := g) (row := none) z99b))
 have n2_ := A_ (IsS105.below z99a hb)
 have n3_ := A_ (KeepBut.trans z99b (KeepBut.of_below hb g none) (.inl rfl))
 have n4_ := A_ (below_step z99c hb)
 clear HO436
 clear HI0
 clear HK
 clear HB
 have HO436 := n0_
 have HO479 := n1_
 have HI0 := n2_
 have HK := n3_
 have HB := n4_
 clear n0_ n1_ n2_ n3_ n4_
 clear hb ho57
 refine hK.out _ _ trivial (fun hHeld => ?_)
 clear hK K
 refine norm_ (nz_ 42) ?_
 refine two_ (i := 5) (j := 7) (Ni := some 43) (Nj := some 45) (bs "YYYYYYYXXXXX") (bs "YYYYYXYYXXXX") rfl rfl rfl rfl (two_of HT_.out (by kernel_rfl)) (by decide) (by decide) (fun K hK => ?_) (fun K hK => ?_)
 {
 skip
 have hcv58 := own_string (P := Try.prog) Try.underlying22 Try.underlying5 Try.underlying9 (Kd.own_of_R HO479.out)
 refine value_ (w1 := ?_) (v := ?_) (by rfl) rfl ?_ ?_
 rotate_left 2
 {
 go_simp
 constructor
 {
 rfl
 }
 {
 rfl
 }
 }
 clear hcv58
 refine hK.out _ _ trivial (fun hHeld => ?_)
 clear hK K
 refine norm_ (nz_ 43) ?_
 refine one_ (i := 7) (N := some 45) (bs "YYYYYYYYXXXX") rfl rfl (one_of HT_.out (by kernel_rfl)) (by decide) (fun K hK => ?_)
 refine goes_ Try.func94 (by kernel_rfl) rfl #[.pointer (some ⟨g, 0, none⟩), .int .i64 2] (by rfl) rfl rfl z99h ?_
 with_reducible refine (spec_l1Once.calls g s0_0 t475 t476 2 t480 t481 t482 w0 _ ?side1 ?side2 A48.out).mono ?_
 (case side1 => exact z99a)
 (case side2 => exact z99c)
 rintro e w59 ⟨rfl, hi, hb, hk⟩
 refine ⟨_, rfl, ?_⟩
 replace HO436 := A_ (Kd.R_mono (Kd.R_keep (IsS105.apart (show IsS105 w0 _ g s0_0 t475 t476 from z99a) z99d (by decide)) hk (fun _ h => h.2)) (fun _ h => h.1))
 replace HO479 := A_ (Kd.R_mono (Kd.R_keep (IsS105.apart (show IsS105 w0 _ g s0_0 t475 t476 from z99a) z99m (by decide)) hk (fun _ h => h.2)) (fun _ h => h.1))
 replace HK := A_ (KeepBut.trans z99b hk (.inl rfl))
 replace HB := A_ (hb)
 replace HI0 := A_ (hi)
 refine hK.out _ _ trivial (fun hHeld => ?_)
 clear hK K
 refine norm_ (nz_ 45) ?_
 exact norm_ (by simp only [putAll, Act.put, List.setIfInBounds_toArray, List.set_cons_zero, List.set_cons_succ]) (hCont (v478) _ ⟨z99d, z99m, z99a, z99b, z99c⟩)
 }
 {
 skip
 refine goes_ Try.func94 (by kernel_rfl) rfl #[.pointer (some ⟨g, 0, none⟩), .int .i64 2] (by rfl) rfl rfl z99h ?_
 with_reducible refine (spec_l1Once.calls g s0_0 t475 t476 2 t480 t481 t482 w0 _ ?side1 ?side2 A48.out).mono ?_
 (case side1 => exact z99a)
 (case side2 => exact z99c)
 rintro e w58 ⟨rfl, hi, hb, hk⟩
 refine ⟨_, rfl, ?_⟩
 replace HO436 := A_ (Kd.R_mono (Kd.R_keep (IsS105.apart (show IsS105 w0 _ g s0_0 t475 t476 from z99a) z99d (by decide)) hk (fun _ h => h.2)) (fun _ h => h.1))
 replace HO479 := A_ (Kd.R_mono (Kd.R_keep (IsS105.apart (show IsS105 w0 _ g s0_0 t475 t476 from z99a) z99m (by decide)) hk (fun _ h => h.2)) (fun _ h => h.1))
 replace HK := A_ (KeepBut.trans z99b hk (.inl rfl))
 replace HB := A_ (hb)
 replace HI0 := A_ (hi)
 refine hK.out _ _ trivial (fun hHeld => ?_)
 clear hK K
 refine norm_ (nz_ 45) ?_
 refine one_ (i := 5) (N := some 43) (bs "YYYYYYYYXXXX") rfl rfl (one_of HT_.out (by kernel_rfl)) (by decide) (fun K hK => ?_)
 have hcv59 := own_string (P := Try.prog) Try.underlying22 Try.underlying5 Try.underlying9 (Kd.own_of_R HO479.out)
 refine value_ (w1 := ?_) (v := ?_) (by rfl) rfl ?_ ?_
 rotate_left 2
 {
 go_simp
 constructor
 {
 rfl
 }
 {
 rfl
 }
 }
 clear hcv59
 refine hK.out _ _ trivial (fun hHeld => ?_)
 clear hK K
 refine norm_ (nz_ 43) ?_
 exact norm_ (by simp only [putAll, Act.put, List.setIfInBounds_toArray, List.set_cons_zero, List.set_cons_succ]) (hCont (v478) _ ⟨z99d, z99m, z99a, z99b, z99c⟩)
 }
 }
 {
 skip
 refine goes_ Try.func94 (by kernel_rfl) rfl #[.pointer (some ⟨g, 0, none⟩), .int .i64 2] (by rfl) rfl rfl z99h ?_
 with_reducible refine (spec_l1Once.calls g s0_0 t475 t476 2 t480 t481 t482 w0 _ ?side1 ?side2 A48.out).mono ?_
 (case side1 => exact z99a)
 (case side2 => exact z99c)
 rintro e w56 ⟨rfl, hi, hb, hk⟩
 refine ⟨_, rfl, ?_⟩
 replace HO436 := A_ (Kd.R_mono (Kd.R_keep (IsS105.apart (show IsS105 w0 _ g s0_0 t475 t476 from z99a) z99d (by decide)) hk (fun _ h => h.2)) (fun _ h => h.1))
 replace HK := A_ (KeepBut.trans z99b hk (.inl rfl))
 replace HB := A_ (hb)
 replace HI0 := A_ (hi)
 refine hK.out _ _ trivial (fun hHeld => ?_)
 clear hK K
 refine norm_ (nz_ 45) ?_
 refine one_ (i := 4) (N := some 42) (bs "YYYYYXYYXXXX") rfl rfl (one_of HT_.out (by kernel_rfl)) (by decide) (fun K hK => ?_)
 refine Kd.R_make_step (Kd.int .u8) _ 5 (by rfl) (N := 42) rfl 22 _ _ rfl ji45 rfl rfl Try.underlying22 (.int .u8 0) 1 info5 rfl (by decide) (by omega) 0 (ok := fun _ => True) (okp := fun _ => True) rfl (fun _ hk => hk) trivial (of_decide_eq_true z99l) (Nat.le_trans (Nat.mul_le_mul_right _ (of_decide_eq_true z99l : ji45.toNat ≤ 281474976710656)) (by omega)) (Below.refl _ _) (Nat.le_refl _) ?_
 intro v478 w57 ho58 hb hg_ hnew_
 clear hg_ hnew_
 (first | rw [← Ny477.out] at ho58 | (simp only [Int.reduceToNat] at ho58; rw [← Ny477.out] at ho58))
 have n0_ := A_ (Kd.R_below z99d hb)
 have n1_ := A_ (Kd.R_lower ho58 (keep_size (w := w) (g := g) (row := none) z99b))
 have n2_ := A_ (IsS105.below z99a hb)
 have n3_ := A_ (KeepBut.trans z99b (KeepBut.of_below hb g none) (.inl rfl))
 have n4_ := A_ (below_step z99c hb)
 clear HO436
 clear HI0
 clear HK
 clear HB
 have HO436 := n0_
 have HO479 := n1_
 have HI0 := n2_
 have HK := n3_
 have HB := n4_
 clear n0_ n1_ n2_ n3_ n4_
 clear hb ho58
 refine hK.out _ _ trivial (fun hHeld => ?_)
 clear hK K
 refine norm_ (nz_ 42) ?_
 refine one_ (i := 5) (N := some 43) (bs "YYYYYYYYXXXX") rfl rfl (one_of HT_.out (by kernel_rfl)) (by decide) (fun K hK => ?_)
 have hcv59 := own_string (P := Try.prog) Try.underlying22 Try.underlying5 Try.underlying9 (Kd.own_of_R HO479.out)
 refine value_ (w1 := ?_) (v := ?_) (by rfl) rfl ?_ ?_
 rotate_left 2
 {
 go_simp
 constructor
 {
 rfl
 }
 {
 rfl
 }
 }
 clear hcv59
 refine hK.out _ _ trivial (fun hHeld => ?_)
 clear hK K
 refine norm_ (nz_ 43) ?_
 exact norm_ (by simp only [putAll, Act.put, List.setIfInBounds_toArray, List.set_cons_zero, List.set_cons_succ]) (hCont (v478) _ ⟨z99d, z99m, z99a, z99b, z99c⟩)
 }
 }
 rintro v478 w60 ⟨h0_, h1_, h2_, h3_, h4_⟩
 have n0_ : Aside0 (Kd.R k49 49 w60 w.heap.size (fun _ => True) (.slice Ao53 t434.length co53) t434) := ⟨h0_⟩
 have n1_ : Aside0 (Kd.R (Kd.int .u8) 5 w60 w.heap.size (fun _ => True) v478 y477) := ⟨h1_⟩
 have n2_ : Aside0 (IsS105 w0 w60 g s0_0 t481 t482) := ⟨h2_⟩
 have n3_ : Aside0 (KeepBut w w60 g none) := ⟨h3_⟩
 have n4_ : Aside0 (Below w0.heap.size w0 w60) := ⟨h4_⟩
 clear HO436
 clear HI0
 clear HK
 clear HB
 clear h0_ h1_ h2_ h3_ h4_
 have HO436 := n0_
 have HO479 := n1_
 have HI0 := n2_
 have HK := n3_
 have HB := n4_
 clear n0_ n1_ n2_ n3_ n4_
 have hHeld := trivial
 refine norm_ (a' := ?_) ?_ ?_
 rotate_left
 exact z99j
 refine pu_ 8 (some 46) (bs "YYYYYYYYYXXX") ?_
 refine one_ (i := 9) (N := some 47) (bs "YYYYYYYYYYXX") rfl rfl (one_of HT_.out (by kernel_rfl)) (by decide) (fun K hK => ?_)
 refine value_ (w1 := ?_) (v := ?_) (by rfl) rfl ?_ ?_
 rotate_left 2
 {
 go_simp
 constructor
 {
 rfl
 }
 {
 rfl
 }
 }
 refine hK.out _ _ trivial (fun hHeld => ?_)
 clear hK K
 refine norm_ (nz_ 47) ?_
 refine one_ (i := 10) (N := some 48) (bs "YYYYYYYYYYYX") rfl rfl (one_of HT_.out (by kernel_rfl)) (by decide) (fun K hK => ?_)
 refine Kd.R_append_step k49 w.heap.size (by rfl) (.tmp 38) (.tmp 47) 44 49 (.agg #[(.string ⟨#[]⟩), (.string ⟨#[]⟩), (.int .i64 0), (.bool false)]) 48 rfl Try.underlying44 info49 rfl (by decide) (by omega) (.slice Ao53 t434.length co53) t434 (⟨(⟨#[122, 122]⟩ : ByteArray), strOfNums y477, 1, t480⟩ : S49) [.string (⟨#[122, 122]⟩ : ByteArray), .string (strOfNums y477), .int .i64 1, .bool t480] (fun _ => True) (fun _ => False) rfl rfl ?aP (fun _ hk => hk.elim) ?aF ?aO (Below.refl _ _) ?aS ?aL ?_
 (case aP => exact k49_mkM _ _ _ (⟨(⟨#[122, 122]⟩ : ByteArray), strOfNums y477, 1, t480⟩ : S49))
 (case aF => exact (fun _ _ => trivial))
 (case aO => exact z99d)
 (case aS => exact (keep_size (w := w) (g := g) (row := none) z99b))
 (case aL => have := LMc49.out; omega)
 intro v484 w61 ho hb hg hat
 rw [← Ny483.out] at ho
 have n0_ := A_ (IsS105.grown z99a hg (IsS105.own_ne HI0.out HO436.out (by decide)))
 have n1_ := A_ (Kd.R_over' z99m (Kd.R_typed z99d) (by decide) hg)
 have n2_ := A_ (below_weaken z99c HL.out hb)
 have n3_ := A_ (KeepBut.trans z99b (KeepBut.of_grown hg g) (Kd.R_base2 HO436.out))
 have n4_ := A_ (ho)
 clear HI0
 clear HO479
 clear HB
 clear HK
 clear HO436
 have HI0 := n0_
 have HO479 := n1_
 have HB := n2_
 have HK := n3_
 have HO485 := n4_
 clear n0_ n1_ n2_ n3_ n4_
 clear ho hb hg hat
 refine hK.out _ _ trivial (fun hHeld => ?_)
 clear hK K
 refine norm_ (nz_ 48) ?_
 refine pu_ 11 (some 3) (bs "YYYYYYYYYYYY") ?_
 refine done_ (done_of HT_.out (by kernel_rfl)) ?_
 try go_wp2
 go_ret
 exact ⟨_, by first | rfl | (simp [errW_none, errW_some] <;> rfl) | (simp only [← hji45]; first | rfl | (simp [errW_none, errW_some] <;> rfl)) | (simp [*, errW_none, errW_some] <;> rfl), by (with_reducible repeat (first | apply Kd.R_alloc | apply Kd.R_drewN | apply Kd.R_drew)); exact HO485.out, by repeat (first | (with_reducible first | exact HI0.out | apply IsS105.alloc | apply IsS105.drewN | apply IsS105.drew | apply IsS105.set_1 | apply IsS105.set_2) | exact HI0.out), by repeat (first | (with_reducible first | exact HB.out | apply below_alloc | apply pw_below_drewN | apply below_drew1 | refine below_set ?_ (IsS105.ge HI0.out)) | exact HB.out), by repeat (first | (with_reducible first | exact HK.out | apply KeepBut.set_ | apply keep_drewN | apply keep_drew | apply keep_alloc) | exact HK.out)⟩
 }
 {
 rw [if_neg c49] at H
 exact absurd H (by simp)
 }
 }
 {
 rw [if_neg c47] at H
 exact absurd H (by simp)
 }
 }
 {
 rw [if_neg c46] at H
 exact absurd H (by simp)
 }
 }
 {
 rw [if_neg c43] at H
 have c43b0 : (t442 == 2) = false := beq_eq_false_iff_ne.mpr c43
 have c43b1 : (t442 != 2) = true := bne_iff_ne.mpr c43
 by_cases c62 : t442 = 3
 {
 rw [if_pos c62] at H
 have c62b0 : (t442 == 3) = true := beq_iff_eq.mpr c62
 have c62b1 : (t442 != 3) = false := bne_eq_false_iff_eq.mpr c62
 clear c62
 obtain ⟨y486, hy486⟩ : ∃ y_ : List (S49), y_ = (([] : List (S49))) := ⟨_, rfl⟩
 replace H : (spec_l3DrawAny.l0 k y486 0 s0_0 t443 t444) = some (r1, r2, r3) := by first | (rw [hy486]; with_reducible exact H) | (have H2_ := (Option.bind_some _ _).symm.trans H; rw [hy486]; with_reducible exact H2_) | (have H2_ := (Option.bind_some _ _).symm.trans H; with_reducible exact H2_) | with_reducible exact H | (rw [hy486]; exact H) | exact H
 have Ny486 := A_ hy486
 clear hy486
 have H' := A_ H
 clear H
 go_enter Try.func99, Try.ntmps99
 go_wp2_with (first | ((with_reducible refine gate_callee (f := 108) rfl ?_); refine goesL_ (some 6) rfl rfl Try.func108 (by kernel_rfl) rfl #[.pointer (some ⟨g, 0, none⟩), .int .i64 1, .int .i64 10] rfl z99h ?_; (with_reducible refine (spec_l3DrawFrom.calls k g s0_0 s0_1 s0_2 1 10 t434 t437 t438 w0 _ ?side1 ?side2 A2.out).mono ?_); (case side1 => exact z99a); (case side2 => exact z99c); rintro e w63 ⟨v435, rfl, ho0, hi, hb, hk⟩; refine ⟨_, rfl, ?_⟩; have n0_ := A_ (Kd.R_lower ho0 (keep_size (w := w) (g := g) (row := none) z99b)); have n1_ := A_ (KeepBut.trans z99b hk (.inl rfl)); have n2_ := A_ (hb); have n3_ := A_ (hi); clear HK; clear HB; clear HI0; have HO436 := n0_; have HK := n1_; have HB := n2_; have HI0 := n3_; clear n0_ n1_ n2_ n3_) | ((with_reducible refine gate_callee (f := 94) rfl ?_); refine goesL_ (some 8) rfl rfl Try.func94 (by kernel_rfl) rfl #[.pointer (some ⟨g, 0, none⟩), .int .i64 12] rfl z99h ?_; (with_reducible refine (spec_l1Once.calls g s0_0 t437 t438 12 true t440 t441 w0 _ ?side1 ?side2 A3.out).mono ?_); (case side1 => exact z99a); (case side2 => exact z99c); rintro e w64 ⟨rfl, hi, hb, hk⟩; refine ⟨_, rfl, ?_⟩; replace HO436 := A_ (Kd.R_mono (Kd.R_keep (IsS105.apart (show IsS105 w0 _ g s0_0 t437 t438 from z99a) z99d (by decide)) hk (fun _ h => h.2)) (fun _ h => h.1)); replace HK := A_ (KeepBut.trans z99b hk (.inl rfl)); replace HB := A_ (hb); replace HI0 := A_ (hi)) | ((with_reducible refine gate_callee (f := 95) rfl ?_); refine goesL_ (some 10) rfl rfl Try.func95 (by kernel_rfl) rfl #[.pointer (some ⟨g, 0, none⟩), .int .i64 4] rfl z99h ?_; (with_reducible refine (spec_l1Below.calls g s0_0 t440 t441 4 t442 t443 t444 w0 _ ?side1 ?side2 A5.out).mono ?_); (case side1 => exact z99a); (case side2 => exact z99c); rintro e w65 ⟨rfl, hi, hb, hk⟩; refine ⟨_, rfl, ?_⟩; replace HO436 := A_ (Kd.R_mono (Kd.R_keep (IsS105.apart (show IsS105 w0 _ g s0_0 t440 t441 from z99a) z99d (by decide)) hk (fun _ h => h.2)) (fun _ h => h.1)); replace HK := A_ (KeepBut.trans z99b hk (.inl rfl)); replace HB := A_ (hb); replace HI0 := A_ (hi)) | ((with_reducible refine gate_dst (N := 51) rfl ?_); refine Kd.R_lit k49 _ 49 ?hg (N := 51) ?hd (xs := ([] : List (S49))) (inner := []) (ok := fun _ => True) (okp := fun _ => True) ?hr ?hp (fun _ hk => hk) trivial (Below.refl _ _) (Nat.le_refl _) (by simp) ?_; (case hd => rfl); (case hg => rfl); (case hr => first | (go_simp; done) | (go_simp; rfl)); (case hp => exact (Reps.none _ _)); intro v487 w66 ho67 hb hg_ hnew_; clear hg_ hnew_; (first | rw [← Ny486.out] at ho67 | (simp only [Int.reduceToNat] at ho67; rw [← Ny486.out] at ho67)); have n0_ := A_ (Kd.R_elder' z99d (Kd.R_base ho67) hb); have n1_ := A_ (Kd.R_lower (Kd.R_new' ho67 (Kd.R_lt z99d)) (keep_size (w := w) (g := g) (row := none) z99b)); have n2_ := A_ (IsS105.below z99a hb); have n3_ := A_ (KeepBut.trans z99b (KeepBut.of_below hb g none) (.inl rfl)); have n4_ := A_ (below_step z99c hb); clear HO436; clear HI0; clear HK; clear HB; have HO436 := n0_; have HO488 := n1_; have HI0 := n2_; have HK := n3_; have HB := n4_; clear n0_ n1_ n2_ n3_ n4_; clear hb ho67))
 go_loopg [3, 4] k (fun kq v3 v4 w' => ∃ (x3_1 : List (S49)) (x4_1 : Int) (x1001_1 : Int) (x1002_1 : Int), v4 = .int .i64 x4_1 ∧ Aside0 (spec_l3DrawAny.l0 kq x3_1 x4_1 s0_0 x1001_1 x1002_1 = some (r1, r2, r3)) ∧ Aside0 (kq ≤ k) ∧ Aside0 (Kd.R k49 49 w' w.heap.size (fun _ => True) v3 x3_1) ∧ Aside0 (IsS105 w0 w' g s0_0 x1001_1 x1002_1) ∧ Aside0 (KeepBut w w' g none) ∧ Aside0 (Below w0.heap.size w0 w'))
 case atStart => exact ⟨(y486), (0), (t443), (t444), (by first | rfl | (simp; done) | (simp [*]; done)), H', ⟨Nat.le_refl _⟩, ⟨by (with_reducible repeat (first | apply Kd.R_alloc | apply Kd.R_drewN | apply Kd.R_drew)); exact Kd.R_mono HO488.out (fun _ hk => trivial)⟩, ⟨by repeat (first | (with_reducible first | exact HI0.out | apply IsS105.alloc | apply IsS105.drewN | apply IsS105.drew | apply IsS105.set_1 | apply IsS105.set_2) | exact HI0.out)⟩, ⟨by repeat (first | (with_reducible first | exact HK.out | apply KeepBut.set_ | apply keep_drewN | apply keep_drew | apply keep_alloc) | exact HK.out)⟩, ⟨by repeat (first | (with_reducible first | exact HB.out | apply below_alloc | apply pw_below_drewN | apply below_drew1 | refine below_set ?_ (IsS105.ge HI0.out)) | exact HB.out)⟩⟩
 case round =>
  clear H'
  try clear c1
  try clear c2
  try clear p2
  try clear c4
  try clear p4
  try clear q4
  try clear hx4
  try clear hcv5
  try clear c6
  try clear p6
  try clear c9
  try clear c10
  try clear c14
  try clear c14b0
  try clear c14b1
  try clear c15
  try clear c17
  try clear c18
  try clear c20
  try clear c21
  try clear c22
  try clear c43
  try clear c43b0
  try clear c43b1
  try clear c46
  try clear c46b0
  try clear c46b1
  try clear c47
  try clear c47b0
  try clear c47b1
  try clear p47
  try clear q47
  try clear hx47
  try clear c49
  try clear hcv58
  try clear hcv59
  try clear c62
  try clear c62b0
  try clear c62b1
  try clear p64
  try clear hx470_0
  try clear p470
  try clear q470
  obtain ⟨x3_1, x4_1, x1001_1, x1002_1, rfl, HA, HK1, HO_3, HI0, HK, HB⟩ := hrel
  cases gk with
  | zero => exact absurd HA.out (by simp [spec_l3DrawAny.l0])
  | succ k1 =>
   have H := HA.out
   clear HA
   simp only [spec_l3DrawAny.l0] at H
   replace H := Option.bind_eq_some_iff.mp H
   obtain ⟨⟨t489, t490, t491⟩, A680, H⟩ := H
   (try dsimp only at H)
   have A68 := A_ A680
   clear A680
   by_cases c69 : x4_1 < (wrap64 (300 + t489))
   {
   rw [if_pos c69] at H
   have c69b0 : decide (x4_1 < (wrap64 (300 + t489))) = true := decide_eq_true c69
   clear c69
   by_cases c70 : x3_1.length < 2932031007402
   {
   rw [if_pos c70] at H
   have LMc70 := A_ c70
   clear c70
   obtain ⟨y492, hy492⟩ : ∃ y_ : List (S49), y_ = (x3_1 ++ [(⟨(⟨#[107]⟩ : ByteArray), (⟨#[]⟩ : ByteArray), wrap64 (1000 - x4_1), false⟩ : S49)]) := ⟨_, rfl⟩
   replace H : (spec_l3DrawAny.l0 k1 y492 (wrap64 (x4_1 + 1)) s0_0 t490 t491) = some (r1, r2, r3) := by first | (rw [hy492]; with_reducible exact H) | (have H2_ := (Option.bind_some _ _).symm.trans H; rw [hy492]; with_reducible exact H2_) | (have H2_ := (Option.bind_some _ _).symm.trans H; with_reducible exact H2_) | with_reducible exact H | (rw [hy492]; exact H) | exact H
   have Ny492 := A_ hy492
   clear hy492
   have H' := A_ H
   clear H
   go_wp2_with (first | ((with_reducible refine gate_callee (f := 95) rfl ?_); refine goesL_ (some 54) rfl rfl Try.func95 (by kernel_rfl) rfl #[.pointer (some ⟨g, 0, none⟩), .int .i64 2] rfl z99h ?_; (with_reducible refine (spec_l1Below.calls g s0_0 x1001_1 x1002_1 2 t489 t490 t491 w0 _ ?side1 ?side2 A68.out).mono ?_); (case side1 => exact z99a); (case side2 => exact z99c); rintro e w71 ⟨rfl, hi, hb, hk⟩; refine ⟨_, rfl, ?_⟩; replace HO_3 := A_ (Kd.R_mono (Kd.R_keep (IsS105.apart (show IsS105 w0 _ g s0_0 x1001_1 x1002_1 from z99a) (by (with_reducible repeat (first | apply Kd.R_alloc | apply Kd.R_drewN | apply Kd.R_drew)); exact HO_3.out) (by decide)) hk (fun _ h => h.2)) (fun _ h => h.1)); replace HK := A_ (KeepBut.trans z99b hk (.inl rfl)); replace HB := A_ (hb); replace HI0 := A_ (hi)) | ((with_reducible refine gate_builtin (b := .append) (xs := #[.tmp 59, .tmp 63]) rfl ?_); at_builtin; refine Kd.R_append k49 w.heap.size rfl (.tmp 59) (.tmp 63) 44 49 (.agg #[(.string ⟨#[]⟩), (.string ⟨#[]⟩), (.int .i64 0), (.bool false)]) 48 rfl Try.underlying44 info49 rfl (by decide) (by omega) u3 x3_1 (⟨(⟨#[107]⟩ : ByteArray), (⟨#[]⟩ : ByteArray), wrap64 (1000 - x4_1), false⟩ : S49) [.string (⟨#[107]⟩ : ByteArray), .string (⟨#[]⟩ : ByteArray), .int .i64 (wrap64 (1000 - x4_1)), .bool false] (fun _ => True) (fun _ => False) rfl rfl ?aP (fun _ hk => hk.elim) ?aF ?aO (Below.refl _ _) ?aS ?aL ?_; (case aP => exact k49_mkM _ _ _ (⟨(⟨#[107]⟩ : ByteArray), (⟨#[]⟩ : ByteArray), wrap64 (1000 - x4_1), false⟩ : S49)); (case aF => exact (fun _ _ => trivial)); (case aO => exact (by (with_reducible repeat (first | apply Kd.R_alloc | apply Kd.R_drewN | apply Kd.R_drew)); exact HO_3.out)); (case aS => exact (keep_size (w := w) (g := g) (row := none) z99b)); (case aL => have := LMc70.out; omega); intro v493 w72 ho hb hg hat; rw [← Ny492.out] at ho; have n0_ := A_ (IsS105.grown z99a hg (IsS105.own_ne HI0.out HO_3.out (by decide))); have n1_ := A_ (below_weaken z99c HL.out hb); have n2_ := A_ (KeepBut.trans z99b (KeepBut.of_grown hg g) (Kd.R_base2 HO_3.out)); have n3_ := A_ (ho); clear HI0; clear HB; clear HK; clear HO_3; have HI0 := n0_; have HB := n1_; have HK := n2_; have HO494 := n3_; clear n0_ n1_ n2_ n3_; clear ho hb hg hat))
   go_roundg k1
   case measure => have := HK1.out; omega
   case rel => exact ⟨(y492), (wrap64 (x4_1 + 1)), (t490), (t491), (by first | rfl | (simp; done) | (simp [*]; done)), H', ⟨by have := HK1.out; omega⟩, ⟨by (with_reducible repeat (first | apply Kd.R_alloc | apply Kd.R_drewN | apply Kd.R_drew)); exact HO494.out⟩, ⟨by repeat (first | (with_reducible first | exact HI0.out | apply IsS105.alloc | apply IsS105.drewN | apply IsS105.drew | apply IsS105.set_1 | apply IsS105.set_2) | exact HI0.out)⟩, ⟨by repeat (first | (with_reducible first | exact HK.out | apply KeepBut.set_ | apply keep_drewN | apply keep_drew | apply keep_alloc) | exact HK.out)⟩, ⟨by repeat (first | (with_reducible first | exact HB.out | apply below_alloc | apply pw_below_drewN | apply below_drew1 | refine below_set ?_ (IsS105.ge HI0.out)) | exact HB.out)⟩⟩
   }
   {
   rw [if_neg c70] at H
   exact absurd H (by simp)
   }
   }
   {
   rw [if_neg c69] at H
   have c69b0 : decide (x4_1 < (wrap64 (300 + t489))) = false := decide_eq_false c69
   clear c69
   simp only [Option.some.injEq, Prod.mk.injEq] at H
   obtain ⟨rfl, rfl, rfl⟩ := H
   go_wp2_with (first | ((with_reducible refine gate_callee (f := 95) rfl ?_); refine goesL_ (some 54) rfl rfl Try.func95 (by kernel_rfl) rfl #[.pointer (some ⟨g, 0, none⟩), .int .i64 2] rfl z99h ?_; (with_reducible refine (spec_l1Below.calls g s0_0 x1001_1 x1002_1 2 t489 t490 t491 w0 _ ?side1 ?side2 A68.out).mono ?_); (case side1 => exact z99a); (case side2 => exact z99c); rintro e w73 ⟨rfl, hi, hb, hk⟩; refine ⟨_, rfl, ?_⟩; replace HO_3 := A_ (Kd.R_mono (Kd.R_keep (IsS105.apart (show IsS105 w0 _ g s0_0 x1001_1 x1002_1 from z99a) (by (with_reducible repeat (first | apply Kd.R_alloc | apply Kd.R_drewN | apply Kd.R_drew)); exact HO_3.out) (by decide)) hk (fun _ h => h.2)) (fun _ h => h.1)); replace HK := A_ (KeepBut.trans z99b hk (.inl rfl)); replace HB := A_ (hb); replace HI0 := A_ (hi)))
   go_ret
   exact ⟨_, by first | rfl | (simp [errW_none, errW_some] <;> rfl) | (simp [*, errW_none, errW_some] <;> rfl), by (with_reducible repeat (first | apply Kd.R_alloc | apply Kd.R_drewN | apply Kd.R_drew)); exact HO_3.out, by repeat (first | (with_reducible first | exact HI0.out | apply IsS105.alloc | apply IsS105.drewN | apply IsS105.drew | apply IsS105.set_1 | apply IsS105.set_2) | exact HI0.out), by repeat (first | (with_reducible first | exact HB.out | apply below_alloc | apply pw_below_drewN | apply below_drew1 | refine below_set ?_ (IsS105.ge HI0.out)) | exact HB.out), by repeat (first | (with_reducible first | exact HK.out | apply KeepBut.set_ | apply keep_drewN | apply keep_drew | apply keep_alloc) | exact HK.out)⟩
   }
 }
 {
 rw [if_neg c62] at H
 have c62b0 : (t442 == 3) = false := beq_eq_false_iff_ne.mpr c62
 have c62b1 : (t442 != 3) = true := bne_iff_ne.mpr c62
 simp only [Option.some.injEq, Prod.mk.injEq] at H
 obtain ⟨rfl, rfl, rfl⟩ := H
 go_enter Try.func99, Try.ntmps99
 go_wp2_with (first | ((with_reducible refine gate_callee (f := 108) rfl ?_); refine goesL_ (some 6) rfl rfl Try.func108 (by kernel_rfl) rfl #[.pointer (some ⟨g, 0, none⟩), .int .i64 1, .int .i64 10] rfl z99h ?_; (with_reducible refine (spec_l3DrawFrom.calls k g s0_0 s0_1 s0_2 1 10 t434 t437 t438 w0 _ ?side1 ?side2 A2.out).mono ?_); (case side1 => exact z99a); (case side2 => exact z99c); rintro e w74 ⟨v435, rfl, ho0, hi, hb, hk⟩; refine ⟨_, rfl, ?_⟩; have n0_ := A_ (Kd.R_lower ho0 (keep_size (w := w) (g := g) (row := none) z99b)); have n1_ := A_ (KeepBut.trans z99b hk (.inl rfl)); have n2_ := A_ (hb); have n3_ := A_ (hi); clear HK; clear HB; clear HI0; have HO436 := n0_; have HK := n1_; have HB := n2_; have HI0 := n3_; clear n0_ n1_ n2_ n3_) | ((with_reducible refine gate_callee (f := 94) rfl ?_); refine goesL_ (some 8) rfl rfl Try.func94 (by kernel_rfl) rfl #[.pointer (some ⟨g, 0, none⟩), .int .i64 12] rfl z99h ?_; (with_reducible refine (spec_l1Once.calls g s0_0 t437 t438 12 true t440 t441 w0 _ ?side1 ?side2 A3.out).mono ?_); (case side1 => exact z99a); (case side2 => exact z99c); rintro e w75 ⟨rfl, hi, hb, hk⟩; refine ⟨_, rfl, ?_⟩; replace HO436 := A_ (Kd.R_mono (Kd.R_keep (IsS105.apart (show IsS105 w0 _ g s0_0 t437 t438 from z99a) z99d (by decide)) hk (fun _ h => h.2)) (fun _ h => h.1)); replace HK := A_ (KeepBut.trans z99b hk (.inl rfl)); replace HB := A_ (hb); replace HI0 := A_ (hi)) | ((with_reducible refine gate_callee (f := 95) rfl ?_); refine goesL_ (some 10) rfl rfl Try.func95 (by kernel_rfl) rfl #[.pointer (some ⟨g, 0, none⟩), .int .i64 4] rfl z99h ?_; (with_reducible refine (spec_l1Below.calls g s0_0 t440 t441 4 t442 t443 t444 w0 _ ?side1 ?side2 A5.out).mono ?_); (case side1 => exact z99a); (case side2 => exact z99c); rintro e w76 ⟨rfl, hi, hb, hk⟩; refine ⟨_, rfl, ?_⟩; replace HO436 := A_ (Kd.R_mono (Kd.R_keep (IsS105.apart (show IsS105 w0 _ g s0_0 t440 t441 from z99a) z99d (by decide)) hk (fun _ h => h.2)) (fun _ h => h.1)); replace HK := A_ (KeepBut.trans z99b hk (.inl rfl)); replace HB := A_ (hb); replace HI0 := A_ (hi)))
 go_ret
 exact ⟨_, by first | rfl | (simp [errW_none, errW_some] <;> rfl) | (simp [*, errW_none, errW_some] <;> rfl), by (with_reducible repeat (first | apply Kd.R_alloc | apply Kd.R_drewN | apply Kd.R_drew)); exact HO436.out, by repeat (first | (with_reducible first | exact HI0.out | apply IsS105.alloc | apply IsS105.drewN | apply IsS105.drew | apply IsS105.set_1 | apply IsS105.set_2) | exact HI0.out), by repeat (first | (with_reducible first | exact HB.out | apply below_alloc | apply pw_below_drewN | apply below_drew1 | refine below_set ?_ (IsS105.ge HI0.out)) | exact HB.out), by repeat (first | (with_reducible first | exact HK.out | apply KeepBut.set_ | apply keep_drewN | apply keep_drew | apply keep_alloc) | exact HK.out)⟩
 }
 }
 }
 }
 }
 {
 replace c4 := Bool.eq_false_iff.mpr c4
 subst c4
 rw [if_neg Bool.false_ne_true] at H
 simp only [Option.some.injEq, Prod.mk.injEq] at H
 obtain ⟨rfl, rfl, rfl⟩ := H
 go_enter Try.func99, Try.ntmps99
 go_wp2_with (first | ((with_reducible refine gate_callee (f := 108) rfl ?_); refine goesL_ (some 6) rfl rfl Try.func108 (by kernel_rfl) rfl #[.pointer (some ⟨g, 0, none⟩), .int .i64 1, .int .i64 10] rfl z99h ?_; (with_reducible refine (spec_l3DrawFrom.calls k g s0_0 s0_1 s0_2 1 10 t434 t437 t438 w0 _ ?side1 ?side2 A2.out).mono ?_); (case side1 => exact z99a); (case side2 => exact z99c); rintro e w77 ⟨v435, rfl, ho0, hi, hb, hk⟩; refine ⟨_, rfl, ?_⟩; have n0_ := A_ (Kd.R_lower ho0 (keep_size (w := w) (g := g) (row := none) z99b)); have n1_ := A_ (KeepBut.trans z99b hk (.inl rfl)); have n2_ := A_ (hb); have n3_ := A_ (hi); clear HK; clear HB; clear HI0; have HO436 := n0_; have HK := n1_; have HB := n2_; have HI0 := n3_; clear n0_ n1_ n2_ n3_) | ((with_reducible refine gate_callee (f := 94) rfl ?_); refine goesL_ (some 8) rfl rfl Try.func94 (by kernel_rfl) rfl #[.pointer (some ⟨g, 0, none⟩), .int .i64 12] rfl z99h ?_; (with_reducible refine (spec_l1Once.calls g s0_0 t437 t438 12 false t440 t441 w0 _ ?side1 ?side2 A3.out).mono ?_); (case side1 => exact z99a); (case side2 => exact z99c); rintro e w78 ⟨rfl, hi, hb, hk⟩; refine ⟨_, rfl, ?_⟩; replace HO436 := A_ (Kd.R_mono (Kd.R_keep (IsS105.apart (show IsS105 w0 _ g s0_0 t437 t438 from z99a) z99d (by decide)) hk (fun _ h => h.2)) (fun _ h => h.1)); replace HK := A_ (KeepBut.trans z99b hk (.inl rfl)); replace HB := A_ (hb); replace HI0 := A_ (hi)))
 go_ret
 exact ⟨_, by first | rfl | (simp [errW_none, errW_some] <;> rfl) | (simp [*, errW_none, errW_some] <;> rfl), by (with_reducible repeat (first | apply Kd.R_alloc | apply Kd.R_drewN | apply Kd.R_drew)); exact HO436.out, by repeat (first | (with_reducible first | exact HI0.out | apply IsS105.alloc | apply IsS105.drewN | apply IsS105.drew | apply IsS105.set_1 | apply IsS105.set_2) | exact HI0.out), by repeat (first | (with_reducible first | exact HB.out | apply below_alloc | apply pw_below_drewN | apply below_drew1 | refine below_set ?_ (IsS105.ge HI0.out)) | exact HB.out), by repeat (first | (with_reducible first | exact HK.out | apply KeepBut.set_ | apply keep_drewN | apply keep_drew | apply keep_alloc) | exact HK.out)⟩
 
 }
end Go.Proofs.Ythkhfmomibfkjaa.PFnPacked

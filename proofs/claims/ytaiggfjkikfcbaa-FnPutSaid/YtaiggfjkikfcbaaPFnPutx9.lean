-- by a program of this session (wip/print/run.py) for this claim
import Derived.Test.YtaiggfjkikfcbaaPFnPutx0
import Derived.Test.YtaiggfjkikfcbaaPFnPutx7
import Derived.Test.YtaiggfjkikfcbaaPFnPutx8
namespace Go.Proofs.Ytaiggfjkikfcbaa.PFnPut
open Go.RowKit Go.Proofs.YtaiggfjkikfcbaaW.PrintWords Go.Proofs.YtaiggfjkikfcbaaW.PrintLast Go.Proofs.YtaiggfjkikfcbaaW.PrintMore
attribute [local go_sem] max2_int min2_int max_two min_two max_three min_three max_four min_four   -- for this text's walks alone
set_option linter.unusedVariables false
set_option linter.unusedSimpArgs false

theorem z58a {p_ : Prop} (h_ : p_ := by repeat (first | (with_reducible first | exact HI0.out | apply IsS108.alloc | apply IsS108.drewN | apply IsS108.drew | apply IsS108.set_1 | apply IsS108.set_2) | exact HI0.out)) : p_ := h_
theorem z58b {p_ : Prop} (h_ : p_ := by repeat (first | (with_reducible first | exact HK.out | apply KeepBut.set_ | apply keep_drewN | apply keep_drew | apply keep_alloc) | exact HK.out)) : p_ := h_
theorem z58c {p_ : Prop} (h_ : p_ := by repeat (first | (with_reducible first | exact HB.out | apply below_alloc | apply pw_below_drewN | apply below_drew1 | refine below_set ?_ (IsS108.ge HI0.out)) | exact HB.out)) : p_ := h_
theorem z58d {p_ : Prop} (h_ : p_ := by (with_reducible repeat (first | apply Kd.R_alloc | apply Kd.R_drewN | apply Kd.R_drew)); exact HO297.out) : p_ := h_
theorem z58e {p_ : Prop} (h_ : p_ := by first | (simp only [putAll, Act.put, List.setIfInBounds_toArray, List.set_cons_zero, List.set_cons_succ]; done) | (simp only [putAll, Act.put, List.setIfInBounds_toArray, List.set_cons_zero, List.set_cons_succ]; rfl)) : p_ := h_
theorem z58f {p_ : Prop} (h_ : p_ := by (with_reducible repeat (first | apply Kd.R_alloc | apply Kd.R_drewN | apply Kd.R_drew)); exact HO317.out) : p_ := h_
theorem z58g {p_ : Prop} (h_ : p_ := by (with_reducible repeat (first | apply Kd.R_alloc | apply Kd.R_drewN | apply Kd.R_drew)); exact HO327.out) : p_ := h_
theorem z58h {p_ : Prop} (h_ : p_ := by (try simp only [List.map_toArray, List.map_cons, List.map_nil]); first | done | rfl | (simp only [List.length_drop, List.length_take]; rfl)) : p_ := h_
theorem z58i {p_ : Prop} (h_ : p_ := by (with_reducible repeat (first | apply Kd.R_alloc | apply Kd.R_drewN | apply Kd.R_drew)); exact HO320.out) : p_ := h_
theorem z58j {p_ : Prop} (h_ : p_ := by simp only [putAll, Act.put, List.setIfInBounds_toArray, List.set_cons_zero, List.set_cons_succ]; rfl) : p_ := h_
theorem z58k {p_ : Prop} (h_ : p_ := by simp only [Act.put, List.setIfInBounds_toArray, List.set_cons_zero, List.set_cons_succ, i64_w, i32_w]; rfl) : p_ := h_
theorem z58l {p_ : Prop} (h_ : p_ := by first | (with_reducible assumption) | assumption) : p_ := h_
theorem z58m {p_ : Prop} (h_ : p_ := by (with_reducible repeat (first | apply Kd.R_alloc | apply Kd.R_drewN | apply Kd.R_drew)); exact HO340.out) : p_ := h_
def spec_l3DrawAny.l0 : Nat → List (S31) → Int → List Int → Int → Int → Option ((List (S31)) × Int × Int)
 | 0, _, _, _, _, _ => none
 | k + 1, x3, x4, x1000, x1001, x1002 => (spec_l1Below.f x1000 x1001 x1002 2).bind fun bt350 => (if x4 < (wrap64 (300 + bt350.1)) then (if x3.length < 2932031007402 then (spec_l3DrawAny.l0 k (x3 ++ [(⟨(⟨#[107]⟩ : ByteArray), (⟨#[]⟩ : ByteArray), wrap64 (1000 - x4), false⟩ : S31)]) (wrap64 (x4 + 1)) x1000 bt350.2.1 bt350.2.2) else (none)) else (some (x3, bt350.2.1, bt350.2.2)))
def spec_l3DrawAny.f (k : Nat) (s0_0 : List Int) (s0_1 : Int) (s0_2 : Int) : Option ((List (S31)) × Int × Int) := (spec_l3DrawFrom.f k s0_0 s0_1 s0_2 1 10).bind fun bt295 => ((spec_l1Once.f s0_0 bt295.2.1 bt295.2.2 12).bind fun bt300 => (if bt300.1 = true then ((spec_l1Below.f s0_0 bt300.2.1 bt300.2.2 4).bind fun bt303 => (if bt303.1 = 0 then ((spec_l3DrawEntry.f k s0_0 bt303.2.1 bt303.2.2 3).bind fun bt306 => (if bt295.1.length < 2932031007402 then (some ((bt295.1 ++ [(⟨bt306.1, bt306.2.1, bt306.2.2.1, bt306.2.2.2.1⟩ : S31)]), bt306.2.2.2.2.1, bt306.2.2.2.2.2)) else (none))) else (if bt303.1 = 1 then (if 41 ≤ 281474976710656 then ((some (([(⟨#[]⟩ : ByteArray), (⟨#[122, 122]⟩ : ByteArray), strOfNums (List.replicate 41 0)] : List ByteArray) : List ByteArray)).bind fun y318 => ((spec_l1Below.f s0_0 bt303.2.1 bt303.2.2 3).bind fun bt321 => (if 0 ≤ bt321.1 then (if bt321.1 < (y318.length : Int) then ((some (([0, 1, 1000000, 1000001] : List Int) : List Int)).bind fun y325 => ((spec_l1Below.f s0_0 bt321.2.1 bt321.2.2 4).bind fun bt328 => (if 0 ≤ bt328.1 then (if bt328.1 < (y325.length : Int) then (if bt295.1.length < 2932031007402 then (some ((bt295.1 ++ [(⟨rdOf ByteArray.empty y318 bt321.1, (⟨#[]⟩ : ByteArray), rd y325 bt328.1, false⟩ : S31)]), bt328.2.1, bt328.2.2)) else (none)) else (none)) else (none)))) else (none)) else (none)))) else (none)) else (if bt303.1 = 2 then ((spec_l1Below.f s0_0 bt303.2.1 bt303.2.2 2).bind fun bt335 => (if 0 ≤ (wrap64 (200 + bt335.1)) then (if (wrap64 (200 + bt335.1) : Int).toNat ≤ 281474976710656 then ((spec_l1Once.f s0_0 bt335.2.1 bt335.2.2 2).bind fun bt341 => (if bt295.1.length < 2932031007402 then (some ((bt295.1 ++ [(⟨(⟨#[122, 122]⟩ : ByteArray), strOfNums (List.replicate (wrap64 (200 + bt335.1) : Int).toNat 0), 1, bt341.1⟩ : S31)]), bt341.2.1, bt341.2.2)) else (none))) else (none)) else (none))) else (if bt303.1 = 3 then (spec_l3DrawAny.l0 k (([] : List (S31))) 0 s0_0 bt303.2.1 bt303.2.2) else (some (bt295.1, bt303.2.1, bt303.2.2))))))) else (some (bt295.1, bt300.2.1, bt300.2.2))))
def spec_l3DrawAny.T7 : Bool × List (List Nat × List Nat) := (true, [([], []), ([], []), ([1], [1]), ([2], [2]), ([], []), ([4], [4]), ([3, 5], [3, 5]), ([6], [6]), ([], []), ([], []), ([9, 5], [9]), ([8, 10], [8, 10]), ([11], [11]), ([7, 12], [7, 12]), ([13], [13]), ([0, 14, 10], [0, 14]), ([15, 15, 0, 1, 2, 3, 4, 5, 6, 7, 8, 9, 10, 11, 12, 13, 14, 15], [0, 15])])
def spec_l3DrawAny.B7 : List Nat := [0, 0, 2, 6, 0, 16, 62, 126, 0, 0, 560, 1840, 3888, 8190, 16382, 32767, 65535]
theorem spec_l3DrawAny.tab7 : rtab .any (opsOf Try.f58 7) = spec_l3DrawAny.T7 := by kernel_rfl
theorem spec_l3DrawAny.bits7 : waitsOk spec_l3DrawAny.T7.2 spec_l3DrawAny.B7 = true := by kernel_rfl
def spec_l3DrawAny.T9 : Bool × List (List Nat × List Nat) := (true, [([], []), ([], []), ([1], [1]), ([2], [2]), ([3, 3], [3]), ([4], [4]), ([], []), ([6, 2], [6]), ([5, 7], [5, 7]), ([8], [8]), ([0, 9, 7], [0, 9]), ([10, 10, 0, 1, 2, 3, 4, 5, 6, 7, 8, 9, 10], [0, 10])])
def spec_l3DrawAny.B9 : List Nat := [0, 0, 2, 6, 14, 30, 0, 70, 254, 510, 1023, 2047]
theorem spec_l3DrawAny.tab9 : rtab .any (opsOf Try.f58 9) = spec_l3DrawAny.T9 := by kernel_rfl
theorem spec_l3DrawAny.bits9 : waitsOk spec_l3DrawAny.T9.2 spec_l3DrawAny.B9 = true := by kernel_rfl
set_option maxHeartbeats 8000000 in
set_option maxRecDepth 100000 in
theorem spec_l3DrawAny.calls (k : Nat) (g : Nat) (s0_0 : List Int) (s0_1 : Int) (s0_2 : Int) (r1 : List (S31)) (r2 : Int) (r3 : Int) (w0 w : World) (hI : IsS108 w0 w g s0_0 s0_1 s0_2) (hB : Below w0.heap.size w0 w) (h : spec_l3DrawAny.f k s0_0 s0_1 s0_2 = some (r1, r2, r3)) :
  Calls Try.prog 58 #[.pointer (some ⟨g, 0, none⟩)] w fun e w' => ∃ v0_ : Value, e = .returned (v0_) ∧ Kd.R k31 31 w' w.heap.size (fun _ => True) v0_ r1 ∧ IsS108 w0 w' g s0_0 r2 r3 ∧ Below w0.heap.size w0 w' ∧ KeepBut w w' g none := by
 have hu31 := Try.underlying31
 have HI0 := Aside0.mk hI
 have HK := Aside0.mk (KeepBut.refl w g none)
 have HL := Aside0.mk hB.size
 clear hI
 have HW0 := Aside0.mk hB.size
 have HB := Aside0.mk hB
 clear hB
 have H : ((spec_l3DrawFrom.f k s0_0 s0_1 s0_2 1 10).bind fun bt295 => ((spec_l1Once.f s0_0 bt295.2.1 bt295.2.2 12).bind fun bt300 => (if bt300.1 = true then ((spec_l1Below.f s0_0 bt300.2.1 bt300.2.2 4).bind fun bt303 => (if bt303.1 = 0 then ((spec_l3DrawEntry.f k s0_0 bt303.2.1 bt303.2.2 3).bind fun bt306 => (if bt295.1.length < 2932031007402 then (some ((bt295.1 ++ [(⟨bt306.1, bt306.2.1, bt306.2.2.1, bt306.2.2.2.1⟩ : S31)]), bt306.2.2.2.2.1, bt306.2.2.2.2.2)) else (none))) else (if bt303.1 = 1 then (if 41 ≤ 281474976710656 then ((some (([(⟨#[]⟩ : ByteArray), (⟨#[122, 122]⟩ : ByteArray), strOfNums (List.replicate 41 0)] : List ByteArray) : List ByteArray)).bind fun y318 => ((spec_l1Below.f s0_0 bt303.2.1 bt303.2.2 3).bind fun bt321 => (if 0 ≤ bt321.1 then (if bt321.1 < (y318.length : Int) then ((some (([0, 1, 1000000, 1000001] : List Int) : List Int)).bind fun y325 => ((spec_l1Below.f s0_0 bt321.2.1 bt321.2.2 4).bind fun bt328 => (if 0 ≤ bt328.1 then (if bt328.1 < (y325.length : Int) then (if bt295.1.length < 2932031007402 then (some ((bt295.1 ++ [(⟨rdOf ByteArray.empty y318 bt321.1, (⟨#[]⟩ : ByteArray), rd y325 bt328.1, false⟩ : S31)]), bt328.2.1, bt328.2.2)) else (none)) else (none)) else (none)))) else (none)) else (none)))) else (none)) else (if bt303.1 = 2 then ((spec_l1Below.f s0_0 bt303.2.1 bt303.2.2 2).bind fun bt335 => (if 0 ≤ (wrap64 (200 + bt335.1)) then (if (wrap64 (200 + bt335.1) : Int).toNat ≤ 281474976710656 then ((spec_l1Once.f s0_0 bt335.2.1 bt335.2.2 2).bind fun bt341 => (if bt295.1.length < 2932031007402 then (some ((bt295.1 ++ [(⟨(⟨#[122, 122]⟩ : ByteArray), strOfNums (List.replicate (wrap64 (200 + bt335.1) : Int).toNat 0), 1, bt341.1⟩ : S31)]), bt341.2.1, bt341.2.2)) else (none))) else (none)) else (none))) else (if bt303.1 = 3 then (spec_l3DrawAny.l0 k (([] : List (S31))) 0 s0_0 bt303.2.1 bt303.2.2) else (some (bt295.1, bt303.2.1, bt303.2.2))))))) else (some (bt295.1, bt300.2.1, bt300.2.2))))) = some (r1, r2, r3) := h
 clear h
 replace H := Option.bind_eq_some_iff.mp H
 obtain ⟨⟨t295, t298, t299⟩, A20, H⟩ := H
 replace H : ((spec_l1Once.f s0_0 t298 t299 12).bind fun bt300 => (if bt300.1 = true then ((spec_l1Below.f s0_0 bt300.2.1 bt300.2.2 4).bind fun bt303 => (if bt303.1 = 0 then ((spec_l3DrawEntry.f k s0_0 bt303.2.1 bt303.2.2 3).bind fun bt306 => (if t295.length < 2932031007402 then (some ((t295 ++ [(⟨bt306.1, bt306.2.1, bt306.2.2.1, bt306.2.2.2.1⟩ : S31)]), bt306.2.2.2.2.1, bt306.2.2.2.2.2)) else (none))) else (if bt303.1 = 1 then (if 41 ≤ 281474976710656 then ((some (([(⟨#[]⟩ : ByteArray), (⟨#[122, 122]⟩ : ByteArray), strOfNums (List.replicate 41 0)] : List ByteArray) : List ByteArray)).bind fun y318 => ((spec_l1Below.f s0_0 bt303.2.1 bt303.2.2 3).bind fun bt321 => (if 0 ≤ bt321.1 then (if bt321.1 < (y318.length : Int) then ((some (([0, 1, 1000000, 1000001] : List Int) : List Int)).bind fun y325 => ((spec_l1Below.f s0_0 bt321.2.1 bt321.2.2 4).bind fun bt328 => (if 0 ≤ bt328.1 then (if bt328.1 < (y325.length : Int) then (if t295.length < 2932031007402 then (some ((t295 ++ [(⟨rdOf ByteArray.empty y318 bt321.1, (⟨#[]⟩ : ByteArray), rd y325 bt328.1, false⟩ : S31)]), bt328.2.1, bt328.2.2)) else (none)) else (none)) else (none)))) else (none)) else (none)))) else (none)) else (if bt303.1 = 2 then ((spec_l1Below.f s0_0 bt303.2.1 bt303.2.2 2).bind fun bt335 => (if 0 ≤ (wrap64 (200 + bt335.1)) then (if (wrap64 (200 + bt335.1) : Int).toNat ≤ 281474976710656 then ((spec_l1Once.f s0_0 bt335.2.1 bt335.2.2 2).bind fun bt341 => (if t295.length < 2932031007402 then (some ((t295 ++ [(⟨(⟨#[122, 122]⟩ : ByteArray), strOfNums (List.replicate (wrap64 (200 + bt335.1) : Int).toNat 0), 1, bt341.1⟩ : S31)]), bt341.2.1, bt341.2.2)) else (none))) else (none)) else (none))) else (if bt303.1 = 3 then (spec_l3DrawAny.l0 k (([] : List (S31))) 0 s0_0 bt303.2.1 bt303.2.2) else (some (t295, bt303.2.1, bt303.2.2))))))) else (some (t295, bt300.2.1, bt300.2.2)))) = some (r1, r2, r3) := H
 have A2 := Aside0.mk A20
 clear A20
 replace H := Option.bind_eq_some_iff.mp H
 obtain ⟨⟨t300, t301, t302⟩, A30, H⟩ := H
 replace H : (if t300 = true then ((spec_l1Below.f s0_0 t301 t302 4).bind fun bt303 => (if bt303.1 = 0 then ((spec_l3DrawEntry.f k s0_0 bt303.2.1 bt303.2.2 3).bind fun bt306 => (if t295.length < 2932031007402 then (some ((t295 ++ [(⟨bt306.1, bt306.2.1, bt306.2.2.1, bt306.2.2.2.1⟩ : S31)]), bt306.2.2.2.2.1, bt306.2.2.2.2.2)) else (none))) else (if bt303.1 = 1 then (if 41 ≤ 281474976710656 then ((some (([(⟨#[]⟩ : ByteArray), (⟨#[122, 122]⟩ : ByteArray), strOfNums (List.replicate 41 0)] : List ByteArray) : List ByteArray)).bind fun y318 => ((spec_l1Below.f s0_0 bt303.2.1 bt303.2.2 3).bind fun bt321 => (if 0 ≤ bt321.1 then (if bt321.1 < (y318.length : Int) then ((some (([0, 1, 1000000, 1000001] : List Int) : List Int)).bind fun y325 => ((spec_l1Below.f s0_0 bt321.2.1 bt321.2.2 4).bind fun bt328 => (if 0 ≤ bt328.1 then (if bt328.1 < (y325.length : Int) then (if t295.length < 2932031007402 then (some ((t295 ++ [(⟨rdOf ByteArray.empty y318 bt321.1, (⟨#[]⟩ : ByteArray), rd y325 bt328.1, false⟩ : S31)]), bt328.2.1, bt328.2.2)) else (none)) else (none)) else (none)))) else (none)) else (none)))) else (none)) else (if bt303.1 = 2 then ((spec_l1Below.f s0_0 bt303.2.1 bt303.2.2 2).bind fun bt335 => (if 0 ≤ (wrap64 (200 + bt335.1)) then (if (wrap64 (200 + bt335.1) : Int).toNat ≤ 281474976710656 then ((spec_l1Once.f s0_0 bt335.2.1 bt335.2.2 2).bind fun bt341 => (if t295.length < 2932031007402 then (some ((t295 ++ [(⟨(⟨#[122, 122]⟩ : ByteArray), strOfNums (List.replicate (wrap64 (200 + bt335.1) : Int).toNat 0), 1, bt341.1⟩ : S31)]), bt341.2.1, bt341.2.2)) else (none))) else (none)) else (none))) else (if bt303.1 = 3 then (spec_l3DrawAny.l0 k (([] : List (S31))) 0 s0_0 bt303.2.1 bt303.2.2) else (some (t295, bt303.2.1, bt303.2.2))))))) else (some (t295, t301, t302))) = some (r1, r2, r3) := H
 have A3 := Aside0.mk A30
 clear A30
 by_cases c4 : t300 = true
 {
 subst c4
 have H1 : ((spec_l1Below.f s0_0 t301 t302 4).bind fun bt303 => (if bt303.1 = 0 then ((spec_l3DrawEntry.f k s0_0 bt303.2.1 bt303.2.2 3).bind fun bt306 => (if t295.length < 2932031007402 then (some ((t295 ++ [(⟨bt306.1, bt306.2.1, bt306.2.2.1, bt306.2.2.2.1⟩ : S31)]), bt306.2.2.2.2.1, bt306.2.2.2.2.2)) else (none))) else (if bt303.1 = 1 then (if 41 ≤ 281474976710656 then ((some (([(⟨#[]⟩ : ByteArray), (⟨#[122, 122]⟩ : ByteArray), strOfNums (List.replicate 41 0)] : List ByteArray) : List ByteArray)).bind fun y318 => ((spec_l1Below.f s0_0 bt303.2.1 bt303.2.2 3).bind fun bt321 => (if 0 ≤ bt321.1 then (if bt321.1 < (y318.length : Int) then ((some (([0, 1, 1000000, 1000001] : List Int) : List Int)).bind fun y325 => ((spec_l1Below.f s0_0 bt321.2.1 bt321.2.2 4).bind fun bt328 => (if 0 ≤ bt328.1 then (if bt328.1 < (y325.length : Int) then (if t295.length < 2932031007402 then (some ((t295 ++ [(⟨rdOf ByteArray.empty y318 bt321.1, (⟨#[]⟩ : ByteArray), rd y325 bt328.1, false⟩ : S31)]), bt328.2.1, bt328.2.2)) else (none)) else (none)) else (none)))) else (none)) else (none)))) else (none)) else (if bt303.1 = 2 then ((spec_l1Below.f s0_0 bt303.2.1 bt303.2.2 2).bind fun bt335 => (if 0 ≤ (wrap64 (200 + bt335.1)) then (if (wrap64 (200 + bt335.1) : Int).toNat ≤ 281474976710656 then ((spec_l1Once.f s0_0 bt335.2.1 bt335.2.2 2).bind fun bt341 => (if t295.length < 2932031007402 then (some ((t295 ++ [(⟨(⟨#[122, 122]⟩ : ByteArray), strOfNums (List.replicate (wrap64 (200 + bt335.1) : Int).toNat 0), 1, bt341.1⟩ : S31)]), bt341.2.1, bt341.2.2)) else (none))) else (none)) else (none))) else (if bt303.1 = 3 then (spec_l3DrawAny.l0 k (([] : List (S31))) 0 s0_0 bt303.2.1 bt303.2.2) else (some (t295, bt303.2.1, bt303.2.2))))))) = some (r1, r2, r3) := by rw [if_pos rfl] at H; exact H
 clear H
 have H := H1
 clear H1
 replace H := Option.bind_eq_some_iff.mp H
 obtain ⟨⟨t303, t304, t305⟩, A50, H⟩ := H
 replace H : (if t303 = 0 then ((spec_l3DrawEntry.f k s0_0 t304 t305 3).bind fun bt306 => (if t295.length < 2932031007402 then (some ((t295 ++ [(⟨bt306.1, bt306.2.1, bt306.2.2.1, bt306.2.2.2.1⟩ : S31)]), bt306.2.2.2.2.1, bt306.2.2.2.2.2)) else (none))) else (if t303 = 1 then (if 41 ≤ 281474976710656 then ((some (([(⟨#[]⟩ : ByteArray), (⟨#[122, 122]⟩ : ByteArray), strOfNums (List.replicate 41 0)] : List ByteArray) : List ByteArray)).bind fun y318 => ((spec_l1Below.f s0_0 t304 t305 3).bind fun bt321 => (if 0 ≤ bt321.1 then (if bt321.1 < (y318.length : Int) then ((some (([0, 1, 1000000, 1000001] : List Int) : List Int)).bind fun y325 => ((spec_l1Below.f s0_0 bt321.2.1 bt321.2.2 4).bind fun bt328 => (if 0 ≤ bt328.1 then (if bt328.1 < (y325.length : Int) then (if t295.length < 2932031007402 then (some ((t295 ++ [(⟨rdOf ByteArray.empty y318 bt321.1, (⟨#[]⟩ : ByteArray), rd y325 bt328.1, false⟩ : S31)]), bt328.2.1, bt328.2.2)) else (none)) else (none)) else (none)))) else (none)) else (none)))) else (none)) else (if t303 = 2 then ((spec_l1Below.f s0_0 t304 t305 2).bind fun bt335 => (if 0 ≤ (wrap64 (200 + bt335.1)) then (if (wrap64 (200 + bt335.1) : Int).toNat ≤ 281474976710656 then ((spec_l1Once.f s0_0 bt335.2.1 bt335.2.2 2).bind fun bt341 => (if t295.length < 2932031007402 then (some ((t295 ++ [(⟨(⟨#[122, 122]⟩ : ByteArray), strOfNums (List.replicate (wrap64 (200 + bt335.1) : Int).toNat 0), 1, bt341.1⟩ : S31)]), bt341.2.1, bt341.2.2)) else (none))) else (none)) else (none))) else (if t303 = 3 then (spec_l3DrawAny.l0 k (([] : List (S31))) 0 s0_0 t304 t305) else (some (t295, t304, t305)))))) = some (r1, r2, r3) := H
 have A5 := Aside0.mk A50
 clear A50
 by_cases c6 : t303 = 0
 {
 rw [if_pos c6] at H
 have c6b0 : (t303 == 0) = true := beq_iff_eq.mpr c6
 have c6b1 : (t303 != 0) = false := bne_eq_false_iff_eq.mpr c6
 clear c6
 replace H := Option.bind_eq_some_iff.mp H
 obtain ⟨⟨t306, t307, t308, t309, t310, t311⟩, A70, H⟩ := H
 replace H : (if t295.length < 2932031007402 then (some ((t295 ++ [(⟨t306, t307, t308, t309⟩ : S31)]), t310, t311)) else (none)) = some (r1, r2, r3) := H
 have A7 := Aside0.mk A70
 clear A70
 by_cases c8 : t295.length < 2932031007402
 {
 rw [if_pos c8] at H
 have LMc8 := Aside0.mk c8
 clear c8
 obtain ⟨y312, hy312⟩ : ∃ y_ : List (S31), y_ = (t295 ++ [(⟨t306, t307, t308, t309⟩ : S31)]) := ⟨_, rfl⟩
 replace H : (some (y312, t310, t311)) = some (r1, r2, r3) := by first | (rw [hy312]; with_reducible exact H) | (have H2_ := (Option.bind_some _ _).symm.trans H; rw [hy312]; with_reducible exact H2_) | (have H2_ := (Option.bind_some _ _).symm.trans H; with_reducible exact H2_) | with_reducible exact H | (rw [hy312]; exact H) | exact H
 have Ny312 := Aside0.mk hy312
 clear hy312
 simp only [Option.some.injEq, Prod.mk.injEq] at H
 obtain ⟨rfl, rfl, rfl⟩ := H
 go_enter Try.func58, Try.ntmps58
 go_wp2_with (first | ((with_reducible refine gate_callee (f := 72) rfl ?_); refine goesL_ (some 6) rfl rfl Try.func72 (by kernel_rfl) rfl #[.pointer (some ⟨g, 0, none⟩), .int .i64 1, .int .i64 10] rfl z58h ?_; (with_reducible refine (spec_l3DrawFrom.calls k g s0_0 s0_1 s0_2 1 10 t295 t298 t299 w0 _ ?side1 ?side2 A2.out).mono ?_); (case side1 => exact z58a); (case side2 => exact z58c); rintro e w9 ⟨v296, rfl, ho0, hi, hb, hk⟩; refine ⟨_, rfl, ?_⟩; have n0_ := Aside0.mk (Kd.R_lower ho0 (keep_size (w := w) (g := g) (row := none) z58b)); have n1_ := Aside0.mk (KeepBut.trans z58b hk (.inl rfl)); have n2_ := Aside0.mk (hb); have n3_ := Aside0.mk (hi); clear HK; clear HB; clear HI0; have HO297 := n0_; have HK := n1_; have HB := n2_; have HI0 := n3_; clear n0_ n1_ n2_ n3_; (try clear hb); (try clear hb2); (try clear hk); (try clear hi); (try clear ho0)) | ((with_reducible refine gate_callee (f := 61) rfl ?_); refine goesL_ (some 8) rfl rfl Try.func61 (by kernel_rfl) rfl #[.pointer (some ⟨g, 0, none⟩), .int .i64 12] rfl z58h ?_; (with_reducible refine (spec_l1Once.calls g s0_0 t298 t299 12 true t301 t302 w0 _ ?side1 ?side2 A3.out).mono ?_); (case side1 => exact z58a); (case side2 => exact z58c); rintro e w10 ⟨rfl, hi, hb, hk⟩; refine ⟨_, rfl, ?_⟩; have n0_ := Aside0.mk (Kd.R_mono (Kd.R_keep (IsS108.apart (show IsS108 w0 _ g s0_0 t298 t299 from z58a) z58d (by decide)) hk (fun _ h => h.2)) (fun _ h => h.1)); have n1_ := Aside0.mk (KeepBut.trans z58b hk (.inl rfl)); have n2_ := Aside0.mk (hb); have n3_ := Aside0.mk (hi); clear HO297; clear HK; clear HB; clear HI0; have HO297 := n0_; have HK := n1_; have HB := n2_; have HI0 := n3_; clear n0_ n1_ n2_ n3_; (try clear hb); (try clear hb2); (try clear hk); (try clear hi)) | ((with_reducible refine gate_callee (f := 60) rfl ?_); refine goesL_ (some 10) rfl rfl Try.func60 (by kernel_rfl) rfl #[.pointer (some ⟨g, 0, none⟩), .int .i64 4] rfl z58h ?_; (with_reducible refine (spec_l1Below.calls g s0_0 t301 t302 4 t303 t304 t305 w0 _ ?side1 ?side2 A5.out).mono ?_); (case side1 => exact z58a); (case side2 => exact z58c); rintro e w11 ⟨rfl, hi, hb, hk⟩; refine ⟨_, rfl, ?_⟩; have n0_ := Aside0.mk (Kd.R_mono (Kd.R_keep (IsS108.apart (show IsS108 w0 _ g s0_0 t301 t302 from z58a) z58d (by decide)) hk (fun _ h => h.2)) (fun _ h => h.1)); have n1_ := Aside0.mk (KeepBut.trans z58b hk (.inl rfl)); have n2_ := Aside0.mk (hb); have n3_ := Aside0.mk (hi); clear HO297; clear HK; clear HB; clear HI0; have HO297 := n0_; have HK := n1_; have HB := n2_; have HI0 := n3_; clear n0_ n1_ n2_ n3_; (try clear hb); (try clear hb2); (try clear hk); (try clear hi)) | ((with_reducible refine gate_callee (f := 59) rfl ?_); refine goesL_ (some 15) rfl rfl Try.func59 (by kernel_rfl) rfl #[.pointer (some ⟨g, 0, none⟩), .int .i64 3] rfl z58h ?_; (with_reducible refine (spec_l3DrawEntry.calls k g s0_0 t304 t305 3 t306 t307 t308 t309 t310 t311 w0 _ ?side1 ?side2 A7.out).mono ?_); (case side1 => exact z58a); (case side2 => exact z58c); rintro e w12 ⟨rfl, hi, hb, hk⟩; refine ⟨_, rfl, ?_⟩; have n0_ := Aside0.mk (Kd.R_mono (Kd.R_keep (IsS108.apart (show IsS108 w0 _ g s0_0 t304 t305 from z58a) z58d (by decide)) hk (fun _ h => h.2)) (fun _ h => h.1)); have n1_ := Aside0.mk (KeepBut.trans z58b hk (.inl rfl)); have n2_ := Aside0.mk (hb); have n3_ := Aside0.mk (hi); clear HO297; clear HK; clear HB; clear HI0; have HO297 := n0_; have HK := n1_; have HB := n2_; have HI0 := n3_; clear n0_ n1_ n2_ n3_; (try clear hb); (try clear hb2); (try clear hk); (try clear hi)) | ((with_reducible refine gate_builtin (b := .append) (xs := #[.tmp 13, .tmp 16]) rfl ?_); at_builtin; refine Kd.R_append k31 w.heap.size rfl (.tmp 13) (.tmp 16) 27 31 (.agg #[(.string ⟨#[]⟩), (.string ⟨#[]⟩), (.int .i64 0), (.bool false)]) 48 rfl Try.underlying27 info31 rfl (by decide) (by omega) v296 t295 (⟨t306, t307, t308, t309⟩ : S31) [.string t306, .string t307, .int .i64 t308, .bool t309] (fun _ => True) (fun _ => False) rfl rfl ?aP (fun _ hk => hk.elim) ?aF ?aO (Below.refl _ _) ?aS ?aL ?_; (case aP => exact k31_mkM _ _ _ (⟨t306, t307, t308, t309⟩ : S31)); (case aF => exact (fun _ _ => trivial)); (case aO => exact z58d); (case aS => exact (keep_size (w := w) (g := g) (row := none) z58b)); (case aL => have := LMc8.out; omega); intro v313 w13 ho hb hg hat; rw [← Ny312.out] at ho; have n0_ := Aside0.mk (IsS108.grown z58a hg (IsS108.own_ne HI0.out HO297.out (by decide))); have n1_ := Aside0.mk (below_weaken z58c HL.out hb); have n2_ := Aside0.mk (KeepBut.trans z58b (KeepBut.of_grown hg g) (Kd.R_base2 HO297.out)); have n3_ := Aside0.mk (ho); clear HI0; clear HB; clear HK; clear HO297; have HI0 := n0_; have HB := n1_; have HK := n2_; have HO314 := n3_; clear n0_ n1_ n2_ n3_; clear ho hb hg hat))
 go_ret
 exact ⟨_, by first | rfl | (simp [errW_none, errW_some] <;> rfl) | (simp [*, errW_none, errW_some] <;> rfl), by (with_reducible repeat (first | apply Kd.R_alloc | apply Kd.R_drewN | apply Kd.R_drew)); exact HO314.out, by repeat (first | (with_reducible first | exact HI0.out | apply IsS108.alloc | apply IsS108.drewN | apply IsS108.drew | apply IsS108.set_1 | apply IsS108.set_2) | exact HI0.out), by repeat (first | (with_reducible first | exact HB.out | apply below_alloc | apply pw_below_drewN | apply below_drew1 | refine below_set ?_ (IsS108.ge HI0.out)) | exact HB.out), by repeat (first | (with_reducible first | exact HK.out | apply KeepBut.set_ | apply keep_drewN | apply keep_drew | apply keep_alloc) | exact HK.out)⟩
 }
 {
 rw [if_neg c8] at H
 exact absurd H (by simp)
 }
 }
 {
 rw [if_neg c6] at H
 have c6b0 : (t303 == 0) = false := beq_eq_false_iff_ne.mpr c6
 have c6b1 : (t303 != 0) = true := bne_iff_ne.mpr c6
 by_cases c14 : t303 = 1
 {
 rw [if_pos c14] at H
 have c14b0 : (t303 == 1) = true := beq_iff_eq.mpr c14
 have c14b1 : (t303 != 1) = false := bne_eq_false_iff_eq.mpr c14
 clear c14
 by_cases c15 : 41 ≤ 281474976710656
 {
 rw [if_pos c15] at H
 have c15b0 := eq_true c15
 have c15b1 : decide (41 ≤ 281474976710656) = true := decide_eq_true c15
 clear c15
 obtain ⟨y315, hy315⟩ : ∃ y_ : List Int, y_ = (List.replicate 41 0) := ⟨_, rfl⟩
 replace H : ((some (([(⟨#[]⟩ : ByteArray), (⟨#[122, 122]⟩ : ByteArray), strOfNums y315] : List ByteArray) : List ByteArray)).bind fun y318 => ((spec_l1Below.f s0_0 t304 t305 3).bind fun bt321 => (if 0 ≤ bt321.1 then (if bt321.1 < (y318.length : Int) then ((some (([0, 1, 1000000, 1000001] : List Int) : List Int)).bind fun y325 => ((spec_l1Below.f s0_0 bt321.2.1 bt321.2.2 4).bind fun bt328 => (if 0 ≤ bt328.1 then (if bt328.1 < (y325.length : Int) then (if t295.length < 2932031007402 then (some ((t295 ++ [(⟨rdOf ByteArray.empty y318 bt321.1, (⟨#[]⟩ : ByteArray), rd y325 bt328.1, false⟩ : S31)]), bt328.2.1, bt328.2.2)) else (none)) else (none)) else (none)))) else (none)) else (none)))) = some (r1, r2, r3) := by first | (rw [hy315]; with_reducible exact H) | (have H2_ := (Option.bind_some _ _).symm.trans H; rw [hy315]; with_reducible exact H2_) | (have H2_ := (Option.bind_some _ _).symm.trans H; with_reducible exact H2_) | with_reducible exact H | (rw [hy315]; exact H) | exact H
 have Ny315 := Aside0.mk hy315
 clear hy315
 obtain ⟨y318, hy318⟩ : ∃ y_ : List ByteArray, y_ = (([(⟨#[]⟩ : ByteArray), (⟨#[122, 122]⟩ : ByteArray), strOfNums y315] : List ByteArray)) := ⟨_, rfl⟩
 replace H : ((spec_l1Below.f s0_0 t304 t305 3).bind fun bt321 => (if 0 ≤ bt321.1 then (if bt321.1 < (y318.length : Int) then ((some (([0, 1, 1000000, 1000001] : List Int) : List Int)).bind fun y325 => ((spec_l1Below.f s0_0 bt321.2.1 bt321.2.2 4).bind fun bt328 => (if 0 ≤ bt328.1 then (if bt328.1 < (y325.length : Int) then (if t295.length < 2932031007402 then (some ((t295 ++ [(⟨rdOf ByteArray.empty y318 bt321.1, (⟨#[]⟩ : ByteArray), rd y325 bt328.1, false⟩ : S31)]), bt328.2.1, bt328.2.2)) else (none)) else (none)) else (none)))) else (none)) else (none))) = some (r1, r2, r3) := by first | (rw [hy318]; with_reducible exact H) | (have H2_ := (Option.bind_some _ _).symm.trans H; rw [hy318]; with_reducible exact H2_) | (have H2_ := (Option.bind_some _ _).symm.trans H; with_reducible exact H2_) | with_reducible exact H | (rw [hy318]; exact H) | exact H
 have Ny318 := Aside0.mk hy318
 clear hy318
 replace H := Option.bind_eq_some_iff.mp H
 obtain ⟨⟨t321, t322, t323⟩, A160, H⟩ := H
 replace H : (if 0 ≤ t321 then (if t321 < (y318.length : Int) then ((some (([0, 1, 1000000, 1000001] : List Int) : List Int)).bind fun y325 => ((spec_l1Below.f s0_0 t322 t323 4).bind fun bt328 => (if 0 ≤ bt328.1 then (if bt328.1 < (y325.length : Int) then (if t295.length < 2932031007402 then (some ((t295 ++ [(⟨rdOf ByteArray.empty y318 t321, (⟨#[]⟩ : ByteArray), rd y325 bt328.1, false⟩ : S31)]), bt328.2.1, bt328.2.2)) else (none)) else (none)) else (none)))) else (none)) else (none)) = some (r1, r2, r3) := H
 have A16 := Aside0.mk A160
 clear A160
 by_cases c17 : 0 ≤ t321
 {
 rw [if_pos c17] at H
 have c17b0 : decide (0 ≤ t321) = true := decide_eq_true c17
 clear c17
 by_cases c18 : t321 < (y318.length : Int)
 {
 rw [if_pos c18] at H
 have c18b0 : decide (t321 < (y318.length : Int)) = true := decide_eq_true c18
 clear c18
 obtain ⟨y325, hy325⟩ : ∃ y_ : List Int, y_ = (([0, 1, 1000000, 1000001] : List Int)) := ⟨_, rfl⟩
 replace H : ((spec_l1Below.f s0_0 t322 t323 4).bind fun bt328 => (if 0 ≤ bt328.1 then (if bt328.1 < (y325.length : Int) then (if t295.length < 2932031007402 then (some ((t295 ++ [(⟨rdOf ByteArray.empty y318 t321, (⟨#[]⟩ : ByteArray), rd y325 bt328.1, false⟩ : S31)]), bt328.2.1, bt328.2.2)) else (none)) else (none)) else (none))) = some (r1, r2, r3) := by first | (rw [hy325]; with_reducible exact H) | (have H2_ := (Option.bind_some _ _).symm.trans H; rw [hy325]; with_reducible exact H2_) | (have H2_ := (Option.bind_some _ _).symm.trans H; with_reducible exact H2_) | with_reducible exact H | (rw [hy325]; exact H) | exact H
 have Ny325 := Aside0.mk hy325
 clear hy325
 replace H := Option.bind_eq_some_iff.mp H
 obtain ⟨⟨t328, t329, t330⟩, A190, H⟩ := H
 replace H : (if 0 ≤ t328 then (if t328 < (y325.length : Int) then (if t295.length < 2932031007402 then (some ((t295 ++ [(⟨rdOf ByteArray.empty y318 t321, (⟨#[]⟩ : ByteArray), rd y325 t328, false⟩ : S31)]), t329, t330)) else (none)) else (none)) else (none)) = some (r1, r2, r3) := H
 have A19 := Aside0.mk A190
 clear A190
 by_cases c20 : 0 ≤ t328
 {
 rw [if_pos c20] at H
 have c20b0 : decide (0 ≤ t328) = true := decide_eq_true c20
 clear c20
 by_cases c21 : t328 < (y325.length : Int)
 {
 rw [if_pos c21] at H
 have c21b0 : decide (t328 < (y325.length : Int)) = true := decide_eq_true c21
 clear c21
 by_cases c22 : t295.length < 2932031007402
 {
 rw [if_pos c22] at H
 have LMc22 := Aside0.mk c22
 clear c22
 obtain ⟨y332, hy332⟩ : ∃ y_ : List (S31), y_ = (t295 ++ [(⟨rdOf ByteArray.empty y318 t321, (⟨#[]⟩ : ByteArray), rd y325 t328, false⟩ : S31)]) := ⟨_, rfl⟩
 replace H : (some (y332, t329, t330)) = some (r1, r2, r3) := by first | (rw [hy332]; with_reducible exact H) | (have H2_ := (Option.bind_some _ _).symm.trans H; rw [hy332]; with_reducible exact H2_) | (have H2_ := (Option.bind_some _ _).symm.trans H; with_reducible exact H2_) | with_reducible exact H | (rw [hy332]; exact H) | exact H
 have Ny332 := Aside0.mk hy332
 clear hy332
 simp only [Option.some.injEq, Prod.mk.injEq] at H
 obtain ⟨rfl, rfl, rfl⟩ := H
 go_enter Try.func58, Try.ntmps58
 try go_wp2_with (first | ((with_reducible refine gate_callee (f := 72) rfl ?_); refine goesL_ (some 6) rfl rfl Try.func72 (by kernel_rfl) rfl #[.pointer (some ⟨g, 0, none⟩), .int .i64 1, .int .i64 10] rfl z58h ?_; (with_reducible refine (spec_l3DrawFrom.calls k g s0_0 s0_1 s0_2 1 10 t295 t298 t299 w0 _ ?side1 ?side2 A2.out).mono ?_); (case side1 => exact z58a); (case side2 => exact z58c); rintro e w23 ⟨v296, rfl, ho0, hi, hb, hk⟩; refine ⟨_, rfl, ?_⟩; have n0_ := Aside0.mk (Kd.R_lower ho0 (keep_size (w := w) (g := g) (row := none) z58b)); have n1_ := Aside0.mk (KeepBut.trans z58b hk (.inl rfl)); have n2_ := Aside0.mk (hb); have n3_ := Aside0.mk (hi); clear HK; clear HB; clear HI0; have HO297 := n0_; have HK := n1_; have HB := n2_; have HI0 := n3_; clear n0_ n1_ n2_ n3_; (try clear hb); (try clear hb2); (try clear hk); (try clear hi); (try clear ho0)) | ((with_reducible refine gate_callee (f := 61) rfl ?_); refine goesL_ (some 8) rfl rfl Try.func61 (by kernel_rfl) rfl #[.pointer (some ⟨g, 0, none⟩), .int .i64 12] rfl z58h ?_; (with_reducible refine (spec_l1Once.calls g s0_0 t298 t299 12 true t301 t302 w0 _ ?side1 ?side2 A3.out).mono ?_); (case side1 => exact z58a); (case side2 => exact z58c); rintro e w24 ⟨rfl, hi, hb, hk⟩; refine ⟨_, rfl, ?_⟩; have n0_ := Aside0.mk (Kd.R_mono (Kd.R_keep (IsS108.apart (show IsS108 w0 _ g s0_0 t298 t299 from z58a) z58d (by decide)) hk (fun _ h => h.2)) (fun _ h => h.1)); have n1_ := Aside0.mk (KeepBut.trans z58b hk (.inl rfl)); have n2_ := Aside0.mk (hb); have n3_ := Aside0.mk (hi); clear HO297; clear HK; clear HB; clear HI0; have HO297 := n0_; have HK := n1_; have HB := n2_; have HI0 := n3_; clear n0_ n1_ n2_ n3_; (try clear hb); (try clear hb2); (try clear hk); (try clear hi)) | ((with_reducible refine gate_callee (f := 60) rfl ?_); refine goesL_ (some 10) rfl rfl Try.func60 (by kernel_rfl) rfl #[.pointer (some ⟨g, 0, none⟩), .int .i64 4] rfl z58h ?_; (with_reducible refine (spec_l1Below.calls g s0_0 t301 t302 4 t303 t304 t305 w0 _ ?side1 ?side2 A5.out).mono ?_); (case side1 => exact z58a); (case side2 => exact z58c); rintro e w25 ⟨rfl, hi, hb, hk⟩; refine ⟨_, rfl, ?_⟩; have n0_ := Aside0.mk (Kd.R_mono (Kd.R_keep (IsS108.apart (show IsS108 w0 _ g s0_0 t301 t302 from z58a) z58d (by decide)) hk (fun _ h => h.2)) (fun _ h => h.1)); have n1_ := Aside0.mk (KeepBut.trans z58b hk (.inl rfl)); have n2_ := Aside0.mk (hb); have n3_ := Aside0.mk (hi); clear HO297; clear HK; clear HB; clear HI0; have HO297 := n0_; have HK := n1_; have HB := n2_; have HI0 := n3_; clear n0_ n1_ n2_ n3_; (try clear hb); (try clear hb2); (try clear hk); (try clear hi); obtain ⟨Ao26, co26, eo26⟩ := Kd.R_slice HO297.out; subst eo26))
 have pi324 : (0 ≤ (t321 : Int)) = True := eq_true (of_decide_eq_true z58l)
 have qi324 : (t321 < (y318.length : Int)) = True := eq_true (of_decide_eq_true z58l)
 have pi331 : (0 ≤ (t328 : Int)) = True := eq_true (of_decide_eq_true z58l)
 have qi331 : (t328 < (y325.length : Int)) = True := eq_true (of_decide_eq_true z58l)
 have n0_ := Aside0.mk (Kd.R_drew HO297.out)
 have n1_ := Aside0.mk (IsS108.drew HI0.out)
 have n2_ := Aside0.mk (keep_drew HK.out)
 have n3_ := Aside0.mk (below_drew1 HB.out)
 clear HO297
 clear HI0
 clear HK
 clear HB
 have HO297 := n0_
 have HI0 := n1_
 have HK := n2_
 have HB := n3_
 clear n0_ n1_ n2_ n3_
 refine start_ (n := 17) (S := fun w' => True) (ds := []) #[X, X, X, X, X, X, X, X, X, X, X, X, X, X, X, X, X] (by kernel_rfl) rfl rfl trivial (fun hHeld => ?_); refine with_tabW spec_l3DrawAny.tab7 spec_l3DrawAny.bits7 (fun HT_ HW_ => ?_)
 generalize w25.drew = w27 at HO297 HI0 HK HB hHeld ⊢
 refine pure_ (i := 0) (N := some 20) (v := _) (a' := _) #[Y, X, X, X, X, X, X, X, X, X, X, X, X, X, X, X, X] rfl rfl (any_of HT_.out (by kernel_rfl)) (fun _ _ _ h => h) (Or.inl ⟨by rfl, (by intro w'; go_simp; with_reducible rfl)⟩) z58k ?_
 refine pure_ (i := 4) (N := some 24) (v := _) (a' := _) #[Y, X, X, X, Y, X, X, X, X, X, X, X, X, X, X, X, X] rfl rfl (any_of HT_.out (by kernel_rfl)) (fun _ _ _ h => h) (Or.inl ⟨by rfl, (by intro w'; go_simp; with_reducible rfl)⟩) z58k ?_
 refine pure_ (i := 9) (N := some 29) (v := _) (a' := _) #[Y, X, X, X, Y, X, X, X, X, Y, X, X, X, X, X, X, X] rfl rfl (any_of HT_.out (by kernel_rfl)) (fun _ _ _ h => h) (Or.inl ⟨by rfl, (by intro w'; go_simp; with_reducible rfl)⟩) z58k ?_
 refine join_ (σ := Value × Value × Addr × Value × Addr) 4 #[Y, Y, Y, Y, Y, Y, Y, Y, Y, Y, Y, Y, Y, X, X, X, X] (fun s_ => [(21, s_.1), (22, .string (strOfNums y315)), (23, s_.2.1), (25, .int .i64 t321), (27, .string (rdOf ByteArray.empty y318 t321)), (28, s_.2.2.2.1), (30, .int .i64 t328), (32, .int .i64 (rd y325 t328)), (26, .pointer (some (s_.2.2.1.add (t321).toNat))), (31, .pointer (some (s_.2.2.2.2.add (t328).toNat)))]) (fun s_ w' => (Kd.R k31 31 w' w.heap.size (fun _ => True) (.slice Ao26 t295.length co26) t295) ∧ (Kd.R (Kd.int .u8) 5 w' w.heap.size (fun _ => True) s_.1 y315) ∧ (Kd.R Kd.string 9 w' w.heap.size (fun _ => True) s_.2.1 y318) ∧ (Kd.R (Kd.int .i64) 2 w' w.heap.size (fun _ => True) s_.2.2.2.1 y325) ∧ (∃ c_, (s_.2.1 : Value) = .slice (some s_.2.2.1) y318.length c_) ∧ (∃ c_, (s_.2.2.2.1 : Value) = .slice (some s_.2.2.2.2) y325.length c_) ∧ (IsS108 w0 w' g s0_0 t329 t330) ∧ (KeepBut w w' g none) ∧ (Below w0.heap.size w0 w')) ?_ ?_
 rotate_left
 {
 intro hJ1_2_3_5_7_8_10_12
 refine join_ (σ := Value × Value × Addr × Value × Addr) 5 #[Y, Y, Y, Y, Y, Y, Y, Y, Y, Y, Y, Y, X, X, X, X, X] (fun s_ => [(21, s_.1), (22, .string (strOfNums y315)), (23, s_.2.1), (25, .int .i64 t321), (27, .string (rdOf ByteArray.empty y318 t321)), (28, s_.2.2.2.1), (30, .int .i64 t328), (26, .pointer (some (s_.2.2.1.add (t321).toNat))), (31, .pointer (some (s_.2.2.2.2.add (t328).toNat)))]) (fun s_ w' => (Kd.R k31 31 w' w.heap.size (fun _ => True) (.slice Ao26 t295.length co26) t295) ∧ (Kd.R (Kd.int .u8) 5 w' w.heap.size (fun _ => True) s_.1 y315) ∧ (Kd.R Kd.string 9 w' w.heap.size (fun _ => True) s_.2.1 y318) ∧ (Kd.R (Kd.int .i64) 2 w' w.heap.size (fun _ => True) s_.2.2.2.1 y325) ∧ (∃ c_, (s_.2.1 : Value) = .slice (some s_.2.2.1) y318.length c_) ∧ (∃ c_, (s_.2.2.2.1 : Value) = .slice (some s_.2.2.2.2) y325.length c_) ∧ (IsS108 w0 w' g s0_0 t329 t330) ∧ (KeepBut w w' g none) ∧ (Below w0.heap.size w0 w')) ?_ ?_
 rotate_left
 {
 intro hJ1_2_3_5_7_8_10
 refine join_ (σ := Value × Value × Addr × Value × Addr) 5 #[Y, Y, Y, Y, Y, Y, Y, X, Y, Y, Y, Y, Y, X, X, X, X] (fun s_ => [(21, s_.1), (22, .string (strOfNums y315)), (23, s_.2.1), (25, .int .i64 t321), (28, s_.2.2.2.1), (30, .int .i64 t328), (32, .int .i64 (rd y325 t328)), (26, .pointer (some (s_.2.2.1.add (t321).toNat))), (31, .pointer (some (s_.2.2.2.2.add (t328).toNat)))]) (fun s_ w' => (Kd.R k31 31 w' w.heap.size (fun _ => True) (.slice Ao26 t295.length co26) t295) ∧ (Kd.R (Kd.int .u8) 5 w' w.heap.size (fun _ => True) s_.1 y315) ∧ (Kd.R Kd.string 9 w' w.heap.size (fun _ => True) s_.2.1 y318) ∧ (Kd.R (Kd.int .i64) 2 w' w.heap.size (fun _ => True) s_.2.2.2.1 y325) ∧ (∃ c_, (s_.2.1 : Value) = .slice (some s_.2.2.1) y318.length c_) ∧ (∃ c_, (s_.2.2.2.1 : Value) = .slice (some s_.2.2.2.2) y325.length c_) ∧ (IsS108 w0 w' g s0_0 t329 t330) ∧ (KeepBut w w' g none) ∧ (Below w0.heap.size w0 w')) ?_ ?_
 rotate_left
 {
 intro hJ1_2_3_5_8_10_12
 refine join_ (σ := Value × Value × Addr × Value × Addr) 7 #[Y, Y, Y, Y, Y, Y, Y, Y, Y, Y, X, X, X, X, X, X, X] (fun s_ => [(21, s_.1), (22, .string (strOfNums y315)), (23, s_.2.1), (25, .int .i64 t321), (27, .string (rdOf ByteArray.empty y318 t321)), (28, s_.2.2.2.1), (26, .pointer (some (s_.2.2.1.add (t321).toNat)))]) (fun s_ w' => (Kd.R k31 31 w' w.heap.size (fun _ => True) (.slice Ao26 t295.length co26) t295) ∧ (Kd.R (Kd.int .u8) 5 w' w.heap.size (fun _ => True) s_.1 y315) ∧ (Kd.R Kd.string 9 w' w.heap.size (fun _ => True) s_.2.1 y318) ∧ (Kd.R (Kd.int .i64) 2 w' w.heap.size (fun _ => True) s_.2.2.2.1 y325) ∧ (∃ c_, (s_.2.1 : Value) = .slice (some s_.2.2.1) y318.length c_) ∧ (∃ c_, (s_.2.2.2.1 : Value) = .slice (some s_.2.2.2.2) y325.length c_) ∧ (IsS108 w0 w' g s0_0 t322 t323) ∧ (KeepBut w w' g none) ∧ (Below w0.heap.size w0 w')) ?_ ?_
 rotate_left
 {
 intro hJ1_2_3_5_7_8
 refine join_ (σ := Value × Value × Addr) 7 #[Y, Y, Y, Y, Y, Y, Y, Y, X, Y, Y, X, X, X, X, X, X] (fun s_ => [(21, s_.1), (22, .string (strOfNums y315)), (23, s_.2.1), (25, .int .i64 t321), (27, .string (rdOf ByteArray.empty y318 t321)), (30, .int .i64 t328), (26, .pointer (some (s_.2.2.add (t321).toNat)))]) (fun s_ w' => (Kd.R k31 31 w' w.heap.size (fun _ => True) (.slice Ao26 t295.length co26) t295) ∧ (Kd.R (Kd.int .u8) 5 w' w.heap.size (fun _ => True) s_.1 y315) ∧ (Kd.R Kd.string 9 w' w.heap.size (fun _ => True) s_.2.1 y318) ∧ (∃ c_, (s_.2.1 : Value) = .slice (some s_.2.2) y318.length c_) ∧ (IsS108 w0 w' g s0_0 t329 t330) ∧ (KeepBut w w' g none) ∧ (Below w0.heap.size w0 w')) ?_ ?_
 rotate_left
 {
 intro hJ1_2_3_5_7_10
 refine join_ (σ := Value × Value × Addr × Value × Addr) 6 #[Y, Y, Y, Y, Y, Y, Y, X, Y, Y, Y, Y, X, X, X, X, X] (fun s_ => [(21, s_.1), (22, .string (strOfNums y315)), (23, s_.2.1), (25, .int .i64 t321), (28, s_.2.2.2.1), (30, .int .i64 t328), (26, .pointer (some (s_.2.2.1.add (t321).toNat))), (31, .pointer (some (s_.2.2.2.2.add (t328).toNat)))]) (fun s_ w' => (Kd.R k31 31 w' w.heap.size (fun _ => True) (.slice Ao26 t295.length co26) t295) ∧ (Kd.R (Kd.int .u8) 5 w' w.heap.size (fun _ => True) s_.1 y315) ∧ (Kd.R Kd.string 9 w' w.heap.size (fun _ => True) s_.2.1 y318) ∧ (Kd.R (Kd.int .i64) 2 w' w.heap.size (fun _ => True) s_.2.2.2.1 y325) ∧ (∃ c_, (s_.2.1 : Value) = .slice (some s_.2.2.1) y318.length c_) ∧ (∃ c_, (s_.2.2.2.1 : Value) = .slice (some s_.2.2.2.2) y325.length c_) ∧ (IsS108 w0 w' g s0_0 t329 t330) ∧ (KeepBut w w' g none) ∧ (Below w0.heap.size w0 w')) ?_ ?_
 rotate_left
 {
 intro hJ1_2_3_5_8_10
 refine join_ (σ := Value × Value × Addr) 7 #[Y, Y, Y, X, Y, Y, X, X, Y, Y, Y, Y, Y, X, X, X, X] (fun s_ => [(21, s_.1), (22, .string (strOfNums y315)), (25, .int .i64 t321), (28, s_.2.1), (30, .int .i64 t328), (32, .int .i64 (rd y325 t328)), (31, .pointer (some (s_.2.2.add (t328).toNat)))]) (fun s_ w' => (Kd.R k31 31 w' w.heap.size (fun _ => True) (.slice Ao26 t295.length co26) t295) ∧ (Kd.R (Kd.int .u8) 5 w' w.heap.size (fun _ => True) s_.1 y315) ∧ (Kd.R (Kd.int .i64) 2 w' w.heap.size (fun _ => True) s_.2.1 y325) ∧ (∃ c_, (s_.2.1 : Value) = .slice (some s_.2.2) y325.length c_) ∧ (IsS108 w0 w' g s0_0 t329 t330) ∧ (KeepBut w w' g none) ∧ (Below w0.heap.size w0 w')) ?_ ?_
 rotate_left
 {
 intro hJ1_2_5_8_10_12
 refine join_ (σ := Value × Value × Addr) 8 #[Y, Y, Y, Y, Y, Y, Y, Y, X, Y, X, X, X, X, X, X, X] (fun s_ => [(21, s_.1), (22, .string (strOfNums y315)), (23, s_.2.1), (25, .int .i64 t321), (27, .string (rdOf ByteArray.empty y318 t321)), (26, .pointer (some (s_.2.2.add (t321).toNat)))]) (fun s_ w' => (Kd.R k31 31 w' w.heap.size (fun _ => True) (.slice Ao26 t295.length co26) t295) ∧ (Kd.R (Kd.int .u8) 5 w' w.heap.size (fun _ => True) s_.1 y315) ∧ (Kd.R Kd.string 9 w' w.heap.size (fun _ => True) s_.2.1 y318) ∧ (∃ c_, (s_.2.1 : Value) = .slice (some s_.2.2) y318.length c_) ∧ (IsS108 w0 w' g s0_0 t322 t323) ∧ (KeepBut w w' g none) ∧ (Below w0.heap.size w0 w')) ?_ ?_
 rotate_left
 {
 intro hJ1_2_3_5_7
 refine join_ (σ := Value × Value × Addr × Value × Addr) 8 #[Y, Y, Y, Y, Y, Y, Y, X, Y, Y, X, X, X, X, X, X, X] (fun s_ => [(21, s_.1), (22, .string (strOfNums y315)), (23, s_.2.1), (25, .int .i64 t321), (28, s_.2.2.2.1), (26, .pointer (some (s_.2.2.1.add (t321).toNat)))]) (fun s_ w' => (Kd.R k31 31 w' w.heap.size (fun _ => True) (.slice Ao26 t295.length co26) t295) ∧ (Kd.R (Kd.int .u8) 5 w' w.heap.size (fun _ => True) s_.1 y315) ∧ (Kd.R Kd.string 9 w' w.heap.size (fun _ => True) s_.2.1 y318) ∧ (Kd.R (Kd.int .i64) 2 w' w.heap.size (fun _ => True) s_.2.2.2.1 y325) ∧ (∃ c_, (s_.2.1 : Value) = .slice (some s_.2.2.1) y318.length c_) ∧ (∃ c_, (s_.2.2.2.1 : Value) = .slice (some s_.2.2.2.2) y325.length c_) ∧ (IsS108 w0 w' g s0_0 t322 t323) ∧ (KeepBut w w' g none) ∧ (Below w0.heap.size w0 w')) ?_ ?_
 rotate_left
 {
 intro hJ1_2_3_5_8
 refine join_ (σ := Value × Value × Addr) 8 #[Y, Y, Y, Y, Y, Y, Y, X, X, Y, Y, X, X, X, X, X, X] (fun s_ => [(21, s_.1), (22, .string (strOfNums y315)), (23, s_.2.1), (25, .int .i64 t321), (30, .int .i64 t328), (26, .pointer (some (s_.2.2.add (t321).toNat)))]) (fun s_ w' => (Kd.R k31 31 w' w.heap.size (fun _ => True) (.slice Ao26 t295.length co26) t295) ∧ (Kd.R (Kd.int .u8) 5 w' w.heap.size (fun _ => True) s_.1 y315) ∧ (Kd.R Kd.string 9 w' w.heap.size (fun _ => True) s_.2.1 y318) ∧ (∃ c_, (s_.2.1 : Value) = .slice (some s_.2.2) y318.length c_) ∧ (IsS108 w0 w' g s0_0 t329 t330) ∧ (KeepBut w w' g none) ∧ (Below w0.heap.size w0 w')) ?_ ?_
 rotate_left
 {
 intro hJ1_2_3_5_10
 refine join_ (σ := Value × Value × Addr) 8 #[Y, Y, Y, X, Y, Y, X, X, Y, Y, Y, Y, X, X, X, X, X] (fun s_ => [(21, s_.1), (22, .string (strOfNums y315)), (25, .int .i64 t321), (28, s_.2.1), (30, .int .i64 t328), (31, .pointer (some (s_.2.2.add (t328).toNat)))]) (fun s_ w' => (Kd.R k31 31 w' w.heap.size (fun _ => True) (.slice Ao26 t295.length co26) t295) ∧ (Kd.R (Kd.int .u8) 5 w' w.heap.size (fun _ => True) s_.1 y315) ∧ (Kd.R (Kd.int .i64) 2 w' w.heap.size (fun _ => True) s_.2.1 y325) ∧ (∃ c_, (s_.2.1 : Value) = .slice (some s_.2.2) y325.length c_) ∧ (IsS108 w0 w' g s0_0 t329 t330) ∧ (KeepBut w w' g none) ∧ (Below w0.heap.size w0 w')) ?_ ?_
 rotate_left
 {
 intro hJ1_2_5_8_10
 refine join_ (σ := Value × Value × Addr) 8 #[Y, Y, X, X, Y, Y, X, X, Y, Y, Y, Y, Y, X, X, X, X] (fun s_ => [(21, s_.1), (25, .int .i64 t321), (28, s_.2.1), (30, .int .i64 t328), (32, .int .i64 (rd y325 t328)), (31, .pointer (some (s_.2.2.add (t328).toNat)))]) (fun s_ w' => (Kd.R k31 31 w' w.heap.size (fun _ => True) (.slice Ao26 t295.length co26) t295) ∧ (Kd.R (Kd.int .u8) 5 w' w.heap.size (fun _ => True) s_.1 y315) ∧ (Kd.R (Kd.int .i64) 2 w' w.heap.size (fun _ => True) s_.2.1 y325) ∧ (∃ c_, (s_.2.1 : Value) = .slice (some s_.2.2) y325.length c_) ∧ (IsS108 w0 w' g s0_0 t329 t330) ∧ (KeepBut w w' g none) ∧ (Below w0.heap.size w0 w')) ?_ ?_
 rotate_left
 {
 intro hJ1_5_8_10_12
 refine join_ (σ := Value × Value × Addr) 9 #[Y, Y, Y, Y, Y, Y, Y, X, X, Y, X, X, X, X, X, X, X] (fun s_ => [(21, s_.1), (22, .string (strOfNums y315)), (23, s_.2.1), (25, .int .i64 t321), (26, .pointer (some (s_.2.2.add (t321).toNat)))]) (fun s_ w' => (Kd.R k31 31 w' w.heap.size (fun _ => True) (.slice Ao26 t295.length co26) t295) ∧ (Kd.R (Kd.int .u8) 5 w' w.heap.size (fun _ => True) s_.1 y315) ∧ (Kd.R Kd.string 9 w' w.heap.size (fun _ => True) s_.2.1 y318) ∧ (∃ c_, (s_.2.1 : Value) = .slice (some s_.2.2) y318.length c_) ∧ (IsS108 w0 w' g s0_0 t322 t323) ∧ (KeepBut w w' g none) ∧ (Below w0.heap.size w0 w')) ?_ ?_
 rotate_left
 {
 intro hJ1_2_3_5
 refine join_ (σ := Value × Value × Addr × Value × Addr) 10 #[Y, Y, Y, Y, Y, X, X, X, Y, Y, X, X, X, X, X, X, X] (fun s_ => [(21, s_.1), (22, .string (strOfNums y315)), (23, s_.2.1), (28, s_.2.2.2.1)]) (fun s_ w' => (Kd.R k31 31 w' w.heap.size (fun _ => True) (.slice Ao26 t295.length co26) t295) ∧ (Kd.R (Kd.int .u8) 5 w' w.heap.size (fun _ => True) s_.1 y315) ∧ (Kd.R Kd.string 9 w' w.heap.size (fun _ => True) s_.2.1 y318) ∧ (Kd.R (Kd.int .i64) 2 w' w.heap.size (fun _ => True) s_.2.2.2.1 y325) ∧ (∃ c_, (s_.2.1 : Value) = .slice (some s_.2.2.1) y318.length c_) ∧ (∃ c_, (s_.2.2.2.1 : Value) = .slice (some s_.2.2.2.2) y325.length c_) ∧ (IsS108 w0 w' g s0_0 t304 t305) ∧ (KeepBut w w' g none) ∧ (Below w0.heap.size w0 w')) ?_ ?_
 rotate_left
 {
 intro hJ1_2_3_8
 refine join_ (σ := Value × Value × Addr) 10 #[Y, Y, Y, X, Y, Y, X, X, Y, Y, X, X, X, X, X, X, X] (fun s_ => [(21, s_.1), (22, .string (strOfNums y315)), (25, .int .i64 t321), (28, s_.2.1)]) (fun s_ w' => (Kd.R k31 31 w' w.heap.size (fun _ => True) (.slice Ao26 t295.length co26) t295) ∧ (Kd.R (Kd.int .u8) 5 w' w.heap.size (fun _ => True) s_.1 y315) ∧ (Kd.R (Kd.int .i64) 2 w' w.heap.size (fun _ => True) s_.2.1 y325) ∧ (∃ c_, (s_.2.1 : Value) = .slice (some s_.2.2) y325.length c_) ∧ (IsS108 w0 w' g s0_0 t322 t323) ∧ (KeepBut w w' g none) ∧ (Below w0.heap.size w0 w')) ?_ ?_
 rotate_left
 {
 intro hJ1_2_5_8
 refine join_ (σ := Value) 10 #[Y, Y, Y, X, Y, Y, X, X, X, Y, Y, X, X, X, X, X, X] (fun s_ => [(21, s_), (22, .string (strOfNums y315)), (25, .int .i64 t321), (30, .int .i64 t328)]) (fun s_ w' => (Kd.R k31 31 w' w.heap.size (fun _ => True) (.slice Ao26 t295.length co26) t295) ∧ (Kd.R (Kd.int .u8) 5 w' w.heap.size (fun _ => True) s_ y315) ∧ (IsS108 w0 w' g s0_0 t329 t330) ∧ (KeepBut w w' g none) ∧ (Below w0.heap.size w0 w')) ?_ ?_
 rotate_left
 {
 intro hJ1_2_5_10
 refine join_ (σ := Value × Value × Addr) 9 #[Y, Y, X, X, Y, Y, X, X, Y, Y, Y, Y, X, X, X, X, X] (fun s_ => [(21, s_.1), (25, .int .i64 t321), (28, s_.2.1), (30, .int .i64 t328), (31, .pointer (some (s_.2.2.add (t328).toNat)))]) (fun s_ w' => (Kd.R k31 31 w' w.heap.size (fun _ => True) (.slice Ao26 t295.length co26) t295) ∧ (Kd.R (Kd.int .u8) 5 w' w.heap.size (fun _ => True) s_.1 y315) ∧ (Kd.R (Kd.int .i64) 2 w' w.heap.size (fun _ => True) s_.2.1 y325) ∧ (∃ c_, (s_.2.1 : Value) = .slice (some s_.2.2) y325.length c_) ∧ (IsS108 w0 w' g s0_0 t329 t330) ∧ (KeepBut w w' g none) ∧ (Below w0.heap.size w0 w')) ?_ ?_
 rotate_left
 {
 intro hJ1_5_8_10
 refine join_ (σ := Value × Addr) 9 #[Y, X, X, X, Y, Y, X, X, Y, Y, Y, Y, Y, X, X, X, X] (fun s_ => [(25, .int .i64 t321), (28, s_.1), (30, .int .i64 t328), (32, .int .i64 (rd y325 t328)), (31, .pointer (some (s_.2.add (t328).toNat)))]) (fun s_ w' => (Kd.R k31 31 w' w.heap.size (fun _ => True) (.slice Ao26 t295.length co26) t295) ∧ (Kd.R (Kd.int .i64) 2 w' w.heap.size (fun _ => True) s_.1 y325) ∧ (∃ c_, (s_.1 : Value) = .slice (some s_.2) y325.length c_) ∧ (IsS108 w0 w' g s0_0 t329 t330) ∧ (KeepBut w w' g none) ∧ (Below w0.heap.size w0 w')) ?_ ?_
 rotate_left
 {
 intro hJ5_8_10_12
 refine join_ (σ := Value × Value × Addr) 11 #[Y, Y, Y, Y, Y, X, X, X, X, Y, X, X, X, X, X, X, X] (fun s_ => [(21, s_.1), (22, .string (strOfNums y315)), (23, s_.2.1)]) (fun s_ w' => (Kd.R k31 31 w' w.heap.size (fun _ => True) (.slice Ao26 t295.length co26) t295) ∧ (Kd.R (Kd.int .u8) 5 w' w.heap.size (fun _ => True) s_.1 y315) ∧ (Kd.R Kd.string 9 w' w.heap.size (fun _ => True) s_.2.1 y318) ∧ (∃ c_, (s_.2.1 : Value) = .slice (some s_.2.2) y318.length c_) ∧ (IsS108 w0 w' g s0_0 t304 t305) ∧ (KeepBut w w' g none) ∧ (Below w0.heap.size w0 w')) ?_ ?_
 rotate_left
 {
 intro hJ1_2_3
 refine join_ (σ := Value) 11 #[Y, Y, Y, X, Y, Y, X, X, X, Y, X, X, X, X, X, X, X] (fun s_ => [(21, s_), (22, .string (strOfNums y315)), (25, .int .i64 t321)]) (fun s_ w' => (Kd.R k31 31 w' w.heap.size (fun _ => True) (.slice Ao26 t295.length co26) t295) ∧ (Kd.R (Kd.int .u8) 5 w' w.heap.size (fun _ => True) s_ y315) ∧ (IsS108 w0 w' g s0_0 t322 t323) ∧ (KeepBut w w' g none) ∧ (Below w0.heap.size w0 w')) ?_ ?_
 rotate_left
 {
 intro hJ1_2_5
 refine join_ (σ := Value × Value × Addr) 11 #[Y, Y, Y, X, Y, X, X, X, Y, Y, X, X, X, X, X, X, X] (fun s_ => [(21, s_.1), (22, .string (strOfNums y315)), (28, s_.2.1)]) (fun s_ w' => (Kd.R k31 31 w' w.heap.size (fun _ => True) (.slice Ao26 t295.length co26) t295) ∧ (Kd.R (Kd.int .u8) 5 w' w.heap.size (fun _ => True) s_.1 y315) ∧ (Kd.R (Kd.int .i64) 2 w' w.heap.size (fun _ => True) s_.2.1 y325) ∧ (∃ c_, (s_.2.1 : Value) = .slice (some s_.2.2) y325.length c_) ∧ (IsS108 w0 w' g s0_0 t304 t305) ∧ (KeepBut w w' g none) ∧ (Below w0.heap.size w0 w')) ?_ ?_
 rotate_left
 {
 intro hJ1_2_8
 refine join_ (σ := Value × Value × Addr) 11 #[Y, Y, X, X, Y, Y, X, X, Y, Y, X, X, X, X, X, X, X] (fun s_ => [(21, s_.1), (25, .int .i64 t321), (28, s_.2.1)]) (fun s_ w' => (Kd.R k31 31 w' w.heap.size (fun _ => True) (.slice Ao26 t295.length co26) t295) ∧ (Kd.R (Kd.int .u8) 5 w' w.heap.size (fun _ => True) s_.1 y315) ∧ (Kd.R (Kd.int .i64) 2 w' w.heap.size (fun _ => True) s_.2.1 y325) ∧ (∃ c_, (s_.2.1 : Value) = .slice (some s_.2.2) y325.length c_) ∧ (IsS108 w0 w' g s0_0 t322 t323) ∧ (KeepBut w w' g none) ∧ (Below w0.heap.size w0 w')) ?_ ?_
 rotate_left
 {
 intro hJ1_5_8
 refine join_ (σ := Value) 11 #[Y, Y, X, X, Y, Y, X, X, X, Y, Y, X, X, X, X, X, X] (fun s_ => [(21, s_), (25, .int .i64 t321), (30, .int .i64 t328)]) (fun s_ w' => (Kd.R k31 31 w' w.heap.size (fun _ => True) (.slice Ao26 t295.length co26) t295) ∧ (Kd.R (Kd.int .u8) 5 w' w.heap.size (fun _ => True) s_ y315) ∧ (IsS108 w0 w' g s0_0 t329 t330) ∧ (KeepBut w w' g none) ∧ (Below w0.heap.size w0 w')) ?_ ?_
 rotate_left
 {
 intro hJ1_5_10
 refine join_ (σ := Value × Addr) 10 #[Y, X, X, X, Y, Y, X, X, Y, Y, Y, Y, X, X, X, X, X] (fun s_ => [(25, .int .i64 t321), (28, s_.1), (30, .int .i64 t328), (31, .pointer (some (s_.2.add (t328).toNat)))]) (fun s_ w' => (Kd.R k31 31 w' w.heap.size (fun _ => True) (.slice Ao26 t295.length co26) t295) ∧ (Kd.R (Kd.int .i64) 2 w' w.heap.size (fun _ => True) s_.1 y325) ∧ (∃ c_, (s_.1 : Value) = .slice (some s_.2) y325.length c_) ∧ (IsS108 w0 w' g s0_0 t329 t330) ∧ (KeepBut w w' g none) ∧ (Below w0.heap.size w0 w')) ?_ ?_
 rotate_left
 {
 intro hJ5_8_10
 refine join_ (σ := Value) 12 #[Y, Y, Y, X, Y, X, X, X, X, Y, X, X, X, X, X, X, X] (fun s_ => [(21, s_), (22, .string (strOfNums y315))]) (fun s_ w' => (Kd.R k31 31 w' w.heap.size (fun _ => True) (.slice Ao26 t295.length co26) t295) ∧ (Kd.R (Kd.int .u8) 5 w' w.heap.size (fun _ => True) s_ y315) ∧ (IsS108 w0 w' g s0_0 t304 t305) ∧ (KeepBut w w' g none) ∧ (Below w0.heap.size w0 w')) ?_ ?_
 rotate_left
 {
 intro hJ1_2
 refine join_ (σ := Value) 12 #[Y, Y, X, X, Y, Y, X, X, X, Y, X, X, X, X, X, X, X] (fun s_ => [(21, s_), (25, .int .i64 t321)]) (fun s_ w' => (Kd.R k31 31 w' w.heap.size (fun _ => True) (.slice Ao26 t295.length co26) t295) ∧ (Kd.R (Kd.int .u8) 5 w' w.heap.size (fun _ => True) s_ y315) ∧ (IsS108 w0 w' g s0_0 t322 t323) ∧ (KeepBut w w' g none) ∧ (Below w0.heap.size w0 w')) ?_ ?_
 rotate_left
 {
 intro hJ1_5
 refine join_ (σ := Value × Value × Addr) 12 #[Y, Y, X, X, Y, X, X, X, Y, Y, X, X, X, X, X, X, X] (fun s_ => [(21, s_.1), (28, s_.2.1)]) (fun s_ w' => (Kd.R k31 31 w' w.heap.size (fun _ => True) (.slice Ao26 t295.length co26) t295) ∧ (Kd.R (Kd.int .u8) 5 w' w.heap.size (fun _ => True) s_.1 y315) ∧ (Kd.R (Kd.int .i64) 2 w' w.heap.size (fun _ => True) s_.2.1 y325) ∧ (∃ c_, (s_.2.1 : Value) = .slice (some s_.2.2) y325.length c_) ∧ (IsS108 w0 w' g s0_0 t304 t305) ∧ (KeepBut w w' g none) ∧ (Below w0.heap.size w0 w')) ?_ ?_
 rotate_left
 {
 intro hJ1_8
 refine join_ (σ := Value × Addr) 12 #[Y, X, X, X, Y, Y, X, X, Y, Y, X, X, X, X, X, X, X] (fun s_ => [(25, .int .i64 t321), (28, s_.1)]) (fun s_ w' => (Kd.R k31 31 w' w.heap.size (fun _ => True) (.slice Ao26 t295.length co26) t295) ∧ (Kd.R (Kd.int .i64) 2 w' w.heap.size (fun _ => True) s_.1 y325) ∧ (∃ c_, (s_.1 : Value) = .slice (some s_.2) y325.length c_) ∧ (IsS108 w0 w' g s0_0 t322 t323) ∧ (KeepBut w w' g none) ∧ (Below w0.heap.size w0 w')) ?_ ?_
 rotate_left
 {
 intro hJ5_8
 refine join_ (σ := Unit) 12 #[Y, X, X, X, Y, Y, X, X, X, Y, Y, X, X, X, X, X, X] (fun s_ => [(25, .int .i64 t321), (30, .int .i64 t328)]) (fun s_ w' => (Kd.R k31 31 w' w.heap.size (fun _ => True) (.slice Ao26 t295.length co26) t295) ∧ (IsS108 w0 w' g s0_0 t329 t330) ∧ (KeepBut w w' g none) ∧ (Below w0.heap.size w0 w')) ?_ ?_
 rotate_left
 {
 intro hJ5_10
 refine join_ (σ := Value) 13 #[Y, Y, X, X, Y, X, X, X, X, Y, X, X, X, X, X, X, X] (fun s_ => [(21, s_)]) (fun s_ w' => (Kd.R k31 31 w' w.heap.size (fun _ => True) (.slice Ao26 t295.length co26) t295) ∧ (Kd.R (Kd.int .u8) 5 w' w.heap.size (fun _ => True) s_ y315) ∧ (IsS108 w0 w' g s0_0 t304 t305) ∧ (KeepBut w w' g none) ∧ (Below w0.heap.size w0 w')) ?_ ?_
 rotate_left
 {
 intro hJ1
 refine join_ (σ := Unit) 13 #[Y, X, X, X, Y, Y, X, X, X, Y, X, X, X, X, X, X, X] (fun s_ => [(25, .int .i64 t321)]) (fun s_ w' => (Kd.R k31 31 w' w.heap.size (fun _ => True) (.slice Ao26 t295.length co26) t295) ∧ (IsS108 w0 w' g s0_0 t322 t323) ∧ (KeepBut w w' g none) ∧ (Below w0.heap.size w0 w')) ?_ ?_
 rotate_left
 {
 intro hJ5
 refine join_ (σ := Value × Addr) 13 #[Y, X, X, X, Y, X, X, X, Y, Y, X, X, X, X, X, X, X] (fun s_ => [(28, s_.1)]) (fun s_ w' => (Kd.R k31 31 w' w.heap.size (fun _ => True) (.slice Ao26 t295.length co26) t295) ∧ (Kd.R (Kd.int .i64) 2 w' w.heap.size (fun _ => True) s_.1 y325) ∧ (∃ c_, (s_.1 : Value) = .slice (some s_.2) y325.length c_) ∧ (IsS108 w0 w' g s0_0 t304 t305) ∧ (KeepBut w w' g none) ∧ (Below w0.heap.size w0 w')) ?_ ?_
 rotate_left
 {
 intro hJ8
 refine three_ (i := 1) (j := 5) (k := 8) (Ni := some 21) (Nj := some 25) (Nk := some 28) #[Y, Y, X, X, Y, X, X, X, X, Y, X, X, X, X, X, X, X] #[Y, X, X, X, Y, Y, X, X, X, Y, X, X, X, X, X, X, X] #[Y, X, X, X, Y, X, X, X, Y, Y, X, X, X, X, X, X, X] rfl rfl rfl rfl rfl rfl (three_of HT_.out (by kernel_rfl)) (by decide) (by decide) (by decide) (fun K hK => ?_) (fun K hK => ?_) (fun K hK => ?_)
 {
 skip
 refine Kd.R_make_step (Kd.int .u8) _ 5 (by rfl) (N := 21) rfl 36 _ _ rfl 41 rfl rfl Try.underlying36 (.int .u8 0) 1 info5 rfl (by decide) (by omega) 0 (ok := fun _ => True) (okp := fun _ => True) rfl (fun _ hk => hk) trivial (by omega) (by omega) (Below.refl _ _) (Nat.le_refl _) ?_
 intro v316 w28 ho29 hb hg_ hnew_
 clear hg_ hnew_
 (first | rw [← Ny315.out] at ho29 | (simp only [Int.reduceToNat] at ho29; rw [← Ny315.out] at ho29))
 have n0_ := Aside0.mk (Kd.R_below z58d hb)
 have n1_ := Aside0.mk (Kd.R_lower ho29 (keep_size (w := w) (g := g) (row := none) z58b))
 have n2_ := Aside0.mk (IsS108.below z58a hb)
 have n3_ := Aside0.mk (KeepBut.trans z58b (KeepBut.of_below hb g none) (.inl rfl))
 have n4_ := Aside0.mk (below_step z58c hb)
 clear HO297
 clear HI0
 clear HK
 clear HB
 have HO297 := n0_
 have HO317 := n1_
 have HI0 := n2_
 have HK := n3_
 have HB := n4_
 clear n0_ n1_ n2_ n3_ n4_
 clear hb ho29
 refine hK.out _ _ trivial (fun hHeld => ?_)
 clear hK K
 refine norm_ (a' := ?_) ?_ ?_
 rotate_left
 {
 show Act.put _ (some 21) _ = _
 simp only [Act.put, List.setIfInBounds_toArray, List.set_cons_zero, List.set_cons_succ, i64_w, i32_w]
 rfl
 }
 exact norm_ z58e (hJ1 (v316) _ ⟨z58d, z58f, z58a, z58b, z58c⟩)
 }
 {
 skip
 refine goes_ Try.func60 (by kernel_rfl) rfl #[.pointer (some ⟨g, 0, none⟩), .int .i64 3] (by rfl) rfl rfl z58h ?_
 with_reducible refine (spec_l1Below.calls g s0_0 t304 t305 3 t321 t322 t323 w0 _ ?side1 ?side2 A16.out).mono ?_
 (case side1 => exact z58a)
 (case side2 => exact z58c)
 rintro e w28 ⟨rfl, hi, hb, hk⟩
 refine ⟨_, rfl, ?_⟩
 have n0_ := Aside0.mk (Kd.R_mono (Kd.R_keep (IsS108.apart (show IsS108 w0 _ g s0_0 t304 t305 from z58a) z58d (by decide)) hk (fun _ h => h.2)) (fun _ h => h.1))
 have n1_ := Aside0.mk (KeepBut.trans z58b hk (.inl rfl))
 have n2_ := Aside0.mk (hb)
 have n3_ := Aside0.mk (hi)
 clear HO297
 clear HK
 clear HB
 clear HI0
 have HO297 := n0_
 have HK := n1_
 have HB := n2_
 have HI0 := n3_
 clear n0_ n1_ n2_ n3_
 (try clear hb)
 (try clear hb2)
 (try clear hk)
 (try clear hi)
 refine hK.out _ _ trivial (fun hHeld => ?_)
 clear hK K
 refine norm_ (a' := ?_) ?_ ?_
 rotate_left
 {
 show Act.put _ (some 25) _ = _
 simp only [Act.put, List.setIfInBounds_toArray, List.set_cons_zero, List.set_cons_succ, i64_w, i32_w]
 rfl
 }
 exact norm_ z58e (hJ5 () _ ⟨z58d, z58a, z58b, z58c⟩)
 }
 {
 skip
 refine Kd.R_lit_step (Kd.int .i64) _ 2 ?hg (N := 28) ?hd (xs := ([0, 1, 1000000, 1000001] : List Int)) (inner := [.int .i64 0, .int .i64 1, .int .i64 1000000, .int .i64 1000001]) (ok := fun _ => True) (okp := fun _ => True) ?hr ?hp (fun _ hk => hk) trivial (Below.refl _ _) (Nat.le_refl _) (by simp) ?_; (case hd => rfl); (case hg => rfl); (case hr => first | (go_simp; done) | (go_simp; rfl)); (case hp => exact (Reps.one (show Kd.M (Kd.int .i64) _ _ _ 0 [.int .i64 0] from rfl) (Reps.one (show Kd.M (Kd.int .i64) _ _ _ 1 [.int .i64 1] from rfl) (Reps.one (show Kd.M (Kd.int .i64) _ _ _ 1000000 [.int .i64 1000000] from rfl) (Reps.one (show Kd.M (Kd.int .i64) _ _ _ 1000001 [.int .i64 1000001] from rfl) (Reps.none _ _))))))
 intro v326 w28 ho29 hb hg_ hnew_
 clear hg_ hnew_
 (first | rw [← Ny325.out] at ho29 | (simp only [Int.reduceToNat] at ho29; rw [← Ny325.out] at ho29))
 have n0_ := Aside0.mk (Kd.R_below z58d hb)
 have n1_ := Aside0.mk (Kd.R_lower ho29 (keep_size (w := w) (g := g) (row := none) z58b))
 have n2_ := Aside0.mk (IsS108.below z58a hb)
 have n3_ := Aside0.mk (KeepBut.trans z58b (KeepBut.of_below hb g none) (.inl rfl))
 have n4_ := Aside0.mk (below_step z58c hb)
 clear HO297
 clear HI0
 clear HK
 clear HB
 have HO297 := n0_
 have HO327 := n1_
 have HI0 := n2_
 have HK := n3_
 have HB := n4_
 clear n0_ n1_ n2_ n3_ n4_
 clear hb ho29
 obtain ⟨Ao30, co30, eo30⟩ := Kd.R_slice HO327.out
 subst eo30
 obtain ⟨ado30, fo30, _⟩ := Kd.at_int (Kd.R_reads' HO327.out).2.2 0 (by decide) (by rw [Ny325.out]; simp)
 cases fo30
 refine hK.out _ _ trivial (fun hHeld => ?_)
 clear hK K
 refine norm_ (a' := ?_) ?_ ?_
 rotate_left
 {
 show Act.put _ (some 28) _ = _
 simp only [Act.put, List.setIfInBounds_toArray, List.set_cons_zero, List.set_cons_succ, i64_w, i32_w]
 rfl
 }
 exact norm_ z58e (hJ8 (.slice (some ado30) y325.length co30, ado30) _ ⟨z58d, z58g, ⟨_, rfl⟩, z58a, z58b, z58c⟩)
 }
 }
 {
 skip
 rintro ⟨v326, adz_v326⟩ w31 ⟨h0_, h1_, h2_, h3_, h4_, h5_⟩
 have n0_ : Aside0 (Kd.R k31 31 w31 w.heap.size (fun _ => True) (.slice Ao26 t295.length co26) t295) := ⟨h0_⟩
 have n1_ : Aside0 (Kd.R (Kd.int .i64) 2 w31 w.heap.size (fun _ => True) v326 y325) := ⟨h1_⟩
 have n2_ : Aside0 (∃ c_, (v326 : Value) = .slice (some adz_v326) y325.length c_) := ⟨h2_⟩
 have n3_ : Aside0 (IsS108 w0 w31 g s0_0 t304 t305) := ⟨h3_⟩
 have n4_ : Aside0 (KeepBut w w31 g none) := ⟨h4_⟩
 have n5_ : Aside0 (Below w0.heap.size w0 w31) := ⟨h5_⟩
 clear HO297
 clear HI0
 clear HK
 clear HB
 clear h0_ h1_ h2_ h3_ h4_ h5_
 have HO297 := n0_
 have HO327 := n1_
 have HA_HO327 := n2_
 have HI0 := n3_
 have HK := n4_
 have HB := n5_
 clear n0_ n1_ n2_ n3_ n4_ n5_
 have hHeld := trivial
 obtain ⟨co32, eo32⟩ := HA_HO327.out
 clear HA_HO327
 subst eo32
 refine norm_ (a' := ?_) ?_ ?_
 rotate_left
 exact z58j
 refine two_ (i := 1) (j := 5) (Ni := some 21) (Nj := some 25) #[Y, Y, X, X, Y, X, X, X, Y, Y, X, X, X, X, X, X, X] #[Y, X, X, X, Y, Y, X, X, Y, Y, X, X, X, X, X, X, X] rfl rfl rfl rfl (two_of HT_.out (by kernel_rfl)) (by decide) (by decide) (fun K hK => ?_) (fun K hK => ?_)
 {
 skip
 refine Kd.R_make_step (Kd.int .u8) _ 5 (by rfl) (N := 21) rfl 36 _ _ rfl 41 rfl rfl Try.underlying36 (.int .u8 0) 1 info5 rfl (by decide) (by omega) 0 (ok := fun _ => True) (okp := fun _ => True) rfl (fun _ hk => hk) trivial (by omega) (by omega) (Below.refl _ _) (Nat.le_refl _) ?_
 intro v316 w33 ho34 hb hg_ hnew_
 clear hg_ hnew_
 (first | rw [← Ny315.out] at ho34 | (simp only [Int.reduceToNat] at ho34; rw [← Ny315.out] at ho34))
 have n0_ := Aside0.mk (Kd.R_below z58d hb)
 have n1_ := Aside0.mk (Kd.R_below z58g hb)
 have n2_ := Aside0.mk (Kd.R_lower ho34 (keep_size (w := w) (g := g) (row := none) z58b))
 have n3_ := Aside0.mk (IsS108.below z58a hb)
 have n4_ := Aside0.mk (KeepBut.trans z58b (KeepBut.of_below hb g none) (.inl rfl))
 have n5_ := Aside0.mk (below_step z58c hb)
 clear HO297
 clear HO327
 clear HI0
 clear HK
 clear HB
 have HO297 := n0_
 have HO327 := n1_
 have HO317 := n2_
 have HI0 := n3_
 have HK := n4_
 have HB := n5_
 clear n0_ n1_ n2_ n3_ n4_ n5_
 clear hb ho34
 refine hK.out _ _ trivial (fun hHeld => ?_)
 clear hK K
 refine norm_ (a' := ?_) ?_ ?_
 rotate_left
 {
 show Act.put _ (some 21) _ = _
 simp only [Act.put, List.setIfInBounds_toArray, List.set_cons_zero, List.set_cons_succ, i64_w, i32_w]
 rfl
 }
 exact norm_ z58e (hJ1_8 (v316, .slice (some adz_v326) y325.length co32, adz_v326) _ ⟨z58d, z58f, z58g, ⟨_, rfl⟩, z58a, z58b, z58c⟩)
 }
 {
 skip
 refine goes_ Try.func60 (by kernel_rfl) rfl #[.pointer (some ⟨g, 0, none⟩), .int .i64 3] (by rfl) rfl rfl z58h ?_
 with_reducible refine (spec_l1Below.calls g s0_0 t304 t305 3 t321 t322 t323 w0 _ ?side1 ?side2 A16.out).mono ?_
 (case side1 => exact z58a)
 (case side2 => exact z58c)
 rintro e w33 ⟨rfl, hi, hb, hk⟩
 refine ⟨_, rfl, ?_⟩
 have n0_ := Aside0.mk (Kd.R_mono (Kd.R_keep (IsS108.apart (show IsS108 w0 _ g s0_0 t304 t305 from z58a) z58d (by decide)) hk (fun _ h => h.2)) (fun _ h => h.1))
 have n1_ := Aside0.mk (Kd.R_mono (Kd.R_keep (IsS108.apart (show IsS108 w0 _ g s0_0 t304 t305 from z58a) z58g (by decide)) hk (fun _ h => h.2)) (fun _ h => h.1))
 have n2_ := Aside0.mk (KeepBut.trans z58b hk (.inl rfl))
 have n3_ := Aside0.mk (hb)
 have n4_ := Aside0.mk (hi)
 clear HO297
 clear HO327
 clear HK
 clear HB
 clear HI0
 have HO297 := n0_
 have HO327 := n1_
 have HK := n2_
 have HB := n3_
 have HI0 := n4_
 clear n0_ n1_ n2_ n3_ n4_
 (try clear hb)
 (try clear hb2)
 (try clear hk)
 (try clear hi)
 refine hK.out _ _ trivial (fun hHeld => ?_)
 clear hK K
 refine norm_ (a' := ?_) ?_ ?_
 rotate_left
 {
 show Act.put _ (some 25) _ = _
 simp only [Act.put, List.setIfInBounds_toArray, List.set_cons_zero, List.set_cons_succ, i64_w, i32_w]
 rfl
 }
 exact norm_ z58e (hJ5_8 (.slice (some adz_v326) y325.length co32, adz_v326) _ ⟨z58d, z58g, ⟨_, rfl⟩, z58a, z58b, z58c⟩)
 }
 }
 }
 {
 skip
 rintro _ w29 ⟨h0_, h1_, h2_, h3_⟩
 have n0_ : Aside0 (Kd.R k31 31 w29 w.heap.size (fun _ => True) (.slice Ao26 t295.length co26) t295) := ⟨h0_⟩
 have n1_ : Aside0 (IsS108 w0 w29 g s0_0 t322 t323) := ⟨h1_⟩
 have n2_ : Aside0 (KeepBut w w29 g none) := ⟨h2_⟩
 have n3_ : Aside0 (Below w0.heap.size w0 w29) := ⟨h3_⟩
 clear HO297
 clear HI0
 clear HK
 clear HB
 clear h0_ h1_ h2_ h3_
 have HO297 := n0_
 have HI0 := n1_
 have HK := n2_
 have HB := n3_
 clear n0_ n1_ n2_ n3_
 have hHeld := trivial
 refine norm_ (a' := ?_) ?_ ?_
 rotate_left
 exact z58j
 refine three_ (i := 1) (j := 8) (k := 10) (Ni := some 21) (Nj := some 28) (Nk := some 30) #[Y, Y, X, X, Y, Y, X, X, X, Y, X, X, X, X, X, X, X] #[Y, X, X, X, Y, Y, X, X, Y, Y, X, X, X, X, X, X, X] #[Y, X, X, X, Y, Y, X, X, X, Y, Y, X, X, X, X, X, X] rfl rfl rfl rfl rfl rfl (three_of HT_.out (by kernel_rfl)) (by decide) (by decide) (by decide) (fun K hK => ?_) (fun K hK => ?_) (fun K hK => ?_)
 {
 skip
 refine Kd.R_make_step (Kd.int .u8) _ 5 (by rfl) (N := 21) rfl 36 _ _ rfl 41 rfl rfl Try.underlying36 (.int .u8 0) 1 info5 rfl (by decide) (by omega) 0 (ok := fun _ => True) (okp := fun _ => True) rfl (fun _ hk => hk) trivial (by omega) (by omega) (Below.refl _ _) (Nat.le_refl _) ?_
 intro v316 w30 ho31 hb hg_ hnew_
 clear hg_ hnew_
 (first | rw [← Ny315.out] at ho31 | (simp only [Int.reduceToNat] at ho31; rw [← Ny315.out] at ho31))
 have n0_ := Aside0.mk (Kd.R_below z58d hb)
 have n1_ := Aside0.mk (Kd.R_lower ho31 (keep_size (w := w) (g := g) (row := none) z58b))
 have n2_ := Aside0.mk (IsS108.below z58a hb)
 have n3_ := Aside0.mk (KeepBut.trans z58b (KeepBut.of_below hb g none) (.inl rfl))
 have n4_ := Aside0.mk (below_step z58c hb)
 clear HO297
 clear HI0
 clear HK
 clear HB
 have HO297 := n0_
 have HO317 := n1_
 have HI0 := n2_
 have HK := n3_
 have HB := n4_
 clear n0_ n1_ n2_ n3_ n4_
 clear hb ho31
 refine hK.out _ _ trivial (fun hHeld => ?_)
 clear hK K
 refine norm_ (a' := ?_) ?_ ?_
 rotate_left
 {
 show Act.put _ (some 21) _ = _
 simp only [Act.put, List.setIfInBounds_toArray, List.set_cons_zero, List.set_cons_succ, i64_w, i32_w]
 rfl
 }
 exact norm_ z58e (hJ1_5 (v316) _ ⟨z58d, z58f, z58a, z58b, z58c⟩)
 }
 {
 skip
 refine Kd.R_lit_step (Kd.int .i64) _ 2 ?hg (N := 28) ?hd (xs := ([0, 1, 1000000, 1000001] : List Int)) (inner := [.int .i64 0, .int .i64 1, .int .i64 1000000, .int .i64 1000001]) (ok := fun _ => True) (okp := fun _ => True) ?hr ?hp (fun _ hk => hk) trivial (Below.refl _ _) (Nat.le_refl _) (by simp) ?_; (case hd => rfl); (case hg => rfl); (case hr => first | (go_simp; done) | (go_simp; rfl)); (case hp => exact (Reps.one (show Kd.M (Kd.int .i64) _ _ _ 0 [.int .i64 0] from rfl) (Reps.one (show Kd.M (Kd.int .i64) _ _ _ 1 [.int .i64 1] from rfl) (Reps.one (show Kd.M (Kd.int .i64) _ _ _ 1000000 [.int .i64 1000000] from rfl) (Reps.one (show Kd.M (Kd.int .i64) _ _ _ 1000001 [.int .i64 1000001] from rfl) (Reps.none _ _))))))
 intro v326 w30 ho31 hb hg_ hnew_
 clear hg_ hnew_
 (first | rw [← Ny325.out] at ho31 | (simp only [Int.reduceToNat] at ho31; rw [← Ny325.out] at ho31))
 have n0_ := Aside0.mk (Kd.R_below z58d hb)
 have n1_ := Aside0.mk (Kd.R_lower ho31 (keep_size (w := w) (g := g) (row := none) z58b))
 have n2_ := Aside0.mk (IsS108.below z58a hb)
 have n3_ := Aside0.mk (KeepBut.trans z58b (KeepBut.of_below hb g none) (.inl rfl))
 have n4_ := Aside0.mk (below_step z58c hb)
 clear HO297
 clear HI0
 clear HK
 clear HB
 have HO297 := n0_
 have HO327 := n1_
 have HI0 := n2_
 have HK := n3_
 have HB := n4_
 clear n0_ n1_ n2_ n3_ n4_
 clear hb ho31
 obtain ⟨Ao32, co32, eo32⟩ := Kd.R_slice HO327.out
 subst eo32
 obtain ⟨ado32, fo32, _⟩ := Kd.at_int (Kd.R_reads' HO327.out).2.2 0 (by decide) (by rw [Ny325.out]; simp)
 cases fo32
 refine hK.out _ _ trivial (fun hHeld => ?_)
 clear hK K
 refine norm_ (a' := ?_) ?_ ?_
 rotate_left
 {
 show Act.put _ (some 28) _ = _
 simp only [Act.put, List.setIfInBounds_toArray, List.set_cons_zero, List.set_cons_succ, i64_w, i32_w]
 rfl
 }
 exact norm_ z58e (hJ5_8 (.slice (some ado32) y325.length co32, ado32) _ ⟨z58d, z58g, ⟨_, rfl⟩, z58a, z58b, z58c⟩)
 }
 {
 skip
 refine goes_ Try.func60 (by kernel_rfl) rfl #[.pointer (some ⟨g, 0, none⟩), .int .i64 4] (by rfl) rfl rfl z58h ?_
 with_reducible refine (spec_l1Below.calls g s0_0 t322 t323 4 t328 t329 t330 w0 _ ?side1 ?side2 A19.out).mono ?_
 (case side1 => exact z58a)
 (case side2 => exact z58c)
 rintro e w30 ⟨rfl, hi, hb, hk⟩
 refine ⟨_, rfl, ?_⟩
 have n0_ := Aside0.mk (Kd.R_mono (Kd.R_keep (IsS108.apart (show IsS108 w0 _ g s0_0 t322 t323 from z58a) z58d (by decide)) hk (fun _ h => h.2)) (fun _ h => h.1))
 have n1_ := Aside0.mk (KeepBut.trans z58b hk (.inl rfl))
 have n2_ := Aside0.mk (hb)
 have n3_ := Aside0.mk (hi)
 clear HO297
 clear HK
 clear HB
 clear HI0
 have HO297 := n0_
 have HK := n1_
 have HB := n2_
 have HI0 := n3_
 clear n0_ n1_ n2_ n3_
 (try clear hb)
 (try clear hb2)
 (try clear hk)
 (try clear hi)
 refine hK.out _ _ trivial (fun hHeld => ?_)
 clear hK K
 refine norm_ (a' := ?_) ?_ ?_
 rotate_left
 {
 show Act.put _ (some 30) _ = _
 simp only [Act.put, List.setIfInBounds_toArray, List.set_cons_zero, List.set_cons_succ, i64_w, i32_w]
 rfl
 }
 exact norm_ z58e (hJ5_10 () _ ⟨z58d, z58a, z58b, z58c⟩)
 }
 }
 }
 {
 skip
 rintro v316 w30 ⟨h0_, h1_, h2_, h3_, h4_⟩
 have n0_ : Aside0 (Kd.R k31 31 w30 w.heap.size (fun _ => True) (.slice Ao26 t295.length co26) t295) := ⟨h0_⟩
 have n1_ : Aside0 (Kd.R (Kd.int .u8) 5 w30 w.heap.size (fun _ => True) v316 y315) := ⟨h1_⟩
 have n2_ : Aside0 (IsS108 w0 w30 g s0_0 t304 t305) := ⟨h2_⟩
 have n3_ : Aside0 (KeepBut w w30 g none) := ⟨h3_⟩
 have n4_ : Aside0 (Below w0.heap.size w0 w30) := ⟨h4_⟩
 clear HO297
 clear HI0
 clear HK
 clear HB
 clear h0_ h1_ h2_ h3_ h4_
 have HO297 := n0_
 have HO317 := n1_
 have HI0 := n2_
 have HK := n3_
 have HB := n4_
 clear n0_ n1_ n2_ n3_ n4_
 have hHeld := trivial
 refine norm_ (a' := ?_) ?_ ?_
 rotate_left
 exact z58j
 refine three_ (i := 2) (j := 5) (k := 8) (Ni := some 22) (Nj := some 25) (Nk := some 28) #[Y, Y, Y, X, Y, X, X, X, X, Y, X, X, X, X, X, X, X] #[Y, Y, X, X, Y, Y, X, X, X, Y, X, X, X, X, X, X, X] #[Y, Y, X, X, Y, X, X, X, Y, Y, X, X, X, X, X, X, X] rfl rfl rfl rfl rfl rfl (three_of HT_.out (by kernel_rfl)) (by decide) (by decide) (by decide) (fun K hK => ?_) (fun K hK => ?_) (fun K hK => ?_)
 {
 skip
 have hcv31 := own_string (P := Try.prog) Try.underlying36 Try.underlying5 Try.underlying9 (Kd.own_of_R HO317.out)
 refine value_ (w1 := ?_) (v := ?_) (by rfl) rfl ?_ ?_
 rotate_left 2
 {
 go_simp
 constructor
 {
 rfl
 }
 {
 rfl
 }
 }
 clear hcv31
 refine hK.out _ _ trivial (fun hHeld => ?_)
 clear hK K
 refine norm_ (a' := ?_) ?_ ?_
 rotate_left
 {
 show Act.put _ (some 22) _ = _
 simp only [Act.put, List.setIfInBounds_toArray, List.set_cons_zero, List.set_cons_succ, i64_w, i32_w]
 rfl
 }
 exact norm_ z58e (hJ1_2 (v316) _ ⟨z58d, z58f, z58a, z58b, z58c⟩)
 }
 {
 skip
 refine goes_ Try.func60 (by kernel_rfl) rfl #[.pointer (some ⟨g, 0, none⟩), .int .i64 3] (by rfl) rfl rfl z58h ?_
 with_reducible refine (spec_l1Below.calls g s0_0 t304 t305 3 t321 t322 t323 w0 _ ?side1 ?side2 A16.out).mono ?_
 (case side1 => exact z58a)
 (case side2 => exact z58c)
 rintro e w31 ⟨rfl, hi, hb, hk⟩
 refine ⟨_, rfl, ?_⟩
 have n0_ := Aside0.mk (Kd.R_mono (Kd.R_keep (IsS108.apart (show IsS108 w0 _ g s0_0 t304 t305 from z58a) z58d (by decide)) hk (fun _ h => h.2)) (fun _ h => h.1))
 have n1_ := Aside0.mk (Kd.R_mono (Kd.R_keep (IsS108.apart (show IsS108 w0 _ g s0_0 t304 t305 from z58a) z58f (by decide)) hk (fun _ h => h.2)) (fun _ h => h.1))
 have n2_ := Aside0.mk (KeepBut.trans z58b hk (.inl rfl))
 have n3_ := Aside0.mk (hb)
 have n4_ := Aside0.mk (hi)
 clear HO297
 clear HO317
 clear HK
 clear HB
 clear HI0
 have HO297 := n0_
 have HO317 := n1_
 have HK := n2_
 have HB := n3_
 have HI0 := n4_
 clear n0_ n1_ n2_ n3_ n4_
 (try clear hb)
 (try clear hb2)
 (try clear hk)
 (try clear hi)
 refine hK.out _ _ trivial (fun hHeld => ?_)
 clear hK K
 refine norm_ (a' := ?_) ?_ ?_
 rotate_left
 {
 show Act.put _ (some 25) _ = _
 simp only [Act.put, List.setIfInBounds_toArray, List.set_cons_zero, List.set_cons_succ, i64_w, i32_w]
 rfl
 }
 exact norm_ z58e (hJ1_5 (v316) _ ⟨z58d, z58f, z58a, z58b, z58c⟩)
 }
 {
 skip
 refine Kd.R_lit_step (Kd.int .i64) _ 2 ?hg (N := 28) ?hd (xs := ([0, 1, 1000000, 1000001] : List Int)) (inner := [.int .i64 0, .int .i64 1, .int .i64 1000000, .int .i64 1000001]) (ok := fun _ => True) (okp := fun _ => True) ?hr ?hp (fun _ hk => hk) trivial (Below.refl _ _) (Nat.le_refl _) (by simp) ?_; (case hd => rfl); (case hg => rfl); (case hr => first | (go_simp; done) | (go_simp; rfl)); (case hp => exact (Reps.one (show Kd.M (Kd.int .i64) _ _ _ 0 [.int .i64 0] from rfl) (Reps.one (show Kd.M (Kd.int .i64) _ _ _ 1 [.int .i64 1] from rfl) (Reps.one (show Kd.M (Kd.int .i64) _ _ _ 1000000 [.int .i64 1000000] from rfl) (Reps.one (show Kd.M (Kd.int .i64) _ _ _ 1000001 [.int .i64 1000001] from rfl) (Reps.none _ _))))))
 intro v326 w31 ho32 hb hg_ hnew_
 clear hg_ hnew_
 (first | rw [← Ny325.out] at ho32 | (simp only [Int.reduceToNat] at ho32; rw [← Ny325.out] at ho32))
 have n0_ := Aside0.mk (Kd.R_below z58d hb)
 have n1_ := Aside0.mk (Kd.R_below z58f hb)
 have n2_ := Aside0.mk (Kd.R_lower ho32 (keep_size (w := w) (g := g) (row := none) z58b))
 have n3_ := Aside0.mk (IsS108.below z58a hb)
 have n4_ := Aside0.mk (KeepBut.trans z58b (KeepBut.of_below hb g none) (.inl rfl))
 have n5_ := Aside0.mk (below_step z58c hb)
 clear HO297
 clear HO317
 clear HI0
 clear HK
 clear HB
 have HO297 := n0_
 have HO317 := n1_
 have HO327 := n2_
 have HI0 := n3_
 have HK := n4_
 have HB := n5_
 clear n0_ n1_ n2_ n3_ n4_ n5_
 clear hb ho32
 obtain ⟨Ao33, co33, eo33⟩ := Kd.R_slice HO327.out
 subst eo33
 obtain ⟨ado33, fo33, _⟩ := Kd.at_int (Kd.R_reads' HO327.out).2.2 0 (by decide) (by rw [Ny325.out]; simp)
 cases fo33
 refine hK.out _ _ trivial (fun hHeld => ?_)
 clear hK K
 refine norm_ (a' := ?_) ?_ ?_
 rotate_left
 {
 show Act.put _ (some 28) _ = _
 simp only [Act.put, List.setIfInBounds_toArray, List.set_cons_zero, List.set_cons_succ, i64_w, i32_w]
 rfl
 }
 exact norm_ z58e (hJ1_8 (v316, .slice (some ado33) y325.length co33, ado33) _ ⟨z58d, z58f, z58g, ⟨_, rfl⟩, z58a, z58b, z58c⟩)
 }
 }
 }
 {
 skip
 rintro _ w30 ⟨h0_, h1_, h2_, h3_⟩
 have n0_ : Aside0 (Kd.R k31 31 w30 w.heap.size (fun _ => True) (.slice Ao26 t295.length co26) t295) := ⟨h0_⟩
 have n1_ : Aside0 (IsS108 w0 w30 g s0_0 t329 t330) := ⟨h1_⟩
 have n2_ : Aside0 (KeepBut w w30 g none) := ⟨h2_⟩
 have n3_ : Aside0 (Below w0.heap.size w0 w30) := ⟨h3_⟩
 clear HO297
 clear HI0
 clear HK
 clear HB
 clear h0_ h1_ h2_ h3_
 have HO297 := n0_
 have HI0 := n1_
 have HK := n2_
 have HB := n3_
 clear n0_ n1_ n2_ n3_
 have hHeld := trivial
 refine norm_ (a' := ?_) ?_ ?_
 rotate_left
 exact z58j
 refine two_ (i := 1) (j := 8) (Ni := some 21) (Nj := some 28) #[Y, Y, X, X, Y, Y, X, X, X, Y, Y, X, X, X, X, X, X] #[Y, X, X, X, Y, Y, X, X, Y, Y, Y, X, X, X, X, X, X] rfl rfl rfl rfl (two_of HT_.out (by kernel_rfl)) (by decide) (by decide) (fun K hK => ?_) (fun K hK => ?_)
 {
 skip
 refine Kd.R_make_step (Kd.int .u8) _ 5 (by rfl) (N := 21) rfl 36 _ _ rfl 41 rfl rfl Try.underlying36 (.int .u8 0) 1 info5 rfl (by decide) (by omega) 0 (ok := fun _ => True) (okp := fun _ => True) rfl (fun _ hk => hk) trivial (by omega) (by omega) (Below.refl _ _) (Nat.le_refl _) ?_
 intro v316 w31 ho32 hb hg_ hnew_
 clear hg_ hnew_
 (first | rw [← Ny315.out] at ho32 | (simp only [Int.reduceToNat] at ho32; rw [← Ny315.out] at ho32))
 have n0_ := Aside0.mk (Kd.R_below z58d hb)
 have n1_ := Aside0.mk (Kd.R_lower ho32 (keep_size (w := w) (g := g) (row := none) z58b))
 have n2_ := Aside0.mk (IsS108.below z58a hb)
 have n3_ := Aside0.mk (KeepBut.trans z58b (KeepBut.of_below hb g none) (.inl rfl))
 have n4_ := Aside0.mk (below_step z58c hb)
 clear HO297
 clear HI0
 clear HK
 clear HB
 have HO297 := n0_
 have HO317 := n1_
 have HI0 := n2_
 have HK := n3_
 have HB := n4_
 clear n0_ n1_ n2_ n3_ n4_
 clear hb ho32
 refine hK.out _ _ trivial (fun hHeld => ?_)
 clear hK K
 refine norm_ (a' := ?_) ?_ ?_
 rotate_left
 {
 show Act.put _ (some 21) _ = _
 simp only [Act.put, List.setIfInBounds_toArray, List.set_cons_zero, List.set_cons_succ, i64_w, i32_w]
 rfl
 }
 exact norm_ z58e (hJ1_5_10 (v316) _ ⟨z58d, z58f, z58a, z58b, z58c⟩)
 }
 {
 skip
 refine Kd.R_lit_step (Kd.int .i64) _ 2 ?hg (N := 28) ?hd (xs := ([0, 1, 1000000, 1000001] : List Int)) (inner := [.int .i64 0, .int .i64 1, .int .i64 1000000, .int .i64 1000001]) (ok := fun _ => True) (okp := fun _ => True) ?hr ?hp (fun _ hk => hk) trivial (Below.refl _ _) (Nat.le_refl _) (by simp) ?_; (case hd => rfl); (case hg => rfl); (case hr => first | (go_simp; done) | (go_simp; rfl)); (case hp => exact (Reps.one (show Kd.M (Kd.int .i64) _ _ _ 0 [.int .i64 0] from rfl) (Reps.one (show Kd.M (Kd.int .i64) _ _ _ 1 [.int .i64 1] from rfl) (Reps.one (show Kd.M (Kd.int .i64) _ _ _ 1000000 [.int .i64 1000000] from rfl) (Reps.one (show Kd.M (Kd.int .i64) _ _ _ 1000001 [.int .i64 1000001] from rfl) (Reps.none _ _))))))
 intro v326 w31 ho32 hb hg_ hnew_
 clear hg_ hnew_
 (first | rw [← Ny325.out] at ho32 | (simp only [Int.reduceToNat] at ho32; rw [← Ny325.out] at ho32))
 have n0_ := Aside0.mk (Kd.R_below z58d hb)
 have n1_ := Aside0.mk (Kd.R_lower ho32 (keep_size (w := w) (g := g) (row := none) z58b))
 have n2_ := Aside0.mk (IsS108.below z58a hb)
 have n3_ := Aside0.mk (KeepBut.trans z58b (KeepBut.of_below hb g none) (.inl rfl))
 have n4_ := Aside0.mk (below_step z58c hb)
 clear HO297
 clear HI0
 clear HK
 clear HB
 have HO297 := n0_
 have HO327 := n1_
 have HI0 := n2_
 have HK := n3_
 have HB := n4_
 clear n0_ n1_ n2_ n3_ n4_
 clear hb ho32
 obtain ⟨Ao33, co33, eo33⟩ := Kd.R_slice HO327.out
 subst eo33
 obtain ⟨ado33, fo33, _⟩ := Kd.at_int (Kd.R_reads' HO327.out).2.2 0 (by decide) (by rw [Ny325.out]; simp)
 cases fo33
 refine hK.out _ _ trivial (fun hHeld => ?_)
 clear hK K
 refine norm_ (a' := ?_) ?_ ?_
 rotate_left
 {
 show Act.put _ (some 28) _ = _
 simp only [Act.put, List.setIfInBounds_toArray, List.set_cons_zero, List.set_cons_succ, i64_w, i32_w]
 rfl
 }
 refine pure_ (i := 11) (N := some 31) (v := _) (a' := _) #[Y, X, X, X, Y, Y, X, X, Y, Y, Y, Y, X, X, X, X, X] rfl rfl (any_of HT_.out (by kernel_rfl)) (fun _ _ _ h => h) (Or.inl ⟨by rfl, (by intro w'; go_simp; with_reducible rfl)⟩) z58k ?_
 exact norm_ z58e (hJ5_8_10 (.slice (some ado33) y325.length co33, ado33) _ ⟨z58d, z58g, ⟨_, rfl⟩, z58a, z58b, z58c⟩)
 }
 }
 }
 {
 skip
 rintro ⟨v326, adz_v326⟩ w32 ⟨h0_, h1_, h2_, h3_, h4_, h5_⟩
 have n0_ : Aside0 (Kd.R k31 31 w32 w.heap.size (fun _ => True) (.slice Ao26 t295.length co26) t295) := ⟨h0_⟩
 have n1_ : Aside0 (Kd.R (Kd.int .i64) 2 w32 w.heap.size (fun _ => True) v326 y325) := ⟨h1_⟩
 have n2_ : Aside0 (∃ c_, (v326 : Value) = .slice (some adz_v326) y325.length c_) := ⟨h2_⟩
 have n3_ : Aside0 (IsS108 w0 w32 g s0_0 t322 t323) := ⟨h3_⟩
 have n4_ : Aside0 (KeepBut w w32 g none) := ⟨h4_⟩
 have n5_ : Aside0 (Below w0.heap.size w0 w32) := ⟨h5_⟩
 clear HO297
 clear HI0
 clear HK
 clear HB
 clear h0_ h1_ h2_ h3_ h4_ h5_
 have HO297 := n0_
 have HO327 := n1_
 have HA_HO327 := n2_
 have HI0 := n3_
 have HK := n4_
 have HB := n5_
 clear n0_ n1_ n2_ n3_ n4_ n5_
 have hHeld := trivial
 obtain ⟨co33, eo33⟩ := HA_HO327.out
 clear HA_HO327
 subst eo33
 refine norm_ (a' := ?_) ?_ ?_
 rotate_left
 exact z58j
 refine two_ (i := 1) (j := 10) (Ni := some 21) (Nj := some 30) #[Y, Y, X, X, Y, Y, X, X, Y, Y, X, X, X, X, X, X, X] #[Y, X, X, X, Y, Y, X, X, Y, Y, Y, X, X, X, X, X, X] rfl rfl rfl rfl (two_of HT_.out (by kernel_rfl)) (by decide) (by decide) (fun K hK => ?_) (fun K hK => ?_)
 {
 skip
 refine Kd.R_make_step (Kd.int .u8) _ 5 (by rfl) (N := 21) rfl 36 _ _ rfl 41 rfl rfl Try.underlying36 (.int .u8 0) 1 info5 rfl (by decide) (by omega) 0 (ok := fun _ => True) (okp := fun _ => True) rfl (fun _ hk => hk) trivial (by omega) (by omega) (Below.refl _ _) (Nat.le_refl _) ?_
 intro v316 w34 ho35 hb hg_ hnew_
 clear hg_ hnew_
 (first | rw [← Ny315.out] at ho35 | (simp only [Int.reduceToNat] at ho35; rw [← Ny315.out] at ho35))
 have n0_ := Aside0.mk (Kd.R_below z58d hb)
 have n1_ := Aside0.mk (Kd.R_below z58g hb)
 have n2_ := Aside0.mk (Kd.R_lower ho35 (keep_size (w := w) (g := g) (row := none) z58b))
 have n3_ := Aside0.mk (IsS108.below z58a hb)
 have n4_ := Aside0.mk (KeepBut.trans z58b (KeepBut.of_below hb g none) (.inl rfl))
 have n5_ := Aside0.mk (below_step z58c hb)
 clear HO297
 clear HO327
 clear HI0
 clear HK
 clear HB
 have HO297 := n0_
 have HO327 := n1_
 have HO317 := n2_
 have HI0 := n3_
 have HK := n4_
 have HB := n5_
 clear n0_ n1_ n2_ n3_ n4_ n5_
 clear hb ho35
 refine hK.out _ _ trivial (fun hHeld => ?_)
 clear hK K
 refine norm_ (a' := ?_) ?_ ?_
 rotate_left
 {
 show Act.put _ (some 21) _ = _
 simp only [Act.put, List.setIfInBounds_toArray, List.set_cons_zero, List.set_cons_succ, i64_w, i32_w]
 rfl
 }
 exact norm_ z58e (hJ1_5_8 (v316, .slice (some adz_v326) y325.length co33, adz_v326) _ ⟨z58d, z58f, z58g, ⟨_, rfl⟩, z58a, z58b, z58c⟩)
 }
 {
 skip
 refine goes_ Try.func60 (by kernel_rfl) rfl #[.pointer (some ⟨g, 0, none⟩), .int .i64 4] (by rfl) rfl rfl z58h ?_
 with_reducible refine (spec_l1Below.calls g s0_0 t322 t323 4 t328 t329 t330 w0 _ ?side1 ?side2 A19.out).mono ?_
 (case side1 => exact z58a)
 (case side2 => exact z58c)
 rintro e w34 ⟨rfl, hi, hb, hk⟩
 refine ⟨_, rfl, ?_⟩
 have n0_ := Aside0.mk (Kd.R_mono (Kd.R_keep (IsS108.apart (show IsS108 w0 _ g s0_0 t322 t323 from z58a) z58d (by decide)) hk (fun _ h => h.2)) (fun _ h => h.1))
 have n1_ := Aside0.mk (Kd.R_mono (Kd.R_keep (IsS108.apart (show IsS108 w0 _ g s0_0 t322 t323 from z58a) z58g (by decide)) hk (fun _ h => h.2)) (fun _ h => h.1))
 have n2_ := Aside0.mk (KeepBut.trans z58b hk (.inl rfl))
 have n3_ := Aside0.mk (hb)
 have n4_ := Aside0.mk (hi)
 clear HO297
 clear HO327
 clear HK
 clear HB
 clear HI0
 have HO297 := n0_
 have HO327 := n1_
 have HK := n2_
 have HB := n3_
 have HI0 := n4_
 clear n0_ n1_ n2_ n3_ n4_
 (try clear hb)
 (try clear hb2)
 (try clear hk)
 (try clear hi)
 refine hK.out _ _ trivial (fun hHeld => ?_)
 clear hK K
 refine norm_ (a' := ?_) ?_ ?_
 rotate_left
 {
 show Act.put _ (some 30) _ = _
 simp only [Act.put, List.setIfInBounds_toArray, List.set_cons_zero, List.set_cons_succ, i64_w, i32_w]
 rfl
 }
 refine pure_ (i := 11) (N := some 31) (v := _) (a' := _) #[Y, X, X, X, Y, Y, X, X, Y, Y, Y, Y, X, X, X, X, X] rfl rfl (any_of HT_.out (by kernel_rfl)) (fun _ _ _ h => h) (Or.inl ⟨by rfl, (by intro w'; go_simp; with_reducible rfl)⟩) z58k ?_
 exact norm_ z58e (hJ5_8_10 (.slice (some adz_v326) y325.length co33, adz_v326) _ ⟨z58d, z58g, ⟨_, rfl⟩, z58a, z58b, z58c⟩)
 }
 }
 }
 {
 skip
 rintro ⟨v316, v326, adz_v326⟩ w33 ⟨h0_, h1_, h2_, h3_, h4_, h5_, h6_⟩
 have n0_ : Aside0 (Kd.R k31 31 w33 w.heap.size (fun _ => True) (.slice Ao26 t295.length co26) t295) := ⟨h0_⟩
 have n1_ : Aside0 (Kd.R (Kd.int .u8) 5 w33 w.heap.size (fun _ => True) v316 y315) := ⟨h1_⟩
 have n2_ : Aside0 (Kd.R (Kd.int .i64) 2 w33 w.heap.size (fun _ => True) v326 y325) := ⟨h2_⟩
 have n3_ : Aside0 (∃ c_, (v326 : Value) = .slice (some adz_v326) y325.length c_) := ⟨h3_⟩
 have n4_ : Aside0 (IsS108 w0 w33 g s0_0 t304 t305) := ⟨h4_⟩
 have n5_ : Aside0 (KeepBut w w33 g none) := ⟨h5_⟩
 have n6_ : Aside0 (Below w0.heap.size w0 w33) := ⟨h6_⟩
 clear HO297
 clear HI0
 clear HK
 clear HB
 clear h0_ h1_ h2_ h3_ h4_ h5_ h6_
 have HO297 := n0_
 have HO317 := n1_
 have HO327 := n2_
 have HA_HO327 := n3_
 have HI0 := n4_
 have HK := n5_
 have HB := n6_
 clear n0_ n1_ n2_ n3_ n4_ n5_ n6_
 have hHeld := trivial
 obtain ⟨co34, eo34⟩ := HA_HO327.out
 clear HA_HO327
 subst eo34
 refine norm_ (a' := ?_) ?_ ?_
 rotate_left
 exact z58j
 refine two_ (i := 2) (j := 5) (Ni := some 22) (Nj := some 25) #[Y, Y, Y, X, Y, X, X, X, Y, Y, X, X, X, X, X, X, X] #[Y, Y, X, X, Y, Y, X, X, Y, Y, X, X, X, X, X, X, X] rfl rfl rfl rfl (two_of HT_.out (by kernel_rfl)) (by decide) (by decide) (fun K hK => ?_) (fun K hK => ?_)
 {
 skip
 have hcv35 := own_string (P := Try.prog) Try.underlying36 Try.underlying5 Try.underlying9 (Kd.own_of_R HO317.out)
 refine value_ (w1 := ?_) (v := ?_) (by rfl) rfl ?_ ?_
 rotate_left 2
 {
 go_simp
 constructor
 {
 rfl
 }
 {
 rfl
 }
 }
 clear hcv35
 refine hK.out _ _ trivial (fun hHeld => ?_)
 clear hK K
 refine norm_ (a' := ?_) ?_ ?_
 rotate_left
 {
 show Act.put _ (some 22) _ = _
 simp only [Act.put, List.setIfInBounds_toArray, List.set_cons_zero, List.set_cons_succ, i64_w, i32_w]
 rfl
 }
 exact norm_ z58e (hJ1_2_8 (v316, .slice (some adz_v326) y325.length co34, adz_v326) _ ⟨z58d, z58f, z58g, ⟨_, rfl⟩, z58a, z58b, z58c⟩)
 }
 {
 skip
 refine goes_ Try.func60 (by kernel_rfl) rfl #[.pointer (some ⟨g, 0, none⟩), .int .i64 3] (by rfl) rfl rfl z58h ?_
 with_reducible refine (spec_l1Below.calls g s0_0 t304 t305 3 t321 t322 t323 w0 _ ?side1 ?side2 A16.out).mono ?_
 (case side1 => exact z58a)
 (case side2 => exact z58c)
 rintro e w35 ⟨rfl, hi, hb, hk⟩
 refine ⟨_, rfl, ?_⟩
 have n0_ := Aside0.mk (Kd.R_mono (Kd.R_keep (IsS108.apart (show IsS108 w0 _ g s0_0 t304 t305 from z58a) z58d (by decide)) hk (fun _ h => h.2)) (fun _ h => h.1))
 have n1_ := Aside0.mk (Kd.R_mono (Kd.R_keep (IsS108.apart (show IsS108 w0 _ g s0_0 t304 t305 from z58a) z58f (by decide)) hk (fun _ h => h.2)) (fun _ h => h.1))
 have n2_ := Aside0.mk (Kd.R_mono (Kd.R_keep (IsS108.apart (show IsS108 w0 _ g s0_0 t304 t305 from z58a) z58g (by decide)) hk (fun _ h => h.2)) (fun _ h => h.1))
 have n3_ := Aside0.mk (KeepBut.trans z58b hk (.inl rfl))
 have n4_ := Aside0.mk (hb)
 have n5_ := Aside0.mk (hi)
 clear HO297
 clear HO317
 clear HO327
 clear HK
 clear HB
 clear HI0
 have HO297 := n0_
 have HO317 := n1_
 have HO327 := n2_
 have HK := n3_
 have HB := n4_
 have HI0 := n5_
 clear n0_ n1_ n2_ n3_ n4_ n5_
 (try clear hb)
 (try clear hb2)
 (try clear hk)
 (try clear hi)
 refine hK.out _ _ trivial (fun hHeld => ?_)
 clear hK K
 refine norm_ (a' := ?_) ?_ ?_
 rotate_left
 {
 show Act.put _ (some 25) _ = _
 simp only [Act.put, List.setIfInBounds_toArray, List.set_cons_zero, List.set_cons_succ, i64_w, i32_w]
 rfl
 }
 exact norm_ z58e (hJ1_5_8 (v316, .slice (some adz_v326) y325.length co34, adz_v326) _ ⟨z58d, z58f, z58g, ⟨_, rfl⟩, z58a, z58b, z58c⟩)
 }
 }
 }
 {
 skip
 rintro v316 w31 ⟨h0_, h1_, h2_, h3_, h4_⟩
 have n0_ : Aside0 (Kd.R k31 31 w31 w.heap.size (fun _ => True) (.slice Ao26 t295.length co26) t295) := ⟨h0_⟩
 have n1_ : Aside0 (Kd.R (Kd.int .u8) 5 w31 w.heap.size (fun _ => True) v316 y315) := ⟨h1_⟩
 have n2_ : Aside0 (IsS108 w0 w31 g s0_0 t322 t323) := ⟨h2_⟩
 have n3_ : Aside0 (KeepBut w w31 g none) := ⟨h3_⟩
 have n4_ : Aside0 (Below w0.heap.size w0 w31) := ⟨h4_⟩
 clear HO297
 clear HI0
 clear HK
 clear HB
 clear h0_ h1_ h2_ h3_ h4_
 have HO297 := n0_
 have HO317 := n1_
 have HI0 := n2_
 have HK := n3_
 have HB := n4_
 clear n0_ n1_ n2_ n3_ n4_
 have hHeld := trivial
 refine norm_ (a' := ?_) ?_ ?_
 rotate_left
 exact z58j
 refine three_ (i := 2) (j := 8) (k := 10) (Ni := some 22) (Nj := some 28) (Nk := some 30) #[Y, Y, Y, X, Y, Y, X, X, X, Y, X, X, X, X, X, X, X] #[Y, Y, X, X, Y, Y, X, X, Y, Y, X, X, X, X, X, X, X] #[Y, Y, X, X, Y, Y, X, X, X, Y, Y, X, X, X, X, X, X] rfl rfl rfl rfl rfl rfl (three_of HT_.out (by kernel_rfl)) (by decide) (by decide) (by decide) (fun K hK => ?_) (fun K hK => ?_) (fun K hK => ?_)
 {
 skip
 have hcv32 := own_string (P := Try.prog) Try.underlying36 Try.underlying5 Try.underlying9 (Kd.own_of_R HO317.out)
 refine value_ (w1 := ?_) (v := ?_) (by rfl) rfl ?_ ?_
 rotate_left 2
 {
 go_simp
 constructor
 {
 rfl
 }
 {
 rfl
 }
 }
 clear hcv32
 refine hK.out _ _ trivial (fun hHeld => ?_)
 clear hK K
 refine norm_ (a' := ?_) ?_ ?_
 rotate_left
 {
 show Act.put _ (some 22) _ = _
 simp only [Act.put, List.setIfInBounds_toArray, List.set_cons_zero, List.set_cons_succ, i64_w, i32_w]
 rfl
 }
 exact norm_ z58e (hJ1_2_5 (v316) _ ⟨z58d, z58f, z58a, z58b, z58c⟩)
 }
 {
 skip
 refine Kd.R_lit_step (Kd.int .i64) _ 2 ?hg (N := 28) ?hd (xs := ([0, 1, 1000000, 1000001] : List Int)) (inner := [.int .i64 0, .int .i64 1, .int .i64 1000000, .int .i64 1000001]) (ok := fun _ => True) (okp := fun _ => True) ?hr ?hp (fun _ hk => hk) trivial (Below.refl _ _) (Nat.le_refl _) (by simp) ?_; (case hd => rfl); (case hg => rfl); (case hr => first | (go_simp; done) | (go_simp; rfl)); (case hp => exact (Reps.one (show Kd.M (Kd.int .i64) _ _ _ 0 [.int .i64 0] from rfl) (Reps.one (show Kd.M (Kd.int .i64) _ _ _ 1 [.int .i64 1] from rfl) (Reps.one (show Kd.M (Kd.int .i64) _ _ _ 1000000 [.int .i64 1000000] from rfl) (Reps.one (show Kd.M (Kd.int .i64) _ _ _ 1000001 [.int .i64 1000001] from rfl) (Reps.none _ _))))))
 intro v326 w32 ho33 hb hg_ hnew_
 clear hg_ hnew_
 (first | rw [← Ny325.out] at ho33 | (simp only [Int.reduceToNat] at ho33; rw [← Ny325.out] at ho33))
 have n0_ := Aside0.mk (Kd.R_below z58d hb)
 have n1_ := Aside0.mk (Kd.R_below z58f hb)
 have n2_ := Aside0.mk (Kd.R_lower ho33 (keep_size (w := w) (g := g) (row := none) z58b))
 have n3_ := Aside0.mk (IsS108.below z58a hb)
 have n4_ := Aside0.mk (KeepBut.trans z58b (KeepBut.of_below hb g none) (.inl rfl))
 have n5_ := Aside0.mk (below_step z58c hb)
 clear HO297
 clear HO317
 clear HI0
 clear HK
 clear HB
 have HO297 := n0_
 have HO317 := n1_
 have HO327 := n2_
 have HI0 := n3_
 have HK := n4_
 have HB := n5_
 clear n0_ n1_ n2_ n3_ n4_ n5_
 clear hb ho33
 obtain ⟨Ao34, co34, eo34⟩ := Kd.R_slice HO327.out
 subst eo34
 obtain ⟨ado34, fo34, _⟩ := Kd.at_int (Kd.R_reads' HO327.out).2.2 0 (by decide) (by rw [Ny325.out]; simp)
 cases fo34
 refine hK.out _ _ trivial (fun hHeld => ?_)
 clear hK K
 refine norm_ (a' := ?_) ?_ ?_
 rotate_left
 {
 show Act.put _ (some 28) _ = _
 simp only [Act.put, List.setIfInBounds_toArray, List.set_cons_zero, List.set_cons_succ, i64_w, i32_w]
 rfl
 }
 exact norm_ z58e (hJ1_5_8 (v316, .slice (some ado34) y325.length co34, ado34) _ ⟨z58d, z58f, z58g, ⟨_, rfl⟩, z58a, z58b, z58c⟩)
 }
 {
 skip
 refine goes_ Try.func60 (by kernel_rfl) rfl #[.pointer (some ⟨g, 0, none⟩), .int .i64 4] (by rfl) rfl rfl z58h ?_
 with_reducible refine (spec_l1Below.calls g s0_0 t322 t323 4 t328 t329 t330 w0 _ ?side1 ?side2 A19.out).mono ?_
 (case side1 => exact z58a)
 (case side2 => exact z58c)
 rintro e w32 ⟨rfl, hi, hb, hk⟩
 refine ⟨_, rfl, ?_⟩
 have n0_ := Aside0.mk (Kd.R_mono (Kd.R_keep (IsS108.apart (show IsS108 w0 _ g s0_0 t322 t323 from z58a) z58d (by decide)) hk (fun _ h => h.2)) (fun _ h => h.1))
 have n1_ := Aside0.mk (Kd.R_mono (Kd.R_keep (IsS108.apart (show IsS108 w0 _ g s0_0 t322 t323 from z58a) z58f (by decide)) hk (fun _ h => h.2)) (fun _ h => h.1))
 have n2_ := Aside0.mk (KeepBut.trans z58b hk (.inl rfl))
 have n3_ := Aside0.mk (hb)
 have n4_ := Aside0.mk (hi)
 clear HO297
 clear HO317
 clear HK
 clear HB
 clear HI0
 have HO297 := n0_
 have HO317 := n1_
 have HK := n2_
 have HB := n3_
 have HI0 := n4_
 clear n0_ n1_ n2_ n3_ n4_
 (try clear hb)
 (try clear hb2)
 (try clear hk)
 (try clear hi)
 refine hK.out _ _ trivial (fun hHeld => ?_)
 clear hK K
 refine norm_ (a' := ?_) ?_ ?_
 rotate_left
 {
 show Act.put _ (some 30) _ = _
 simp only [Act.put, List.setIfInBounds_toArray, List.set_cons_zero, List.set_cons_succ, i64_w, i32_w]
 rfl
 }
 exact norm_ z58e (hJ1_5_10 (v316) _ ⟨z58d, z58f, z58a, z58b, z58c⟩)
 }
 }
 }
 {
 skip
 rintro v316 w31 ⟨h0_, h1_, h2_, h3_, h4_⟩
 have n0_ : Aside0 (Kd.R k31 31 w31 w.heap.size (fun _ => True) (.slice Ao26 t295.length co26) t295) := ⟨h0_⟩
 have n1_ : Aside0 (Kd.R (Kd.int .u8) 5 w31 w.heap.size (fun _ => True) v316 y315) := ⟨h1_⟩
 have n2_ : Aside0 (IsS108 w0 w31 g s0_0 t304 t305) := ⟨h2_⟩
 have n3_ : Aside0 (KeepBut w w31 g none) := ⟨h3_⟩
 have n4_ : Aside0 (Below w0.heap.size w0 w31) := ⟨h4_⟩
 clear HO297
 clear HI0
 clear HK
 clear HB
 clear h0_ h1_ h2_ h3_ h4_
 have HO297 := n0_
 have HO317 := n1_
 have HI0 := n2_
 have HK := n3_
 have HB := n4_
 clear n0_ n1_ n2_ n3_ n4_
 have hHeld := trivial
 refine norm_ (a' := ?_) ?_ ?_
 rotate_left
 exact z58j
 refine three_ (i := 3) (j := 5) (k := 8) (Ni := some 23) (Nj := some 25) (Nk := some 28) #[Y, Y, Y, Y, Y, X, X, X, X, Y, X, X, X, X, X, X, X] #[Y, Y, Y, X, Y, Y, X, X, X, Y, X, X, X, X, X, X, X] #[Y, Y, Y, X, Y, X, X, X, Y, Y, X, X, X, X, X, X, X] rfl rfl rfl rfl rfl rfl (three_of HT_.out (by kernel_rfl)) (by decide) (by decide) (by decide) (fun K hK => ?_) (fun K hK => ?_) (fun K hK => ?_)
 {
 skip
 refine Kd.R_lit_step Kd.string _ 9 ?hg (N := 23) ?hd (xs := ([(⟨#[]⟩ : ByteArray), (⟨#[122, 122]⟩ : ByteArray), strOfNums y315] : List ByteArray)) (inner := [.string (⟨#[]⟩ : ByteArray), .string (⟨#[122, 122]⟩ : ByteArray), .string (strOfNums y315)]) (ok := fun _ => True) (okp := fun _ => True) ?hr ?hp (fun _ hk => hk) trivial (Below.refl _ _) (Nat.le_refl _) (by simp) ?_; (case hd => rfl); (case hg => rfl); (case hr => first | (go_simp; done) | (go_simp; rfl)); (case hp => exact (Reps.one (show Kd.M Kd.string _ _ _ (⟨#[]⟩ : ByteArray) [.string (⟨#[]⟩ : ByteArray)] from rfl) (Reps.one (show Kd.M Kd.string _ _ _ (⟨#[122, 122]⟩ : ByteArray) [.string (⟨#[122, 122]⟩ : ByteArray)] from rfl) (Reps.one (show Kd.M Kd.string _ _ _ (strOfNums y315) [.string (strOfNums y315)] from rfl) (Reps.none _ _)))))
 intro v319 w32 ho33 hb hg_ hnew_
 clear hg_ hnew_
 (first | rw [← Ny318.out] at ho33 | (simp only [Int.reduceToNat] at ho33; rw [← Ny318.out] at ho33))
 have n0_ := Aside0.mk (Kd.R_below z58d hb)
 have n1_ := Aside0.mk (Kd.R_below z58f hb)
 have n2_ := Aside0.mk (Kd.R_lower ho33 (keep_size (w := w) (g := g) (row := none) z58b))
 have n3_ := Aside0.mk (IsS108.below z58a hb)
 have n4_ := Aside0.mk (KeepBut.trans z58b (KeepBut.of_below hb g none) (.inl rfl))
 have n5_ := Aside0.mk (below_step z58c hb)
 clear HO297
 clear HO317
 clear HI0
 clear HK
 clear HB
 have HO297 := n0_
 have HO317 := n1_
 have HO320 := n2_
 have HI0 := n3_
 have HK := n4_
 have HB := n5_
 clear n0_ n1_ n2_ n3_ n4_ n5_
 clear hb ho33
 obtain ⟨Ao34, co34, eo34⟩ := Kd.R_slice HO320.out
 subst eo34
 obtain ⟨ado34, fo34, _⟩ := Kd.at_string (Kd.R_reads' HO320.out).2.2 0 (by decide) (by rw [Ny318.out]; simp)
 cases fo34
 refine hK.out _ _ trivial (fun hHeld => ?_)
 clear hK K
 refine norm_ (a' := ?_) ?_ ?_
 rotate_left
 {
 show Act.put _ (some 23) _ = _
 simp only [Act.put, List.setIfInBounds_toArray, List.set_cons_zero, List.set_cons_succ, i64_w, i32_w]
 rfl
 }
 exact norm_ z58e (hJ1_2_3 (v316, .slice (some ado34) y318.length co34, ado34) _ ⟨z58d, z58f, z58i, ⟨_, rfl⟩, z58a, z58b, z58c⟩)
 }
 {
 skip
 refine goes_ Try.func60 (by kernel_rfl) rfl #[.pointer (some ⟨g, 0, none⟩), .int .i64 3] (by rfl) rfl rfl z58h ?_
 with_reducible refine (spec_l1Below.calls g s0_0 t304 t305 3 t321 t322 t323 w0 _ ?side1 ?side2 A16.out).mono ?_
 (case side1 => exact z58a)
 (case side2 => exact z58c)
 rintro e w32 ⟨rfl, hi, hb, hk⟩
 refine ⟨_, rfl, ?_⟩
 have n0_ := Aside0.mk (Kd.R_mono (Kd.R_keep (IsS108.apart (show IsS108 w0 _ g s0_0 t304 t305 from z58a) z58d (by decide)) hk (fun _ h => h.2)) (fun _ h => h.1))
 have n1_ := Aside0.mk (Kd.R_mono (Kd.R_keep (IsS108.apart (show IsS108 w0 _ g s0_0 t304 t305 from z58a) z58f (by decide)) hk (fun _ h => h.2)) (fun _ h => h.1))
 have n2_ := Aside0.mk (KeepBut.trans z58b hk (.inl rfl))
 have n3_ := Aside0.mk (hb)
 have n4_ := Aside0.mk (hi)
 clear HO297
 clear HO317
 clear HK
 clear HB
 clear HI0
 have HO297 := n0_
 have HO317 := n1_
 have HK := n2_
 have HB := n3_
 have HI0 := n4_
 clear n0_ n1_ n2_ n3_ n4_
 (try clear hb)
 (try clear hb2)
 (try clear hk)
 (try clear hi)
 refine hK.out _ _ trivial (fun hHeld => ?_)
 clear hK K
 refine norm_ (a' := ?_) ?_ ?_
 rotate_left
 {
 show Act.put _ (some 25) _ = _
 simp only [Act.put, List.setIfInBounds_toArray, List.set_cons_zero, List.set_cons_succ, i64_w, i32_w]
 rfl
 }
 exact norm_ z58e (hJ1_2_5 (v316) _ ⟨z58d, z58f, z58a, z58b, z58c⟩)
 }
 {
 skip
 refine Kd.R_lit_step (Kd.int .i64) _ 2 ?hg (N := 28) ?hd (xs := ([0, 1, 1000000, 1000001] : List Int)) (inner := [.int .i64 0, .int .i64 1, .int .i64 1000000, .int .i64 1000001]) (ok := fun _ => True) (okp := fun _ => True) ?hr ?hp (fun _ hk => hk) trivial (Below.refl _ _) (Nat.le_refl _) (by simp) ?_; (case hd => rfl); (case hg => rfl); (case hr => first | (go_simp; done) | (go_simp; rfl)); (case hp => exact (Reps.one (show Kd.M (Kd.int .i64) _ _ _ 0 [.int .i64 0] from rfl) (Reps.one (show Kd.M (Kd.int .i64) _ _ _ 1 [.int .i64 1] from rfl) (Reps.one (show Kd.M (Kd.int .i64) _ _ _ 1000000 [.int .i64 1000000] from rfl) (Reps.one (show Kd.M (Kd.int .i64) _ _ _ 1000001 [.int .i64 1000001] from rfl) (Reps.none _ _))))))
 intro v326 w32 ho33 hb hg_ hnew_
 clear hg_ hnew_
 (first | rw [← Ny325.out] at ho33 | (simp only [Int.reduceToNat] at ho33; rw [← Ny325.out] at ho33))
 have n0_ := Aside0.mk (Kd.R_below z58d hb)
 have n1_ := Aside0.mk (Kd.R_below z58f hb)
 have n2_ := Aside0.mk (Kd.R_lower ho33 (keep_size (w := w) (g := g) (row := none) z58b))
 have n3_ := Aside0.mk (IsS108.below z58a hb)
 have n4_ := Aside0.mk (KeepBut.trans z58b (KeepBut.of_below hb g none) (.inl rfl))
 have n5_ := Aside0.mk (below_step z58c hb)
 clear HO297
 clear HO317
 clear HI0
 clear HK
 clear HB
 have HO297 := n0_
 have HO317 := n1_
 have HO327 := n2_
 have HI0 := n3_
 have HK := n4_
 have HB := n5_
 clear n0_ n1_ n2_ n3_ n4_ n5_
 clear hb ho33
 obtain ⟨Ao34, co34, eo34⟩ := Kd.R_slice HO327.out
 subst eo34
 obtain ⟨ado34, fo34, _⟩ := Kd.at_int (Kd.R_reads' HO327.out).2.2 0 (by decide) (by rw [Ny325.out]; simp)
 cases fo34
 refine hK.out _ _ trivial (fun hHeld => ?_)
 clear hK K
 refine norm_ (a' := ?_) ?_ ?_
 rotate_left
 {
 show Act.put _ (some 28) _ = _
 simp only [Act.put, List.setIfInBounds_toArray, List.set_cons_zero, List.set_cons_succ, i64_w, i32_w]
 rfl
 }
 exact norm_ z58e (hJ1_2_8 (v316, .slice (some ado34) y325.length co34, ado34) _ ⟨z58d, z58f, z58g, ⟨_, rfl⟩, z58a, z58b, z58c⟩)
 }
 }
 }
 {
 skip
 rintro ⟨v326, adz_v326⟩ w33 ⟨h0_, h1_, h2_, h3_, h4_, h5_⟩
 have n0_ : Aside0 (Kd.R k31 31 w33 w.heap.size (fun _ => True) (.slice Ao26 t295.length co26) t295) := ⟨h0_⟩
 have n1_ : Aside0 (Kd.R (Kd.int .i64) 2 w33 w.heap.size (fun _ => True) v326 y325) := ⟨h1_⟩
 have n2_ : Aside0 (∃ c_, (v326 : Value) = .slice (some adz_v326) y325.length c_) := ⟨h2_⟩
 have n3_ : Aside0 (IsS108 w0 w33 g s0_0 t329 t330) := ⟨h3_⟩
 have n4_ : Aside0 (KeepBut w w33 g none) := ⟨h4_⟩
 have n5_ : Aside0 (Below w0.heap.size w0 w33) := ⟨h5_⟩
 clear HO297
 clear HI0
 clear HK
 clear HB
 clear h0_ h1_ h2_ h3_ h4_ h5_
 have HO297 := n0_
 have HO327 := n1_
 have HA_HO327 := n2_
 have HI0 := n3_
 have HK := n4_
 have HB := n5_
 clear n0_ n1_ n2_ n3_ n4_ n5_
 have hHeld := trivial
 obtain ⟨co34, eo34⟩ := HA_HO327.out
 clear HA_HO327
 subst eo34
 refine norm_ (a' := ?_) ?_ ?_
 rotate_left
 exact z58j
 refine two_ (i := 1) (j := 12) (Ni := some 21) (Nj := some 32) #[Y, Y, X, X, Y, Y, X, X, Y, Y, Y, Y, X, X, X, X, X] #[Y, X, X, X, Y, Y, X, X, Y, Y, Y, Y, Y, X, X, X, X] rfl rfl rfl rfl (two_of HT_.out (by kernel_rfl)) (by decide) (by decide) (fun K hK => ?_) (fun K hK => ?_)
 {
 skip
 refine Kd.R_make_step (Kd.int .u8) _ 5 (by rfl) (N := 21) rfl 36 _ _ rfl 41 rfl rfl Try.underlying36 (.int .u8 0) 1 info5 rfl (by decide) (by omega) 0 (ok := fun _ => True) (okp := fun _ => True) rfl (fun _ hk => hk) trivial (by omega) (by omega) (Below.refl _ _) (Nat.le_refl _) ?_
 intro v316 w35 ho36 hb hg_ hnew_
 clear hg_ hnew_
 (first | rw [← Ny315.out] at ho36 | (simp only [Int.reduceToNat] at ho36; rw [← Ny315.out] at ho36))
 have n0_ := Aside0.mk (Kd.R_below z58d hb)
 have n1_ := Aside0.mk (Kd.R_below z58g hb)
 have n2_ := Aside0.mk (Kd.R_lower ho36 (keep_size (w := w) (g := g) (row := none) z58b))
 have n3_ := Aside0.mk (IsS108.below z58a hb)
 have n4_ := Aside0.mk (KeepBut.trans z58b (KeepBut.of_below hb g none) (.inl rfl))
 have n5_ := Aside0.mk (below_step z58c hb)
 clear HO297
 clear HO327
 clear HI0
 clear HK
 clear HB
 have HO297 := n0_
 have HO327 := n1_
 have HO317 := n2_
 have HI0 := n3_
 have HK := n4_
 have HB := n5_
 clear n0_ n1_ n2_ n3_ n4_ n5_
 clear hb ho36
 refine hK.out _ _ trivial (fun hHeld => ?_)
 clear hK K
 refine norm_ (a' := ?_) ?_ ?_
 rotate_left
 {
 show Act.put _ (some 21) _ = _
 simp only [Act.put, List.setIfInBounds_toArray, List.set_cons_zero, List.set_cons_succ, i64_w, i32_w]
 rfl
 }
 exact norm_ z58e (hJ1_5_8_10 (v316, .slice (some adz_v326) y325.length co34, adz_v326) _ ⟨z58d, z58f, z58g, ⟨_, rfl⟩, z58a, z58b, z58c⟩)
 }
 {
 skip
 (have p331 : 0 ≤ (t328 : Int) := of_decide_eq_true z58l; have q331 : t328 < (y325.length : Int) := of_decide_eq_true z58l; obtain ⟨ad331, e331, hx331_0⟩ := Kd.at_int (Kd.R_reads' HO327.out).2.2 t328 p331 q331; obtain rfl : adz_v326 = ad331 := (by injection e331))
 refine value_ (w1 := ?_) (v := ?_) (by rfl) rfl ?_ ?_
 rotate_left 2
 {
 go_simp
 constructor
 {
 rfl
 }
 {
 rfl
 }
 }
 clear hx331_0
 refine hK.out _ _ trivial (fun hHeld => ?_)
 clear hK K
 refine norm_ (a' := ?_) ?_ ?_
 rotate_left
 {
 show Act.put _ (some 32) _ = _
 simp only [Act.put, List.setIfInBounds_toArray, List.set_cons_zero, List.set_cons_succ, i64_w, i32_w]
 rfl
 }
 exact norm_ z58e (hJ5_8_10_12 (.slice (some adz_v326) y325.length co34, adz_v326) _ ⟨z58d, z58g, ⟨_, rfl⟩, z58a, z58b, z58c⟩)
 }
 }
 }
 {
 skip
 rintro v316 w32 ⟨h0_, h1_, h2_, h3_, h4_⟩
 have n0_ : Aside0 (Kd.R k31 31 w32 w.heap.size (fun _ => True) (.slice Ao26 t295.length co26) t295) := ⟨h0_⟩
 have n1_ : Aside0 (Kd.R (Kd.int .u8) 5 w32 w.heap.size (fun _ => True) v316 y315) := ⟨h1_⟩
 have n2_ : Aside0 (IsS108 w0 w32 g s0_0 t329 t330) := ⟨h2_⟩
 have n3_ : Aside0 (KeepBut w w32 g none) := ⟨h3_⟩
 have n4_ : Aside0 (Below w0.heap.size w0 w32) := ⟨h4_⟩
 clear HO297
 clear HI0
 clear HK
 clear HB
 clear h0_ h1_ h2_ h3_ h4_
 have HO297 := n0_
 have HO317 := n1_
 have HI0 := n2_
 have HK := n3_
 have HB := n4_
 clear n0_ n1_ n2_ n3_ n4_
 have hHeld := trivial
 refine norm_ (a' := ?_) ?_ ?_
 rotate_left
 exact z58j
 refine two_ (i := 2) (j := 8) (Ni := some 22) (Nj := some 28) #[Y, Y, Y, X, Y, Y, X, X, X, Y, Y, X, X, X, X, X, X] #[Y, Y, X, X, Y, Y, X, X, Y, Y, Y, X, X, X, X, X, X] rfl rfl rfl rfl (two_of HT_.out (by kernel_rfl)) (by decide) (by decide) (fun K hK => ?_) (fun K hK => ?_)
 {
 skip
 have hcv33 := own_string (P := Try.prog) Try.underlying36 Try.underlying5 Try.underlying9 (Kd.own_of_R HO317.out)
 refine value_ (w1 := ?_) (v := ?_) (by rfl) rfl ?_ ?_
 rotate_left 2
 {
 go_simp
 constructor
 {
 rfl
 }
 {
 rfl
 }
 }
 clear hcv33
 refine hK.out _ _ trivial (fun hHeld => ?_)
 clear hK K
 refine norm_ (a' := ?_) ?_ ?_
 rotate_left
 {
 show Act.put _ (some 22) _ = _
 simp only [Act.put, List.setIfInBounds_toArray, List.set_cons_zero, List.set_cons_succ, i64_w, i32_w]
 rfl
 }
 exact norm_ z58e (hJ1_2_5_10 (v316) _ ⟨z58d, z58f, z58a, z58b, z58c⟩)
 }
 {
 skip
 refine Kd.R_lit_step (Kd.int .i64) _ 2 ?hg (N := 28) ?hd (xs := ([0, 1, 1000000, 1000001] : List Int)) (inner := [.int .i64 0, .int .i64 1, .int .i64 1000000, .int .i64 1000001]) (ok := fun _ => True) (okp := fun _ => True) ?hr ?hp (fun _ hk => hk) trivial (Below.refl _ _) (Nat.le_refl _) (by simp) ?_; (case hd => rfl); (case hg => rfl); (case hr => first | (go_simp; done) | (go_simp; rfl)); (case hp => exact (Reps.one (show Kd.M (Kd.int .i64) _ _ _ 0 [.int .i64 0] from rfl) (Reps.one (show Kd.M (Kd.int .i64) _ _ _ 1 [.int .i64 1] from rfl) (Reps.one (show Kd.M (Kd.int .i64) _ _ _ 1000000 [.int .i64 1000000] from rfl) (Reps.one (show Kd.M (Kd.int .i64) _ _ _ 1000001 [.int .i64 1000001] from rfl) (Reps.none _ _))))))
 intro v326 w33 ho34 hb hg_ hnew_
 clear hg_ hnew_
 (first | rw [← Ny325.out] at ho34 | (simp only [Int.reduceToNat] at ho34; rw [← Ny325.out] at ho34))
 have n0_ := Aside0.mk (Kd.R_below z58d hb)
 have n1_ := Aside0.mk (Kd.R_below z58f hb)
 have n2_ := Aside0.mk (Kd.R_lower ho34 (keep_size (w := w) (g := g) (row := none) z58b))
 have n3_ := Aside0.mk (IsS108.below z58a hb)
 have n4_ := Aside0.mk (KeepBut.trans z58b (KeepBut.of_below hb g none) (.inl rfl))
 have n5_ := Aside0.mk (below_step z58c hb)
 clear HO297
 clear HO317
 clear HI0
 clear HK
 clear HB
 have HO297 := n0_
 have HO317 := n1_
 have HO327 := n2_
 have HI0 := n3_
 have HK := n4_
 have HB := n5_
 clear n0_ n1_ n2_ n3_ n4_ n5_
 clear hb ho34
 obtain ⟨Ao35, co35, eo35⟩ := Kd.R_slice HO327.out
 subst eo35
 obtain ⟨ado35, fo35, _⟩ := Kd.at_int (Kd.R_reads' HO327.out).2.2 0 (by decide) (by rw [Ny325.out]; simp)
 cases fo35
 refine hK.out _ _ trivial (fun hHeld => ?_)
 clear hK K
 refine norm_ (a' := ?_) ?_ ?_
 rotate_left
 {
 show Act.put _ (some 28) _ = _
 simp only [Act.put, List.setIfInBounds_toArray, List.set_cons_zero, List.set_cons_succ, i64_w, i32_w]
 rfl
 }
 refine pure_ (i := 11) (N := some 31) (v := _) (a' := _) #[Y, Y, X, X, Y, Y, X, X, Y, Y, Y, Y, X, X, X, X, X] rfl rfl (any_of HT_.out (by kernel_rfl)) (fun _ _ _ h => h) (Or.inl ⟨by rfl, (by intro w'; go_simp; with_reducible rfl)⟩) z58k ?_
 exact norm_ z58e (hJ1_5_8_10 (v316, .slice (some ado35) y325.length co35, ado35) _ ⟨z58d, z58f, z58g, ⟨_, rfl⟩, z58a, z58b, z58c⟩)
 }
 }
 }
 {
 skip
 rintro ⟨v316, v326, adz_v326⟩ w34 ⟨h0_, h1_, h2_, h3_, h4_, h5_, h6_⟩
 have n0_ : Aside0 (Kd.R k31 31 w34 w.heap.size (fun _ => True) (.slice Ao26 t295.length co26) t295) := ⟨h0_⟩
 have n1_ : Aside0 (Kd.R (Kd.int .u8) 5 w34 w.heap.size (fun _ => True) v316 y315) := ⟨h1_⟩
 have n2_ : Aside0 (Kd.R (Kd.int .i64) 2 w34 w.heap.size (fun _ => True) v326 y325) := ⟨h2_⟩
 have n3_ : Aside0 (∃ c_, (v326 : Value) = .slice (some adz_v326) y325.length c_) := ⟨h3_⟩
 have n4_ : Aside0 (IsS108 w0 w34 g s0_0 t322 t323) := ⟨h4_⟩
 have n5_ : Aside0 (KeepBut w w34 g none) := ⟨h5_⟩
 have n6_ : Aside0 (Below w0.heap.size w0 w34) := ⟨h6_⟩
 clear HO297
 clear HI0
 clear HK
 clear HB
 clear h0_ h1_ h2_ h3_ h4_ h5_ h6_
 have HO297 := n0_
 have HO317 := n1_
 have HO327 := n2_
 have HA_HO327 := n3_
 have HI0 := n4_
 have HK := n5_
 have HB := n6_
 clear n0_ n1_ n2_ n3_ n4_ n5_ n6_
 have hHeld := trivial
 obtain ⟨co35, eo35⟩ := HA_HO327.out
 clear HA_HO327
 subst eo35
 refine norm_ (a' := ?_) ?_ ?_
 rotate_left
 exact z58j
 refine two_ (i := 2) (j := 10) (Ni := some 22) (Nj := some 30) #[Y, Y, Y, X, Y, Y, X, X, Y, Y, X, X, X, X, X, X, X] #[Y, Y, X, X, Y, Y, X, X, Y, Y, Y, X, X, X, X, X, X] rfl rfl rfl rfl (two_of HT_.out (by kernel_rfl)) (by decide) (by decide) (fun K hK => ?_) (fun K hK => ?_)
 {
 skip
 have hcv36 := own_string (P := Try.prog) Try.underlying36 Try.underlying5 Try.underlying9 (Kd.own_of_R HO317.out)
 refine value_ (w1 := ?_) (v := ?_) (by rfl) rfl ?_ ?_
 rotate_left 2
 {
 go_simp
 constructor
 {
 rfl
 }
 {
 rfl
 }
 }
 clear hcv36
 refine hK.out _ _ trivial (fun hHeld => ?_)
 clear hK K
 refine norm_ (a' := ?_) ?_ ?_
 rotate_left
 {
 show Act.put _ (some 22) _ = _
 simp only [Act.put, List.setIfInBounds_toArray, List.set_cons_zero, List.set_cons_succ, i64_w, i32_w]
 rfl
 }
 exact norm_ z58e (hJ1_2_5_8 (v316, .slice (some adz_v326) y325.length co35, adz_v326) _ ⟨z58d, z58f, z58g, ⟨_, rfl⟩, z58a, z58b, z58c⟩)
 }
 {
 skip
 refine goes_ Try.func60 (by kernel_rfl) rfl #[.pointer (some ⟨g, 0, none⟩), .int .i64 4] (by rfl) rfl rfl z58h ?_
 with_reducible refine (spec_l1Below.calls g s0_0 t322 t323 4 t328 t329 t330 w0 _ ?side1 ?side2 A19.out).mono ?_
 (case side1 => exact z58a)
 (case side2 => exact z58c)
 rintro e w36 ⟨rfl, hi, hb, hk⟩
 refine ⟨_, rfl, ?_⟩
 have n0_ := Aside0.mk (Kd.R_mono (Kd.R_keep (IsS108.apart (show IsS108 w0 _ g s0_0 t322 t323 from z58a) z58d (by decide)) hk (fun _ h => h.2)) (fun _ h => h.1))
 have n1_ := Aside0.mk (Kd.R_mono (Kd.R_keep (IsS108.apart (show IsS108 w0 _ g s0_0 t322 t323 from z58a) z58f (by decide)) hk (fun _ h => h.2)) (fun _ h => h.1))
 have n2_ := Aside0.mk (Kd.R_mono (Kd.R_keep (IsS108.apart (show IsS108 w0 _ g s0_0 t322 t323 from z58a) z58g (by decide)) hk (fun _ h => h.2)) (fun _ h => h.1))
 have n3_ := Aside0.mk (KeepBut.trans z58b hk (.inl rfl))
 have n4_ := Aside0.mk (hb)
 have n5_ := Aside0.mk (hi)
 clear HO297
 clear HO317
 clear HO327
 clear HK
 clear HB
 clear HI0
 have HO297 := n0_
 have HO317 := n1_
 have HO327 := n2_
 have HK := n3_
 have HB := n4_
 have HI0 := n5_
 clear n0_ n1_ n2_ n3_ n4_ n5_
 (try clear hb)
 (try clear hb2)
 (try clear hk)
 (try clear hi)
 refine hK.out _ _ trivial (fun hHeld => ?_)
 clear hK K
 refine norm_ (a' := ?_) ?_ ?_
 rotate_left
 {
 show Act.put _ (some 30) _ = _
 simp only [Act.put, List.setIfInBounds_toArray, List.set_cons_zero, List.set_cons_succ, i64_w, i32_w]
 rfl
 }
 refine pure_ (i := 11) (N := some 31) (v := _) (a' := _) #[Y, Y, X, X, Y, Y, X, X, Y, Y, Y, Y, X, X, X, X, X] rfl rfl (any_of HT_.out (by kernel_rfl)) (fun _ _ _ h => h) (Or.inl ⟨by rfl, (by intro w'; go_simp; with_reducible rfl)⟩) z58k ?_
 exact norm_ z58e (hJ1_5_8_10 (v316, .slice (some adz_v326) y325.length co35, adz_v326) _ ⟨z58d, z58f, z58g, ⟨_, rfl⟩, z58a, z58b, z58c⟩)
 }
 }
 }
 {
 skip
 rintro ⟨v316, v326, adz_v326⟩ w34 ⟨h0_, h1_, h2_, h3_, h4_, h5_, h6_⟩
 have n0_ : Aside0 (Kd.R k31 31 w34 w.heap.size (fun _ => True) (.slice Ao26 t295.length co26) t295) := ⟨h0_⟩
 have n1_ : Aside0 (Kd.R (Kd.int .u8) 5 w34 w.heap.size (fun _ => True) v316 y315) := ⟨h1_⟩
 have n2_ : Aside0 (Kd.R (Kd.int .i64) 2 w34 w.heap.size (fun _ => True) v326 y325) := ⟨h2_⟩
 have n3_ : Aside0 (∃ c_, (v326 : Value) = .slice (some adz_v326) y325.length c_) := ⟨h3_⟩
 have n4_ : Aside0 (IsS108 w0 w34 g s0_0 t304 t305) := ⟨h4_⟩
 have n5_ : Aside0 (KeepBut w w34 g none) := ⟨h5_⟩
 have n6_ : Aside0 (Below w0.heap.size w0 w34) := ⟨h6_⟩
 clear HO297
 clear HI0
 clear HK
 clear HB
 clear h0_ h1_ h2_ h3_ h4_ h5_ h6_
 have HO297 := n0_
 have HO317 := n1_
 have HO327 := n2_
 have HA_HO327 := n3_
 have HI0 := n4_
 have HK := n5_
 have HB := n6_
 clear n0_ n1_ n2_ n3_ n4_ n5_ n6_
 have hHeld := trivial
 obtain ⟨co35, eo35⟩ := HA_HO327.out
 clear HA_HO327
 subst eo35
 refine norm_ (a' := ?_) ?_ ?_
 rotate_left
 exact z58j
 refine two_ (i := 3) (j := 5) (Ni := some 23) (Nj := some 25) #[Y, Y, Y, Y, Y, X, X, X, Y, Y, X, X, X, X, X, X, X] #[Y, Y, Y, X, Y, Y, X, X, Y, Y, X, X, X, X, X, X, X] rfl rfl rfl rfl (two_of HT_.out (by kernel_rfl)) (by decide) (by decide) (fun K hK => ?_) (fun K hK => ?_)
 {
 skip
 refine Kd.R_lit_step Kd.string _ 9 ?hg (N := 23) ?hd (xs := ([(⟨#[]⟩ : ByteArray), (⟨#[122, 122]⟩ : ByteArray), strOfNums y315] : List ByteArray)) (inner := [.string (⟨#[]⟩ : ByteArray), .string (⟨#[122, 122]⟩ : ByteArray), .string (strOfNums y315)]) (ok := fun _ => True) (okp := fun _ => True) ?hr ?hp (fun _ hk => hk) trivial (Below.refl _ _) (Nat.le_refl _) (by simp) ?_; (case hd => rfl); (case hg => rfl); (case hr => first | (go_simp; done) | (go_simp; rfl)); (case hp => exact (Reps.one (show Kd.M Kd.string _ _ _ (⟨#[]⟩ : ByteArray) [.string (⟨#[]⟩ : ByteArray)] from rfl) (Reps.one (show Kd.M Kd.string _ _ _ (⟨#[122, 122]⟩ : ByteArray) [.string (⟨#[122, 122]⟩ : ByteArray)] from rfl) (Reps.one (show Kd.M Kd.string _ _ _ (strOfNums y315) [.string (strOfNums y315)] from rfl) (Reps.none _ _)))))
 intro v319 w36 ho37 hb hg_ hnew_
 clear hg_ hnew_
 (first | rw [← Ny318.out] at ho37 | (simp only [Int.reduceToNat] at ho37; rw [← Ny318.out] at ho37))
 have n0_ := Aside0.mk (Kd.R_below z58d hb)
 have n1_ := Aside0.mk (Kd.R_below z58f hb)
 have n2_ := Aside0.mk (Kd.R_below z58g hb)
 have n3_ := Aside0.mk (Kd.R_lower ho37 (keep_size (w := w) (g := g) (row := none) z58b))
 have n4_ := Aside0.mk (IsS108.below z58a hb)
 have n5_ := Aside0.mk (KeepBut.trans z58b (KeepBut.of_below hb g none) (.inl rfl))
 have n6_ := Aside0.mk (below_step z58c hb)
 clear HO297
 clear HO317
 clear HO327
 clear HI0
 clear HK
 clear HB
 have HO297 := n0_
 have HO317 := n1_
 have HO327 := n2_
 have HO320 := n3_
 have HI0 := n4_
 have HK := n5_
 have HB := n6_
 clear n0_ n1_ n2_ n3_ n4_ n5_ n6_
 clear hb ho37
 obtain ⟨Ao38, co38, eo38⟩ := Kd.R_slice HO320.out
 subst eo38
 obtain ⟨ado38, fo38, _⟩ := Kd.at_string (Kd.R_reads' HO320.out).2.2 0 (by decide) (by rw [Ny318.out]; simp)
 cases fo38
 refine hK.out _ _ trivial (fun hHeld => ?_)
 clear hK K
 refine norm_ (a' := ?_) ?_ ?_
 rotate_left
 {
 show Act.put _ (some 23) _ = _
 simp only [Act.put, List.setIfInBounds_toArray, List.set_cons_zero, List.set_cons_succ, i64_w, i32_w]
 rfl
 }
 exact norm_ z58e (hJ1_2_3_8 (v316, .slice (some ado38) y318.length co38, ado38, .slice (some adz_v326) y325.length co35, adz_v326) _ ⟨z58d, z58f, z58i, z58g, ⟨_, rfl⟩, ⟨_, rfl⟩, z58a, z58b, z58c⟩)
 }
 {
 skip
 refine goes_ Try.func60 (by kernel_rfl) rfl #[.pointer (some ⟨g, 0, none⟩), .int .i64 3] (by rfl) rfl rfl z58h ?_
 with_reducible refine (spec_l1Below.calls g s0_0 t304 t305 3 t321 t322 t323 w0 _ ?side1 ?side2 A16.out).mono ?_
 (case side1 => exact z58a)
 (case side2 => exact z58c)
 rintro e w36 ⟨rfl, hi, hb, hk⟩
 refine ⟨_, rfl, ?_⟩
 have n0_ := Aside0.mk (Kd.R_mono (Kd.R_keep (IsS108.apart (show IsS108 w0 _ g s0_0 t304 t305 from z58a) z58d (by decide)) hk (fun _ h => h.2)) (fun _ h => h.1))
 have n1_ := Aside0.mk (Kd.R_mono (Kd.R_keep (IsS108.apart (show IsS108 w0 _ g s0_0 t304 t305 from z58a) z58f (by decide)) hk (fun _ h => h.2)) (fun _ h => h.1))
 have n2_ := Aside0.mk (Kd.R_mono (Kd.R_keep (IsS108.apart (show IsS108 w0 _ g s0_0 t304 t305 from z58a) z58g (by decide)) hk (fun _ h => h.2)) (fun _ h => h.1))
 have n3_ := Aside0.mk (KeepBut.trans z58b hk (.inl rfl))
 have n4_ := Aside0.mk (hb)
 have n5_ := Aside0.mk (hi)
 clear HO297
 clear HO317
 clear HO327
 clear HK
 clear HB
 clear HI0
 have HO297 := n0_
 have HO317 := n1_
 have HO327 := n2_
 have HK := n3_
 have HB := n4_
 have HI0 := n5_
 clear n0_ n1_ n2_ n3_ n4_ n5_
 (try clear hb)
 (try clear hb2)
 (try clear hk)
 (try clear hi)
 refine hK.out _ _ trivial (fun hHeld => ?_)
 clear hK K
 refine norm_ (a' := ?_) ?_ ?_
 rotate_left
 {
 show Act.put _ (some 25) _ = _
 simp only [Act.put, List.setIfInBounds_toArray, List.set_cons_zero, List.set_cons_succ, i64_w, i32_w]
 rfl
 }
 exact norm_ z58e (hJ1_2_5_8 (v316, .slice (some adz_v326) y325.length co35, adz_v326) _ ⟨z58d, z58f, z58g, ⟨_, rfl⟩, z58a, z58b, z58c⟩)
 }
 }
 }
 {
 skip
 rintro v316 w32 ⟨h0_, h1_, h2_, h3_, h4_⟩
 have n0_ : Aside0 (Kd.R k31 31 w32 w.heap.size (fun _ => True) (.slice Ao26 t295.length co26) t295) := ⟨h0_⟩
 have n1_ : Aside0 (Kd.R (Kd.int .u8) 5 w32 w.heap.size (fun _ => True) v316 y315) := ⟨h1_⟩
 have n2_ : Aside0 (IsS108 w0 w32 g s0_0 t322 t323) := ⟨h2_⟩
 have n3_ : Aside0 (KeepBut w w32 g none) := ⟨h3_⟩
 have n4_ : Aside0 (Below w0.heap.size w0 w32) := ⟨h4_⟩
 clear HO297
 clear HI0
 clear HK
 clear HB
 clear h0_ h1_ h2_ h3_ h4_
 have HO297 := n0_
 have HO317 := n1_
 have HI0 := n2_
 have HK := n3_
 have HB := n4_
 clear n0_ n1_ n2_ n3_ n4_
 have hHeld := trivial
 refine norm_ (a' := ?_) ?_ ?_
 rotate_left
 exact z58j
 refine three_ (i := 3) (j := 8) (k := 10) (Ni := some 23) (Nj := some 28) (Nk := some 30) #[Y, Y, Y, Y, Y, Y, X, X, X, Y, X, X, X, X, X, X, X] #[Y, Y, Y, X, Y, Y, X, X, Y, Y, X, X, X, X, X, X, X] #[Y, Y, Y, X, Y, Y, X, X, X, Y, Y, X, X, X, X, X, X] rfl rfl rfl rfl rfl rfl (three_of HT_.out (by kernel_rfl)) (by decide) (by decide) (by decide) (fun K hK => ?_) (fun K hK => ?_) (fun K hK => ?_)
 {
 skip
 refine Kd.R_lit_step Kd.string _ 9 ?hg (N := 23) ?hd (xs := ([(⟨#[]⟩ : ByteArray), (⟨#[122, 122]⟩ : ByteArray), strOfNums y315] : List ByteArray)) (inner := [.string (⟨#[]⟩ : ByteArray), .string (⟨#[122, 122]⟩ : ByteArray), .string (strOfNums y315)]) (ok := fun _ => True) (okp := fun _ => True) ?hr ?hp (fun _ hk => hk) trivial (Below.refl _ _) (Nat.le_refl _) (by simp) ?_; (case hd => rfl); (case hg => rfl); (case hr => first | (go_simp; done) | (go_simp; rfl)); (case hp => exact (Reps.one (show Kd.M Kd.string _ _ _ (⟨#[]⟩ : ByteArray) [.string (⟨#[]⟩ : ByteArray)] from rfl) (Reps.one (show Kd.M Kd.string _ _ _ (⟨#[122, 122]⟩ : ByteArray) [.string (⟨#[122, 122]⟩ : ByteArray)] from rfl) (Reps.one (show Kd.M Kd.string _ _ _ (strOfNums y315) [.string (strOfNums y315)] from rfl) (Reps.none _ _)))))
 intro v319 w33 ho34 hb hg_ hnew_
 clear hg_ hnew_
 (first | rw [← Ny318.out] at ho34 | (simp only [Int.reduceToNat] at ho34; rw [← Ny318.out] at ho34))
 have n0_ := Aside0.mk (Kd.R_below z58d hb)
 have n1_ := Aside0.mk (Kd.R_below z58f hb)
 have n2_ := Aside0.mk (Kd.R_lower ho34 (keep_size (w := w) (g := g) (row := none) z58b))
 have n3_ := Aside0.mk (IsS108.below z58a hb)
 have n4_ := Aside0.mk (KeepBut.trans z58b (KeepBut.of_below hb g none) (.inl rfl))
 have n5_ := Aside0.mk (below_step z58c hb)
 clear HO297
 clear HO317
 clear HI0
 clear HK
 clear HB
 have HO297 := n0_
 have HO317 := n1_
 have HO320 := n2_
 have HI0 := n3_
 have HK := n4_
 have HB := n5_
 clear n0_ n1_ n2_ n3_ n4_ n5_
 clear hb ho34
 obtain ⟨Ao35, co35, eo35⟩ := Kd.R_slice HO320.out
 subst eo35
 obtain ⟨ado35, fo35, _⟩ := Kd.at_string (Kd.R_reads' HO320.out).2.2 0 (by decide) (by rw [Ny318.out]; simp)
 cases fo35
 refine hK.out _ _ trivial (fun hHeld => ?_)
 clear hK K
 refine norm_ (a' := ?_) ?_ ?_
 rotate_left
 {
 show Act.put _ (some 23) _ = _
 simp only [Act.put, List.setIfInBounds_toArray, List.set_cons_zero, List.set_cons_succ, i64_w, i32_w]
 rfl
 }
 refine pure_ (i := 6) (N := some 26) (v := _) (a' := _) #[Y, Y, Y, Y, Y, Y, Y, X, X, Y, X, X, X, X, X, X, X] rfl rfl (any_of HT_.out (by kernel_rfl)) (fun _ _ _ h => h) (Or.inl ⟨by rfl, (by intro w'; go_simp; with_reducible rfl)⟩) z58k ?_
 exact norm_ z58e (hJ1_2_3_5 (v316, .slice (some ado35) y318.length co35, ado35) _ ⟨z58d, z58f, z58i, ⟨_, rfl⟩, z58a, z58b, z58c⟩)
 }
 {
 skip
 refine Kd.R_lit_step (Kd.int .i64) _ 2 ?hg (N := 28) ?hd (xs := ([0, 1, 1000000, 1000001] : List Int)) (inner := [.int .i64 0, .int .i64 1, .int .i64 1000000, .int .i64 1000001]) (ok := fun _ => True) (okp := fun _ => True) ?hr ?hp (fun _ hk => hk) trivial (Below.refl _ _) (Nat.le_refl _) (by simp) ?_; (case hd => rfl); (case hg => rfl); (case hr => first | (go_simp; done) | (go_simp; rfl)); (case hp => exact (Reps.one (show Kd.M (Kd.int .i64) _ _ _ 0 [.int .i64 0] from rfl) (Reps.one (show Kd.M (Kd.int .i64) _ _ _ 1 [.int .i64 1] from rfl) (Reps.one (show Kd.M (Kd.int .i64) _ _ _ 1000000 [.int .i64 1000000] from rfl) (Reps.one (show Kd.M (Kd.int .i64) _ _ _ 1000001 [.int .i64 1000001] from rfl) (Reps.none _ _))))))
 intro v326 w33 ho34 hb hg_ hnew_
 clear hg_ hnew_
 (first | rw [← Ny325.out] at ho34 | (simp only [Int.reduceToNat] at ho34; rw [← Ny325.out] at ho34))
 have n0_ := Aside0.mk (Kd.R_below z58d hb)
 have n1_ := Aside0.mk (Kd.R_below z58f hb)
 have n2_ := Aside0.mk (Kd.R_lower ho34 (keep_size (w := w) (g := g) (row := none) z58b))
 have n3_ := Aside0.mk (IsS108.below z58a hb)
 have n4_ := Aside0.mk (KeepBut.trans z58b (KeepBut.of_below hb g none) (.inl rfl))
 have n5_ := Aside0.mk (below_step z58c hb)
 clear HO297
 clear HO317
 clear HI0
 clear HK
 clear HB
 have HO297 := n0_
 have HO317 := n1_
 have HO327 := n2_
 have HI0 := n3_
 have HK := n4_
 have HB := n5_
 clear n0_ n1_ n2_ n3_ n4_ n5_
 clear hb ho34
 obtain ⟨Ao35, co35, eo35⟩ := Kd.R_slice HO327.out
 subst eo35
 obtain ⟨ado35, fo35, _⟩ := Kd.at_int (Kd.R_reads' HO327.out).2.2 0 (by decide) (by rw [Ny325.out]; simp)
 cases fo35
 refine hK.out _ _ trivial (fun hHeld => ?_)
 clear hK K
 refine norm_ (a' := ?_) ?_ ?_
 rotate_left
 {
 show Act.put _ (some 28) _ = _
 simp only [Act.put, List.setIfInBounds_toArray, List.set_cons_zero, List.set_cons_succ, i64_w, i32_w]
 rfl
 }
 exact norm_ z58e (hJ1_2_5_8 (v316, .slice (some ado35) y325.length co35, ado35) _ ⟨z58d, z58f, z58g, ⟨_, rfl⟩, z58a, z58b, z58c⟩)
 }
 {
 skip
 refine goes_ Try.func60 (by kernel_rfl) rfl #[.pointer (some ⟨g, 0, none⟩), .int .i64 4] (by rfl) rfl rfl z58h ?_
 with_reducible refine (spec_l1Below.calls g s0_0 t322 t323 4 t328 t329 t330 w0 _ ?side1 ?side2 A19.out).mono ?_
 (case side1 => exact z58a)
 (case side2 => exact z58c)
 rintro e w33 ⟨rfl, hi, hb, hk⟩
 refine ⟨_, rfl, ?_⟩
 have n0_ := Aside0.mk (Kd.R_mono (Kd.R_keep (IsS108.apart (show IsS108 w0 _ g s0_0 t322 t323 from z58a) z58d (by decide)) hk (fun _ h => h.2)) (fun _ h => h.1))
 have n1_ := Aside0.mk (Kd.R_mono (Kd.R_keep (IsS108.apart (show IsS108 w0 _ g s0_0 t322 t323 from z58a) z58f (by decide)) hk (fun _ h => h.2)) (fun _ h => h.1))
 have n2_ := Aside0.mk (KeepBut.trans z58b hk (.inl rfl))
 have n3_ := Aside0.mk (hb)
 have n4_ := Aside0.mk (hi)
 clear HO297
 clear HO317
 clear HK
 clear HB
 clear HI0
 have HO297 := n0_
 have HO317 := n1_
 have HK := n2_
 have HB := n3_
 have HI0 := n4_
 clear n0_ n1_ n2_ n3_ n4_
 (try clear hb)
 (try clear hb2)
 (try clear hk)
 (try clear hi)
 refine hK.out _ _ trivial (fun hHeld => ?_)
 clear hK K
 refine norm_ (a' := ?_) ?_ ?_
 rotate_left
 {
 show Act.put _ (some 30) _ = _
 simp only [Act.put, List.setIfInBounds_toArray, List.set_cons_zero, List.set_cons_succ, i64_w, i32_w]
 rfl
 }
 exact norm_ z58e (hJ1_2_5_10 (v316) _ ⟨z58d, z58f, z58a, z58b, z58c⟩)
 }
 }
 }
 {
 skip
 rintro ⟨v316, v319, adz_v319⟩ w34 ⟨h0_, h1_, h2_, h3_, h4_, h5_, h6_⟩
 have n0_ : Aside0 (Kd.R k31 31 w34 w.heap.size (fun _ => True) (.slice Ao26 t295.length co26) t295) := ⟨h0_⟩
 have n1_ : Aside0 (Kd.R (Kd.int .u8) 5 w34 w.heap.size (fun _ => True) v316 y315) := ⟨h1_⟩
 have n2_ : Aside0 (Kd.R Kd.string 9 w34 w.heap.size (fun _ => True) v319 y318) := ⟨h2_⟩
 have n3_ : Aside0 (∃ c_, (v319 : Value) = .slice (some adz_v319) y318.length c_) := ⟨h3_⟩
 have n4_ : Aside0 (IsS108 w0 w34 g s0_0 t304 t305) := ⟨h4_⟩
 have n5_ : Aside0 (KeepBut w w34 g none) := ⟨h5_⟩
 have n6_ : Aside0 (Below w0.heap.size w0 w34) := ⟨h6_⟩
 clear HO297
 clear HI0
 clear HK
 clear HB
 clear h0_ h1_ h2_ h3_ h4_ h5_ h6_
 have HO297 := n0_
 have HO317 := n1_
 have HO320 := n2_
 have HA_HO320 := n3_
 have HI0 := n4_
 have HK := n5_
 have HB := n6_
 clear n0_ n1_ n2_ n3_ n4_ n5_ n6_
 have hHeld := trivial
 obtain ⟨co35, eo35⟩ := HA_HO320.out
 clear HA_HO320
 subst eo35
 refine norm_ (a' := ?_) ?_ ?_
 rotate_left
 exact z58j
 refine two_ (i := 5) (j := 8) (Ni := some 25) (Nj := some 28) #[Y, Y, Y, Y, Y, Y, X, X, X, Y, X, X, X, X, X, X, X] #[Y, Y, Y, Y, Y, X, X, X, Y, Y, X, X, X, X, X, X, X] rfl rfl rfl rfl (two_of HT_.out (by kernel_rfl)) (by decide) (by decide) (fun K hK => ?_) (fun K hK => ?_)
 {
 skip
 refine goes_ Try.func60 (by kernel_rfl) rfl #[.pointer (some ⟨g, 0, none⟩), .int .i64 3] (by rfl) rfl rfl z58h ?_
 with_reducible refine (spec_l1Below.calls g s0_0 t304 t305 3 t321 t322 t323 w0 _ ?side1 ?side2 A16.out).mono ?_
 (case side1 => exact z58a)
 (case side2 => exact z58c)
 rintro e w36 ⟨rfl, hi, hb, hk⟩
 refine ⟨_, rfl, ?_⟩
 have n0_ := Aside0.mk (Kd.R_mono (Kd.R_keep (IsS108.apart (show IsS108 w0 _ g s0_0 t304 t305 from z58a) z58d (by decide)) hk (fun _ h => h.2)) (fun _ h => h.1))
 have n1_ := Aside0.mk (Kd.R_mono (Kd.R_keep (IsS108.apart (show IsS108 w0 _ g s0_0 t304 t305 from z58a) z58f (by decide)) hk (fun _ h => h.2)) (fun _ h => h.1))
 have n2_ := Aside0.mk (Kd.R_mono (Kd.R_keep (IsS108.apart (show IsS108 w0 _ g s0_0 t304 t305 from z58a) z58i (by decide)) hk (fun _ h => h.2)) (fun _ h => h.1))
 have n3_ := Aside0.mk (KeepBut.trans z58b hk (.inl rfl))
 have n4_ := Aside0.mk (hb)
 have n5_ := Aside0.mk (hi)
 clear HO297
 clear HO317
 clear HO320
 clear HK
 clear HB
 clear HI0
 have HO297 := n0_
 have HO317 := n1_
 have HO320 := n2_
 have HK := n3_
 have HB := n4_
 have HI0 := n5_
 clear n0_ n1_ n2_ n3_ n4_ n5_
 (try clear hb)
 (try clear hb2)
 (try clear hk)
 (try clear hi)
 refine hK.out _ _ trivial (fun hHeld => ?_)
 clear hK K
 refine norm_ (a' := ?_) ?_ ?_
 rotate_left
 {
 show Act.put _ (some 25) _ = _
 simp only [Act.put, List.setIfInBounds_toArray, List.set_cons_zero, List.set_cons_succ, i64_w, i32_w]
 rfl
 }
 refine pure_ (i := 6) (N := some 26) (v := _) (a' := _) #[Y, Y, Y, Y, Y, Y, Y, X, X, Y, X, X, X, X, X, X, X] rfl rfl (any_of HT_.out (by kernel_rfl)) (fun _ _ _ h => h) (Or.inl ⟨by rfl, (by intro w'; go_simp; with_reducible rfl)⟩) z58k ?_
 exact norm_ z58e (hJ1_2_3_5 (v316, .slice (some adz_v319) y318.length co35, adz_v319) _ ⟨z58d, z58f, z58i, ⟨_, rfl⟩, z58a, z58b, z58c⟩)
 }
 {
 skip
 refine Kd.R_lit_step (Kd.int .i64) _ 2 ?hg (N := 28) ?hd (xs := ([0, 1, 1000000, 1000001] : List Int)) (inner := [.int .i64 0, .int .i64 1, .int .i64 1000000, .int .i64 1000001]) (ok := fun _ => True) (okp := fun _ => True) ?hr ?hp (fun _ hk => hk) trivial (Below.refl _ _) (Nat.le_refl _) (by simp) ?_; (case hd => rfl); (case hg => rfl); (case hr => first | (go_simp; done) | (go_simp; rfl)); (case hp => exact (Reps.one (show Kd.M (Kd.int .i64) _ _ _ 0 [.int .i64 0] from rfl) (Reps.one (show Kd.M (Kd.int .i64) _ _ _ 1 [.int .i64 1] from rfl) (Reps.one (show Kd.M (Kd.int .i64) _ _ _ 1000000 [.int .i64 1000000] from rfl) (Reps.one (show Kd.M (Kd.int .i64) _ _ _ 1000001 [.int .i64 1000001] from rfl) (Reps.none _ _))))))
 intro v326 w36 ho37 hb hg_ hnew_
 clear hg_ hnew_
 (first | rw [← Ny325.out] at ho37 | (simp only [Int.reduceToNat] at ho37; rw [← Ny325.out] at ho37))
 have n0_ := Aside0.mk (Kd.R_below z58d hb)
 have n1_ := Aside0.mk (Kd.R_below z58f hb)
 have n2_ := Aside0.mk (Kd.R_below z58i hb)
 have n3_ := Aside0.mk (Kd.R_lower ho37 (keep_size (w := w) (g := g) (row := none) z58b))
 have n4_ := Aside0.mk (IsS108.below z58a hb)
 have n5_ := Aside0.mk (KeepBut.trans z58b (KeepBut.of_below hb g none) (.inl rfl))
 have n6_ := Aside0.mk (below_step z58c hb)
 clear HO297
 clear HO317
 clear HO320
 clear HI0
 clear HK
 clear HB
 have HO297 := n0_
 have HO317 := n1_
 have HO320 := n2_
 have HO327 := n3_
 have HI0 := n4_
 have HK := n5_
 have HB := n6_
 clear n0_ n1_ n2_ n3_ n4_ n5_ n6_
 clear hb ho37
 obtain ⟨Ao38, co38, eo38⟩ := Kd.R_slice HO327.out
 subst eo38
 obtain ⟨ado38, fo38, _⟩ := Kd.at_int (Kd.R_reads' HO327.out).2.2 0 (by decide) (by rw [Ny325.out]; simp)
 cases fo38
 refine hK.out _ _ trivial (fun hHeld => ?_)
 clear hK K
 refine norm_ (a' := ?_) ?_ ?_
 rotate_left
 {
 show Act.put _ (some 28) _ = _
 simp only [Act.put, List.setIfInBounds_toArray, List.set_cons_zero, List.set_cons_succ, i64_w, i32_w]
 rfl
 }
 exact norm_ z58e (hJ1_2_3_8 (v316, .slice (some adz_v319) y318.length co35, adz_v319, .slice (some ado38) y325.length co38, ado38) _ ⟨z58d, z58f, z58i, z58g, ⟨_, rfl⟩, ⟨_, rfl⟩, z58a, z58b, z58c⟩)
 }
 }
 }
 {
 skip
 rintro ⟨v326, adz_v326⟩ w33 ⟨h0_, h1_, h2_, h3_, h4_, h5_⟩
 have n0_ : Aside0 (Kd.R k31 31 w33 w.heap.size (fun _ => True) (.slice Ao26 t295.length co26) t295) := ⟨h0_⟩
 have n1_ : Aside0 (Kd.R (Kd.int .i64) 2 w33 w.heap.size (fun _ => True) v326 y325) := ⟨h1_⟩
 have n2_ : Aside0 (∃ c_, (v326 : Value) = .slice (some adz_v326) y325.length c_) := ⟨h2_⟩
 have n3_ : Aside0 (IsS108 w0 w33 g s0_0 t329 t330) := ⟨h3_⟩
 have n4_ : Aside0 (KeepBut w w33 g none) := ⟨h4_⟩
 have n5_ : Aside0 (Below w0.heap.size w0 w33) := ⟨h5_⟩
 clear HO297
 clear HI0
 clear HK
 clear HB
 clear h0_ h1_ h2_ h3_ h4_ h5_
 have HO297 := n0_
 have HO327 := n1_
 have HA_HO327 := n2_
 have HI0 := n3_
 have HK := n4_
 have HB := n5_
 clear n0_ n1_ n2_ n3_ n4_ n5_
 have hHeld := trivial
 obtain ⟨co34, eo34⟩ := HA_HO327.out
 clear HA_HO327
 subst eo34
 refine norm_ (a' := ?_) ?_ ?_
 rotate_left
 exact z58j
 refine one_ (i := 1) (N := some 21) #[Y, Y, X, X, Y, Y, X, X, Y, Y, Y, Y, Y, X, X, X, X] rfl rfl (one_of HT_.out (by kernel_rfl)) (by decide) (fun K hK => ?_)
 refine Kd.R_make_step (Kd.int .u8) _ 5 (by rfl) (N := 21) rfl 36 _ _ rfl 41 rfl rfl Try.underlying36 (.int .u8 0) 1 info5 rfl (by decide) (by omega) 0 (ok := fun _ => True) (okp := fun _ => True) rfl (fun _ hk => hk) trivial (by omega) (by omega) (Below.refl _ _) (Nat.le_refl _) ?_
 intro v316 w35 ho36 hb hg_ hnew_
 clear hg_ hnew_
 (first | rw [← Ny315.out] at ho36 | (simp only [Int.reduceToNat] at ho36; rw [← Ny315.out] at ho36))
 have n0_ := Aside0.mk (Kd.R_below z58d hb)
 have n1_ := Aside0.mk (Kd.R_below z58g hb)
 have n2_ := Aside0.mk (Kd.R_lower ho36 (keep_size (w := w) (g := g) (row := none) z58b))
 have n3_ := Aside0.mk (IsS108.below z58a hb)
 have n4_ := Aside0.mk (KeepBut.trans z58b (KeepBut.of_below hb g none) (.inl rfl))
 have n5_ := Aside0.mk (below_step z58c hb)
 clear HO297
 clear HO327
 clear HI0
 clear HK
 clear HB
 have HO297 := n0_
 have HO327 := n1_
 have HO317 := n2_
 have HI0 := n3_
 have HK := n4_
 have HB := n5_
 clear n0_ n1_ n2_ n3_ n4_ n5_
 clear hb ho36
 refine hK.out _ _ trivial (fun hHeld => ?_)
 clear hK K
 refine norm_ (a' := ?_) ?_ ?_
 rotate_left
 {
 show Act.put _ (some 21) _ = _
 simp only [Act.put, List.setIfInBounds_toArray, List.set_cons_zero, List.set_cons_succ, i64_w, i32_w]
 rfl
 }
 exact norm_ z58e (hJ1_5_8_10_12 (v316, .slice (some adz_v326) y325.length co34, adz_v326) _ ⟨z58d, z58f, z58g, ⟨_, rfl⟩, z58a, z58b, z58c⟩)
 }
 }
 {
 skip
 rintro ⟨v316, v326, adz_v326⟩ w35 ⟨h0_, h1_, h2_, h3_, h4_, h5_, h6_⟩
 have n0_ : Aside0 (Kd.R k31 31 w35 w.heap.size (fun _ => True) (.slice Ao26 t295.length co26) t295) := ⟨h0_⟩
 have n1_ : Aside0 (Kd.R (Kd.int .u8) 5 w35 w.heap.size (fun _ => True) v316 y315) := ⟨h1_⟩
 have n2_ : Aside0 (Kd.R (Kd.int .i64) 2 w35 w.heap.size (fun _ => True) v326 y325) := ⟨h2_⟩
 have n3_ : Aside0 (∃ c_, (v326 : Value) = .slice (some adz_v326) y325.length c_) := ⟨h3_⟩
 have n4_ : Aside0 (IsS108 w0 w35 g s0_0 t329 t330) := ⟨h4_⟩
 have n5_ : Aside0 (KeepBut w w35 g none) := ⟨h5_⟩
 have n6_ : Aside0 (Below w0.heap.size w0 w35) := ⟨h6_⟩
 clear HO297
 clear HI0
 clear HK
 clear HB
 clear h0_ h1_ h2_ h3_ h4_ h5_ h6_
 have HO297 := n0_
 have HO317 := n1_
 have HO327 := n2_
 have HA_HO327 := n3_
 have HI0 := n4_
 have HK := n5_
 have HB := n6_
 clear n0_ n1_ n2_ n3_ n4_ n5_ n6_
 have hHeld := trivial
 obtain ⟨co36, eo36⟩ := HA_HO327.out
 clear HA_HO327
 subst eo36
 refine norm_ (a' := ?_) ?_ ?_
 rotate_left
 exact z58j
 refine two_ (i := 2) (j := 12) (Ni := some 22) (Nj := some 32) #[Y, Y, Y, X, Y, Y, X, X, Y, Y, Y, Y, X, X, X, X, X] #[Y, Y, X, X, Y, Y, X, X, Y, Y, Y, Y, Y, X, X, X, X] rfl rfl rfl rfl (two_of HT_.out (by kernel_rfl)) (by decide) (by decide) (fun K hK => ?_) (fun K hK => ?_)
 {
 skip
 have hcv37 := own_string (P := Try.prog) Try.underlying36 Try.underlying5 Try.underlying9 (Kd.own_of_R HO317.out)
 refine value_ (w1 := ?_) (v := ?_) (by rfl) rfl ?_ ?_
 rotate_left 2
 {
 go_simp
 constructor
 {
 rfl
 }
 {
 rfl
 }
 }
 clear hcv37
 refine hK.out _ _ trivial (fun hHeld => ?_)
 clear hK K
 refine norm_ (a' := ?_) ?_ ?_
 rotate_left
 {
 show Act.put _ (some 22) _ = _
 simp only [Act.put, List.setIfInBounds_toArray, List.set_cons_zero, List.set_cons_succ, i64_w, i32_w]
 rfl
 }
 exact norm_ z58e (hJ1_2_5_8_10 (v316, .slice (some adz_v326) y325.length co36, adz_v326) _ ⟨z58d, z58f, z58g, ⟨_, rfl⟩, z58a, z58b, z58c⟩)
 }
 {
 skip
 (have p331 : 0 ≤ (t328 : Int) := of_decide_eq_true z58l; have q331 : t328 < (y325.length : Int) := of_decide_eq_true z58l; obtain ⟨ad331, e331, hx331_0⟩ := Kd.at_int (Kd.R_reads' HO327.out).2.2 t328 p331 q331; obtain rfl : adz_v326 = ad331 := (by injection e331))
 refine value_ (w1 := ?_) (v := ?_) (by rfl) rfl ?_ ?_
 rotate_left 2
 {
 go_simp
 constructor
 {
 rfl
 }
 {
 rfl
 }
 }
 clear hx331_0
 refine hK.out _ _ trivial (fun hHeld => ?_)
 clear hK K
 refine norm_ (a' := ?_) ?_ ?_
 rotate_left
 {
 show Act.put _ (some 32) _ = _
 simp only [Act.put, List.setIfInBounds_toArray, List.set_cons_zero, List.set_cons_succ, i64_w, i32_w]
 rfl
 }
 exact norm_ z58e (hJ1_5_8_10_12 (v316, .slice (some adz_v326) y325.length co36, adz_v326) _ ⟨z58d, z58f, z58g, ⟨_, rfl⟩, z58a, z58b, z58c⟩)
 }
 }
 }
 {
 skip
 rintro v316 w33 ⟨h0_, h1_, h2_, h3_, h4_⟩
 have n0_ : Aside0 (Kd.R k31 31 w33 w.heap.size (fun _ => True) (.slice Ao26 t295.length co26) t295) := ⟨h0_⟩
 have n1_ : Aside0 (Kd.R (Kd.int .u8) 5 w33 w.heap.size (fun _ => True) v316 y315) := ⟨h1_⟩
 have n2_ : Aside0 (IsS108 w0 w33 g s0_0 t329 t330) := ⟨h2_⟩
 have n3_ : Aside0 (KeepBut w w33 g none) := ⟨h3_⟩
 have n4_ : Aside0 (Below w0.heap.size w0 w33) := ⟨h4_⟩
 clear HO297
 clear HI0
 clear HK
 clear HB
 clear h0_ h1_ h2_ h3_ h4_
 have HO297 := n0_
 have HO317 := n1_
 have HI0 := n2_
 have HK := n3_
 have HB := n4_
 clear n0_ n1_ n2_ n3_ n4_
 have hHeld := trivial
 refine norm_ (a' := ?_) ?_ ?_
 rotate_left
 exact z58j
 refine two_ (i := 3) (j := 8) (Ni := some 23) (Nj := some 28) #[Y, Y, Y, Y, Y, Y, X, X, X, Y, Y, X, X, X, X, X, X] #[Y, Y, Y, X, Y, Y, X, X, Y, Y, Y, X, X, X, X, X, X] rfl rfl rfl rfl (two_of HT_.out (by kernel_rfl)) (by decide) (by decide) (fun K hK => ?_) (fun K hK => ?_)
 {
 skip
 refine Kd.R_lit_step Kd.string _ 9 ?hg (N := 23) ?hd (xs := ([(⟨#[]⟩ : ByteArray), (⟨#[122, 122]⟩ : ByteArray), strOfNums y315] : List ByteArray)) (inner := [.string (⟨#[]⟩ : ByteArray), .string (⟨#[122, 122]⟩ : ByteArray), .string (strOfNums y315)]) (ok := fun _ => True) (okp := fun _ => True) ?hr ?hp (fun _ hk => hk) trivial (Below.refl _ _) (Nat.le_refl _) (by simp) ?_; (case hd => rfl); (case hg => rfl); (case hr => first | (go_simp; done) | (go_simp; rfl)); (case hp => exact (Reps.one (show Kd.M Kd.string _ _ _ (⟨#[]⟩ : ByteArray) [.string (⟨#[]⟩ : ByteArray)] from rfl) (Reps.one (show Kd.M Kd.string _ _ _ (⟨#[122, 122]⟩ : ByteArray) [.string (⟨#[122, 122]⟩ : ByteArray)] from rfl) (Reps.one (show Kd.M Kd.string _ _ _ (strOfNums y315) [.string (strOfNums y315)] from rfl) (Reps.none _ _)))))
 intro v319 w34 ho35 hb hg_ hnew_
 clear hg_ hnew_
 (first | rw [← Ny318.out] at ho35 | (simp only [Int.reduceToNat] at ho35; rw [← Ny318.out] at ho35))
 have n0_ := Aside0.mk (Kd.R_below z58d hb)
 have n1_ := Aside0.mk (Kd.R_below z58f hb)
 have n2_ := Aside0.mk (Kd.R_lower ho35 (keep_size (w := w) (g := g) (row := none) z58b))
 have n3_ := Aside0.mk (IsS108.below z58a hb)
 have n4_ := Aside0.mk (KeepBut.trans z58b (KeepBut.of_below hb g none) (.inl rfl))
 have n5_ := Aside0.mk (below_step z58c hb)
 clear HO297
 clear HO317
 clear HI0
 clear HK
 clear HB
 have HO297 := n0_
 have HO317 := n1_
 have HO320 := n2_
 have HI0 := n3_
 have HK := n4_
 have HB := n5_
 clear n0_ n1_ n2_ n3_ n4_ n5_
 clear hb ho35
 obtain ⟨Ao36, co36, eo36⟩ := Kd.R_slice HO320.out
 subst eo36
 obtain ⟨ado36, fo36, _⟩ := Kd.at_string (Kd.R_reads' HO320.out).2.2 0 (by decide) (by rw [Ny318.out]; simp)
 cases fo36
 refine hK.out _ _ trivial (fun hHeld => ?_)
 clear hK K
 refine norm_ (a' := ?_) ?_ ?_
 rotate_left
 {
 show Act.put _ (some 23) _ = _
 simp only [Act.put, List.setIfInBounds_toArray, List.set_cons_zero, List.set_cons_succ, i64_w, i32_w]
 rfl
 }
 refine pure_ (i := 6) (N := some 26) (v := _) (a' := _) #[Y, Y, Y, Y, Y, Y, Y, X, X, Y, Y, X, X, X, X, X, X] rfl rfl (any_of HT_.out (by kernel_rfl)) (fun _ _ _ h => h) (Or.inl ⟨by rfl, (by intro w'; go_simp; with_reducible rfl)⟩) z58k ?_
 exact norm_ z58e (hJ1_2_3_5_10 (v316, .slice (some ado36) y318.length co36, ado36) _ ⟨z58d, z58f, z58i, ⟨_, rfl⟩, z58a, z58b, z58c⟩)
 }
 {
 skip
 refine Kd.R_lit_step (Kd.int .i64) _ 2 ?hg (N := 28) ?hd (xs := ([0, 1, 1000000, 1000001] : List Int)) (inner := [.int .i64 0, .int .i64 1, .int .i64 1000000, .int .i64 1000001]) (ok := fun _ => True) (okp := fun _ => True) ?hr ?hp (fun _ hk => hk) trivial (Below.refl _ _) (Nat.le_refl _) (by simp) ?_; (case hd => rfl); (case hg => rfl); (case hr => first | (go_simp; done) | (go_simp; rfl)); (case hp => exact (Reps.one (show Kd.M (Kd.int .i64) _ _ _ 0 [.int .i64 0] from rfl) (Reps.one (show Kd.M (Kd.int .i64) _ _ _ 1 [.int .i64 1] from rfl) (Reps.one (show Kd.M (Kd.int .i64) _ _ _ 1000000 [.int .i64 1000000] from rfl) (Reps.one (show Kd.M (Kd.int .i64) _ _ _ 1000001 [.int .i64 1000001] from rfl) (Reps.none _ _))))))
 intro v326 w34 ho35 hb hg_ hnew_
 clear hg_ hnew_
 (first | rw [← Ny325.out] at ho35 | (simp only [Int.reduceToNat] at ho35; rw [← Ny325.out] at ho35))
 have n0_ := Aside0.mk (Kd.R_below z58d hb)
 have n1_ := Aside0.mk (Kd.R_below z58f hb)
 have n2_ := Aside0.mk (Kd.R_lower ho35 (keep_size (w := w) (g := g) (row := none) z58b))
 have n3_ := Aside0.mk (IsS108.below z58a hb)
 have n4_ := Aside0.mk (KeepBut.trans z58b (KeepBut.of_below hb g none) (.inl rfl))
 have n5_ := Aside0.mk (below_step z58c hb)
 clear HO297
 clear HO317
 clear HI0
 clear HK
 clear HB
 have HO297 := n0_
 have HO317 := n1_
 have HO327 := n2_
 have HI0 := n3_
 have HK := n4_
 have HB := n5_
 clear n0_ n1_ n2_ n3_ n4_ n5_
 clear hb ho35
 obtain ⟨Ao36, co36, eo36⟩ := Kd.R_slice HO327.out
 subst eo36
 obtain ⟨ado36, fo36, _⟩ := Kd.at_int (Kd.R_reads' HO327.out).2.2 0 (by decide) (by rw [Ny325.out]; simp)
 cases fo36
 refine hK.out _ _ trivial (fun hHeld => ?_)
 clear hK K
 refine norm_ (a' := ?_) ?_ ?_
 rotate_left
 {
 show Act.put _ (some 28) _ = _
 simp only [Act.put, List.setIfInBounds_toArray, List.set_cons_zero, List.set_cons_succ, i64_w, i32_w]
 rfl
 }
 refine pure_ (i := 11) (N := some 31) (v := _) (a' := _) #[Y, Y, Y, X, Y, Y, X, X, Y, Y, Y, Y, X, X, X, X, X] rfl rfl (any_of HT_.out (by kernel_rfl)) (fun _ _ _ h => h) (Or.inl ⟨by rfl, (by intro w'; go_simp; with_reducible rfl)⟩) z58k ?_
 exact norm_ z58e (hJ1_2_5_8_10 (v316, .slice (some ado36) y325.length co36, ado36) _ ⟨z58d, z58f, z58g, ⟨_, rfl⟩, z58a, z58b, z58c⟩)
 }
 }
 }
 {
 skip
 rintro ⟨v316, v326, adz_v326⟩ w35 ⟨h0_, h1_, h2_, h3_, h4_, h5_, h6_⟩
 have n0_ : Aside0 (Kd.R k31 31 w35 w.heap.size (fun _ => True) (.slice Ao26 t295.length co26) t295) := ⟨h0_⟩
 have n1_ : Aside0 (Kd.R (Kd.int .u8) 5 w35 w.heap.size (fun _ => True) v316 y315) := ⟨h1_⟩
 have n2_ : Aside0 (Kd.R (Kd.int .i64) 2 w35 w.heap.size (fun _ => True) v326 y325) := ⟨h2_⟩
 have n3_ : Aside0 (∃ c_, (v326 : Value) = .slice (some adz_v326) y325.length c_) := ⟨h3_⟩
 have n4_ : Aside0 (IsS108 w0 w35 g s0_0 t322 t323) := ⟨h4_⟩
 have n5_ : Aside0 (KeepBut w w35 g none) := ⟨h5_⟩
 have n6_ : Aside0 (Below w0.heap.size w0 w35) := ⟨h6_⟩
 clear HO297
 clear HI0
 clear HK
 clear HB
 clear h0_ h1_ h2_ h3_ h4_ h5_ h6_
 have HO297 := n0_
 have HO317 := n1_
 have HO327 := n2_
 have HA_HO327 := n3_
 have HI0 := n4_
 have HK := n5_
 have HB := n6_
 clear n0_ n1_ n2_ n3_ n4_ n5_ n6_
 have hHeld := trivial
 obtain ⟨co36, eo36⟩ := HA_HO327.out
 clear HA_HO327
 subst eo36
 refine norm_ (a' := ?_) ?_ ?_
 rotate_left
 exact z58j
 refine two_ (i := 3) (j := 10) (Ni := some 23) (Nj := some 30) #[Y, Y, Y, Y, Y, Y, X, X, Y, Y, X, X, X, X, X, X, X] #[Y, Y, Y, X, Y, Y, X, X, Y, Y, Y, X, X, X, X, X, X] rfl rfl rfl rfl (two_of HT_.out (by kernel_rfl)) (by decide) (by decide) (fun K hK => ?_) (fun K hK => ?_)
 {
 skip
 refine Kd.R_lit_step Kd.string _ 9 ?hg (N := 23) ?hd (xs := ([(⟨#[]⟩ : ByteArray), (⟨#[122, 122]⟩ : ByteArray), strOfNums y315] : List ByteArray)) (inner := [.string (⟨#[]⟩ : ByteArray), .string (⟨#[122, 122]⟩ : ByteArray), .string (strOfNums y315)]) (ok := fun _ => True) (okp := fun _ => True) ?hr ?hp (fun _ hk => hk) trivial (Below.refl _ _) (Nat.le_refl _) (by simp) ?_; (case hd => rfl); (case hg => rfl); (case hr => first | (go_simp; done) | (go_simp; rfl)); (case hp => exact (Reps.one (show Kd.M Kd.string _ _ _ (⟨#[]⟩ : ByteArray) [.string (⟨#[]⟩ : ByteArray)] from rfl) (Reps.one (show Kd.M Kd.string _ _ _ (⟨#[122, 122]⟩ : ByteArray) [.string (⟨#[122, 122]⟩ : ByteArray)] from rfl) (Reps.one (show Kd.M Kd.string _ _ _ (strOfNums y315) [.string (strOfNums y315)] from rfl) (Reps.none _ _)))))
 intro v319 w37 ho38 hb hg_ hnew_
 clear hg_ hnew_
 (first | rw [← Ny318.out] at ho38 | (simp only [Int.reduceToNat] at ho38; rw [← Ny318.out] at ho38))
 have n0_ := Aside0.mk (Kd.R_below z58d hb)
 have n1_ := Aside0.mk (Kd.R_below z58f hb)
 have n2_ := Aside0.mk (Kd.R_below z58g hb)
 have n3_ := Aside0.mk (Kd.R_lower ho38 (keep_size (w := w) (g := g) (row := none) z58b))
 have n4_ := Aside0.mk (IsS108.below z58a hb)
 have n5_ := Aside0.mk (KeepBut.trans z58b (KeepBut.of_below hb g none) (.inl rfl))
 have n6_ := Aside0.mk (below_step z58c hb)
 clear HO297
 clear HO317
 clear HO327
 clear HI0
 clear HK
 clear HB
 have HO297 := n0_
 have HO317 := n1_
 have HO327 := n2_
 have HO320 := n3_
 have HI0 := n4_
 have HK := n5_
 have HB := n6_
 clear n0_ n1_ n2_ n3_ n4_ n5_ n6_
 clear hb ho38
 obtain ⟨Ao39, co39, eo39⟩ := Kd.R_slice HO320.out
 subst eo39
 obtain ⟨ado39, fo39, _⟩ := Kd.at_string (Kd.R_reads' HO320.out).2.2 0 (by decide) (by rw [Ny318.out]; simp)
 cases fo39
 refine hK.out _ _ trivial (fun hHeld => ?_)
 clear hK K
 refine norm_ (a' := ?_) ?_ ?_
 rotate_left
 {
 show Act.put _ (some 23) _ = _
 simp only [Act.put, List.setIfInBounds_toArray, List.set_cons_zero, List.set_cons_succ, i64_w, i32_w]
 rfl
 }
 refine pure_ (i := 6) (N := some 26) (v := _) (a' := _) #[Y, Y, Y, Y, Y, Y, Y, X, Y, Y, X, X, X, X, X, X, X] rfl rfl (any_of HT_.out (by kernel_rfl)) (fun _ _ _ h => h) (Or.inl ⟨by rfl, (by intro w'; go_simp; with_reducible rfl)⟩) z58k ?_
 exact norm_ z58e (hJ1_2_3_5_8 (v316, .slice (some ado39) y318.length co39, ado39, .slice (some adz_v326) y325.length co36, adz_v326) _ ⟨z58d, z58f, z58i, z58g, ⟨_, rfl⟩, ⟨_, rfl⟩, z58a, z58b, z58c⟩)
 }
 {
 skip
 refine goes_ Try.func60 (by kernel_rfl) rfl #[.pointer (some ⟨g, 0, none⟩), .int .i64 4] (by rfl) rfl rfl z58h ?_
 with_reducible refine (spec_l1Below.calls g s0_0 t322 t323 4 t328 t329 t330 w0 _ ?side1 ?side2 A19.out).mono ?_
 (case side1 => exact z58a)
 (case side2 => exact z58c)
 rintro e w37 ⟨rfl, hi, hb, hk⟩
 refine ⟨_, rfl, ?_⟩
 have n0_ := Aside0.mk (Kd.R_mono (Kd.R_keep (IsS108.apart (show IsS108 w0 _ g s0_0 t322 t323 from z58a) z58d (by decide)) hk (fun _ h => h.2)) (fun _ h => h.1))
 have n1_ := Aside0.mk (Kd.R_mono (Kd.R_keep (IsS108.apart (show IsS108 w0 _ g s0_0 t322 t323 from z58a) z58f (by decide)) hk (fun _ h => h.2)) (fun _ h => h.1))
 have n2_ := Aside0.mk (Kd.R_mono (Kd.R_keep (IsS108.apart (show IsS108 w0 _ g s0_0 t322 t323 from z58a) z58g (by decide)) hk (fun _ h => h.2)) (fun _ h => h.1))
 have n3_ := Aside0.mk (KeepBut.trans z58b hk (.inl rfl))
 have n4_ := Aside0.mk (hb)
 have n5_ := Aside0.mk (hi)
 clear HO297
 clear HO317
 clear HO327
 clear HK
 clear HB
 clear HI0
 have HO297 := n0_
 have HO317 := n1_
 have HO327 := n2_
 have HK := n3_
 have HB := n4_
 have HI0 := n5_
 clear n0_ n1_ n2_ n3_ n4_ n5_
 (try clear hb)
 (try clear hb2)
 (try clear hk)
 (try clear hi)
 refine hK.out _ _ trivial (fun hHeld => ?_)
 clear hK K
 refine norm_ (a' := ?_) ?_ ?_
 rotate_left
 {
 show Act.put _ (some 30) _ = _
 simp only [Act.put, List.setIfInBounds_toArray, List.set_cons_zero, List.set_cons_succ, i64_w, i32_w]
 rfl
 }
 refine pure_ (i := 11) (N := some 31) (v := _) (a' := _) #[Y, Y, Y, X, Y, Y, X, X, Y, Y, Y, Y, X, X, X, X, X] rfl rfl (any_of HT_.out (by kernel_rfl)) (fun _ _ _ h => h) (Or.inl ⟨by rfl, (by intro w'; go_simp; with_reducible rfl)⟩) z58k ?_
 exact norm_ z58e (hJ1_2_5_8_10 (v316, .slice (some adz_v326) y325.length co36, adz_v326) _ ⟨z58d, z58f, z58g, ⟨_, rfl⟩, z58a, z58b, z58c⟩)
 }
 }
 }
 {
 skip
 rintro ⟨v316, v319, adz_v319, v326, adz_v326⟩ w37 ⟨h0_, h1_, h2_, h3_, h4_, h5_, h6_, h7_, h8_⟩
 have n0_ : Aside0 (Kd.R k31 31 w37 w.heap.size (fun _ => True) (.slice Ao26 t295.length co26) t295) := ⟨h0_⟩
 have n1_ : Aside0 (Kd.R (Kd.int .u8) 5 w37 w.heap.size (fun _ => True) v316 y315) := ⟨h1_⟩
 have n2_ : Aside0 (Kd.R Kd.string 9 w37 w.heap.size (fun _ => True) v319 y318) := ⟨h2_⟩
 have n3_ : Aside0 (Kd.R (Kd.int .i64) 2 w37 w.heap.size (fun _ => True) v326 y325) := ⟨h3_⟩
 have n4_ : Aside0 (∃ c_, (v319 : Value) = .slice (some adz_v319) y318.length c_) := ⟨h4_⟩
 have n5_ : Aside0 (∃ c_, (v326 : Value) = .slice (some adz_v326) y325.length c_) := ⟨h5_⟩
 have n6_ : Aside0 (IsS108 w0 w37 g s0_0 t304 t305) := ⟨h6_⟩
 have n7_ : Aside0 (KeepBut w w37 g none) := ⟨h7_⟩
 have n8_ : Aside0 (Below w0.heap.size w0 w37) := ⟨h8_⟩
 clear HO297
 clear HI0
 clear HK
 clear HB
 clear h0_ h1_ h2_ h3_ h4_ h5_ h6_ h7_ h8_
 have HO297 := n0_
 have HO317 := n1_
 have HO320 := n2_
 have HO327 := n3_
 have HA_HO320 := n4_
 have HA_HO327 := n5_
 have HI0 := n6_
 have HK := n7_
 have HB := n8_
 clear n0_ n1_ n2_ n3_ n4_ n5_ n6_ n7_ n8_
 have hHeld := trivial
 obtain ⟨co38, eo38⟩ := HA_HO320.out
 clear HA_HO320
 subst eo38
 obtain ⟨co39, eo39⟩ := HA_HO327.out
 clear HA_HO327
 subst eo39
 refine norm_ (a' := ?_) ?_ ?_
 rotate_left
 exact z58j
 refine one_ (i := 5) (N := some 25) #[Y, Y, Y, Y, Y, Y, X, X, Y, Y, X, X, X, X, X, X, X] rfl rfl (one_of HT_.out (by kernel_rfl)) (by decide) (fun K hK => ?_)
 refine goes_ Try.func60 (by kernel_rfl) rfl #[.pointer (some ⟨g, 0, none⟩), .int .i64 3] (by rfl) rfl rfl z58h ?_
 with_reducible refine (spec_l1Below.calls g s0_0 t304 t305 3 t321 t322 t323 w0 _ ?side1 ?side2 A16.out).mono ?_
 (case side1 => exact z58a)
 (case side2 => exact z58c)
 rintro e w40 ⟨rfl, hi, hb, hk⟩
 refine ⟨_, rfl, ?_⟩
 have n0_ := Aside0.mk (Kd.R_mono (Kd.R_keep (IsS108.apart (show IsS108 w0 _ g s0_0 t304 t305 from z58a) z58d (by decide)) hk (fun _ h => h.2)) (fun _ h => h.1))
 have n1_ := Aside0.mk (Kd.R_mono (Kd.R_keep (IsS108.apart (show IsS108 w0 _ g s0_0 t304 t305 from z58a) z58f (by decide)) hk (fun _ h => h.2)) (fun _ h => h.1))
 have n2_ := Aside0.mk (Kd.R_mono (Kd.R_keep (IsS108.apart (show IsS108 w0 _ g s0_0 t304 t305 from z58a) z58i (by decide)) hk (fun _ h => h.2)) (fun _ h => h.1))
 have n3_ := Aside0.mk (Kd.R_mono (Kd.R_keep (IsS108.apart (show IsS108 w0 _ g s0_0 t304 t305 from z58a) z58g (by decide)) hk (fun _ h => h.2)) (fun _ h => h.1))
 have n4_ := Aside0.mk (KeepBut.trans z58b hk (.inl rfl))
 have n5_ := Aside0.mk (hb)
 have n6_ := Aside0.mk (hi)
 clear HO297
 clear HO317
 clear HO320
 clear HO327
 clear HK
 clear HB
 clear HI0
 have HO297 := n0_
 have HO317 := n1_
 have HO320 := n2_
 have HO327 := n3_
 have HK := n4_
 have HB := n5_
 have HI0 := n6_
 clear n0_ n1_ n2_ n3_ n4_ n5_ n6_
 (try clear hb)
 (try clear hb2)
 (try clear hk)
 (try clear hi)
 refine hK.out _ _ trivial (fun hHeld => ?_)
 clear hK K
 refine norm_ (a' := ?_) ?_ ?_
 rotate_left
 {
 show Act.put _ (some 25) _ = _
 simp only [Act.put, List.setIfInBounds_toArray, List.set_cons_zero, List.set_cons_succ, i64_w, i32_w]
 rfl
 }
 refine pure_ (i := 6) (N := some 26) (v := _) (a' := _) #[Y, Y, Y, Y, Y, Y, Y, X, Y, Y, X, X, X, X, X, X, X] rfl rfl (any_of HT_.out (by kernel_rfl)) (fun _ _ _ h => h) (Or.inl ⟨by rfl, (by intro w'; go_simp; with_reducible rfl)⟩) z58k ?_
 exact norm_ z58e (hJ1_2_3_5_8 (v316, .slice (some adz_v319) y318.length co38, adz_v319, .slice (some adz_v326) y325.length co39, adz_v326) _ ⟨z58d, z58f, z58i, z58g, ⟨_, rfl⟩, ⟨_, rfl⟩, z58a, z58b, z58c⟩)
 }
 }
 {
 skip
 rintro ⟨v316, v319, adz_v319⟩ w35 ⟨h0_, h1_, h2_, h3_, h4_, h5_, h6_⟩
 have n0_ : Aside0 (Kd.R k31 31 w35 w.heap.size (fun _ => True) (.slice Ao26 t295.length co26) t295) := ⟨h0_⟩
 have n1_ : Aside0 (Kd.R (Kd.int .u8) 5 w35 w.heap.size (fun _ => True) v316 y315) := ⟨h1_⟩
 have n2_ : Aside0 (Kd.R Kd.string 9 w35 w.heap.size (fun _ => True) v319 y318) := ⟨h2_⟩
 have n3_ : Aside0 (∃ c_, (v319 : Value) = .slice (some adz_v319) y318.length c_) := ⟨h3_⟩
 have n4_ : Aside0 (IsS108 w0 w35 g s0_0 t322 t323) := ⟨h4_⟩
 have n5_ : Aside0 (KeepBut w w35 g none) := ⟨h5_⟩
 have n6_ : Aside0 (Below w0.heap.size w0 w35) := ⟨h6_⟩
 clear HO297
 clear HI0
 clear HK
 clear HB
 clear h0_ h1_ h2_ h3_ h4_ h5_ h6_
 have HO297 := n0_
 have HO317 := n1_
 have HO320 := n2_
 have HA_HO320 := n3_
 have HI0 := n4_
 have HK := n5_
 have HB := n6_
 clear n0_ n1_ n2_ n3_ n4_ n5_ n6_
 have hHeld := trivial
 obtain ⟨co36, eo36⟩ := HA_HO320.out
 clear HA_HO320
 subst eo36
 refine norm_ (a' := ?_) ?_ ?_
 rotate_left
 exact z58j
 refine three_ (i := 7) (j := 8) (k := 10) (Ni := some 27) (Nj := some 28) (Nk := some 30) #[Y, Y, Y, Y, Y, Y, Y, Y, X, Y, X, X, X, X, X, X, X] #[Y, Y, Y, Y, Y, Y, Y, X, Y, Y, X, X, X, X, X, X, X] #[Y, Y, Y, Y, Y, Y, Y, X, X, Y, Y, X, X, X, X, X, X] rfl rfl rfl rfl rfl rfl (three_of HT_.out (by kernel_rfl)) (by decide) (by decide) (by decide) (fun K hK => ?_) (fun K hK => ?_) (fun K hK => ?_)
 {
 skip
 (have p324 : 0 ≤ (t321 : Int) := of_decide_eq_true z58l; have q324 : t321 < (y318.length : Int) := of_decide_eq_true z58l; obtain ⟨ad324, e324, hx324_0⟩ := Kd.at_string (Kd.R_reads' HO320.out).2.2 t321 p324 q324; obtain rfl : adz_v319 = ad324 := (by injection e324))
 refine value_ (w1 := ?_) (v := ?_) (by rfl) rfl ?_ ?_
 rotate_left 2
 {
 go_simp
 constructor
 {
 rfl
 }
 {
 rfl
 }
 }
 clear hx324_0
 refine hK.out _ _ trivial (fun hHeld => ?_)
 clear hK K
 refine norm_ (a' := ?_) ?_ ?_
 rotate_left
 {
 show Act.put _ (some 27) _ = _
 simp only [Act.put, List.setIfInBounds_toArray, List.set_cons_zero, List.set_cons_succ, i64_w, i32_w]
 rfl
 }
 exact norm_ z58e (hJ1_2_3_5_7 (v316, .slice (some adz_v319) y318.length co36, adz_v319) _ ⟨z58d, z58f, z58i, ⟨_, rfl⟩, z58a, z58b, z58c⟩)
 }
 {
 skip
 refine Kd.R_lit_step (Kd.int .i64) _ 2 ?hg (N := 28) ?hd (xs := ([0, 1, 1000000, 1000001] : List Int)) (inner := [.int .i64 0, .int .i64 1, .int .i64 1000000, .int .i64 1000001]) (ok := fun _ => True) (okp := fun _ => True) ?hr ?hp (fun _ hk => hk) trivial (Below.refl _ _) (Nat.le_refl _) (by simp) ?_; (case hd => rfl); (case hg => rfl); (case hr => first | (go_simp; done) | (go_simp; rfl)); (case hp => exact (Reps.one (show Kd.M (Kd.int .i64) _ _ _ 0 [.int .i64 0] from rfl) (Reps.one (show Kd.M (Kd.int .i64) _ _ _ 1 [.int .i64 1] from rfl) (Reps.one (show Kd.M (Kd.int .i64) _ _ _ 1000000 [.int .i64 1000000] from rfl) (Reps.one (show Kd.M (Kd.int .i64) _ _ _ 1000001 [.int .i64 1000001] from rfl) (Reps.none _ _))))))
 intro v326 w37 ho38 hb hg_ hnew_
 clear hg_ hnew_
 (first | rw [← Ny325.out] at ho38 | (simp only [Int.reduceToNat] at ho38; rw [← Ny325.out] at ho38))
 have n0_ := Aside0.mk (Kd.R_below z58d hb)
 have n1_ := Aside0.mk (Kd.R_below z58f hb)
 have n2_ := Aside0.mk (Kd.R_below z58i hb)
 have n3_ := Aside0.mk (Kd.R_lower ho38 (keep_size (w := w) (g := g) (row := none) z58b))
 have n4_ := Aside0.mk (IsS108.below z58a hb)
 have n5_ := Aside0.mk (KeepBut.trans z58b (KeepBut.of_below hb g none) (.inl rfl))
 have n6_ := Aside0.mk (below_step z58c hb)
 clear HO297
 clear HO317
 clear HO320
 clear HI0
 clear HK
 clear HB
 have HO297 := n0_
 have HO317 := n1_
 have HO320 := n2_
 have HO327 := n3_
 have HI0 := n4_
 have HK := n5_
 have HB := n6_
 clear n0_ n1_ n2_ n3_ n4_ n5_ n6_
 clear hb ho38
 obtain ⟨Ao39, co39, eo39⟩ := Kd.R_slice HO327.out
 subst eo39
 obtain ⟨ado39, fo39, _⟩ := Kd.at_int (Kd.R_reads' HO327.out).2.2 0 (by decide) (by rw [Ny325.out]; simp)
 cases fo39
 refine hK.out _ _ trivial (fun hHeld => ?_)
 clear hK K
 refine norm_ (a' := ?_) ?_ ?_
 rotate_left
 {
 show Act.put _ (some 28) _ = _
 simp only [Act.put, List.setIfInBounds_toArray, List.set_cons_zero, List.set_cons_succ, i64_w, i32_w]
 rfl
 }
 exact norm_ z58e (hJ1_2_3_5_8 (v316, .slice (some adz_v319) y318.length co36, adz_v319, .slice (some ado39) y325.length co39, ado39) _ ⟨z58d, z58f, z58i, z58g, ⟨_, rfl⟩, ⟨_, rfl⟩, z58a, z58b, z58c⟩)
 }
 {
 skip
 refine goes_ Try.func60 (by kernel_rfl) rfl #[.pointer (some ⟨g, 0, none⟩), .int .i64 4] (by rfl) rfl rfl z58h ?_
 with_reducible refine (spec_l1Below.calls g s0_0 t322 t323 4 t328 t329 t330 w0 _ ?side1 ?side2 A19.out).mono ?_
 (case side1 => exact z58a)
 (case side2 => exact z58c)
 rintro e w37 ⟨rfl, hi, hb, hk⟩
 refine ⟨_, rfl, ?_⟩
 have n0_ := Aside0.mk (Kd.R_mono (Kd.R_keep (IsS108.apart (show IsS108 w0 _ g s0_0 t322 t323 from z58a) z58d (by decide)) hk (fun _ h => h.2)) (fun _ h => h.1))
 have n1_ := Aside0.mk (Kd.R_mono (Kd.R_keep (IsS108.apart (show IsS108 w0 _ g s0_0 t322 t323 from z58a) z58f (by decide)) hk (fun _ h => h.2)) (fun _ h => h.1))
 have n2_ := Aside0.mk (Kd.R_mono (Kd.R_keep (IsS108.apart (show IsS108 w0 _ g s0_0 t322 t323 from z58a) z58i (by decide)) hk (fun _ h => h.2)) (fun _ h => h.1))
 have n3_ := Aside0.mk (KeepBut.trans z58b hk (.inl rfl))
 have n4_ := Aside0.mk (hb)
 have n5_ := Aside0.mk (hi)
 clear HO297
 clear HO317
 clear HO320
 clear HK
 clear HB
 clear HI0
 have HO297 := n0_
 have HO317 := n1_
 have HO320 := n2_
 have HK := n3_
 have HB := n4_
 have HI0 := n5_
 clear n0_ n1_ n2_ n3_ n4_ n5_
 (try clear hb)
 (try clear hb2)
 (try clear hk)
 (try clear hi)
 refine hK.out _ _ trivial (fun hHeld => ?_)
 clear hK K
 refine norm_ (a' := ?_) ?_ ?_
 rotate_left
 {
 show Act.put _ (some 30) _ = _
 simp only [Act.put, List.setIfInBounds_toArray, List.set_cons_zero, List.set_cons_succ, i64_w, i32_w]
 rfl
 }
 exact norm_ z58e (hJ1_2_3_5_10 (v316, .slice (some adz_v319) y318.length co36, adz_v319) _ ⟨z58d, z58f, z58i, ⟨_, rfl⟩, z58a, z58b, z58c⟩)
 }
 }
 }
 {
 skip
 rintro ⟨v316, v326, adz_v326⟩ w35 ⟨h0_, h1_, h2_, h3_, h4_, h5_, h6_⟩
 have n0_ : Aside0 (Kd.R k31 31 w35 w.heap.size (fun _ => True) (.slice Ao26 t295.length co26) t295) := ⟨h0_⟩
 have n1_ : Aside0 (Kd.R (Kd.int .u8) 5 w35 w.heap.size (fun _ => True) v316 y315) := ⟨h1_⟩
 have n2_ : Aside0 (Kd.R (Kd.int .i64) 2 w35 w.heap.size (fun _ => True) v326 y325) := ⟨h2_⟩
 have n3_ : Aside0 (∃ c_, (v326 : Value) = .slice (some adz_v326) y325.length c_) := ⟨h3_⟩
 have n4_ : Aside0 (IsS108 w0 w35 g s0_0 t329 t330) := ⟨h4_⟩
 have n5_ : Aside0 (KeepBut w w35 g none) := ⟨h5_⟩
 have n6_ : Aside0 (Below w0.heap.size w0 w35) := ⟨h6_⟩
 clear HO297
 clear HI0
 clear HK
 clear HB
 clear h0_ h1_ h2_ h3_ h4_ h5_ h6_
 have HO297 := n0_
 have HO317 := n1_
 have HO327 := n2_
 have HA_HO327 := n3_
 have HI0 := n4_
 have HK := n5_
 have HB := n6_
 clear n0_ n1_ n2_ n3_ n4_ n5_ n6_
 have hHeld := trivial
 obtain ⟨co36, eo36⟩ := HA_HO327.out
 clear HA_HO327
 subst eo36
 refine norm_ (a' := ?_) ?_ ?_
 rotate_left
 exact z58j
 refine one_ (i := 2) (N := some 22) #[Y, Y, Y, X, Y, Y, X, X, Y, Y, Y, Y, Y, X, X, X, X] rfl rfl (one_of HT_.out (by kernel_rfl)) (by decide) (fun K hK => ?_)
 have hcv37 := own_string (P := Try.prog) Try.underlying36 Try.underlying5 Try.underlying9 (Kd.own_of_R HO317.out)
 refine value_ (w1 := ?_) (v := ?_) (by rfl) rfl ?_ ?_
 rotate_left 2
 {
 go_simp
 constructor
 {
 rfl
 }
 {
 rfl
 }
 }
 clear hcv37
 refine hK.out _ _ trivial (fun hHeld => ?_)
 clear hK K
 refine norm_ (a' := ?_) ?_ ?_
 rotate_left
 {
 show Act.put _ (some 22) _ = _
 simp only [Act.put, List.setIfInBounds_toArray, List.set_cons_zero, List.set_cons_succ, i64_w, i32_w]
 rfl
 }
 exact norm_ z58e (hJ1_2_5_8_10_12 (v316, .slice (some adz_v326) y325.length co36, adz_v326) _ ⟨z58d, z58f, z58g, ⟨_, rfl⟩, z58a, z58b, z58c⟩)
 }
 }
 {
 skip
 rintro ⟨v316, v326, adz_v326⟩ w36 ⟨h0_, h1_, h2_, h3_, h4_, h5_, h6_⟩
 have n0_ : Aside0 (Kd.R k31 31 w36 w.heap.size (fun _ => True) (.slice Ao26 t295.length co26) t295) := ⟨h0_⟩
 have n1_ : Aside0 (Kd.R (Kd.int .u8) 5 w36 w.heap.size (fun _ => True) v316 y315) := ⟨h1_⟩
 have n2_ : Aside0 (Kd.R (Kd.int .i64) 2 w36 w.heap.size (fun _ => True) v326 y325) := ⟨h2_⟩
 have n3_ : Aside0 (∃ c_, (v326 : Value) = .slice (some adz_v326) y325.length c_) := ⟨h3_⟩
 have n4_ : Aside0 (IsS108 w0 w36 g s0_0 t329 t330) := ⟨h4_⟩
 have n5_ : Aside0 (KeepBut w w36 g none) := ⟨h5_⟩
 have n6_ : Aside0 (Below w0.heap.size w0 w36) := ⟨h6_⟩
 clear HO297
 clear HI0
 clear HK
 clear HB
 clear h0_ h1_ h2_ h3_ h4_ h5_ h6_
 have HO297 := n0_
 have HO317 := n1_
 have HO327 := n2_
 have HA_HO327 := n3_
 have HI0 := n4_
 have HK := n5_
 have HB := n6_
 clear n0_ n1_ n2_ n3_ n4_ n5_ n6_
 have hHeld := trivial
 obtain ⟨co37, eo37⟩ := HA_HO327.out
 clear HA_HO327
 subst eo37
 refine norm_ (a' := ?_) ?_ ?_
 rotate_left
 exact z58j
 refine two_ (i := 3) (j := 12) (Ni := some 23) (Nj := some 32) #[Y, Y, Y, Y, Y, Y, X, X, Y, Y, Y, Y, X, X, X, X, X] #[Y, Y, Y, X, Y, Y, X, X, Y, Y, Y, Y, Y, X, X, X, X] rfl rfl rfl rfl (two_of HT_.out (by kernel_rfl)) (by decide) (by decide) (fun K hK => ?_) (fun K hK => ?_)
 {
 skip
 refine Kd.R_lit_step Kd.string _ 9 ?hg (N := 23) ?hd (xs := ([(⟨#[]⟩ : ByteArray), (⟨#[122, 122]⟩ : ByteArray), strOfNums y315] : List ByteArray)) (inner := [.string (⟨#[]⟩ : ByteArray), .string (⟨#[122, 122]⟩ : ByteArray), .string (strOfNums y315)]) (ok := fun _ => True) (okp := fun _ => True) ?hr ?hp (fun _ hk => hk) trivial (Below.refl _ _) (Nat.le_refl _) (by simp) ?_; (case hd => rfl); (case hg => rfl); (case hr => first | (go_simp; done) | (go_simp; rfl)); (case hp => exact (Reps.one (show Kd.M Kd.string _ _ _ (⟨#[]⟩ : ByteArray) [.string (⟨#[]⟩ : ByteArray)] from rfl) (Reps.one (show Kd.M Kd.string _ _ _ (⟨#[122, 122]⟩ : ByteArray) [.string (⟨#[122, 122]⟩ : ByteArray)] from rfl) (Reps.one (show Kd.M Kd.string _ _ _ (strOfNums y315) [.string (strOfNums y315)] from rfl) (Reps.none _ _)))))
 intro v319 w38 ho39 hb hg_ hnew_
 clear hg_ hnew_
 (first | rw [← Ny318.out] at ho39 | (simp only [Int.reduceToNat] at ho39; rw [← Ny318.out] at ho39))
 have n0_ := Aside0.mk (Kd.R_below z58d hb)
 have n1_ := Aside0.mk (Kd.R_below z58f hb)
 have n2_ := Aside0.mk (Kd.R_below z58g hb)
 have n3_ := Aside0.mk (Kd.R_lower ho39 (keep_size (w := w) (g := g) (row := none) z58b))
 have n4_ := Aside0.mk (IsS108.below z58a hb)
 have n5_ := Aside0.mk (KeepBut.trans z58b (KeepBut.of_below hb g none) (.inl rfl))
 have n6_ := Aside0.mk (below_step z58c hb)
 clear HO297
 clear HO317
 clear HO327
 clear HI0
 clear HK
 clear HB
 have HO297 := n0_
 have HO317 := n1_
 have HO327 := n2_
 have HO320 := n3_
 have HI0 := n4_
 have HK := n5_
 have HB := n6_
 clear n0_ n1_ n2_ n3_ n4_ n5_ n6_
 clear hb ho39
 obtain ⟨Ao40, co40, eo40⟩ := Kd.R_slice HO320.out
 subst eo40
 obtain ⟨ado40, fo40, _⟩ := Kd.at_string (Kd.R_reads' HO320.out).2.2 0 (by decide) (by rw [Ny318.out]; simp)
 cases fo40
 refine hK.out _ _ trivial (fun hHeld => ?_)
 clear hK K
 refine norm_ (a' := ?_) ?_ ?_
 rotate_left
 {
 show Act.put _ (some 23) _ = _
 simp only [Act.put, List.setIfInBounds_toArray, List.set_cons_zero, List.set_cons_succ, i64_w, i32_w]
 rfl
 }
 refine pure_ (i := 6) (N := some 26) (v := _) (a' := _) #[Y, Y, Y, Y, Y, Y, Y, X, Y, Y, Y, Y, X, X, X, X, X] rfl rfl (any_of HT_.out (by kernel_rfl)) (fun _ _ _ h => h) (Or.inl ⟨by rfl, (by intro w'; go_simp; with_reducible rfl)⟩) z58k ?_
 exact norm_ z58e (hJ1_2_3_5_8_10 (v316, .slice (some ado40) y318.length co40, ado40, .slice (some adz_v326) y325.length co37, adz_v326) _ ⟨z58d, z58f, z58i, z58g, ⟨_, rfl⟩, ⟨_, rfl⟩, z58a, z58b, z58c⟩)
 }
 {
 skip
 (have p331 : 0 ≤ (t328 : Int) := of_decide_eq_true z58l; have q331 : t328 < (y325.length : Int) := of_decide_eq_true z58l; obtain ⟨ad331, e331, hx331_0⟩ := Kd.at_int (Kd.R_reads' HO327.out).2.2 t328 p331 q331; obtain rfl : adz_v326 = ad331 := (by injection e331))
 refine value_ (w1 := ?_) (v := ?_) (by rfl) rfl ?_ ?_
 rotate_left 2
 {
 go_simp
 constructor
 {
 rfl
 }
 {
 rfl
 }
 }
 clear hx331_0
 refine hK.out _ _ trivial (fun hHeld => ?_)
 clear hK K
 refine norm_ (a' := ?_) ?_ ?_
 rotate_left
 {
 show Act.put _ (some 32) _ = _
 simp only [Act.put, List.setIfInBounds_toArray, List.set_cons_zero, List.set_cons_succ, i64_w, i32_w]
 rfl
 }
 exact norm_ z58e (hJ1_2_5_8_10_12 (v316, .slice (some adz_v326) y325.length co37, adz_v326) _ ⟨z58d, z58f, z58g, ⟨_, rfl⟩, z58a, z58b, z58c⟩)
 }
 }
 }
 {
 skip
 rintro ⟨v316, v319, adz_v319⟩ w36 ⟨h0_, h1_, h2_, h3_, h4_, h5_, h6_⟩
 have n0_ : Aside0 (Kd.R k31 31 w36 w.heap.size (fun _ => True) (.slice Ao26 t295.length co26) t295) := ⟨h0_⟩
 have n1_ : Aside0 (Kd.R (Kd.int .u8) 5 w36 w.heap.size (fun _ => True) v316 y315) := ⟨h1_⟩
 have n2_ : Aside0 (Kd.R Kd.string 9 w36 w.heap.size (fun _ => True) v319 y318) := ⟨h2_⟩
 have n3_ : Aside0 (∃ c_, (v319 : Value) = .slice (some adz_v319) y318.length c_) := ⟨h3_⟩
 have n4_ : Aside0 (IsS108 w0 w36 g s0_0 t329 t330) := ⟨h4_⟩
 have n5_ : Aside0 (KeepBut w w36 g none) := ⟨h5_⟩
 have n6_ : Aside0 (Below w0.heap.size w0 w36) := ⟨h6_⟩
 clear HO297
 clear HI0
 clear HK
 clear HB
 clear h0_ h1_ h2_ h3_ h4_ h5_ h6_
 have HO297 := n0_
 have HO317 := n1_
 have HO320 := n2_
 have HA_HO320 := n3_
 have HI0 := n4_
 have HK := n5_
 have HB := n6_
 clear n0_ n1_ n2_ n3_ n4_ n5_ n6_
 have hHeld := trivial
 obtain ⟨co37, eo37⟩ := HA_HO320.out
 clear HA_HO320
 subst eo37
 refine norm_ (a' := ?_) ?_ ?_
 rotate_left
 exact z58j
 refine two_ (i := 7) (j := 8) (Ni := some 27) (Nj := some 28) #[Y, Y, Y, Y, Y, Y, Y, Y, X, Y, Y, X, X, X, X, X, X] #[Y, Y, Y, Y, Y, Y, Y, X, Y, Y, Y, X, X, X, X, X, X] rfl rfl rfl rfl (two_of HT_.out (by kernel_rfl)) (by decide) (by decide) (fun K hK => ?_) (fun K hK => ?_)
 {
 skip
 (have p324 : 0 ≤ (t321 : Int) := of_decide_eq_true z58l; have q324 : t321 < (y318.length : Int) := of_decide_eq_true z58l; obtain ⟨ad324, e324, hx324_0⟩ := Kd.at_string (Kd.R_reads' HO320.out).2.2 t321 p324 q324; obtain rfl : adz_v319 = ad324 := (by injection e324))
 refine value_ (w1 := ?_) (v := ?_) (by rfl) rfl ?_ ?_
 rotate_left 2
 {
 go_simp
 constructor
 {
 rfl
 }
 {
 rfl
 }
 }
 clear hx324_0
 refine hK.out _ _ trivial (fun hHeld => ?_)
 clear hK K
 refine norm_ (a' := ?_) ?_ ?_
 rotate_left
 {
 show Act.put _ (some 27) _ = _
 simp only [Act.put, List.setIfInBounds_toArray, List.set_cons_zero, List.set_cons_succ, i64_w, i32_w]
 rfl
 }
 exact norm_ z58e (hJ1_2_3_5_7_10 (v316, .slice (some adz_v319) y318.length co37, adz_v319) _ ⟨z58d, z58f, z58i, ⟨_, rfl⟩, z58a, z58b, z58c⟩)
 }
 {
 skip
 refine Kd.R_lit_step (Kd.int .i64) _ 2 ?hg (N := 28) ?hd (xs := ([0, 1, 1000000, 1000001] : List Int)) (inner := [.int .i64 0, .int .i64 1, .int .i64 1000000, .int .i64 1000001]) (ok := fun _ => True) (okp := fun _ => True) ?hr ?hp (fun _ hk => hk) trivial (Below.refl _ _) (Nat.le_refl _) (by simp) ?_; (case hd => rfl); (case hg => rfl); (case hr => first | (go_simp; done) | (go_simp; rfl)); (case hp => exact (Reps.one (show Kd.M (Kd.int .i64) _ _ _ 0 [.int .i64 0] from rfl) (Reps.one (show Kd.M (Kd.int .i64) _ _ _ 1 [.int .i64 1] from rfl) (Reps.one (show Kd.M (Kd.int .i64) _ _ _ 1000000 [.int .i64 1000000] from rfl) (Reps.one (show Kd.M (Kd.int .i64) _ _ _ 1000001 [.int .i64 1000001] from rfl) (Reps.none _ _))))))
 intro v326 w38 ho39 hb hg_ hnew_
 clear hg_ hnew_
 (first | rw [← Ny325.out] at ho39 | (simp only [Int.reduceToNat] at ho39; rw [← Ny325.out] at ho39))
 have n0_ := Aside0.mk (Kd.R_below z58d hb)
 have n1_ := Aside0.mk (Kd.R_below z58f hb)
 have n2_ := Aside0.mk (Kd.R_below z58i hb)
 have n3_ := Aside0.mk (Kd.R_lower ho39 (keep_size (w := w) (g := g) (row := none) z58b))
 have n4_ := Aside0.mk (IsS108.below z58a hb)
 have n5_ := Aside0.mk (KeepBut.trans z58b (KeepBut.of_below hb g none) (.inl rfl))
 have n6_ := Aside0.mk (below_step z58c hb)
 clear HO297
 clear HO317
 clear HO320
 clear HI0
 clear HK
 clear HB
 have HO297 := n0_
 have HO317 := n1_
 have HO320 := n2_
 have HO327 := n3_
 have HI0 := n4_
 have HK := n5_
 have HB := n6_
 clear n0_ n1_ n2_ n3_ n4_ n5_ n6_
 clear hb ho39
 obtain ⟨Ao40, co40, eo40⟩ := Kd.R_slice HO327.out
 subst eo40
 obtain ⟨ado40, fo40, _⟩ := Kd.at_int (Kd.R_reads' HO327.out).2.2 0 (by decide) (by rw [Ny325.out]; simp)
 cases fo40
 refine hK.out _ _ trivial (fun hHeld => ?_)
 clear hK K
 refine norm_ (a' := ?_) ?_ ?_
 rotate_left
 {
 show Act.put _ (some 28) _ = _
 simp only [Act.put, List.setIfInBounds_toArray, List.set_cons_zero, List.set_cons_succ, i64_w, i32_w]
 rfl
 }
 refine pure_ (i := 11) (N := some 31) (v := _) (a' := _) #[Y, Y, Y, Y, Y, Y, Y, X, Y, Y, Y, Y, X, X, X, X, X] rfl rfl (any_of HT_.out (by kernel_rfl)) (fun _ _ _ h => h) (Or.inl ⟨by rfl, (by intro w'; go_simp; with_reducible rfl)⟩) z58k ?_
 exact norm_ z58e (hJ1_2_3_5_8_10 (v316, .slice (some adz_v319) y318.length co37, adz_v319, .slice (some ado40) y325.length co40, ado40) _ ⟨z58d, z58f, z58i, z58g, ⟨_, rfl⟩, ⟨_, rfl⟩, z58a, z58b, z58c⟩)
 }
 }
 }
 {
 skip
 rintro ⟨v316, v319, adz_v319, v326, adz_v326⟩ w38 ⟨h0_, h1_, h2_, h3_, h4_, h5_, h6_, h7_, h8_⟩
 have n0_ : Aside0 (Kd.R k31 31 w38 w.heap.size (fun _ => True) (.slice Ao26 t295.length co26) t295) := ⟨h0_⟩
 have n1_ : Aside0 (Kd.R (Kd.int .u8) 5 w38 w.heap.size (fun _ => True) v316 y315) := ⟨h1_⟩
 have n2_ : Aside0 (Kd.R Kd.string 9 w38 w.heap.size (fun _ => True) v319 y318) := ⟨h2_⟩
 have n3_ : Aside0 (Kd.R (Kd.int .i64) 2 w38 w.heap.size (fun _ => True) v326 y325) := ⟨h3_⟩
 have n4_ : Aside0 (∃ c_, (v319 : Value) = .slice (some adz_v319) y318.length c_) := ⟨h4_⟩
 have n5_ : Aside0 (∃ c_, (v326 : Value) = .slice (some adz_v326) y325.length c_) := ⟨h5_⟩
 have n6_ : Aside0 (IsS108 w0 w38 g s0_0 t322 t323) := ⟨h6_⟩
 have n7_ : Aside0 (KeepBut w w38 g none) := ⟨h7_⟩
 have n8_ : Aside0 (Below w0.heap.size w0 w38) := ⟨h8_⟩
 clear HO297
 clear HI0
 clear HK
 clear HB
 clear h0_ h1_ h2_ h3_ h4_ h5_ h6_ h7_ h8_
 have HO297 := n0_
 have HO317 := n1_
 have HO320 := n2_
 have HO327 := n3_
 have HA_HO320 := n4_
 have HA_HO327 := n5_
 have HI0 := n6_
 have HK := n7_
 have HB := n8_
 clear n0_ n1_ n2_ n3_ n4_ n5_ n6_ n7_ n8_
 have hHeld := trivial
 obtain ⟨co39, eo39⟩ := HA_HO320.out
 clear HA_HO320
 subst eo39
 obtain ⟨co40, eo40⟩ := HA_HO327.out
 clear HA_HO327
 subst eo40
 refine norm_ (a' := ?_) ?_ ?_
 rotate_left
 exact z58j
 refine two_ (i := 7) (j := 10) (Ni := some 27) (Nj := some 30) #[Y, Y, Y, Y, Y, Y, Y, Y, Y, Y, X, X, X, X, X, X, X] #[Y, Y, Y, Y, Y, Y, Y, X, Y, Y, Y, X, X, X, X, X, X] rfl rfl rfl rfl (two_of HT_.out (by kernel_rfl)) (by decide) (by decide) (fun K hK => ?_) (fun K hK => ?_)
 {
 skip
 (have p324 : 0 ≤ (t321 : Int) := of_decide_eq_true z58l; have q324 : t321 < (y318.length : Int) := of_decide_eq_true z58l; obtain ⟨ad324, e324, hx324_0⟩ := Kd.at_string (Kd.R_reads' HO320.out).2.2 t321 p324 q324; obtain rfl : adz_v319 = ad324 := (by injection e324))
 refine value_ (w1 := ?_) (v := ?_) (by rfl) rfl ?_ ?_
 rotate_left 2
 {
 go_simp
 constructor
 {
 rfl
 }
 {
 rfl
 }
 }
 clear hx324_0
 refine hK.out _ _ trivial (fun hHeld => ?_)
 clear hK K
 refine norm_ (a' := ?_) ?_ ?_
 rotate_left
 {
 show Act.put _ (some 27) _ = _
 simp only [Act.put, List.setIfInBounds_toArray, List.set_cons_zero, List.set_cons_succ, i64_w, i32_w]
 rfl
 }
 exact norm_ z58e (hJ1_2_3_5_7_8 (v316, .slice (some adz_v319) y318.length co39, adz_v319, .slice (some adz_v326) y325.length co40, adz_v326) _ ⟨z58d, z58f, z58i, z58g, ⟨_, rfl⟩, ⟨_, rfl⟩, z58a, z58b, z58c⟩)
 }
 {
 skip
 refine goes_ Try.func60 (by kernel_rfl) rfl #[.pointer (some ⟨g, 0, none⟩), .int .i64 4] (by rfl) rfl rfl z58h ?_
 with_reducible refine (spec_l1Below.calls g s0_0 t322 t323 4 t328 t329 t330 w0 _ ?side1 ?side2 A19.out).mono ?_
 (case side1 => exact z58a)
 (case side2 => exact z58c)
 rintro e w41 ⟨rfl, hi, hb, hk⟩
 refine ⟨_, rfl, ?_⟩
 have n0_ := Aside0.mk (Kd.R_mono (Kd.R_keep (IsS108.apart (show IsS108 w0 _ g s0_0 t322 t323 from z58a) z58d (by decide)) hk (fun _ h => h.2)) (fun _ h => h.1))
 have n1_ := Aside0.mk (Kd.R_mono (Kd.R_keep (IsS108.apart (show IsS108 w0 _ g s0_0 t322 t323 from z58a) z58f (by decide)) hk (fun _ h => h.2)) (fun _ h => h.1))
 have n2_ := Aside0.mk (Kd.R_mono (Kd.R_keep (IsS108.apart (show IsS108 w0 _ g s0_0 t322 t323 from z58a) z58i (by decide)) hk (fun _ h => h.2)) (fun _ h => h.1))
 have n3_ := Aside0.mk (Kd.R_mono (Kd.R_keep (IsS108.apart (show IsS108 w0 _ g s0_0 t322 t323 from z58a) z58g (by decide)) hk (fun _ h => h.2)) (fun _ h => h.1))
 have n4_ := Aside0.mk (KeepBut.trans z58b hk (.inl rfl))
 have n5_ := Aside0.mk (hb)
 have n6_ := Aside0.mk (hi)
 clear HO297
 clear HO317
 clear HO320
 clear HO327
 clear HK
 clear HB
 clear HI0
 have HO297 := n0_
 have HO317 := n1_
 have HO320 := n2_
 have HO327 := n3_
 have HK := n4_
 have HB := n5_
 have HI0 := n6_
 clear n0_ n1_ n2_ n3_ n4_ n5_ n6_
 (try clear hb)
 (try clear hb2)
 (try clear hk)
 (try clear hi)
 refine hK.out _ _ trivial (fun hHeld => ?_)
 clear hK K
 refine norm_ (a' := ?_) ?_ ?_
 rotate_left
 {
 show Act.put _ (some 30) _ = _
 simp only [Act.put, List.setIfInBounds_toArray, List.set_cons_zero, List.set_cons_succ, i64_w, i32_w]
 rfl
 }
 refine pure_ (i := 11) (N := some 31) (v := _) (a' := _) #[Y, Y, Y, Y, Y, Y, Y, X, Y, Y, Y, Y, X, X, X, X, X] rfl rfl (any_of HT_.out (by kernel_rfl)) (fun _ _ _ h => h) (Or.inl ⟨by rfl, (by intro w'; go_simp; with_reducible rfl)⟩) z58k ?_
 exact norm_ z58e (hJ1_2_3_5_8_10 (v316, .slice (some adz_v319) y318.length co39, adz_v319, .slice (some adz_v326) y325.length co40, adz_v326) _ ⟨z58d, z58f, z58i, z58g, ⟨_, rfl⟩, ⟨_, rfl⟩, z58a, z58b, z58c⟩)
 }
 }
 }
 {
 skip
 rintro ⟨v316, v319, adz_v319⟩ w35 ⟨h0_, h1_, h2_, h3_, h4_, h5_, h6_⟩
 have n0_ : Aside0 (Kd.R k31 31 w35 w.heap.size (fun _ => True) (.slice Ao26 t295.length co26) t295) := ⟨h0_⟩
 have n1_ : Aside0 (Kd.R (Kd.int .u8) 5 w35 w.heap.size (fun _ => True) v316 y315) := ⟨h1_⟩
 have n2_ : Aside0 (Kd.R Kd.string 9 w35 w.heap.size (fun _ => True) v319 y318) := ⟨h2_⟩
 have n3_ : Aside0 (∃ c_, (v319 : Value) = .slice (some adz_v319) y318.length c_) := ⟨h3_⟩
 have n4_ : Aside0 (IsS108 w0 w35 g s0_0 t322 t323) := ⟨h4_⟩
 have n5_ : Aside0 (KeepBut w w35 g none) := ⟨h5_⟩
 have n6_ : Aside0 (Below w0.heap.size w0 w35) := ⟨h6_⟩
 clear HO297
 clear HI0
 clear HK
 clear HB
 clear h0_ h1_ h2_ h3_ h4_ h5_ h6_
 have HO297 := n0_
 have HO317 := n1_
 have HO320 := n2_
 have HA_HO320 := n3_
 have HI0 := n4_
 have HK := n5_
 have HB := n6_
 clear n0_ n1_ n2_ n3_ n4_ n5_ n6_
 have hHeld := trivial
 obtain ⟨co36, eo36⟩ := HA_HO320.out
 clear HA_HO320
 subst eo36
 refine norm_ (a' := ?_) ?_ ?_
 rotate_left
 exact z58j
 refine two_ (i := 8) (j := 10) (Ni := some 28) (Nj := some 30) #[Y, Y, Y, Y, Y, Y, Y, Y, Y, Y, X, X, X, X, X, X, X] #[Y, Y, Y, Y, Y, Y, Y, Y, X, Y, Y, X, X, X, X, X, X] rfl rfl rfl rfl (two_of HT_.out (by kernel_rfl)) (by decide) (by decide) (fun K hK => ?_) (fun K hK => ?_)
 {
 skip
 refine Kd.R_lit_step (Kd.int .i64) _ 2 ?hg (N := 28) ?hd (xs := ([0, 1, 1000000, 1000001] : List Int)) (inner := [.int .i64 0, .int .i64 1, .int .i64 1000000, .int .i64 1000001]) (ok := fun _ => True) (okp := fun _ => True) ?hr ?hp (fun _ hk => hk) trivial (Below.refl _ _) (Nat.le_refl _) (by simp) ?_; (case hd => rfl); (case hg => rfl); (case hr => first | (go_simp; done) | (go_simp; rfl)); (case hp => exact (Reps.one (show Kd.M (Kd.int .i64) _ _ _ 0 [.int .i64 0] from rfl) (Reps.one (show Kd.M (Kd.int .i64) _ _ _ 1 [.int .i64 1] from rfl) (Reps.one (show Kd.M (Kd.int .i64) _ _ _ 1000000 [.int .i64 1000000] from rfl) (Reps.one (show Kd.M (Kd.int .i64) _ _ _ 1000001 [.int .i64 1000001] from rfl) (Reps.none _ _))))))
 intro v326 w37 ho38 hb hg_ hnew_
 clear hg_ hnew_
 (first | rw [← Ny325.out] at ho38 | (simp only [Int.reduceToNat] at ho38; rw [← Ny325.out] at ho38))
 have n0_ := Aside0.mk (Kd.R_below z58d hb)
 have n1_ := Aside0.mk (Kd.R_below z58f hb)
 have n2_ := Aside0.mk (Kd.R_below z58i hb)
 have n3_ := Aside0.mk (Kd.R_lower ho38 (keep_size (w := w) (g := g) (row := none) z58b))
 have n4_ := Aside0.mk (IsS108.below z58a hb)
 have n5_ := Aside0.mk (KeepBut.trans z58b (KeepBut.of_below hb g none) (.inl rfl))
 have n6_ := Aside0.mk (below_step z58c hb)
 clear HO297
 clear HO317
 clear HO320
 clear HI0
 clear HK
 clear HB
 have HO297 := n0_
 have HO317 := n1_
 have HO320 := n2_
 have HO327 := n3_
 have HI0 := n4_
 have HK := n5_
 have HB := n6_
 clear n0_ n1_ n2_ n3_ n4_ n5_ n6_
 clear hb ho38
 obtain ⟨Ao39, co39, eo39⟩ := Kd.R_slice HO327.out
 subst eo39
 obtain ⟨ado39, fo39, _⟩ := Kd.at_int (Kd.R_reads' HO327.out).2.2 0 (by decide) (by rw [Ny325.out]; simp)
 cases fo39
 refine hK.out _ _ trivial (fun hHeld => ?_)
 clear hK K
 refine norm_ (a' := ?_) ?_ ?_
 rotate_left
 {
 show Act.put _ (some 28) _ = _
 simp only [Act.put, List.setIfInBounds_toArray, List.set_cons_zero, List.set_cons_succ, i64_w, i32_w]
 rfl
 }
 exact norm_ z58e (hJ1_2_3_5_7_8 (v316, .slice (some adz_v319) y318.length co36, adz_v319, .slice (some ado39) y325.length co39, ado39) _ ⟨z58d, z58f, z58i, z58g, ⟨_, rfl⟩, ⟨_, rfl⟩, z58a, z58b, z58c⟩)
 }
 {
 skip
 refine goes_ Try.func60 (by kernel_rfl) rfl #[.pointer (some ⟨g, 0, none⟩), .int .i64 4] (by rfl) rfl rfl z58h ?_
 with_reducible refine (spec_l1Below.calls g s0_0 t322 t323 4 t328 t329 t330 w0 _ ?side1 ?side2 A19.out).mono ?_
 (case side1 => exact z58a)
 (case side2 => exact z58c)
 rintro e w37 ⟨rfl, hi, hb, hk⟩
 refine ⟨_, rfl, ?_⟩
 have n0_ := Aside0.mk (Kd.R_mono (Kd.R_keep (IsS108.apart (show IsS108 w0 _ g s0_0 t322 t323 from z58a) z58d (by decide)) hk (fun _ h => h.2)) (fun _ h => h.1))
 have n1_ := Aside0.mk (Kd.R_mono (Kd.R_keep (IsS108.apart (show IsS108 w0 _ g s0_0 t322 t323 from z58a) z58f (by decide)) hk (fun _ h => h.2)) (fun _ h => h.1))
 have n2_ := Aside0.mk (Kd.R_mono (Kd.R_keep (IsS108.apart (show IsS108 w0 _ g s0_0 t322 t323 from z58a) z58i (by decide)) hk (fun _ h => h.2)) (fun _ h => h.1))
 have n3_ := Aside0.mk (KeepBut.trans z58b hk (.inl rfl))
 have n4_ := Aside0.mk (hb)
 have n5_ := Aside0.mk (hi)
 clear HO297
 clear HO317
 clear HO320
 clear HK
 clear HB
 clear HI0
 have HO297 := n0_
 have HO317 := n1_
 have HO320 := n2_
 have HK := n3_
 have HB := n4_
 have HI0 := n5_
 clear n0_ n1_ n2_ n3_ n4_ n5_
 (try clear hb)
 (try clear hb2)
 (try clear hk)
 (try clear hi)
 refine hK.out _ _ trivial (fun hHeld => ?_)
 clear hK K
 refine norm_ (a' := ?_) ?_ ?_
 rotate_left
 {
 show Act.put _ (some 30) _ = _
 simp only [Act.put, List.setIfInBounds_toArray, List.set_cons_zero, List.set_cons_succ, i64_w, i32_w]
 rfl
 }
 exact norm_ z58e (hJ1_2_3_5_7_10 (v316, .slice (some adz_v319) y318.length co36, adz_v319) _ ⟨z58d, z58f, z58i, ⟨_, rfl⟩, z58a, z58b, z58c⟩)
 }
 }
 }
 {
 skip
 rintro ⟨v316, v326, adz_v326⟩ w36 ⟨h0_, h1_, h2_, h3_, h4_, h5_, h6_⟩
 have n0_ : Aside0 (Kd.R k31 31 w36 w.heap.size (fun _ => True) (.slice Ao26 t295.length co26) t295) := ⟨h0_⟩
 have n1_ : Aside0 (Kd.R (Kd.int .u8) 5 w36 w.heap.size (fun _ => True) v316 y315) := ⟨h1_⟩
 have n2_ : Aside0 (Kd.R (Kd.int .i64) 2 w36 w.heap.size (fun _ => True) v326 y325) := ⟨h2_⟩
 have n3_ : Aside0 (∃ c_, (v326 : Value) = .slice (some adz_v326) y325.length c_) := ⟨h3_⟩
 have n4_ : Aside0 (IsS108 w0 w36 g s0_0 t329 t330) := ⟨h4_⟩
 have n5_ : Aside0 (KeepBut w w36 g none) := ⟨h5_⟩
 have n6_ : Aside0 (Below w0.heap.size w0 w36) := ⟨h6_⟩
 clear HO297
 clear HI0
 clear HK
 clear HB
 clear h0_ h1_ h2_ h3_ h4_ h5_ h6_
 have HO297 := n0_
 have HO317 := n1_
 have HO327 := n2_
 have HA_HO327 := n3_
 have HI0 := n4_
 have HK := n5_
 have HB := n6_
 clear n0_ n1_ n2_ n3_ n4_ n5_ n6_
 have hHeld := trivial
 obtain ⟨co37, eo37⟩ := HA_HO327.out
 clear HA_HO327
 subst eo37
 refine norm_ (a' := ?_) ?_ ?_
 rotate_left
 exact z58j
 refine one_ (i := 3) (N := some 23) #[Y, Y, Y, Y, Y, Y, X, X, Y, Y, Y, Y, Y, X, X, X, X] rfl rfl (one_of HT_.out (by kernel_rfl)) (by decide) (fun K hK => ?_)
 refine Kd.R_lit_step Kd.string _ 9 ?hg (N := 23) ?hd (xs := ([(⟨#[]⟩ : ByteArray), (⟨#[122, 122]⟩ : ByteArray), strOfNums y315] : List ByteArray)) (inner := [.string (⟨#[]⟩ : ByteArray), .string (⟨#[122, 122]⟩ : ByteArray), .string (strOfNums y315)]) (ok := fun _ => True) (okp := fun _ => True) ?hr ?hp (fun _ hk => hk) trivial (Below.refl _ _) (Nat.le_refl _) (by simp) ?_; (case hd => rfl); (case hg => rfl); (case hr => first | (go_simp; done) | (go_simp; rfl)); (case hp => exact (Reps.one (show Kd.M Kd.string _ _ _ (⟨#[]⟩ : ByteArray) [.string (⟨#[]⟩ : ByteArray)] from rfl) (Reps.one (show Kd.M Kd.string _ _ _ (⟨#[122, 122]⟩ : ByteArray) [.string (⟨#[122, 122]⟩ : ByteArray)] from rfl) (Reps.one (show Kd.M Kd.string _ _ _ (strOfNums y315) [.string (strOfNums y315)] from rfl) (Reps.none _ _)))))
 intro v319 w38 ho39 hb hg_ hnew_
 clear hg_ hnew_
 (first | rw [← Ny318.out] at ho39 | (simp only [Int.reduceToNat] at ho39; rw [← Ny318.out] at ho39))
 have n0_ := Aside0.mk (Kd.R_below z58d hb)
 have n1_ := Aside0.mk (Kd.R_below z58f hb)
 have n2_ := Aside0.mk (Kd.R_below z58g hb)
 have n3_ := Aside0.mk (Kd.R_lower ho39 (keep_size (w := w) (g := g) (row := none) z58b))
 have n4_ := Aside0.mk (IsS108.below z58a hb)
 have n5_ := Aside0.mk (KeepBut.trans z58b (KeepBut.of_below hb g none) (.inl rfl))
 have n6_ := Aside0.mk (below_step z58c hb)
 clear HO297
 clear HO317
 clear HO327
 clear HI0
 clear HK
 clear HB
 have HO297 := n0_
 have HO317 := n1_
 have HO327 := n2_
 have HO320 := n3_
 have HI0 := n4_
 have HK := n5_
 have HB := n6_
 clear n0_ n1_ n2_ n3_ n4_ n5_ n6_
 clear hb ho39
 obtain ⟨Ao40, co40, eo40⟩ := Kd.R_slice HO320.out
 subst eo40
 obtain ⟨ado40, fo40, _⟩ := Kd.at_string (Kd.R_reads' HO320.out).2.2 0 (by decide) (by rw [Ny318.out]; simp)
 cases fo40
 refine hK.out _ _ trivial (fun hHeld => ?_)
 clear hK K
 refine norm_ (a' := ?_) ?_ ?_
 rotate_left
 {
 show Act.put _ (some 23) _ = _
 simp only [Act.put, List.setIfInBounds_toArray, List.set_cons_zero, List.set_cons_succ, i64_w, i32_w]
 rfl
 }
 refine pure_ (i := 6) (N := some 26) (v := _) (a' := _) #[Y, Y, Y, Y, Y, Y, Y, X, Y, Y, Y, Y, Y, X, X, X, X] rfl rfl (any_of HT_.out (by kernel_rfl)) (fun _ _ _ h => h) (Or.inl ⟨by rfl, (by intro w'; go_simp; with_reducible rfl)⟩) z58k ?_
 exact norm_ z58e (hJ1_2_3_5_8_10_12 (v316, .slice (some ado40) y318.length co40, ado40, .slice (some adz_v326) y325.length co37, adz_v326) _ ⟨z58d, z58f, z58i, z58g, ⟨_, rfl⟩, ⟨_, rfl⟩, z58a, z58b, z58c⟩)
 }
 }
 {
 skip
 rintro ⟨v316, v319, adz_v319, v326, adz_v326⟩ w39 ⟨h0_, h1_, h2_, h3_, h4_, h5_, h6_, h7_, h8_⟩
 have n0_ : Aside0 (Kd.R k31 31 w39 w.heap.size (fun _ => True) (.slice Ao26 t295.length co26) t295) := ⟨h0_⟩
 have n1_ : Aside0 (Kd.R (Kd.int .u8) 5 w39 w.heap.size (fun _ => True) v316 y315) := ⟨h1_⟩
 have n2_ : Aside0 (Kd.R Kd.string 9 w39 w.heap.size (fun _ => True) v319 y318) := ⟨h2_⟩
 have n3_ : Aside0 (Kd.R (Kd.int .i64) 2 w39 w.heap.size (fun _ => True) v326 y325) := ⟨h3_⟩
 have n4_ : Aside0 (∃ c_, (v319 : Value) = .slice (some adz_v319) y318.length c_) := ⟨h4_⟩
 have n5_ : Aside0 (∃ c_, (v326 : Value) = .slice (some adz_v326) y325.length c_) := ⟨h5_⟩
 have n6_ : Aside0 (IsS108 w0 w39 g s0_0 t329 t330) := ⟨h6_⟩
 have n7_ : Aside0 (KeepBut w w39 g none) := ⟨h7_⟩
 have n8_ : Aside0 (Below w0.heap.size w0 w39) := ⟨h8_⟩
 clear HO297
 clear HI0
 clear HK
 clear HB
 clear h0_ h1_ h2_ h3_ h4_ h5_ h6_ h7_ h8_
 have HO297 := n0_
 have HO317 := n1_
 have HO320 := n2_
 have HO327 := n3_
 have HA_HO320 := n4_
 have HA_HO327 := n5_
 have HI0 := n6_
 have HK := n7_
 have HB := n8_
 clear n0_ n1_ n2_ n3_ n4_ n5_ n6_ n7_ n8_
 have hHeld := trivial
 obtain ⟨co40, eo40⟩ := HA_HO320.out
 clear HA_HO320
 subst eo40
 obtain ⟨co41, eo41⟩ := HA_HO327.out
 clear HA_HO327
 subst eo41
 refine norm_ (a' := ?_) ?_ ?_
 rotate_left
 exact z58j
 refine two_ (i := 7) (j := 12) (Ni := some 27) (Nj := some 32) #[Y, Y, Y, Y, Y, Y, Y, Y, Y, Y, Y, Y, X, X, X, X, X] #[Y, Y, Y, Y, Y, Y, Y, X, Y, Y, Y, Y, Y, X, X, X, X] rfl rfl rfl rfl (two_of HT_.out (by kernel_rfl)) (by decide) (by decide) (fun K hK => ?_) (fun K hK => ?_)
 {
 skip
 (have p324 : 0 ≤ (t321 : Int) := of_decide_eq_true z58l; have q324 : t321 < (y318.length : Int) := of_decide_eq_true z58l; obtain ⟨ad324, e324, hx324_0⟩ := Kd.at_string (Kd.R_reads' HO320.out).2.2 t321 p324 q324; obtain rfl : adz_v319 = ad324 := (by injection e324))
 refine value_ (w1 := ?_) (v := ?_) (by rfl) rfl ?_ ?_
 rotate_left 2
 {
 go_simp
 constructor
 {
 rfl
 }
 {
 rfl
 }
 }
 clear hx324_0
 refine hK.out _ _ trivial (fun hHeld => ?_)
 clear hK K
 refine norm_ (a' := ?_) ?_ ?_
 rotate_left
 {
 show Act.put _ (some 27) _ = _
 simp only [Act.put, List.setIfInBounds_toArray, List.set_cons_zero, List.set_cons_succ, i64_w, i32_w]
 rfl
 }
 exact norm_ z58e (hJ1_2_3_5_7_8_10 (v316, .slice (some adz_v319) y318.length co40, adz_v319, .slice (some adz_v326) y325.length co41, adz_v326) _ ⟨z58d, z58f, z58i, z58g, ⟨_, rfl⟩, ⟨_, rfl⟩, z58a, z58b, z58c⟩)
 }
 {
 skip
 (have p331 : 0 ≤ (t328 : Int) := of_decide_eq_true z58l; have q331 : t328 < (y325.length : Int) := of_decide_eq_true z58l; obtain ⟨ad331, e331, hx331_0⟩ := Kd.at_int (Kd.R_reads' HO327.out).2.2 t328 p331 q331; obtain rfl : adz_v326 = ad331 := (by injection e331))
 refine value_ (w1 := ?_) (v := ?_) (by rfl) rfl ?_ ?_
 rotate_left 2
 {
 go_simp
 constructor
 {
 rfl
 }
 {
 rfl
 }
 }
 clear hx331_0
 refine hK.out _ _ trivial (fun hHeld => ?_)
 clear hK K
 refine norm_ (a' := ?_) ?_ ?_
 rotate_left
 {
 show Act.put _ (some 32) _ = _
 simp only [Act.put, List.setIfInBounds_toArray, List.set_cons_zero, List.set_cons_succ, i64_w, i32_w]
 rfl
 }
 exact norm_ z58e (hJ1_2_3_5_8_10_12 (v316, .slice (some adz_v319) y318.length co40, adz_v319, .slice (some adz_v326) y325.length co41, adz_v326) _ ⟨z58d, z58f, z58i, z58g, ⟨_, rfl⟩, ⟨_, rfl⟩, z58a, z58b, z58c⟩)
 }
 }
 }
 {
 skip
 rintro ⟨v316, v319, adz_v319⟩ w36 ⟨h0_, h1_, h2_, h3_, h4_, h5_, h6_⟩
 have n0_ : Aside0 (Kd.R k31 31 w36 w.heap.size (fun _ => True) (.slice Ao26 t295.length co26) t295) := ⟨h0_⟩
 have n1_ : Aside0 (Kd.R (Kd.int .u8) 5 w36 w.heap.size (fun _ => True) v316 y315) := ⟨h1_⟩
 have n2_ : Aside0 (Kd.R Kd.string 9 w36 w.heap.size (fun _ => True) v319 y318) := ⟨h2_⟩
 have n3_ : Aside0 (∃ c_, (v319 : Value) = .slice (some adz_v319) y318.length c_) := ⟨h3_⟩
 have n4_ : Aside0 (IsS108 w0 w36 g s0_0 t329 t330) := ⟨h4_⟩
 have n5_ : Aside0 (KeepBut w w36 g none) := ⟨h5_⟩
 have n6_ : Aside0 (Below w0.heap.size w0 w36) := ⟨h6_⟩
 clear HO297
 clear HI0
 clear HK
 clear HB
 clear h0_ h1_ h2_ h3_ h4_ h5_ h6_
 have HO297 := n0_
 have HO317 := n1_
 have HO320 := n2_
 have HA_HO320 := n3_
 have HI0 := n4_
 have HK := n5_
 have HB := n6_
 clear n0_ n1_ n2_ n3_ n4_ n5_ n6_
 have hHeld := trivial
 obtain ⟨co37, eo37⟩ := HA_HO320.out
 clear HA_HO320
 subst eo37
 refine norm_ (a' := ?_) ?_ ?_
 rotate_left
 exact z58j
 refine one_ (i := 8) (N := some 28) #[Y, Y, Y, Y, Y, Y, Y, Y, Y, Y, Y, X, X, X, X, X, X] rfl rfl (one_of HT_.out (by kernel_rfl)) (by decide) (fun K hK => ?_)
 refine Kd.R_lit_step (Kd.int .i64) _ 2 ?hg (N := 28) ?hd (xs := ([0, 1, 1000000, 1000001] : List Int)) (inner := [.int .i64 0, .int .i64 1, .int .i64 1000000, .int .i64 1000001]) (ok := fun _ => True) (okp := fun _ => True) ?hr ?hp (fun _ hk => hk) trivial (Below.refl _ _) (Nat.le_refl _) (by simp) ?_; (case hd => rfl); (case hg => rfl); (case hr => first | (go_simp; done) | (go_simp; rfl)); (case hp => exact (Reps.one (show Kd.M (Kd.int .i64) _ _ _ 0 [.int .i64 0] from rfl) (Reps.one (show Kd.M (Kd.int .i64) _ _ _ 1 [.int .i64 1] from rfl) (Reps.one (show Kd.M (Kd.int .i64) _ _ _ 1000000 [.int .i64 1000000] from rfl) (Reps.one (show Kd.M (Kd.int .i64) _ _ _ 1000001 [.int .i64 1000001] from rfl) (Reps.none _ _))))))
 intro v326 w38 ho39 hb hg_ hnew_
 clear hg_ hnew_
 (first | rw [← Ny325.out] at ho39 | (simp only [Int.reduceToNat] at ho39; rw [← Ny325.out] at ho39))
 have n0_ := Aside0.mk (Kd.R_below z58d hb)
 have n1_ := Aside0.mk (Kd.R_below z58f hb)
 have n2_ := Aside0.mk (Kd.R_below z58i hb)
 have n3_ := Aside0.mk (Kd.R_lower ho39 (keep_size (w := w) (g := g) (row := none) z58b))
 have n4_ := Aside0.mk (IsS108.below z58a hb)
 have n5_ := Aside0.mk (KeepBut.trans z58b (KeepBut.of_below hb g none) (.inl rfl))
 have n6_ := Aside0.mk (below_step z58c hb)
 clear HO297
 clear HO317
 clear HO320
 clear HI0
 clear HK
 clear HB
 have HO297 := n0_
 have HO317 := n1_
 have HO320 := n2_
 have HO327 := n3_
 have HI0 := n4_
 have HK := n5_
 have HB := n6_
 clear n0_ n1_ n2_ n3_ n4_ n5_ n6_
 clear hb ho39
 obtain ⟨Ao40, co40, eo40⟩ := Kd.R_slice HO327.out
 subst eo40
 obtain ⟨ado40, fo40, _⟩ := Kd.at_int (Kd.R_reads' HO327.out).2.2 0 (by decide) (by rw [Ny325.out]; simp)
 cases fo40
 refine hK.out _ _ trivial (fun hHeld => ?_)
 clear hK K
 refine norm_ (a' := ?_) ?_ ?_
 rotate_left
 {
 show Act.put _ (some 28) _ = _
 simp only [Act.put, List.setIfInBounds_toArray, List.set_cons_zero, List.set_cons_succ, i64_w, i32_w]
 rfl
 }
 refine pure_ (i := 11) (N := some 31) (v := _) (a' := _) #[Y, Y, Y, Y, Y, Y, Y, Y, Y, Y, Y, Y, X, X, X, X, X] rfl rfl (any_of HT_.out (by kernel_rfl)) (fun _ _ _ h => h) (Or.inl ⟨by rfl, (by intro w'; go_simp; with_reducible rfl)⟩) z58k ?_
 exact norm_ z58e (hJ1_2_3_5_7_8_10 (v316, .slice (some adz_v319) y318.length co37, adz_v319, .slice (some ado40) y325.length co40, ado40) _ ⟨z58d, z58f, z58i, z58g, ⟨_, rfl⟩, ⟨_, rfl⟩, z58a, z58b, z58c⟩)
 }
 }
 {
 skip
 rintro ⟨v316, v319, adz_v319, v326, adz_v326⟩ w38 ⟨h0_, h1_, h2_, h3_, h4_, h5_, h6_, h7_, h8_⟩
 have n0_ : Aside0 (Kd.R k31 31 w38 w.heap.size (fun _ => True) (.slice Ao26 t295.length co26) t295) := ⟨h0_⟩
 have n1_ : Aside0 (Kd.R (Kd.int .u8) 5 w38 w.heap.size (fun _ => True) v316 y315) := ⟨h1_⟩
 have n2_ : Aside0 (Kd.R Kd.string 9 w38 w.heap.size (fun _ => True) v319 y318) := ⟨h2_⟩
 have n3_ : Aside0 (Kd.R (Kd.int .i64) 2 w38 w.heap.size (fun _ => True) v326 y325) := ⟨h3_⟩
 have n4_ : Aside0 (∃ c_, (v319 : Value) = .slice (some adz_v319) y318.length c_) := ⟨h4_⟩
 have n5_ : Aside0 (∃ c_, (v326 : Value) = .slice (some adz_v326) y325.length c_) := ⟨h5_⟩
 have n6_ : Aside0 (IsS108 w0 w38 g s0_0 t322 t323) := ⟨h6_⟩
 have n7_ : Aside0 (KeepBut w w38 g none) := ⟨h7_⟩
 have n8_ : Aside0 (Below w0.heap.size w0 w38) := ⟨h8_⟩
 clear HO297
 clear HI0
 clear HK
 clear HB
 clear h0_ h1_ h2_ h3_ h4_ h5_ h6_ h7_ h8_
 have HO297 := n0_
 have HO317 := n1_
 have HO320 := n2_
 have HO327 := n3_
 have HA_HO320 := n4_
 have HA_HO327 := n5_
 have HI0 := n6_
 have HK := n7_
 have HB := n8_
 clear n0_ n1_ n2_ n3_ n4_ n5_ n6_ n7_ n8_
 have hHeld := trivial
 obtain ⟨co39, eo39⟩ := HA_HO320.out
 clear HA_HO320
 subst eo39
 obtain ⟨co40, eo40⟩ := HA_HO327.out
 clear HA_HO327
 subst eo40
 refine norm_ (a' := ?_) ?_ ?_
 rotate_left
 exact z58j
 refine one_ (i := 10) (N := some 30) #[Y, Y, Y, Y, Y, Y, Y, Y, Y, Y, Y, X, X, X, X, X, X] rfl rfl (one_of HT_.out (by kernel_rfl)) (by decide) (fun K hK => ?_)
 refine goes_ Try.func60 (by kernel_rfl) rfl #[.pointer (some ⟨g, 0, none⟩), .int .i64 4] (by rfl) rfl rfl z58h ?_
 with_reducible refine (spec_l1Below.calls g s0_0 t322 t323 4 t328 t329 t330 w0 _ ?side1 ?side2 A19.out).mono ?_
 (case side1 => exact z58a)
 (case side2 => exact z58c)
 rintro e w41 ⟨rfl, hi, hb, hk⟩
 refine ⟨_, rfl, ?_⟩
 have n0_ := Aside0.mk (Kd.R_mono (Kd.R_keep (IsS108.apart (show IsS108 w0 _ g s0_0 t322 t323 from z58a) z58d (by decide)) hk (fun _ h => h.2)) (fun _ h => h.1))
 have n1_ := Aside0.mk (Kd.R_mono (Kd.R_keep (IsS108.apart (show IsS108 w0 _ g s0_0 t322 t323 from z58a) z58f (by decide)) hk (fun _ h => h.2)) (fun _ h => h.1))
 have n2_ := Aside0.mk (Kd.R_mono (Kd.R_keep (IsS108.apart (show IsS108 w0 _ g s0_0 t322 t323 from z58a) z58i (by decide)) hk (fun _ h => h.2)) (fun _ h => h.1))
 have n3_ := Aside0.mk (Kd.R_mono (Kd.R_keep (IsS108.apart (show IsS108 w0 _ g s0_0 t322 t323 from z58a) z58g (by decide)) hk (fun _ h => h.2)) (fun _ h => h.1))
 have n4_ := Aside0.mk (KeepBut.trans z58b hk (.inl rfl))
 have n5_ := Aside0.mk (hb)
 have n6_ := Aside0.mk (hi)
 clear HO297
 clear HO317
 clear HO320
 clear HO327
 clear HK
 clear HB
 clear HI0
 have HO297 := n0_
 have HO317 := n1_
 have HO320 := n2_
 have HO327 := n3_
 have HK := n4_
 have HB := n5_
 have HI0 := n6_
 clear n0_ n1_ n2_ n3_ n4_ n5_ n6_
 (try clear hb)
 (try clear hb2)
 (try clear hk)
 (try clear hi)
 refine hK.out _ _ trivial (fun hHeld => ?_)
 clear hK K
 refine norm_ (a' := ?_) ?_ ?_
 rotate_left
 {
 show Act.put _ (some 30) _ = _
 simp only [Act.put, List.setIfInBounds_toArray, List.set_cons_zero, List.set_cons_succ, i64_w, i32_w]
 rfl
 }
 refine pure_ (i := 11) (N := some 31) (v := _) (a' := _) #[Y, Y, Y, Y, Y, Y, Y, Y, Y, Y, Y, Y, X, X, X, X, X] rfl rfl (any_of HT_.out (by kernel_rfl)) (fun _ _ _ h => h) (Or.inl ⟨by rfl, (by intro w'; go_simp; with_reducible rfl)⟩) z58k ?_
 exact norm_ z58e (hJ1_2_3_5_7_8_10 (v316, .slice (some adz_v319) y318.length co39, adz_v319, .slice (some adz_v326) y325.length co40, adz_v326) _ ⟨z58d, z58f, z58i, z58g, ⟨_, rfl⟩, ⟨_, rfl⟩, z58a, z58b, z58c⟩)
 }
 }
 {
 skip
 rintro ⟨v316, v319, adz_v319, v326, adz_v326⟩ w39 ⟨h0_, h1_, h2_, h3_, h4_, h5_, h6_, h7_, h8_⟩
 have n0_ : Aside0 (Kd.R k31 31 w39 w.heap.size (fun _ => True) (.slice Ao26 t295.length co26) t295) := ⟨h0_⟩
 have n1_ : Aside0 (Kd.R (Kd.int .u8) 5 w39 w.heap.size (fun _ => True) v316 y315) := ⟨h1_⟩
 have n2_ : Aside0 (Kd.R Kd.string 9 w39 w.heap.size (fun _ => True) v319 y318) := ⟨h2_⟩
 have n3_ : Aside0 (Kd.R (Kd.int .i64) 2 w39 w.heap.size (fun _ => True) v326 y325) := ⟨h3_⟩
 have n4_ : Aside0 (∃ c_, (v319 : Value) = .slice (some adz_v319) y318.length c_) := ⟨h4_⟩
 have n5_ : Aside0 (∃ c_, (v326 : Value) = .slice (some adz_v326) y325.length c_) := ⟨h5_⟩
 have n6_ : Aside0 (IsS108 w0 w39 g s0_0 t329 t330) := ⟨h6_⟩
 have n7_ : Aside0 (KeepBut w w39 g none) := ⟨h7_⟩
 have n8_ : Aside0 (Below w0.heap.size w0 w39) := ⟨h8_⟩
 clear HO297
 clear HI0
 clear HK
 clear HB
 clear h0_ h1_ h2_ h3_ h4_ h5_ h6_ h7_ h8_
 have HO297 := n0_
 have HO317 := n1_
 have HO320 := n2_
 have HO327 := n3_
 have HA_HO320 := n4_
 have HA_HO327 := n5_
 have HI0 := n6_
 have HK := n7_
 have HB := n8_
 clear n0_ n1_ n2_ n3_ n4_ n5_ n6_ n7_ n8_
 have hHeld := trivial
 obtain ⟨co40, eo40⟩ := HA_HO320.out
 clear HA_HO320
 subst eo40
 obtain ⟨co41, eo41⟩ := HA_HO327.out
 clear HA_HO327
 subst eo41
 refine norm_ (a' := ?_) ?_ ?_
 rotate_left
 exact z58j
 refine one_ (i := 7) (N := some 27) #[Y, Y, Y, Y, Y, Y, Y, Y, Y, Y, Y, Y, Y, X, X, X, X] rfl rfl (one_of HT_.out (by kernel_rfl)) (by decide) (fun K hK => ?_)
 (have p324 : 0 ≤ (t321 : Int) := of_decide_eq_true z58l; have q324 : t321 < (y318.length : Int) := of_decide_eq_true z58l; obtain ⟨ad324, e324, hx324_0⟩ := Kd.at_string (Kd.R_reads' HO320.out).2.2 t321 p324 q324; obtain rfl : adz_v319 = ad324 := (by injection e324))
 refine value_ (w1 := ?_) (v := ?_) (by rfl) rfl ?_ ?_
 rotate_left 2
 {
 go_simp
 constructor
 {
 rfl
 }
 {
 rfl
 }
 }
 clear hx324_0
 refine hK.out _ _ trivial (fun hHeld => ?_)
 clear hK K
 refine norm_ (a' := ?_) ?_ ?_
 rotate_left
 {
 show Act.put _ (some 27) _ = _
 simp only [Act.put, List.setIfInBounds_toArray, List.set_cons_zero, List.set_cons_succ, i64_w, i32_w]
 rfl
 }
 exact norm_ z58e (hJ1_2_3_5_7_8_10_12 (v316, .slice (some adz_v319) y318.length co40, adz_v319, .slice (some adz_v326) y325.length co41, adz_v326) _ ⟨z58d, z58f, z58i, z58g, ⟨_, rfl⟩, ⟨_, rfl⟩, z58a, z58b, z58c⟩)
 }
 }
 {
 skip
 rintro ⟨v316, v319, adz_v319, v326, adz_v326⟩ w39 ⟨h0_, h1_, h2_, h3_, h4_, h5_, h6_, h7_, h8_⟩
 have n0_ : Aside0 (Kd.R k31 31 w39 w.heap.size (fun _ => True) (.slice Ao26 t295.length co26) t295) := ⟨h0_⟩
 have n1_ : Aside0 (Kd.R (Kd.int .u8) 5 w39 w.heap.size (fun _ => True) v316 y315) := ⟨h1_⟩
 have n2_ : Aside0 (Kd.R Kd.string 9 w39 w.heap.size (fun _ => True) v319 y318) := ⟨h2_⟩
 have n3_ : Aside0 (Kd.R (Kd.int .i64) 2 w39 w.heap.size (fun _ => True) v326 y325) := ⟨h3_⟩
 have n4_ : Aside0 (∃ c_, (v319 : Value) = .slice (some adz_v319) y318.length c_) := ⟨h4_⟩
 have n5_ : Aside0 (∃ c_, (v326 : Value) = .slice (some adz_v326) y325.length c_) := ⟨h5_⟩
 have n6_ : Aside0 (IsS108 w0 w39 g s0_0 t329 t330) := ⟨h6_⟩
 have n7_ : Aside0 (KeepBut w w39 g none) := ⟨h7_⟩
 have n8_ : Aside0 (Below w0.heap.size w0 w39) := ⟨h8_⟩
 clear HO297
 clear HI0
 clear HK
 clear HB
 clear h0_ h1_ h2_ h3_ h4_ h5_ h6_ h7_ h8_
 have HO297 := n0_
 have HO317 := n1_
 have HO320 := n2_
 have HO327 := n3_
 have HA_HO320 := n4_
 have HA_HO327 := n5_
 have HI0 := n6_
 have HK := n7_
 have HB := n8_
 clear n0_ n1_ n2_ n3_ n4_ n5_ n6_ n7_ n8_
 have hHeld := trivial
 obtain ⟨co40, eo40⟩ := HA_HO320.out
 clear HA_HO320
 subst eo40
 obtain ⟨co41, eo41⟩ := HA_HO327.out
 clear HA_HO327
 subst eo41
 refine norm_ (a' := ?_) ?_ ?_
 rotate_left
 exact z58j
 refine one_ (i := 12) (N := some 32) #[Y, Y, Y, Y, Y, Y, Y, Y, Y, Y, Y, Y, Y, X, X, X, X] rfl rfl (one_of HT_.out (by kernel_rfl)) (by decide) (fun K hK => ?_)
 (have p331 : 0 ≤ (t328 : Int) := of_decide_eq_true z58l; have q331 : t328 < (y325.length : Int) := of_decide_eq_true z58l; obtain ⟨ad331, e331, hx331_0⟩ := Kd.at_int (Kd.R_reads' HO327.out).2.2 t328 p331 q331; obtain rfl : adz_v326 = ad331 := (by injection e331))
 refine value_ (w1 := ?_) (v := ?_) (by rfl) rfl ?_ ?_
 rotate_left 2
 {
 go_simp
 constructor
 {
 rfl
 }
 {
 rfl
 }
 }
 clear hx331_0
 refine hK.out _ _ trivial (fun hHeld => ?_)
 clear hK K
 refine norm_ (a' := ?_) ?_ ?_
 rotate_left
 {
 show Act.put _ (some 32) _ = _
 simp only [Act.put, List.setIfInBounds_toArray, List.set_cons_zero, List.set_cons_succ, i64_w, i32_w]
 rfl
 }
 exact norm_ z58e (hJ1_2_3_5_7_8_10_12 (v316, .slice (some adz_v319) y318.length co40, adz_v319, .slice (some adz_v326) y325.length co41, adz_v326) _ ⟨z58d, z58f, z58i, z58g, ⟨_, rfl⟩, ⟨_, rfl⟩, z58a, z58b, z58c⟩)
 }
 }
 rintro ⟨v316, v319, adz_v319, v326, adz_v326⟩ w39 ⟨h0_, h1_, h2_, h3_, h4_, h5_, h6_, h7_, h8_⟩
 have n0_ : Aside0 (Kd.R k31 31 w39 w.heap.size (fun _ => True) (.slice Ao26 t295.length co26) t295) := ⟨h0_⟩
 have n1_ : Aside0 (Kd.R (Kd.int .u8) 5 w39 w.heap.size (fun _ => True) v316 y315) := ⟨h1_⟩
 have n2_ : Aside0 (Kd.R Kd.string 9 w39 w.heap.size (fun _ => True) v319 y318) := ⟨h2_⟩
 have n3_ : Aside0 (Kd.R (Kd.int .i64) 2 w39 w.heap.size (fun _ => True) v326 y325) := ⟨h3_⟩
 have n4_ : Aside0 (∃ c_, (v319 : Value) = .slice (some adz_v319) y318.length c_) := ⟨h4_⟩
 have n5_ : Aside0 (∃ c_, (v326 : Value) = .slice (some adz_v326) y325.length c_) := ⟨h5_⟩
 have n6_ : Aside0 (IsS108 w0 w39 g s0_0 t329 t330) := ⟨h6_⟩
 have n7_ : Aside0 (KeepBut w w39 g none) := ⟨h7_⟩
 have n8_ : Aside0 (Below w0.heap.size w0 w39) := ⟨h8_⟩
 clear HO297
 clear HI0
 clear HK
 clear HB
 clear h0_ h1_ h2_ h3_ h4_ h5_ h6_ h7_ h8_
 have HO297 := n0_
 have HO317 := n1_
 have HO320 := n2_
 have HO327 := n3_
 have HA_HO320 := n4_
 have HA_HO327 := n5_
 have HI0 := n6_
 have HK := n7_
 have HB := n8_
 clear n0_ n1_ n2_ n3_ n4_ n5_ n6_ n7_ n8_
 have hHeld := trivial
 obtain ⟨co40, eo40⟩ := HA_HO320.out
 clear HA_HO320
 subst eo40
 obtain ⟨co41, eo41⟩ := HA_HO327.out
 clear HA_HO327
 subst eo41
 refine norm_ (a' := ?_) ?_ ?_
 rotate_left
 exact z58j
 refine pure_ (i := 13) (N := some 33) (v := _) (a' := _) #[Y, Y, Y, Y, Y, Y, Y, Y, Y, Y, Y, Y, Y, Y, X, X, X] rfl rfl (any_of HT_.out (by kernel_rfl)) (fun _ _ _ h => h) (Or.inl ⟨by rfl, (by intro w'; go_simp; with_reducible rfl)⟩) z58k ?_
 refine one_ (i := 14) (N := some 34) #[Y, Y, Y, Y, Y, Y, Y, Y, Y, Y, Y, Y, Y, Y, Y, X, X] rfl rfl (one_of HT_.out (by kernel_rfl)) (by decide) (fun K hK => ?_)
 refine value_ (w1 := ?_) (v := ?_) (by rfl) rfl ?_ ?_
 rotate_left 2
 {
 go_simp
 constructor
 {
 rfl
 }
 {
 rfl
 }
 }
 refine hK.out _ _ trivial (fun hHeld => ?_)
 clear hK K
 refine norm_ (a' := ?_) ?_ ?_
 rotate_left
 {
 show Act.put _ (some 34) _ = _
 simp only [Act.put, List.setIfInBounds_toArray, List.set_cons_zero, List.set_cons_succ, i64_w, i32_w]
 rfl
 }
 refine one_ (i := 15) (N := some 35) #[Y, Y, Y, Y, Y, Y, Y, Y, Y, Y, Y, Y, Y, Y, Y, Y, X] rfl rfl (one_of HT_.out (by kernel_rfl)) (by decide) (fun K hK => ?_)
 refine Kd.R_append_step k31 w.heap.size (by rfl) (.tmp 20) (.tmp 34) 27 31 (.agg #[(.string ⟨#[]⟩), (.string ⟨#[]⟩), (.int .i64 0), (.bool false)]) 48 rfl Try.underlying27 info31 rfl (by decide) (by omega) (.slice Ao26 t295.length co26) t295 (⟨rdOf ByteArray.empty y318 t321, (⟨#[]⟩ : ByteArray), rd y325 t328, false⟩ : S31) [.string (rdOf ByteArray.empty y318 t321), .string (⟨#[]⟩ : ByteArray), .int .i64 (rd y325 t328), .bool false] (fun _ => True) (fun _ => False) rfl rfl ?aP (fun _ hk => hk.elim) ?aF ?aO (Below.refl _ _) ?aS ?aL ?_
 (case aP => exact k31_mkM _ _ _ (⟨rdOf ByteArray.empty y318 t321, (⟨#[]⟩ : ByteArray), rd y325 t328, false⟩ : S31))
 (case aF => exact (fun _ _ => trivial))
 (case aO => exact z58d)
 (case aS => exact (keep_size (w := w) (g := g) (row := none) z58b))
 (case aL => have := LMc22.out; omega)
 intro v333 w42 ho hb hg hat
 rw [← Ny332.out] at ho
 have n0_ := Aside0.mk (IsS108.grown z58a hg (IsS108.own_ne HI0.out HO297.out (by decide)))
 have n1_ := Aside0.mk (Kd.R_over' z58f (Kd.R_typed z58d) (by decide) hg)
 have n2_ := Aside0.mk (Kd.R_over' z58i (Kd.R_typed z58d) (by decide) hg)
 have n3_ := Aside0.mk (Kd.R_over' z58g (Kd.R_typed z58d) (by decide) hg)
 have n4_ := Aside0.mk (below_weaken z58c HL.out hb)
 have n5_ := Aside0.mk (KeepBut.trans z58b (KeepBut.of_grown hg g) (Kd.R_base2 HO297.out))
 have n6_ := Aside0.mk (ho)
 clear HI0
 clear HO317
 clear HO320
 clear HO327
 clear HB
 clear HK
 clear HO297
 have HI0 := n0_
 have HO317 := n1_
 have HO320 := n2_
 have HO327 := n3_
 have HB := n4_
 have HK := n5_
 have HO334 := n6_
 clear n0_ n1_ n2_ n3_ n4_ n5_ n6_
 clear ho hb hg hat
 refine hK.out _ _ trivial (fun hHeld => ?_)
 clear hK K
 refine norm_ (a' := ?_) ?_ ?_
 rotate_left
 {
 show Act.put _ (some 35) _ = _
 simp only [Act.put, List.setIfInBounds_toArray, List.set_cons_zero, List.set_cons_succ, i64_w, i32_w]
 rfl
 }
 refine pure_ (i := 16) (N := some 3) (v := _) (a' := _) #[Y, Y, Y, Y, Y, Y, Y, Y, Y, Y, Y, Y, Y, Y, Y, Y, Y] rfl rfl (any_of HT_.out (by kernel_rfl)) (fun _ _ _ h => h) (Or.inl ⟨by rfl, (by intro w'; go_simp; with_reducible rfl)⟩) z58k ?_
 refine done_ (done_of HT_.out (by kernel_rfl)) ?_
 try go_wp2
 go_ret
 exact ⟨_, by first | rfl | (simp [errW_none, errW_some] <;> rfl) | (simp [*, errW_none, errW_some] <;> rfl), by (with_reducible repeat (first | apply Kd.R_alloc | apply Kd.R_drewN | apply Kd.R_drew)); exact HO334.out, by repeat (first | (with_reducible first | exact HI0.out | apply IsS108.alloc | apply IsS108.drewN | apply IsS108.drew | apply IsS108.set_1 | apply IsS108.set_2) | exact HI0.out), by repeat (first | (with_reducible first | exact HB.out | apply below_alloc | apply pw_below_drewN | apply below_drew1 | refine below_set ?_ (IsS108.ge HI0.out)) | exact HB.out), by repeat (first | (with_reducible first | exact HK.out | apply KeepBut.set_ | apply keep_drewN | apply keep_drew | apply keep_alloc) | exact HK.out)⟩
 }
 {
 rw [if_neg c22] at H
 exact absurd H (by simp)
 }
 }
 {
 rw [if_neg c21] at H
 exact absurd H (by simp)
 }
 }
 {
 rw [if_neg c20] at H
 exact absurd H (by simp)
 }
 }
 {
 rw [if_neg c18] at H
 exact absurd H (by simp)
 }
 }
 {
 rw [if_neg c17] at H
 exact absurd H (by simp)
 }
 }
 {
 rw [if_neg c15] at H
 exact absurd H (by simp)
 }
 }
 {
 rw [if_neg c14] at H
 have c14b0 : (t303 == 1) = false := beq_eq_false_iff_ne.mpr c14
 have c14b1 : (t303 != 1) = true := bne_iff_ne.mpr c14
 by_cases c43 : t303 = 2
 {
 rw [if_pos c43] at H
 have c43b0 : (t303 == 2) = true := beq_iff_eq.mpr c43
 have c43b1 : (t303 != 2) = false := bne_eq_false_iff_eq.mpr c43
 clear c43
 replace H := Option.bind_eq_some_iff.mp H
 obtain ⟨⟨t335, t336, t337⟩, A440, H⟩ := H
 replace H : (if 0 ≤ (wrap64 (200 + t335)) then (if (wrap64 (200 + t335) : Int).toNat ≤ 281474976710656 then ((spec_l1Once.f s0_0 t336 t337 2).bind fun bt341 => (if t295.length < 2932031007402 then (some ((t295 ++ [(⟨(⟨#[122, 122]⟩ : ByteArray), strOfNums (List.replicate (wrap64 (200 + t335) : Int).toNat 0), 1, bt341.1⟩ : S31)]), bt341.2.1, bt341.2.2)) else (none))) else (none)) else (none)) = some (r1, r2, r3) := H
 have A44 := Aside0.mk A440
 clear A440
 obtain ⟨ji45, hji45⟩ : ∃ j_ : Int, (wrap64 (200 + t335)) = j_ := ⟨_, rfl⟩
 replace H : (if 0 ≤ (ji45) then (if (ji45 : Int).toNat ≤ 281474976710656 then ((spec_l1Once.f s0_0 t336 t337 2).bind fun bt341 => (if t295.length < 2932031007402 then (some ((t295 ++ [(⟨(⟨#[122, 122]⟩ : ByteArray), strOfNums (List.replicate (ji45 : Int).toNat 0), 1, bt341.1⟩ : S31)]), bt341.2.1, bt341.2.2)) else (none))) else (none)) else (none)) = some (r1, r2, r3) := by first | (rw [hji45] at H; exact H) | (simp only [hji45] at H ⊢; exact H)
 (try rw [hji45])
 (try rw [hji45] at A2)
 (try rw [hji45] at A3)
 (try rw [hji45] at A5)
 (try rw [hji45] at A44)
 have hji45w : (IntKind.i64.wrap (200 + t335)) = ji45 := (i64_w _).trans hji45
 by_cases c46 : 0 ≤ (ji45)
 {
 rw [if_pos c46] at H
 have c46b0 := eq_true c46
 have c46b1 : decide (0 ≤ (ji45)) = true := decide_eq_true c46
 clear c46
 by_cases c47 : (ji45 : Int).toNat ≤ 281474976710656
 {
 rw [if_pos c47] at H
 have c47b0 := eq_true c47
 have c47b1 : decide ((ji45 : Int).toNat ≤ 281474976710656) = true := decide_eq_true c47
 clear c47
 obtain ⟨y338, hy338⟩ : ∃ y_ : List Int, y_ = (List.replicate (ji45 : Int).toNat 0) := ⟨_, rfl⟩
 replace H : ((spec_l1Once.f s0_0 t336 t337 2).bind fun bt341 => (if t295.length < 2932031007402 then (some ((t295 ++ [(⟨(⟨#[122, 122]⟩ : ByteArray), strOfNums y338, 1, bt341.1⟩ : S31)]), bt341.2.1, bt341.2.2)) else (none))) = some (r1, r2, r3) := by first | (rw [hy338]; with_reducible exact H) | (have H2_ := (Option.bind_some _ _).symm.trans H; rw [hy338]; with_reducible exact H2_) | (have H2_ := (Option.bind_some _ _).symm.trans H; with_reducible exact H2_) | with_reducible exact H | (rw [hy338]; exact H) | exact H
 have Ny338 := Aside0.mk hy338
 clear hy338
 replace H := Option.bind_eq_some_iff.mp H
 obtain ⟨⟨t341, t342, t343⟩, A480, H⟩ := H
 replace H : (if t295.length < 2932031007402 then (some ((t295 ++ [(⟨(⟨#[122, 122]⟩ : ByteArray), strOfNums y338, 1, t341⟩ : S31)]), t342, t343)) else (none)) = some (r1, r2, r3) := H
 have A48 := Aside0.mk A480
 clear A480
 by_cases c49 : t295.length < 2932031007402
 {
 rw [if_pos c49] at H
 have LMc49 := Aside0.mk c49
 clear c49
 obtain ⟨y344, hy344⟩ : ∃ y_ : List (S31), y_ = (t295 ++ [(⟨(⟨#[122, 122]⟩ : ByteArray), strOfNums y338, 1, t341⟩ : S31)]) := ⟨_, rfl⟩
 replace H : (some (y344, t342, t343)) = some (r1, r2, r3) := by first | (rw [hy344]; with_reducible exact H) | (have H2_ := (Option.bind_some _ _).symm.trans H; rw [hy344]; with_reducible exact H2_) | (have H2_ := (Option.bind_some _ _).symm.trans H; with_reducible exact H2_) | with_reducible exact H | (rw [hy344]; exact H) | exact H
 have Ny344 := Aside0.mk hy344
 clear hy344
 simp only [Option.some.injEq, Prod.mk.injEq] at H
 obtain ⟨rfl, rfl, rfl⟩ := H
 go_enter Try.func58, Try.ntmps58
 try go_wp2_with (first | ((with_reducible refine gate_callee (f := 72) rfl ?_); refine goesL_ (some 6) rfl rfl Try.func72 (by kernel_rfl) rfl #[.pointer (some ⟨g, 0, none⟩), .int .i64 1, .int .i64 10] rfl z58h ?_; (with_reducible refine (spec_l3DrawFrom.calls k g s0_0 s0_1 s0_2 1 10 t295 t298 t299 w0 _ ?side1 ?side2 A2.out).mono ?_); (case side1 => exact z58a); (case side2 => exact z58c); rintro e w50 ⟨v296, rfl, ho0, hi, hb, hk⟩; refine ⟨_, rfl, ?_⟩; have n0_ := Aside0.mk (Kd.R_lower ho0 (keep_size (w := w) (g := g) (row := none) z58b)); have n1_ := Aside0.mk (KeepBut.trans z58b hk (.inl rfl)); have n2_ := Aside0.mk (hb); have n3_ := Aside0.mk (hi); clear HK; clear HB; clear HI0; have HO297 := n0_; have HK := n1_; have HB := n2_; have HI0 := n3_; clear n0_ n1_ n2_ n3_; (try clear hb); (try clear hb2); (try clear hk); (try clear hi); (try clear ho0)) | ((with_reducible refine gate_callee (f := 61) rfl ?_); refine goesL_ (some 8) rfl rfl Try.func61 (by kernel_rfl) rfl #[.pointer (some ⟨g, 0, none⟩), .int .i64 12] rfl z58h ?_; (with_reducible refine (spec_l1Once.calls g s0_0 t298 t299 12 true t301 t302 w0 _ ?side1 ?side2 A3.out).mono ?_); (case side1 => exact z58a); (case side2 => exact z58c); rintro e w51 ⟨rfl, hi, hb, hk⟩; refine ⟨_, rfl, ?_⟩; have n0_ := Aside0.mk (Kd.R_mono (Kd.R_keep (IsS108.apart (show IsS108 w0 _ g s0_0 t298 t299 from z58a) z58d (by decide)) hk (fun _ h => h.2)) (fun _ h => h.1)); have n1_ := Aside0.mk (KeepBut.trans z58b hk (.inl rfl)); have n2_ := Aside0.mk (hb); have n3_ := Aside0.mk (hi); clear HO297; clear HK; clear HB; clear HI0; have HO297 := n0_; have HK := n1_; have HB := n2_; have HI0 := n3_; clear n0_ n1_ n2_ n3_; (try clear hb); (try clear hb2); (try clear hk); (try clear hi)) | ((with_reducible refine gate_callee (f := 60) rfl ?_); refine goesL_ (some 10) rfl rfl Try.func60 (by kernel_rfl) rfl #[.pointer (some ⟨g, 0, none⟩), .int .i64 4] rfl z58h ?_; (with_reducible refine (spec_l1Below.calls g s0_0 t301 t302 4 t303 t304 t305 w0 _ ?side1 ?side2 A5.out).mono ?_); (case side1 => exact z58a); (case side2 => exact z58c); rintro e w52 ⟨rfl, hi, hb, hk⟩; refine ⟨_, rfl, ?_⟩; have n0_ := Aside0.mk (Kd.R_mono (Kd.R_keep (IsS108.apart (show IsS108 w0 _ g s0_0 t301 t302 from z58a) z58d (by decide)) hk (fun _ h => h.2)) (fun _ h => h.1)); have n1_ := Aside0.mk (KeepBut.trans z58b hk (.inl rfl)); have n2_ := Aside0.mk (hb); have n3_ := Aside0.mk (hi); clear HO297; clear HK; clear HB; clear HI0; have HO297 := n0_; have HK := n1_; have HB := n2_; have HI0 := n3_; clear n0_ n1_ n2_ n3_; (try clear hb); (try clear hb2); (try clear hk); (try clear hi); obtain ⟨Ao53, co53, eo53⟩ := Kd.R_slice HO297.out; subst eo53))
 have n0_ := Aside0.mk (Kd.R_drew HO297.out)
 have n1_ := Aside0.mk (IsS108.drew HI0.out)
 have n2_ := Aside0.mk (keep_drew HK.out)
 have n3_ := Aside0.mk (below_drew1 HB.out)
 clear HO297
 clear HI0
 clear HK
 clear HB
 have HO297 := n0_
 have HI0 := n1_
 have HK := n2_
 have HB := n3_
 clear n0_ n1_ n2_ n3_
 refine start_ (n := 12) (S := fun w' => True) (ds := []) #[X, X, X, X, X, X, X, X, X, X, X, X] (by kernel_rfl) rfl rfl trivial (fun hHeld => ?_); refine with_tabW spec_l3DrawAny.tab9 spec_l3DrawAny.bits9 (fun HT_ HW_ => ?_)
 generalize w52.drew = w54 at HO297 HI0 HK HB hHeld ⊢
 refine pure_ (i := 0) (N := some 38) (v := _) (a' := _) #[Y, X, X, X, X, X, X, X, X, X, X, X] rfl rfl (any_of HT_.out (by kernel_rfl)) (fun _ _ _ h => h) (Or.inl ⟨by rfl, (by intro w'; go_simp; with_reducible rfl)⟩) z58k ?_
 refine pure_ (i := 1) (N := some 39) (v := _) (a' := _) #[Y, Y, X, X, X, X, X, X, X, X, X, X] rfl rfl (any_of HT_.out (by kernel_rfl)) (fun _ _ _ h => h) (Or.inl ⟨by rfl, (by intro w'; go_simp; with_reducible rfl)⟩) z58k ?_
 refine pure_ (i := 6) (N := some 44) (v := _) (a' := _) #[Y, Y, X, X, X, X, Y, X, X, X, X, X] rfl rfl (any_of HT_.out (by kernel_rfl)) (fun _ _ _ h => h) (Or.inl ⟨by rfl, (by intro w'; go_simp; with_reducible rfl)⟩) z58k ?_
 refine one_ (i := 2) (N := some 40) #[Y, Y, Y, X, X, X, Y, X, X, X, X, X] rfl rfl (one_of HT_.out (by kernel_rfl)) (by decide) (fun K hK => ?_)
 refine goes_ Try.func60 (by kernel_rfl) rfl #[.pointer (some ⟨g, 0, none⟩), .int .i64 2] (by rfl) rfl rfl z58h ?_
 with_reducible refine (spec_l1Below.calls g s0_0 t304 t305 2 t335 t336 t337 w0 _ ?side1 ?side2 A44.out).mono ?_
 (case side1 => exact z58a)
 (case side2 => exact z58c)
 rintro e w55 ⟨rfl, hi, hb, hk⟩
 refine ⟨_, rfl, ?_⟩
 have n0_ := Aside0.mk (Kd.R_mono (Kd.R_keep (IsS108.apart (show IsS108 w0 _ g s0_0 t304 t305 from z58a) z58d (by decide)) hk (fun _ h => h.2)) (fun _ h => h.1))
 have n1_ := Aside0.mk (KeepBut.trans z58b hk (.inl rfl))
 have n2_ := Aside0.mk (hb)
 have n3_ := Aside0.mk (hi)
 clear HO297
 clear HK
 clear HB
 clear HI0
 have HO297 := n0_
 have HK := n1_
 have HB := n2_
 have HI0 := n3_
 clear n0_ n1_ n2_ n3_
 (try clear hb)
 (try clear hb2)
 (try clear hk)
 (try clear hi)
 refine hK.out _ _ trivial (fun hHeld => ?_)
 clear hK K
 refine norm_ (a' := ?_) ?_ ?_
 rotate_left
 {
 show Act.put _ (some 40) _ = _
 simp only [Act.put, List.setIfInBounds_toArray, List.set_cons_zero, List.set_cons_succ, i64_w, i32_w]
 rfl
 }
 refine pure_ (i := 3) (N := some 41) (v := _) (a' := _) #[Y, Y, Y, Y, X, X, Y, X, X, X, X, X] rfl rfl (any_of HT_.out (by kernel_rfl)) (fun _ _ _ h => h) (Or.inl ⟨by rfl, (by intro w'; go_simp; with_reducible rfl)⟩) z58k ?_
 refine join_ (σ := Value) 4 #[Y, Y, Y, Y, Y, Y, Y, Y, X, X, X, X] (fun s_ => [(42, s_), (43, .string (strOfNums y338)), (45, .bool t341)]) (fun s_ w' => (Kd.R k31 31 w' w.heap.size (fun _ => True) (.slice Ao53 t295.length co53) t295) ∧ (Kd.R (Kd.int .u8) 5 w' w.heap.size (fun _ => True) s_ y338) ∧ (IsS108 w0 w' g s0_0 t342 t343) ∧ (KeepBut w w' g none) ∧ (Below w0.heap.size w0 w')) ?_ ?_
 rotate_left
 {
 intro hCont
 refine two_ (i := 4) (j := 7) (Ni := some 42) (Nj := some 45) #[Y, Y, Y, Y, Y, X, Y, X, X, X, X, X] #[Y, Y, Y, Y, X, X, Y, Y, X, X, X, X] rfl rfl rfl rfl (two_of HT_.out (by kernel_rfl)) (by decide) (by decide) (fun K hK => ?_) (fun K hK => ?_)
 {
 skip
 refine Kd.R_make_step (Kd.int .u8) _ 5 (by rfl) (N := 42) rfl 36 _ _ rfl ji45 rfl rfl Try.underlying36 (.int .u8 0) 1 info5 rfl (by decide) (by omega) 0 (ok := fun _ => True) (okp := fun _ => True) rfl (fun _ hk => hk) trivial (of_decide_eq_true z58l) (Nat.le_trans (Nat.mul_le_mul_right _ (of_decide_eq_true z58l : ji45.toNat ≤ 281474976710656)) (by omega)) (Below.refl _ _) (Nat.le_refl _) ?_
 intro v339 w56 ho57 hb hg_ hnew_
 clear hg_ hnew_
 (first | rw [← Ny338.out] at ho57 | (simp only [Int.reduceToNat] at ho57; rw [← Ny338.out] at ho57))
 have n0_ := Aside0.mk (Kd.R_below z58d hb)
 have n1_ := Aside0.mk (Kd.R_lower ho57 (keep_size (w := w) (g := g) (row := none) z58b))
 have n2_ := Aside0.mk (IsS108.below z58a hb)
 have n3_ := Aside0.mk (KeepBut.trans z58b (KeepBut.of_below hb g none) (.inl rfl))
 have n4_ := Aside0.mk (below_step z58c hb)
 clear HO297
 clear HI0
 clear HK
 clear HB
 have HO297 := n0_
 have HO340 := n1_
 have HI0 := n2_
 have HK := n3_
 have HB := n4_
 clear n0_ n1_ n2_ n3_ n4_
 clear hb ho57
 refine hK.out _ _ trivial (fun hHeld => ?_)
 clear hK K
 refine norm_ (a' := ?_) ?_ ?_
 rotate_left
 {
 show Act.put _ (some 42) _ = _
 simp only [Act.put, List.setIfInBounds_toArray, List.set_cons_zero, List.set_cons_succ, i64_w, i32_w]
 rfl
 }
 refine two_ (i := 5) (j := 7) (Ni := some 43) (Nj := some 45) #[Y, Y, Y, Y, Y, Y, Y, X, X, X, X, X] #[Y, Y, Y, Y, Y, X, Y, Y, X, X, X, X] rfl rfl rfl rfl (two_of HT_.out (by kernel_rfl)) (by decide) (by decide) (fun K hK => ?_) (fun K hK => ?_)
 {
 skip
 have hcv58 := own_string (P := Try.prog) Try.underlying36 Try.underlying5 Try.underlying9 (Kd.own_of_R HO340.out)
 refine value_ (w1 := ?_) (v := ?_) (by rfl) rfl ?_ ?_
 rotate_left 2
 {
 go_simp
 constructor
 {
 rfl
 }
 {
 rfl
 }
 }
 clear hcv58
 refine hK.out _ _ trivial (fun hHeld => ?_)
 clear hK K
 refine norm_ (a' := ?_) ?_ ?_
 rotate_left
 {
 show Act.put _ (some 43) _ = _
 simp only [Act.put, List.setIfInBounds_toArray, List.set_cons_zero, List.set_cons_succ, i64_w, i32_w]
 rfl
 }
 refine one_ (i := 7) (N := some 45) #[Y, Y, Y, Y, Y, Y, Y, Y, X, X, X, X] rfl rfl (one_of HT_.out (by kernel_rfl)) (by decide) (fun K hK => ?_)
 refine goes_ Try.func61 (by kernel_rfl) rfl #[.pointer (some ⟨g, 0, none⟩), .int .i64 2] (by rfl) rfl rfl z58h ?_
 with_reducible refine (spec_l1Once.calls g s0_0 t336 t337 2 t341 t342 t343 w0 _ ?side1 ?side2 A48.out).mono ?_
 (case side1 => exact z58a)
 (case side2 => exact z58c)
 rintro e w59 ⟨rfl, hi, hb, hk⟩
 refine ⟨_, rfl, ?_⟩
 have n0_ := Aside0.mk (Kd.R_mono (Kd.R_keep (IsS108.apart (show IsS108 w0 _ g s0_0 t336 t337 from z58a) z58d (by decide)) hk (fun _ h => h.2)) (fun _ h => h.1))
 have n1_ := Aside0.mk (Kd.R_mono (Kd.R_keep (IsS108.apart (show IsS108 w0 _ g s0_0 t336 t337 from z58a) z58m (by decide)) hk (fun _ h => h.2)) (fun _ h => h.1))
 have n2_ := Aside0.mk (KeepBut.trans z58b hk (.inl rfl))
 have n3_ := Aside0.mk (hb)
 have n4_ := Aside0.mk (hi)
 clear HO297
 clear HO340
 clear HK
 clear HB
 clear HI0
 have HO297 := n0_
 have HO340 := n1_
 have HK := n2_
 have HB := n3_
 have HI0 := n4_
 clear n0_ n1_ n2_ n3_ n4_
 (try clear hb)
 (try clear hb2)
 (try clear hk)
 (try clear hi)
 refine hK.out _ _ trivial (fun hHeld => ?_)
 clear hK K
 refine norm_ (a' := ?_) ?_ ?_
 rotate_left
 {
 show Act.put _ (some 45) _ = _
 simp only [Act.put, List.setIfInBounds_toArray, List.set_cons_zero, List.set_cons_succ, i64_w, i32_w]
 rfl
 }
 exact norm_ (by simp only [putAll, Act.put, List.setIfInBounds_toArray, List.set_cons_zero, List.set_cons_succ]) (hCont (v339) _ ⟨z58d, z58m, z58a, z58b, z58c⟩)
 }
 {
 skip
 refine goes_ Try.func61 (by kernel_rfl) rfl #[.pointer (some ⟨g, 0, none⟩), .int .i64 2] (by rfl) rfl rfl z58h ?_
 with_reducible refine (spec_l1Once.calls g s0_0 t336 t337 2 t341 t342 t343 w0 _ ?side1 ?side2 A48.out).mono ?_
 (case side1 => exact z58a)
 (case side2 => exact z58c)
 rintro e w58 ⟨rfl, hi, hb, hk⟩
 refine ⟨_, rfl, ?_⟩
 have n0_ := Aside0.mk (Kd.R_mono (Kd.R_keep (IsS108.apart (show IsS108 w0 _ g s0_0 t336 t337 from z58a) z58d (by decide)) hk (fun _ h => h.2)) (fun _ h => h.1))
 have n1_ := Aside0.mk (Kd.R_mono (Kd.R_keep (IsS108.apart (show IsS108 w0 _ g s0_0 t336 t337 from z58a) z58m (by decide)) hk (fun _ h => h.2)) (fun _ h => h.1))
 have n2_ := Aside0.mk (KeepBut.trans z58b hk (.inl rfl))
 have n3_ := Aside0.mk (hb)
 have n4_ := Aside0.mk (hi)
 clear HO297
 clear HO340
 clear HK
 clear HB
 clear HI0
 have HO297 := n0_
 have HO340 := n1_
 have HK := n2_
 have HB := n3_
 have HI0 := n4_
 clear n0_ n1_ n2_ n3_ n4_
 (try clear hb)
 (try clear hb2)
 (try clear hk)
 (try clear hi)
 refine hK.out _ _ trivial (fun hHeld => ?_)
 clear hK K
 refine norm_ (a' := ?_) ?_ ?_
 rotate_left
 {
 show Act.put _ (some 45) _ = _
 simp only [Act.put, List.setIfInBounds_toArray, List.set_cons_zero, List.set_cons_succ, i64_w, i32_w]
 rfl
 }
 refine one_ (i := 5) (N := some 43) #[Y, Y, Y, Y, Y, Y, Y, Y, X, X, X, X] rfl rfl (one_of HT_.out (by kernel_rfl)) (by decide) (fun K hK => ?_)
 have hcv59 := own_string (P := Try.prog) Try.underlying36 Try.underlying5 Try.underlying9 (Kd.own_of_R HO340.out)
 refine value_ (w1 := ?_) (v := ?_) (by rfl) rfl ?_ ?_
 rotate_left 2
 {
 go_simp
 constructor
 {
 rfl
 }
 {
 rfl
 }
 }
 clear hcv59
 refine hK.out _ _ trivial (fun hHeld => ?_)
 clear hK K
 refine norm_ (a' := ?_) ?_ ?_
 rotate_left
 {
 show Act.put _ (some 43) _ = _
 simp only [Act.put, List.setIfInBounds_toArray, List.set_cons_zero, List.set_cons_succ, i64_w, i32_w]
 rfl
 }
 exact norm_ (by simp only [putAll, Act.put, List.setIfInBounds_toArray, List.set_cons_zero, List.set_cons_succ]) (hCont (v339) _ ⟨z58d, z58m, z58a, z58b, z58c⟩)
 }
 }
 {
 skip
 refine goes_ Try.func61 (by kernel_rfl) rfl #[.pointer (some ⟨g, 0, none⟩), .int .i64 2] (by rfl) rfl rfl z58h ?_
 with_reducible refine (spec_l1Once.calls g s0_0 t336 t337 2 t341 t342 t343 w0 _ ?side1 ?side2 A48.out).mono ?_
 (case side1 => exact z58a)
 (case side2 => exact z58c)
 rintro e w56 ⟨rfl, hi, hb, hk⟩
 refine ⟨_, rfl, ?_⟩
 have n0_ := Aside0.mk (Kd.R_mono (Kd.R_keep (IsS108.apart (show IsS108 w0 _ g s0_0 t336 t337 from z58a) z58d (by decide)) hk (fun _ h => h.2)) (fun _ h => h.1))
 have n1_ := Aside0.mk (KeepBut.trans z58b hk (.inl rfl))
 have n2_ := Aside0.mk (hb)
 have n3_ := Aside0.mk (hi)
 clear HO297
 clear HK
 clear HB
 clear HI0
 have HO297 := n0_
 have HK := n1_
 have HB := n2_
 have HI0 := n3_
 clear n0_ n1_ n2_ n3_
 (try clear hb)
 (try clear hb2)
 (try clear hk)
 (try clear hi)
 refine hK.out _ _ trivial (fun hHeld => ?_)
 clear hK K
 refine norm_ (a' := ?_) ?_ ?_
 rotate_left
 {
 show Act.put _ (some 45) _ = _
 simp only [Act.put, List.setIfInBounds_toArray, List.set_cons_zero, List.set_cons_succ, i64_w, i32_w]
 rfl
 }
 refine one_ (i := 4) (N := some 42) #[Y, Y, Y, Y, Y, X, Y, Y, X, X, X, X] rfl rfl (one_of HT_.out (by kernel_rfl)) (by decide) (fun K hK => ?_)
 refine Kd.R_make_step (Kd.int .u8) _ 5 (by rfl) (N := 42) rfl 36 _ _ rfl ji45 rfl rfl Try.underlying36 (.int .u8 0) 1 info5 rfl (by decide) (by omega) 0 (ok := fun _ => True) (okp := fun _ => True) rfl (fun _ hk => hk) trivial (of_decide_eq_true z58l) (Nat.le_trans (Nat.mul_le_mul_right _ (of_decide_eq_true z58l : ji45.toNat ≤ 281474976710656)) (by omega)) (Below.refl _ _) (Nat.le_refl _) ?_
 intro v339 w57 ho58 hb hg_ hnew_
 clear hg_ hnew_
 (first | rw [← Ny338.out] at ho58 | (simp only [Int.reduceToNat] at ho58; rw [← Ny338.out] at ho58))
 have n0_ := Aside0.mk (Kd.R_below z58d hb)
 have n1_ := Aside0.mk (Kd.R_lower ho58 (keep_size (w := w) (g := g) (row := none) z58b))
 have n2_ := Aside0.mk (IsS108.below z58a hb)
 have n3_ := Aside0.mk (KeepBut.trans z58b (KeepBut.of_below hb g none) (.inl rfl))
 have n4_ := Aside0.mk (below_step z58c hb)
 clear HO297
 clear HI0
 clear HK
 clear HB
 have HO297 := n0_
 have HO340 := n1_
 have HI0 := n2_
 have HK := n3_
 have HB := n4_
 clear n0_ n1_ n2_ n3_ n4_
 clear hb ho58
 refine hK.out _ _ trivial (fun hHeld => ?_)
 clear hK K
 refine norm_ (a' := ?_) ?_ ?_
 rotate_left
 {
 show Act.put _ (some 42) _ = _
 simp only [Act.put, List.setIfInBounds_toArray, List.set_cons_zero, List.set_cons_succ, i64_w, i32_w]
 rfl
 }
 refine one_ (i := 5) (N := some 43) #[Y, Y, Y, Y, Y, Y, Y, Y, X, X, X, X] rfl rfl (one_of HT_.out (by kernel_rfl)) (by decide) (fun K hK => ?_)
 have hcv59 := own_string (P := Try.prog) Try.underlying36 Try.underlying5 Try.underlying9 (Kd.own_of_R HO340.out)
 refine value_ (w1 := ?_) (v := ?_) (by rfl) rfl ?_ ?_
 rotate_left 2
 {
 go_simp
 constructor
 {
 rfl
 }
 {
 rfl
 }
 }
 clear hcv59
 refine hK.out _ _ trivial (fun hHeld => ?_)
 clear hK K
 refine norm_ (a' := ?_) ?_ ?_
 rotate_left
 {
 show Act.put _ (some 43) _ = _
 simp only [Act.put, List.setIfInBounds_toArray, List.set_cons_zero, List.set_cons_succ, i64_w, i32_w]
 rfl
 }
 exact norm_ (by simp only [putAll, Act.put, List.setIfInBounds_toArray, List.set_cons_zero, List.set_cons_succ]) (hCont (v339) _ ⟨z58d, z58m, z58a, z58b, z58c⟩)
 }
 }
 rintro v339 w60 ⟨h0_, h1_, h2_, h3_, h4_⟩
 have n0_ : Aside0 (Kd.R k31 31 w60 w.heap.size (fun _ => True) (.slice Ao53 t295.length co53) t295) := ⟨h0_⟩
 have n1_ : Aside0 (Kd.R (Kd.int .u8) 5 w60 w.heap.size (fun _ => True) v339 y338) := ⟨h1_⟩
 have n2_ : Aside0 (IsS108 w0 w60 g s0_0 t342 t343) := ⟨h2_⟩
 have n3_ : Aside0 (KeepBut w w60 g none) := ⟨h3_⟩
 have n4_ : Aside0 (Below w0.heap.size w0 w60) := ⟨h4_⟩
 clear HO297
 clear HI0
 clear HK
 clear HB
 clear h0_ h1_ h2_ h3_ h4_
 have HO297 := n0_
 have HO340 := n1_
 have HI0 := n2_
 have HK := n3_
 have HB := n4_
 clear n0_ n1_ n2_ n3_ n4_
 have hHeld := trivial
 refine norm_ (a' := ?_) ?_ ?_
 rotate_left
 exact z58j
 refine pure_ (i := 8) (N := some 46) (v := _) (a' := _) #[Y, Y, Y, Y, Y, Y, Y, Y, Y, X, X, X] rfl rfl (any_of HT_.out (by kernel_rfl)) (fun _ _ _ h => h) (Or.inl ⟨by rfl, (by intro w'; go_simp; with_reducible rfl)⟩) z58k ?_
 refine one_ (i := 9) (N := some 47) #[Y, Y, Y, Y, Y, Y, Y, Y, Y, Y, X, X] rfl rfl (one_of HT_.out (by kernel_rfl)) (by decide) (fun K hK => ?_)
 refine value_ (w1 := ?_) (v := ?_) (by rfl) rfl ?_ ?_
 rotate_left 2
 {
 go_simp
 constructor
 {
 rfl
 }
 {
 rfl
 }
 }
 refine hK.out _ _ trivial (fun hHeld => ?_)
 clear hK K
 refine norm_ (a' := ?_) ?_ ?_
 rotate_left
 {
 show Act.put _ (some 47) _ = _
 simp only [Act.put, List.setIfInBounds_toArray, List.set_cons_zero, List.set_cons_succ, i64_w, i32_w]
 rfl
 }
 refine one_ (i := 10) (N := some 48) #[Y, Y, Y, Y, Y, Y, Y, Y, Y, Y, Y, X] rfl rfl (one_of HT_.out (by kernel_rfl)) (by decide) (fun K hK => ?_)
 refine Kd.R_append_step k31 w.heap.size (by rfl) (.tmp 38) (.tmp 47) 27 31 (.agg #[(.string ⟨#[]⟩), (.string ⟨#[]⟩), (.int .i64 0), (.bool false)]) 48 rfl Try.underlying27 info31 rfl (by decide) (by omega) (.slice Ao53 t295.length co53) t295 (⟨(⟨#[122, 122]⟩ : ByteArray), strOfNums y338, 1, t341⟩ : S31) [.string (⟨#[122, 122]⟩ : ByteArray), .string (strOfNums y338), .int .i64 1, .bool t341] (fun _ => True) (fun _ => False) rfl rfl ?aP (fun _ hk => hk.elim) ?aF ?aO (Below.refl _ _) ?aS ?aL ?_
 (case aP => exact k31_mkM _ _ _ (⟨(⟨#[122, 122]⟩ : ByteArray), strOfNums y338, 1, t341⟩ : S31))
 (case aF => exact (fun _ _ => trivial))
 (case aO => exact z58d)
 (case aS => exact (keep_size (w := w) (g := g) (row := none) z58b))
 (case aL => have := LMc49.out; omega)
 intro v345 w61 ho hb hg hat
 rw [← Ny344.out] at ho
 have n0_ := Aside0.mk (IsS108.grown z58a hg (IsS108.own_ne HI0.out HO297.out (by decide)))
 have n1_ := Aside0.mk (Kd.R_over' z58m (Kd.R_typed z58d) (by decide) hg)
 have n2_ := Aside0.mk (below_weaken z58c HL.out hb)
 have n3_ := Aside0.mk (KeepBut.trans z58b (KeepBut.of_grown hg g) (Kd.R_base2 HO297.out))
 have n4_ := Aside0.mk (ho)
 clear HI0
 clear HO340
 clear HB
 clear HK
 clear HO297
 have HI0 := n0_
 have HO340 := n1_
 have HB := n2_
 have HK := n3_
 have HO346 := n4_
 clear n0_ n1_ n2_ n3_ n4_
 clear ho hb hg hat
 refine hK.out _ _ trivial (fun hHeld => ?_)
 clear hK K
 refine norm_ (a' := ?_) ?_ ?_
 rotate_left
 {
 show Act.put _ (some 48) _ = _
 simp only [Act.put, List.setIfInBounds_toArray, List.set_cons_zero, List.set_cons_succ, i64_w, i32_w]
 rfl
 }
 refine pure_ (i := 11) (N := some 3) (v := _) (a' := _) #[Y, Y, Y, Y, Y, Y, Y, Y, Y, Y, Y, Y] rfl rfl (any_of HT_.out (by kernel_rfl)) (fun _ _ _ h => h) (Or.inl ⟨by rfl, (by intro w'; go_simp; with_reducible rfl)⟩) z58k ?_
 refine done_ (done_of HT_.out (by kernel_rfl)) ?_
 try go_wp2
 go_ret
 exact ⟨_, by first | rfl | (simp [errW_none, errW_some] <;> rfl) | (simp only [← hji45]; first | rfl | (simp [errW_none, errW_some] <;> rfl)) | (simp [*, errW_none, errW_some] <;> rfl), by (with_reducible repeat (first | apply Kd.R_alloc | apply Kd.R_drewN | apply Kd.R_drew)); exact HO346.out, by repeat (first | (with_reducible first | exact HI0.out | apply IsS108.alloc | apply IsS108.drewN | apply IsS108.drew | apply IsS108.set_1 | apply IsS108.set_2) | exact HI0.out), by repeat (first | (with_reducible first | exact HB.out | apply below_alloc | apply pw_below_drewN | apply below_drew1 | refine below_set ?_ (IsS108.ge HI0.out)) | exact HB.out), by repeat (first | (with_reducible first | exact HK.out | apply KeepBut.set_ | apply keep_drewN | apply keep_drew | apply keep_alloc) | exact HK.out)⟩
 }
 {
 rw [if_neg c49] at H
 exact absurd H (by simp)
 }
 }
 {
 rw [if_neg c47] at H
 exact absurd H (by simp)
 }
 }
 {
 rw [if_neg c46] at H
 exact absurd H (by simp)
 }
 }
 {
 rw [if_neg c43] at H
 have c43b0 : (t303 == 2) = false := beq_eq_false_iff_ne.mpr c43
 have c43b1 : (t303 != 2) = true := bne_iff_ne.mpr c43
 by_cases c62 : t303 = 3
 {
 rw [if_pos c62] at H
 have c62b0 : (t303 == 3) = true := beq_iff_eq.mpr c62
 have c62b1 : (t303 != 3) = false := bne_eq_false_iff_eq.mpr c62
 clear c62
 obtain ⟨y347, hy347⟩ : ∃ y_ : List (S31), y_ = (([] : List (S31))) := ⟨_, rfl⟩
 replace H : (spec_l3DrawAny.l0 k y347 0 s0_0 t304 t305) = some (r1, r2, r3) := by first | (rw [hy347]; with_reducible exact H) | (have H2_ := (Option.bind_some _ _).symm.trans H; rw [hy347]; with_reducible exact H2_) | (have H2_ := (Option.bind_some _ _).symm.trans H; with_reducible exact H2_) | with_reducible exact H | (rw [hy347]; exact H) | exact H
 have Ny347 := Aside0.mk hy347
 clear hy347
 have H' := Aside0.mk H
 clear H
 go_enter Try.func58, Try.ntmps58
 go_wp2_with (first | ((with_reducible refine gate_callee (f := 72) rfl ?_); refine goesL_ (some 6) rfl rfl Try.func72 (by kernel_rfl) rfl #[.pointer (some ⟨g, 0, none⟩), .int .i64 1, .int .i64 10] rfl z58h ?_; (with_reducible refine (spec_l3DrawFrom.calls k g s0_0 s0_1 s0_2 1 10 t295 t298 t299 w0 _ ?side1 ?side2 A2.out).mono ?_); (case side1 => exact z58a); (case side2 => exact z58c); rintro e w63 ⟨v296, rfl, ho0, hi, hb, hk⟩; refine ⟨_, rfl, ?_⟩; have n0_ := Aside0.mk (Kd.R_lower ho0 (keep_size (w := w) (g := g) (row := none) z58b)); have n1_ := Aside0.mk (KeepBut.trans z58b hk (.inl rfl)); have n2_ := Aside0.mk (hb); have n3_ := Aside0.mk (hi); clear HK; clear HB; clear HI0; have HO297 := n0_; have HK := n1_; have HB := n2_; have HI0 := n3_; clear n0_ n1_ n2_ n3_; (try clear hb); (try clear hb2); (try clear hk); (try clear hi); (try clear ho0)) | ((with_reducible refine gate_callee (f := 61) rfl ?_); refine goesL_ (some 8) rfl rfl Try.func61 (by kernel_rfl) rfl #[.pointer (some ⟨g, 0, none⟩), .int .i64 12] rfl z58h ?_; (with_reducible refine (spec_l1Once.calls g s0_0 t298 t299 12 true t301 t302 w0 _ ?side1 ?side2 A3.out).mono ?_); (case side1 => exact z58a); (case side2 => exact z58c); rintro e w64 ⟨rfl, hi, hb, hk⟩; refine ⟨_, rfl, ?_⟩; have n0_ := Aside0.mk (Kd.R_mono (Kd.R_keep (IsS108.apart (show IsS108 w0 _ g s0_0 t298 t299 from z58a) z58d (by decide)) hk (fun _ h => h.2)) (fun _ h => h.1)); have n1_ := Aside0.mk (KeepBut.trans z58b hk (.inl rfl)); have n2_ := Aside0.mk (hb); have n3_ := Aside0.mk (hi); clear HO297; clear HK; clear HB; clear HI0; have HO297 := n0_; have HK := n1_; have HB := n2_; have HI0 := n3_; clear n0_ n1_ n2_ n3_; (try clear hb); (try clear hb2); (try clear hk); (try clear hi)) | ((with_reducible refine gate_callee (f := 60) rfl ?_); refine goesL_ (some 10) rfl rfl Try.func60 (by kernel_rfl) rfl #[.pointer (some ⟨g, 0, none⟩), .int .i64 4] rfl z58h ?_; (with_reducible refine (spec_l1Below.calls g s0_0 t301 t302 4 t303 t304 t305 w0 _ ?side1 ?side2 A5.out).mono ?_); (case side1 => exact z58a); (case side2 => exact z58c); rintro e w65 ⟨rfl, hi, hb, hk⟩; refine ⟨_, rfl, ?_⟩; have n0_ := Aside0.mk (Kd.R_mono (Kd.R_keep (IsS108.apart (show IsS108 w0 _ g s0_0 t301 t302 from z58a) z58d (by decide)) hk (fun _ h => h.2)) (fun _ h => h.1)); have n1_ := Aside0.mk (KeepBut.trans z58b hk (.inl rfl)); have n2_ := Aside0.mk (hb); have n3_ := Aside0.mk (hi); clear HO297; clear HK; clear HB; clear HI0; have HO297 := n0_; have HK := n1_; have HB := n2_; have HI0 := n3_; clear n0_ n1_ n2_ n3_; (try clear hb); (try clear hb2); (try clear hk); (try clear hi)) | ((with_reducible refine gate_dst (N := 51) rfl ?_); refine Kd.R_lit k31 _ 31 ?hg (N := 51) ?hd (xs := ([] : List (S31))) (inner := []) (ok := fun _ => True) (okp := fun _ => True) ?hr ?hp (fun _ hk => hk) trivial (Below.refl _ _) (Nat.le_refl _) (by simp) ?_; (case hd => rfl); (case hg => rfl); (case hr => first | (go_simp; done) | (go_simp; rfl)); (case hp => exact (Reps.none _ _)); intro v348 w66 ho67 hb hg_ hnew_; clear hg_ hnew_; (first | rw [← Ny347.out] at ho67 | (simp only [Int.reduceToNat] at ho67; rw [← Ny347.out] at ho67)); have n0_ := Aside0.mk (Kd.R_elder' z58d (Kd.R_base ho67) hb); have n1_ := Aside0.mk (Kd.R_lower (Kd.R_new' ho67 (Kd.R_lt z58d)) (keep_size (w := w) (g := g) (row := none) z58b)); have n2_ := Aside0.mk (IsS108.below z58a hb); have n3_ := Aside0.mk (KeepBut.trans z58b (KeepBut.of_below hb g none) (.inl rfl)); have n4_ := Aside0.mk (below_step z58c hb); clear HO297; clear HI0; clear HK; clear HB; have HO297 := n0_; have HO349 := n1_; have HI0 := n2_; have HK := n3_; have HB := n4_; clear n0_ n1_ n2_ n3_ n4_; clear hb ho67))
 go_loopg [3, 4] k (fun kq v3 v4 w' => ∃ (x3_1 : List (S31)) (x4_1 : Int) (x1001_1 : Int) (x1002_1 : Int), v4 = .int .i64 x4_1 ∧ Aside0 (spec_l3DrawAny.l0 kq x3_1 x4_1 s0_0 x1001_1 x1002_1 = some (r1, r2, r3)) ∧ Aside0 (kq ≤ k) ∧ Aside0 (Kd.R k31 31 w' w.heap.size (fun _ => True) v3 x3_1) ∧ Aside0 (IsS108 w0 w' g s0_0 x1001_1 x1002_1) ∧ Aside0 (KeepBut w w' g none) ∧ Aside0 (Below w0.heap.size w0 w'))
 case atStart => exact ⟨(y347), (0), (t304), (t305), (by first | rfl | (simp; done) | (simp [*]; done)), H', ⟨Nat.le_refl _⟩, ⟨by (with_reducible repeat (first | apply Kd.R_alloc | apply Kd.R_drewN | apply Kd.R_drew)); exact Kd.R_mono HO349.out (fun _ hk => trivial)⟩, ⟨by repeat (first | (with_reducible first | exact HI0.out | apply IsS108.alloc | apply IsS108.drewN | apply IsS108.drew | apply IsS108.set_1 | apply IsS108.set_2) | exact HI0.out)⟩, ⟨by repeat (first | (with_reducible first | exact HK.out | apply KeepBut.set_ | apply keep_drewN | apply keep_drew | apply keep_alloc) | exact HK.out)⟩, ⟨by repeat (first | (with_reducible first | exact HB.out | apply below_alloc | apply pw_below_drewN | apply below_drew1 | refine below_set ?_ (IsS108.ge HI0.out)) | exact HB.out)⟩⟩
 case round =>
  clear H'
  try clear c1
  try clear c2
  try clear p2
  try clear p3
  try clear q3
  try clear hx3
  try clear c4
  try clear c5
  try clear hcv5
  try clear c6
  try clear p6
  try clear c7
  try clear c14
  try clear c14b0
  try clear c14b1
  try clear c15
  try clear c17
  try clear c18
  try clear c20
  try clear c21
  try clear c22
  try clear p33
  try clear q33
  try clear hx33
  try clear c43
  try clear c43b0
  try clear c43b1
  try clear c46
  try clear c46b0
  try clear c46b1
  try clear c47
  try clear c47b0
  try clear c47b1
  try clear c49
  try clear c58
  try clear hcv58
  try clear hcv59
  try clear c60
  try clear c61
  try clear c62
  try clear c62b0
  try clear c62b1
  try clear p64
  try clear hx331_0
  try clear p331
  try clear q331
  obtain ⟨x3_1, x4_1, x1001_1, x1002_1, rfl, HA, HK1, HO_3, HI0, HK, HB⟩ := hrel
  cases gk with
  | zero => exact absurd HA.out (by simp [spec_l3DrawAny.l0])
  | succ k1 =>
   have H := HA.out
   clear HA
   simp only [spec_l3DrawAny.l0] at H
   replace H := Option.bind_eq_some_iff.mp H
   obtain ⟨⟨t350, t351, t352⟩, A680, H⟩ := H
   replace H : (if x4_1 < (wrap64 (300 + t350)) then (if x3_1.length < 2932031007402 then (spec_l3DrawAny.l0 k1 (x3_1 ++ [(⟨(⟨#[107]⟩ : ByteArray), (⟨#[]⟩ : ByteArray), wrap64 (1000 - x4_1), false⟩ : S31)]) (wrap64 (x4_1 + 1)) s0_0 t351 t352) else (none)) else (some (x3_1, t351, t352))) = some (r1, r2, r3) := H
   have A68 := Aside0.mk A680
   clear A680
   by_cases c69 : x4_1 < (wrap64 (300 + t350))
   {
   rw [if_pos c69] at H
   have c69b0 : decide (x4_1 < (wrap64 (300 + t350))) = true := decide_eq_true c69
   clear c69
   by_cases c70 : x3_1.length < 2932031007402
   {
   rw [if_pos c70] at H
   have LMc70 := Aside0.mk c70
   clear c70
   obtain ⟨y353, hy353⟩ : ∃ y_ : List (S31), y_ = (x3_1 ++ [(⟨(⟨#[107]⟩ : ByteArray), (⟨#[]⟩ : ByteArray), wrap64 (1000 - x4_1), false⟩ : S31)]) := ⟨_, rfl⟩
   replace H : (spec_l3DrawAny.l0 k1 y353 (wrap64 (x4_1 + 1)) s0_0 t351 t352) = some (r1, r2, r3) := by first | (rw [hy353]; with_reducible exact H) | (have H2_ := (Option.bind_some _ _).symm.trans H; rw [hy353]; with_reducible exact H2_) | (have H2_ := (Option.bind_some _ _).symm.trans H; with_reducible exact H2_) | with_reducible exact H | (rw [hy353]; exact H) | exact H
   have Ny353 := Aside0.mk hy353
   clear hy353
   have H' := Aside0.mk H
   clear H
   go_wp2_with (first | ((with_reducible refine gate_callee (f := 60) rfl ?_); refine goesL_ (some 54) rfl rfl Try.func60 (by kernel_rfl) rfl #[.pointer (some ⟨g, 0, none⟩), .int .i64 2] rfl z58h ?_; (with_reducible refine (spec_l1Below.calls g s0_0 x1001_1 x1002_1 2 t350 t351 t352 w0 _ ?side1 ?side2 A68.out).mono ?_); (case side1 => exact z58a); (case side2 => exact z58c); rintro e w71 ⟨rfl, hi, hb, hk⟩; refine ⟨_, rfl, ?_⟩; have n0_ := Aside0.mk (Kd.R_mono (Kd.R_keep (IsS108.apart (show IsS108 w0 _ g s0_0 x1001_1 x1002_1 from z58a) (by (with_reducible repeat (first | apply Kd.R_alloc | apply Kd.R_drewN | apply Kd.R_drew)); exact HO_3.out) (by decide)) hk (fun _ h => h.2)) (fun _ h => h.1)); have n1_ := Aside0.mk (KeepBut.trans z58b hk (.inl rfl)); have n2_ := Aside0.mk (hb); have n3_ := Aside0.mk (hi); clear HO_3; clear HK; clear HB; clear HI0; have HO_3 := n0_; have HK := n1_; have HB := n2_; have HI0 := n3_; clear n0_ n1_ n2_ n3_; (try clear hb); (try clear hb2); (try clear hk); (try clear hi)) | ((with_reducible refine gate_builtin (b := .append) (xs := #[.tmp 59, .tmp 63]) rfl ?_); at_builtin; refine Kd.R_append k31 w.heap.size rfl (.tmp 59) (.tmp 63) 27 31 (.agg #[(.string ⟨#[]⟩), (.string ⟨#[]⟩), (.int .i64 0), (.bool false)]) 48 rfl Try.underlying27 info31 rfl (by decide) (by omega) u3 x3_1 (⟨(⟨#[107]⟩ : ByteArray), (⟨#[]⟩ : ByteArray), wrap64 (1000 - x4_1), false⟩ : S31) [.string (⟨#[107]⟩ : ByteArray), .string (⟨#[]⟩ : ByteArray), .int .i64 (wrap64 (1000 - x4_1)), .bool false] (fun _ => True) (fun _ => False) rfl rfl ?aP (fun _ hk => hk.elim) ?aF ?aO (Below.refl _ _) ?aS ?aL ?_; (case aP => exact k31_mkM _ _ _ (⟨(⟨#[107]⟩ : ByteArray), (⟨#[]⟩ : ByteArray), wrap64 (1000 - x4_1), false⟩ : S31)); (case aF => exact (fun _ _ => trivial)); (case aO => exact (by (with_reducible repeat (first | apply Kd.R_alloc | apply Kd.R_drewN | apply Kd.R_drew)); exact HO_3.out)); (case aS => exact (keep_size (w := w) (g := g) (row := none) z58b)); (case aL => have := LMc70.out; omega); intro v354 w72 ho hb hg hat; rw [← Ny353.out] at ho; have n0_ := Aside0.mk (IsS108.grown z58a hg (IsS108.own_ne HI0.out HO_3.out (by decide))); have n1_ := Aside0.mk (below_weaken z58c HL.out hb); have n2_ := Aside0.mk (KeepBut.trans z58b (KeepBut.of_grown hg g) (Kd.R_base2 HO_3.out)); have n3_ := Aside0.mk (ho); clear HI0; clear HB; clear HK; clear HO_3; have HI0 := n0_; have HB := n1_; have HK := n2_; have HO355 := n3_; clear n0_ n1_ n2_ n3_; clear ho hb hg hat))
   go_roundg k1
   case measure => have := HK1.out; omega
   case rel => exact ⟨(y353), (wrap64 (x4_1 + 1)), (t351), (t352), (by first | rfl | (simp; done) | (simp [*]; done)), H', ⟨by have := HK1.out; omega⟩, ⟨by (with_reducible repeat (first | apply Kd.R_alloc | apply Kd.R_drewN | apply Kd.R_drew)); exact HO355.out⟩, ⟨by repeat (first | (with_reducible first | exact HI0.out | apply IsS108.alloc | apply IsS108.drewN | apply IsS108.drew | apply IsS108.set_1 | apply IsS108.set_2) | exact HI0.out)⟩, ⟨by repeat (first | (with_reducible first | exact HK.out | apply KeepBut.set_ | apply keep_drewN | apply keep_drew | apply keep_alloc) | exact HK.out)⟩, ⟨by repeat (first | (with_reducible first | exact HB.out | apply below_alloc | apply pw_below_drewN | apply below_drew1 | refine below_set ?_ (IsS108.ge HI0.out)) | exact HB.out)⟩⟩
   }
   {
   rw [if_neg c70] at H
   exact absurd H (by simp)
   }
   }
   {
   rw [if_neg c69] at H
   have c69b0 : decide (x4_1 < (wrap64 (300 + t350))) = false := decide_eq_false c69
   clear c69
   simp only [Option.some.injEq, Prod.mk.injEq] at H
   obtain ⟨rfl, rfl, rfl⟩ := H
   go_wp2_with (first | ((with_reducible refine gate_callee (f := 60) rfl ?_); refine goesL_ (some 54) rfl rfl Try.func60 (by kernel_rfl) rfl #[.pointer (some ⟨g, 0, none⟩), .int .i64 2] rfl z58h ?_; (with_reducible refine (spec_l1Below.calls g s0_0 x1001_1 x1002_1 2 t350 t351 t352 w0 _ ?side1 ?side2 A68.out).mono ?_); (case side1 => exact z58a); (case side2 => exact z58c); rintro e w73 ⟨rfl, hi, hb, hk⟩; refine ⟨_, rfl, ?_⟩; have n0_ := Aside0.mk (Kd.R_mono (Kd.R_keep (IsS108.apart (show IsS108 w0 _ g s0_0 x1001_1 x1002_1 from z58a) (by (with_reducible repeat (first | apply Kd.R_alloc | apply Kd.R_drewN | apply Kd.R_drew)); exact HO_3.out) (by decide)) hk (fun _ h => h.2)) (fun _ h => h.1)); have n1_ := Aside0.mk (KeepBut.trans z58b hk (.inl rfl)); have n2_ := Aside0.mk (hb); have n3_ := Aside0.mk (hi); clear HO_3; clear HK; clear HB; clear HI0; have HO_3 := n0_; have HK := n1_; have HB := n2_; have HI0 := n3_; clear n0_ n1_ n2_ n3_; (try clear hb); (try clear hb2); (try clear hk); (try clear hi)))
   go_ret
   exact ⟨_, by first | rfl | (simp [errW_none, errW_some] <;> rfl) | (simp [*, errW_none, errW_some] <;> rfl), by (with_reducible repeat (first | apply Kd.R_alloc | apply Kd.R_drewN | apply Kd.R_drew)); exact HO_3.out, by repeat (first | (with_reducible first | exact HI0.out | apply IsS108.alloc | apply IsS108.drewN | apply IsS108.drew | apply IsS108.set_1 | apply IsS108.set_2) | exact HI0.out), by repeat (first | (with_reducible first | exact HB.out | apply below_alloc | apply pw_below_drewN | apply below_drew1 | refine below_set ?_ (IsS108.ge HI0.out)) | exact HB.out), by repeat (first | (with_reducible first | exact HK.out | apply KeepBut.set_ | apply keep_drewN | apply keep_drew | apply keep_alloc) | exact HK.out)⟩
   }
 }
 {
 rw [if_neg c62] at H
 have c62b0 : (t303 == 3) = false := beq_eq_false_iff_ne.mpr c62
 have c62b1 : (t303 != 3) = true := bne_iff_ne.mpr c62
 simp only [Option.some.injEq, Prod.mk.injEq] at H
 obtain ⟨rfl, rfl, rfl⟩ := H
 go_enter Try.func58, Try.ntmps58
 go_wp2_with (first | ((with_reducible refine gate_callee (f := 72) rfl ?_); refine goesL_ (some 6) rfl rfl Try.func72 (by kernel_rfl) rfl #[.pointer (some ⟨g, 0, none⟩), .int .i64 1, .int .i64 10] rfl z58h ?_; (with_reducible refine (spec_l3DrawFrom.calls k g s0_0 s0_1 s0_2 1 10 t295 t298 t299 w0 _ ?side1 ?side2 A2.out).mono ?_); (case side1 => exact z58a); (case side2 => exact z58c); rintro e w74 ⟨v296, rfl, ho0, hi, hb, hk⟩; refine ⟨_, rfl, ?_⟩; have n0_ := Aside0.mk (Kd.R_lower ho0 (keep_size (w := w) (g := g) (row := none) z58b)); have n1_ := Aside0.mk (KeepBut.trans z58b hk (.inl rfl)); have n2_ := Aside0.mk (hb); have n3_ := Aside0.mk (hi); clear HK; clear HB; clear HI0; have HO297 := n0_; have HK := n1_; have HB := n2_; have HI0 := n3_; clear n0_ n1_ n2_ n3_; (try clear hb); (try clear hb2); (try clear hk); (try clear hi); (try clear ho0)) | ((with_reducible refine gate_callee (f := 61) rfl ?_); refine goesL_ (some 8) rfl rfl Try.func61 (by kernel_rfl) rfl #[.pointer (some ⟨g, 0, none⟩), .int .i64 12] rfl z58h ?_; (with_reducible refine (spec_l1Once.calls g s0_0 t298 t299 12 true t301 t302 w0 _ ?side1 ?side2 A3.out).mono ?_); (case side1 => exact z58a); (case side2 => exact z58c); rintro e w75 ⟨rfl, hi, hb, hk⟩; refine ⟨_, rfl, ?_⟩; have n0_ := Aside0.mk (Kd.R_mono (Kd.R_keep (IsS108.apart (show IsS108 w0 _ g s0_0 t298 t299 from z58a) z58d (by decide)) hk (fun _ h => h.2)) (fun _ h => h.1)); have n1_ := Aside0.mk (KeepBut.trans z58b hk (.inl rfl)); have n2_ := Aside0.mk (hb); have n3_ := Aside0.mk (hi); clear HO297; clear HK; clear HB; clear HI0; have HO297 := n0_; have HK := n1_; have HB := n2_; have HI0 := n3_; clear n0_ n1_ n2_ n3_; (try clear hb); (try clear hb2); (try clear hk); (try clear hi)) | ((with_reducible refine gate_callee (f := 60) rfl ?_); refine goesL_ (some 10) rfl rfl Try.func60 (by kernel_rfl) rfl #[.pointer (some ⟨g, 0, none⟩), .int .i64 4] rfl z58h ?_; (with_reducible refine (spec_l1Below.calls g s0_0 t301 t302 4 t303 t304 t305 w0 _ ?side1 ?side2 A5.out).mono ?_); (case side1 => exact z58a); (case side2 => exact z58c); rintro e w76 ⟨rfl, hi, hb, hk⟩; refine ⟨_, rfl, ?_⟩; have n0_ := Aside0.mk (Kd.R_mono (Kd.R_keep (IsS108.apart (show IsS108 w0 _ g s0_0 t301 t302 from z58a) z58d (by decide)) hk (fun _ h => h.2)) (fun _ h => h.1)); have n1_ := Aside0.mk (KeepBut.trans z58b hk (.inl rfl)); have n2_ := Aside0.mk (hb); have n3_ := Aside0.mk (hi); clear HO297; clear HK; clear HB; clear HI0; have HO297 := n0_; have HK := n1_; have HB := n2_; have HI0 := n3_; clear n0_ n1_ n2_ n3_; (try clear hb); (try clear hb2); (try clear hk); (try clear hi)))
 go_ret
 exact ⟨_, by first | rfl | (simp [errW_none, errW_some] <;> rfl) | (simp [*, errW_none, errW_some] <;> rfl), by (with_reducible repeat (first | apply Kd.R_alloc | apply Kd.R_drewN | apply Kd.R_drew)); exact HO297.out, by repeat (first | (with_reducible first | exact HI0.out | apply IsS108.alloc | apply IsS108.drewN | apply IsS108.drew | apply IsS108.set_1 | apply IsS108.set_2) | exact HI0.out), by repeat (first | (with_reducible first | exact HB.out | apply below_alloc | apply pw_below_drewN | apply below_drew1 | refine below_set ?_ (IsS108.ge HI0.out)) | exact HB.out), by repeat (first | (with_reducible first | exact HK.out | apply KeepBut.set_ | apply keep_drewN | apply keep_drew | apply keep_alloc) | exact HK.out)⟩
 }
 }
 }
 }
 }
 {
 replace c4 := Bool.eq_false_iff.mpr c4
 subst c4
 have H1 : (some (t295, t301, t302)) = some (r1, r2, r3) := by rw [if_neg (show ¬ (false = true) by decide)] at H; exact H
 clear H
 have H := H1
 clear H1
 simp only [Option.some.injEq, Prod.mk.injEq] at H
 obtain ⟨rfl, rfl, rfl⟩ := H
 go_enter Try.func58, Try.ntmps58
 go_wp2_with (first | ((with_reducible refine gate_callee (f := 72) rfl ?_); refine goesL_ (some 6) rfl rfl Try.func72 (by kernel_rfl) rfl #[.pointer (some ⟨g, 0, none⟩), .int .i64 1, .int .i64 10] rfl z58h ?_; (with_reducible refine (spec_l3DrawFrom.calls k g s0_0 s0_1 s0_2 1 10 t295 t298 t299 w0 _ ?side1 ?side2 A2.out).mono ?_); (case side1 => exact z58a); (case side2 => exact z58c); rintro e w77 ⟨v296, rfl, ho0, hi, hb, hk⟩; refine ⟨_, rfl, ?_⟩; have n0_ := Aside0.mk (Kd.R_lower ho0 (keep_size (w := w) (g := g) (row := none) z58b)); have n1_ := Aside0.mk (KeepBut.trans z58b hk (.inl rfl)); have n2_ := Aside0.mk (hb); have n3_ := Aside0.mk (hi); clear HK; clear HB; clear HI0; have HO297 := n0_; have HK := n1_; have HB := n2_; have HI0 := n3_; clear n0_ n1_ n2_ n3_; (try clear hb); (try clear hb2); (try clear hk); (try clear hi); (try clear ho0)) | ((with_reducible refine gate_callee (f := 61) rfl ?_); refine goesL_ (some 8) rfl rfl Try.func61 (by kernel_rfl) rfl #[.pointer (some ⟨g, 0, none⟩), .int .i64 12] rfl z58h ?_; (with_reducible refine (spec_l1Once.calls g s0_0 t298 t299 12 false t301 t302 w0 _ ?side1 ?side2 A3.out).mono ?_); (case side1 => exact z58a); (case side2 => exact z58c); rintro e w78 ⟨rfl, hi, hb, hk⟩; refine ⟨_, rfl, ?_⟩; have n0_ := Aside0.mk (Kd.R_mono (Kd.R_keep (IsS108.apart (show IsS108 w0 _ g s0_0 t298 t299 from z58a) z58d (by decide)) hk (fun _ h => h.2)) (fun _ h => h.1)); have n1_ := Aside0.mk (KeepBut.trans z58b hk (.inl rfl)); have n2_ := Aside0.mk (hb); have n3_ := Aside0.mk (hi); clear HO297; clear HK; clear HB; clear HI0; have HO297 := n0_; have HK := n1_; have HB := n2_; have HI0 := n3_; clear n0_ n1_ n2_ n3_; (try clear hb); (try clear hb2); (try clear hk); (try clear hi)))
 go_ret
 exact ⟨_, by first | rfl | (simp [errW_none, errW_some] <;> rfl) | (simp [*, errW_none, errW_some] <;> rfl), by (with_reducible repeat (first | apply Kd.R_alloc | apply Kd.R_drewN | apply Kd.R_drew)); exact HO297.out, by repeat (first | (with_reducible first | exact HI0.out | apply IsS108.alloc | apply IsS108.drewN | apply IsS108.drew | apply IsS108.set_1 | apply IsS108.set_2) | exact HI0.out), by repeat (first | (with_reducible first | exact HB.out | apply below_alloc | apply pw_below_drewN | apply below_drew1 | refine below_set ?_ (IsS108.ge HI0.out)) | exact HB.out), by repeat (first | (with_reducible first | exact HK.out | apply KeepBut.set_ | apply keep_drewN | apply keep_drew | apply keep_alloc) | exact HK.out)⟩
 
 }
end Go.Proofs.Ytaiggfjkikfcbaa.PFnPut

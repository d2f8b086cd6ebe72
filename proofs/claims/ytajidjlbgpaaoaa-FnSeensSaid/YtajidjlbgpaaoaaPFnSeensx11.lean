-- by a program of this session (wip/print/run.py) for this claim
import Derived.Test.YtajidjlbgpaaoaaPFnSeensx0
import Derived.Test.YtajidjlbgpaaoaaPFnSeensx8
import Derived.Test.YtajidjlbgpaaoaaPFnSeensx9
import Derived.Test.YtajidjlbgpaaoaaPFnSeensx10
namespace Go.Proofs.Ytajidjlbgpaaoaa.PFnSeens
open Go.RowKit Go.Proofs.YtajidjlbgpaaoaaW.PrintWords Go.Proofs.YtajidjlbgpaaoaaW.PrintLast Go.Proofs.YtajidjlbgpaaoaaW.PrintMore
attribute [local go_sem] max2_int min2_int max_two min_two max_three min_three max_four min_four   -- for this text's walks alone
set_option linter.unusedVariables false
set_option linter.unusedSimpArgs false

abbrev V : Bool := true
abbrev U : Bool := false
/-! ### spec_l3DrawAny: function 79 -/
theorem z79a {p_ : Prop} (h_ : p_ := by repeat (first | (with_reducible first | exact HI0.out | apply IsS115.alloc | apply IsS115.drewN | apply IsS115.drew | apply IsS115.set_1 | apply IsS115.set_2) | exact HI0.out)) : p_ := h_
theorem z79b {p_ : Prop} (h_ : p_ := by repeat (first | (with_reducible first | exact HK.out | apply KeepBut.set_ | apply keep_drewN | apply keep_drew | apply keep_alloc) | exact HK.out)) : p_ := h_
theorem z79c {p_ : Prop} (h_ : p_ := by repeat (first | (with_reducible first | exact HB.out | apply below_alloc | apply pw_below_drewN | apply below_drew1 | refine below_set ?_ (IsS115.ge HI0.out)) | exact HB.out)) : p_ := h_
theorem z79d {p_ : Prop} (h_ : p_ := by (with_reducible repeat (first | apply Kd.R_alloc | apply Kd.R_drewN | apply Kd.R_drew)); exact HO336.out) : p_ := h_
theorem z79e {p_ : Prop} (h_ : p_ := by first | (simp only [putAll, Act.put, List.setIfInBounds_toArray, List.set_cons_zero, List.set_cons_succ]; done) | (simp only [putAll, Act.put, List.setIfInBounds_toArray, List.set_cons_zero, List.set_cons_succ]; rfl)) : p_ := h_
theorem z79f {p_ : Prop} (h_ : p_ := by (with_reducible repeat (first | apply Kd.R_alloc | apply Kd.R_drewN | apply Kd.R_drew)); exact HO356.out) : p_ := h_
theorem z79g {p_ : Prop} (h_ : p_ := by (with_reducible repeat (first | apply Kd.R_alloc | apply Kd.R_drewN | apply Kd.R_drew)); exact HO366.out) : p_ := h_
theorem z79h {p_ : Prop} (h_ : p_ := by (try simp only [List.map_toArray, List.map_cons, List.map_nil]); first | done | rfl | (simp only [List.length_drop, List.length_take]; rfl)) : p_ := h_
theorem z79i {p_ : Prop} (h_ : p_ := by (with_reducible repeat (first | apply Kd.R_alloc | apply Kd.R_drewN | apply Kd.R_drew)); exact HO359.out) : p_ := h_
theorem z79j {p_ : Prop} (h_ : p_ := by simp only [putAll, Act.put, List.setIfInBounds_toArray, List.set_cons_zero, List.set_cons_succ]; rfl) : p_ := h_
theorem z79k {p_ : Prop} (h_ : p_ := by simp only [Act.put, List.setIfInBounds_toArray, List.set_cons_zero, List.set_cons_succ, i64_w, i32_w]; rfl) : p_ := h_
theorem z79l {p_ : Prop} (h_ : p_ := by first | (with_reducible assumption) | assumption) : p_ := h_
theorem z79m {p_ : Prop} (h_ : p_ := by (with_reducible repeat (first | apply Kd.R_alloc | apply Kd.R_drewN | apply Kd.R_drew)); exact HO379.out) : p_ := h_
def spec_l3DrawAny.l0 : Nat → List (S88) → Int → List Int → Int → Int → Option ((List (S88)) × Int × Int)
 | 0, _, _, _, _, _ => none
 | k + 1, x3, x4, x1000, x1001, x1002 => (spec_l1Below.f x1000 x1001 x1002 2).bind fun bt389 => (if x4 < (wrap64 (300 + bt389.1)) then (if x3.length < 2932031007402 then (spec_l3DrawAny.l0 k (x3 ++ [(⟨(⟨#[107]⟩ : ByteArray), (⟨#[]⟩ : ByteArray), wrap64 (1000 - x4), false⟩ : S88)]) (wrap64 (x4 + 1)) x1000 bt389.2.1 bt389.2.2) else (none)) else (some (x3, bt389.2.1, bt389.2.2)))
def spec_l3DrawAny.f (k : Nat) (s0_0 : List Int) (s0_1 : Int) (s0_2 : Int) : Option ((List (S88)) × Int × Int) := (spec_l3DrawFrom.f k s0_0 s0_1 s0_2 1 10).bind fun bt334 => ((spec_l1Once.f s0_0 bt334.2.1 bt334.2.2 12).bind fun bt339 => (if bt339.1 = true then ((spec_l1Below.f s0_0 bt339.2.1 bt339.2.2 4).bind fun bt342 => (if bt342.1 = 0 then ((spec_l3DrawEntry.f k s0_0 bt342.2.1 bt342.2.2 3).bind fun bt345 => (if bt334.1.length < 2932031007402 then (some ((bt334.1 ++ [(⟨bt345.1, bt345.2.1, bt345.2.2.1, bt345.2.2.2.1⟩ : S88)]), bt345.2.2.2.2.1, bt345.2.2.2.2.2)) else (none))) else (if bt342.1 = 1 then (if 41 ≤ 281474976710656 then ((some (([(⟨#[]⟩ : ByteArray), (⟨#[122, 122]⟩ : ByteArray), strOfNums (List.replicate 41 0)] : List ByteArray) : List ByteArray)).bind fun y357 => ((spec_l1Below.f s0_0 bt342.2.1 bt342.2.2 3).bind fun bt360 => (if 0 ≤ bt360.1 then (if bt360.1 < (y357.length : Int) then ((some (([0, 1, 1000000, 1000001] : List Int) : List Int)).bind fun y364 => ((spec_l1Below.f s0_0 bt360.2.1 bt360.2.2 4).bind fun bt367 => (if 0 ≤ bt367.1 then (if bt367.1 < (y364.length : Int) then (if bt334.1.length < 2932031007402 then (some ((bt334.1 ++ [(⟨rdOf ByteArray.empty y357 bt360.1, (⟨#[]⟩ : ByteArray), rd y364 bt367.1, false⟩ : S88)]), bt367.2.1, bt367.2.2)) else (none)) else (none)) else (none)))) else (none)) else (none)))) else (none)) else (if bt342.1 = 2 then ((spec_l1Below.f s0_0 bt342.2.1 bt342.2.2 2).bind fun bt374 => (if 0 ≤ (wrap64 (200 + bt374.1)) then (if (wrap64 (200 + bt374.1) : Int).toNat ≤ 281474976710656 then ((spec_l1Once.f s0_0 bt374.2.1 bt374.2.2 2).bind fun bt380 => (if bt334.1.length < 2932031007402 then (some ((bt334.1 ++ [(⟨(⟨#[122, 122]⟩ : ByteArray), strOfNums (List.replicate (wrap64 (200 + bt374.1) : Int).toNat 0), 1, bt380.1⟩ : S88)]), bt380.2.1, bt380.2.2)) else (none))) else (none)) else (none))) else (if bt342.1 = 3 then (spec_l3DrawAny.l0 k (([] : List (S88))) 0 s0_0 bt342.2.1 bt342.2.2) else (some (bt334.1, bt342.2.1, bt342.2.2))))))) else (some (bt334.1, bt339.2.1, bt339.2.2))))
theorem spec_l3DrawAny.mono_l : ∀ k, (∀ y0 y1 y2 y3 y4, LeO (spec_l3DrawAny.l0 k y0 y1 y2 y3 y4) (spec_l3DrawAny.l0 (k + 1) y0 y1 y2 y3 y4))
 | 0 => fun _ _ _ _ _ r h => by simp [spec_l3DrawAny.l0] at h
 | k + 1 => by
  have ih0 := spec_l3DrawAny.mono_l k
  {
  intro y0 y1 y2 y3 y4
  unfold spec_l3DrawAny.l0
  repeat' first
  | (with_reducible exact ih0 _ _ _ _ _)
  | (with_reducible exact spec_l3DrawEntry.mono _ _ _ _ _)
  | (with_reducible exact spec_l3DrawFrom.mono _ _ _ _ _ _)
  | (with_reducible exact LeO.refl _)
  | (with_reducible exact LeO.none _)
  | (with_reducible refine LeO.ite ?_ ?_)
  | (with_reducible refine LeO.bind ?_ (fun _ => ?_))
  | exact ih0 _ _ _ _ _
  | exact spec_l3DrawEntry.mono _ _ _ _ _
  | exact spec_l3DrawFrom.mono _ _ _ _ _ _
  | exact LeO.none _
  | refine LeO.ite ?_ ?_
  | refine LeO.bind ?_ (fun _ => ?_)
  }
theorem spec_l3DrawAny.mono : ∀ a0 a1 a2 k, LeO (spec_l3DrawAny.f k a0 a1 a2) (spec_l3DrawAny.f (k + 1) a0 a1 a2) := by
 intro a0 a1 a2 k
 have ih0 := spec_l3DrawAny.mono_l k
 unfold spec_l3DrawAny.f
 repeat' first
   | (with_reducible exact ih0 _ _ _ _ _)
   | (with_reducible exact spec_l3DrawEntry.mono _ _ _ _ _)
   | (with_reducible exact spec_l3DrawFrom.mono _ _ _ _ _ _)
   | (with_reducible exact LeO.refl _)
   | (with_reducible exact LeO.none _)
   | (with_reducible refine LeO.ite ?_ ?_)
   | (with_reducible refine LeO.bind ?_ (fun _ => ?_))
   | exact ih0 _ _ _ _ _
   | exact spec_l3DrawEntry.mono _ _ _ _ _
   | exact spec_l3DrawFrom.mono _ _ _ _ _ _
   | exact LeO.none _
   | refine LeO.ite ?_ ?_
   | refine LeO.bind ?_ (fun _ => ?_)
def spec_l3DrawAny.T7 : Bool × List (List Nat × List Nat) := (true, [([], []), ([], []), ([1], [1]), ([2], [2]), ([], []), ([4], [4]), ([3, 5], [3, 5]), ([6], [6]), ([], []), ([], []), ([9, 5], [9]), ([8, 10], [8, 10]), ([11], [11]), ([7, 12], [7, 12]), ([13], [13]), ([0, 14, 10], [0, 14]), ([15, 15, 0, 1, 2, 3, 4, 5, 6, 7, 8, 9, 10, 11, 12, 13, 14, 15], [0, 15])])
def spec_l3DrawAny.B7 : List Nat := [0, 0, 2, 6, 0, 16, 62, 126, 0, 0, 560, 1840, 3888, 8190, 16382, 32767, 65535]
theorem spec_l3DrawAny.tab7 : rtab .any (opsOf Try.f79 7) = spec_l3DrawAny.T7 := by kernel_rfl
theorem spec_l3DrawAny.bits7 : waitsOk spec_l3DrawAny.T7.2 spec_l3DrawAny.B7 = true := by kernel_rfl
def spec_l3DrawAny.T9 : Bool × List (List Nat × List Nat) := (true, [([], []), ([], []), ([1], [1]), ([2], [2]), ([3, 3], [3]), ([4], [4]), ([], []), ([6, 2], [6]), ([5, 7], [5, 7]), ([8], [8]), ([0, 9, 7], [0, 9]), ([10, 10, 0, 1, 2, 3, 4, 5, 6, 7, 8, 9, 10], [0, 10])])
def spec_l3DrawAny.B9 : List Nat := [0, 0, 2, 6, 14, 30, 0, 70, 254, 510, 1023, 2047]
theorem spec_l3DrawAny.tab9 : rtab .any (opsOf Try.f79 9) = spec_l3DrawAny.T9 := by kernel_rfl
theorem spec_l3DrawAny.bits9 : waitsOk spec_l3DrawAny.T9.2 spec_l3DrawAny.B9 = true := by kernel_rfl
set_option maxHeartbeats 8000000 in
set_option maxRecDepth 100000 in
theorem spec_l3DrawAny.calls (k : Nat) (g : Nat) (s0_0 : List Int) (s0_1 : Int) (s0_2 : Int) (r1 : List (S88)) (r2 : Int) (r3 : Int) (w0 w : World) (hI : IsS115 w0 w g s0_0 s0_1 s0_2) (hB : Below w0.heap.size w0 w) (h : spec_l3DrawAny.f k s0_0 s0_1 s0_2 = some (r1, r2, r3)) :
  Calls Try.prog 79 #[.pointer (some ⟨g, 0, none⟩)] w fun e w' => ∃ v0_ : Value, e = .returned (v0_) ∧ Kd.R k88 88 w' w.heap.size (fun _ => True) v0_ r1 ∧ IsS115 w0 w' g s0_0 r2 r3 ∧ Below w0.heap.size w0 w' ∧ KeepBut w w' g none := by
 have hu88 := Try.underlying88
 have HI0 := Aside0.mk hI
 have HK := Aside0.mk (KeepBut.refl w g none)
 have HL := Aside0.mk hB.size
 clear hI
 have HW0 := Aside0.mk hB.size
 have HB := Aside0.mk hB
 clear hB
 have H : ((spec_l3DrawFrom.f k s0_0 s0_1 s0_2 1 10).bind fun bt334 => ((spec_l1Once.f s0_0 bt334.2.1 bt334.2.2 12).bind fun bt339 => (if bt339.1 = true then ((spec_l1Below.f s0_0 bt339.2.1 bt339.2.2 4).bind fun bt342 => (if bt342.1 = 0 then ((spec_l3DrawEntry.f k s0_0 bt342.2.1 bt342.2.2 3).bind fun bt345 => (if bt334.1.length < 2932031007402 then (some ((bt334.1 ++ [(⟨bt345.1, bt345.2.1, bt345.2.2.1, bt345.2.2.2.1⟩ : S88)]), bt345.2.2.2.2.1, bt345.2.2.2.2.2)) else (none))) else (if bt342.1 = 1 then (if 41 ≤ 281474976710656 then ((some (([(⟨#[]⟩ : ByteArray), (⟨#[122, 122]⟩ : ByteArray), strOfNums (List.replicate 41 0)] : List ByteArray) : List ByteArray)).bind fun y357 => ((spec_l1Below.f s0_0 bt342.2.1 bt342.2.2 3).bind fun bt360 => (if 0 ≤ bt360.1 then (if bt360.1 < (y357.length : Int) then ((some (([0, 1, 1000000, 1000001] : List Int) : List Int)).bind fun y364 => ((spec_l1Below.f s0_0 bt360.2.1 bt360.2.2 4).bind fun bt367 => (if 0 ≤ bt367.1 then (if bt367.1 < (y364.length : Int) then (if bt334.1.length < 2932031007402 then (some ((bt334.1 ++ [(⟨rdOf ByteArray.empty y357 bt360.1, (⟨#[]⟩ : ByteArray), rd y364 bt367.1, false⟩ : S88)]), bt367.2.1, bt367.2.2)) else (none)) else (none)) else (none)))) else (none)) else (none)))) else (none)) else (if bt342.1 = 2 then ((spec_l1Below.f s0_0 bt342.2.1 bt342.2.2 2).bind fun bt374 => (if 0 ≤ (wrap64 (200 + bt374.1)) then (if (wrap64 (200 + bt374.1) : Int).toNat ≤ 281474976710656 then ((spec_l1Once.f s0_0 bt374.2.1 bt374.2.2 2).bind fun bt380 => (if bt334.1.length < 2932031007402 then (some ((bt334.1 ++ [(⟨(⟨#[122, 122]⟩ : ByteArray), strOfNums (List.replicate (wrap64 (200 + bt374.1) : Int).toNat 0), 1, bt380.1⟩ : S88)]), bt380.2.1, bt380.2.2)) else (none))) else (none)) else (none))) else (if bt342.1 = 3 then (spec_l3DrawAny.l0 k (([] : List (S88))) 0 s0_0 bt342.2.1 bt342.2.2) else (some (bt334.1, bt342.2.1, bt342.2.2))))))) else (some (bt334.1, bt339.2.1, bt339.2.2))))) = some (r1, r2, r3) := h
 clear h
 replace H := Option.bind_eq_some_iff.mp H
 obtain ⟨⟨t334, t337, t338⟩, A20, H⟩ := H
 replace H : ((spec_l1Once.f s0_0 t337 t338 12).bind fun bt339 => (if bt339.1 = true then ((spec_l1Below.f s0_0 bt339.2.1 bt339.2.2 4).bind fun bt342 => (if bt342.1 = 0 then ((spec_l3DrawEntry.f k s0_0 bt342.2.1 bt342.2.2 3).bind fun bt345 => (if t334.length < 2932031007402 then (some ((t334 ++ [(⟨bt345.1, bt345.2.1, bt345.2.2.1, bt345.2.2.2.1⟩ : S88)]), bt345.2.2.2.2.1, bt345.2.2.2.2.2)) else (none))) else (if bt342.1 = 1 then (if 41 ≤ 281474976710656 then ((some (([(⟨#[]⟩ : ByteArray), (⟨#[122, 122]⟩ : ByteArray), strOfNums (List.replicate 41 0)] : List ByteArray) : List ByteArray)).bind fun y357 => ((spec_l1Below.f s0_0 bt342.2.1 bt342.2.2 3).bind fun bt360 => (if 0 ≤ bt360.1 then (if bt360.1 < (y357.length : Int) then ((some (([0, 1, 1000000, 1000001] : List Int) : List Int)).bind fun y364 => ((spec_l1Below.f s0_0 bt360.2.1 bt360.2.2 4).bind fun bt367 => (if 0 ≤ bt367.1 then (if bt367.1 < (y364.length : Int) then (if t334.length < 2932031007402 then (some ((t334 ++ [(⟨rdOf ByteArray.empty y357 bt360.1, (⟨#[]⟩ : ByteArray), rd y364 bt367.1, false⟩ : S88)]), bt367.2.1, bt367.2.2)) else (none)) else (none)) else (none)))) else (none)) else (none)))) else (none)) else (if bt342.1 = 2 then ((spec_l1Below.f s0_0 bt342.2.1 bt342.2.2 2).bind fun bt374 => (if 0 ≤ (wrap64 (200 + bt374.1)) then (if (wrap64 (200 + bt374.1) : Int).toNat ≤ 281474976710656 then ((spec_l1Once.f s0_0 bt374.2.1 bt374.2.2 2).bind fun bt380 => (if t334.length < 2932031007402 then (some ((t334 ++ [(⟨(⟨#[122, 122]⟩ : ByteArray), strOfNums (List.replicate (wrap64 (200 + bt374.1) : Int).toNat 0), 1, bt380.1⟩ : S88)]), bt380.2.1, bt380.2.2)) else (none))) else (none)) else (none))) else (if bt342.1 = 3 then (spec_l3DrawAny.l0 k (([] : List (S88))) 0 s0_0 bt342.2.1 bt342.2.2) else (some (t334, bt342.2.1, bt342.2.2))))))) else (some (t334, bt339.2.1, bt339.2.2)))) = some (r1, r2, r3) := H
 have A2 := Aside0.mk A20
 clear A20
 replace H := Option.bind_eq_some_iff.mp H
 obtain ⟨⟨t339, t340, t341⟩, A30, H⟩ := H
 replace H : (if t339 = true then ((spec_l1Below.f s0_0 t340 t341 4).bind fun bt342 => (if bt342.1 = 0 then ((spec_l3DrawEntry.f k s0_0 bt342.2.1 bt342.2.2 3).bind fun bt345 => (if t334.length < 2932031007402 then (some ((t334 ++ [(⟨bt345.1, bt345.2.1, bt345.2.2.1, bt345.2.2.2.1⟩ : S88)]), bt345.2.2.2.2.1, bt345.2.2.2.2.2)) else (none))) else (if bt342.1 = 1 then (if 41 ≤ 281474976710656 then ((some (([(⟨#[]⟩ : ByteArray), (⟨#[122, 122]⟩ : ByteArray), strOfNums (List.replicate 41 0)] : List ByteArray) : List ByteArray)).bind fun y357 => ((spec_l1Below.f s0_0 bt342.2.1 bt342.2.2 3).bind fun bt360 => (if 0 ≤ bt360.1 then (if bt360.1 < (y357.length : Int) then ((some (([0, 1, 1000000, 1000001] : List Int) : List Int)).bind fun y364 => ((spec_l1Below.f s0_0 bt360.2.1 bt360.2.2 4).bind fun bt367 => (if 0 ≤ bt367.1 then (if bt367.1 < (y364.length : Int) then (if t334.length < 2932031007402 then (some ((t334 ++ [(⟨rdOf ByteArray.empty y357 bt360.1, (⟨#[]⟩ : ByteArray), rd y364 bt367.1, false⟩ : S88)]), bt367.2.1, bt367.2.2)) else (none)) else (none)) else (none)))) else (none)) else (none)))) else (none)) else (if bt342.1 = 2 then ((spec_l1Below.f s0_0 bt342.2.1 bt342.2.2 2).bind fun bt374 => (if 0 ≤ (wrap64 (200 + bt374.1)) then (if (wrap64 (200 + bt374.1) : Int).toNat ≤ 281474976710656 then ((spec_l1Once.f s0_0 bt374.2.1 bt374.2.2 2).bind fun bt380 => (if t334.length < 2932031007402 then (some ((t334 ++ [(⟨(⟨#[122, 122]⟩ : ByteArray), strOfNums (List.replicate (wrap64 (200 + bt374.1) : Int).toNat 0), 1, bt380.1⟩ : S88)]), bt380.2.1, bt380.2.2)) else (none))) else (none)) else (none))) else (if bt342.1 = 3 then (spec_l3DrawAny.l0 k (([] : List (S88))) 0 s0_0 bt342.2.1 bt342.2.2) else (some (t334, bt342.2.1, bt342.2.2))))))) else (some (t334, t340, t341))) = some (r1, r2, r3) := H
 have A3 := Aside0.mk A30
 clear A30
 by_cases c4 : t339 = true
 {
 subst c4
 have H1 : ((spec_l1Below.f s0_0 t340 t341 4).bind fun bt342 => (if bt342.1 = 0 then ((spec_l3DrawEntry.f k s0_0 bt342.2.1 bt342.2.2 3).bind fun bt345 => (if t334.length < 2932031007402 then (some ((t334 ++ [(⟨bt345.1, bt345.2.1, bt345.2.2.1, bt345.2.2.2.1⟩ : S88)]), bt345.2.2.2.2.1, bt345.2.2.2.2.2)) else (none))) else (if bt342.1 = 1 then (if 41 ≤ 281474976710656 then ((some (([(⟨#[]⟩ : ByteArray), (⟨#[122, 122]⟩ : ByteArray), strOfNums (List.replicate 41 0)] : List ByteArray) : List ByteArray)).bind fun y357 => ((spec_l1Below.f s0_0 bt342.2.1 bt342.2.2 3).bind fun bt360 => (if 0 ≤ bt360.1 then (if bt360.1 < (y357.length : Int) then ((some (([0, 1, 1000000, 1000001] : List Int) : List Int)).bind fun y364 => ((spec_l1Below.f s0_0 bt360.2.1 bt360.2.2 4).bind fun bt367 => (if 0 ≤ bt367.1 then (if bt367.1 < (y364.length : Int) then (if t334.length < 2932031007402 then (some ((t334 ++ [(⟨rdOf ByteArray.empty y357 bt360.1, (⟨#[]⟩ : ByteArray), rd y364 bt367.1, false⟩ : S88)]), bt367.2.1, bt367.2.2)) else (none)) else (none)) else (none)))) else (none)) else (none)))) else (none)) else (if bt342.1 = 2 then ((spec_l1Below.f s0_0 bt342.2.1 bt342.2.2 2).bind fun bt374 => (if 0 ≤ (wrap64 (200 + bt374.1)) then (if (wrap64 (200 + bt374.1) : Int).toNat ≤ 281474976710656 then ((spec_l1Once.f s0_0 bt374.2.1 bt374.2.2 2).bind fun bt380 => (if t334.length < 2932031007402 then (some ((t334 ++ [(⟨(⟨#[122, 122]⟩ : ByteArray), strOfNums (List.replicate (wrap64 (200 + bt374.1) : Int).toNat 0), 1, bt380.1⟩ : S88)]), bt380.2.1, bt380.2.2)) else (none))) else (none)) else (none))) else (if bt342.1 = 3 then (spec_l3DrawAny.l0 k (([] : List (S88))) 0 s0_0 bt342.2.1 bt342.2.2) else (some (t334, bt342.2.1, bt342.2.2))))))) = some (r1, r2, r3) := by rw [if_pos rfl] at H; exact H
 clear H
 have H := H1
 clear H1
 replace H := Option.bind_eq_some_iff.mp H
 obtain ⟨⟨t342, t343, t344⟩, A50, H⟩ := H
 replace H : (if t342 = 0 then ((spec_l3DrawEntry.f k s0_0 t343 t344 3).bind fun bt345 => (if t334.length < 2932031007402 then (some ((t334 ++ [(⟨bt345.1, bt345.2.1, bt345.2.2.1, bt345.2.2.2.1⟩ : S88)]), bt345.2.2.2.2.1, bt345.2.2.2.2.2)) else (none))) else (if t342 = 1 then (if 41 ≤ 281474976710656 then ((some (([(⟨#[]⟩ : ByteArray), (⟨#[122, 122]⟩ : ByteArray), strOfNums (List.replicate 41 0)] : List ByteArray) : List ByteArray)).bind fun y357 => ((spec_l1Below.f s0_0 t343 t344 3).bind fun bt360 => (if 0 ≤ bt360.1 then (if bt360.1 < (y357.length : Int) then ((some (([0, 1, 1000000, 1000001] : List Int) : List Int)).bind fun y364 => ((spec_l1Below.f s0_0 bt360.2.1 bt360.2.2 4).bind fun bt367 => (if 0 ≤ bt367.1 then (if bt367.1 < (y364.length : Int) then (if t334.length < 2932031007402 then (some ((t334 ++ [(⟨rdOf ByteArray.empty y357 bt360.1, (⟨#[]⟩ : ByteArray), rd y364 bt367.1, false⟩ : S88)]), bt367.2.1, bt367.2.2)) else (none)) else (none)) else (none)))) else (none)) else (none)))) else (none)) else (if t342 = 2 then ((spec_l1Below.f s0_0 t343 t344 2).bind fun bt374 => (if 0 ≤ (wrap64 (200 + bt374.1)) then (if (wrap64 (200 + bt374.1) : Int).toNat ≤ 281474976710656 then ((spec_l1Once.f s0_0 bt374.2.1 bt374.2.2 2).bind fun bt380 => (if t334.length < 2932031007402 then (some ((t334 ++ [(⟨(⟨#[122, 122]⟩ : ByteArray), strOfNums (List.replicate (wrap64 (200 + bt374.1) : Int).toNat 0), 1, bt380.1⟩ : S88)]), bt380.2.1, bt380.2.2)) else (none))) else (none)) else (none))) else (if t342 = 3 then (spec_l3DrawAny.l0 k (([] : List (S88))) 0 s0_0 t343 t344) else (some (t334, t343, t344)))))) = some (r1, r2, r3) := H
 have A5 := Aside0.mk A50
 clear A50
 by_cases c6 : t342 = 0
 {
 rw [if_pos c6] at H
 have c6b0 : (t342 == 0) = true := beq_iff_eq.mpr c6
 have c6b1 : (t342 != 0) = false := bne_eq_false_iff_eq.mpr c6
 clear c6
 replace H := Option.bind_eq_some_iff.mp H
 obtain ⟨⟨t345, t346, t347, t348, t349, t350⟩, A70, H⟩ := H
 replace H : (if t334.length < 2932031007402 then (some ((t334 ++ [(⟨t345, t346, t347, t348⟩ : S88)]), t349, t350)) else (none)) = some (r1, r2, r3) := H
 have A7 := Aside0.mk A70
 clear A70
 by_cases c8 : t334.length < 2932031007402
 {
 rw [if_pos c8] at H
 have LMc8 := Aside0.mk c8
 clear c8
 obtain ⟨y351, hy351⟩ : ∃ y_ : List (S88), y_ = (t334 ++ [(⟨t345, t346, t347, t348⟩ : S88)]) := ⟨_, rfl⟩
 replace H : (some (y351, t349, t350)) = some (r1, r2, r3) := by first | (rw [hy351]; with_reducible exact H) | (have H2_ := (Option.bind_some _ _).symm.trans H; rw [hy351]; with_reducible exact H2_) | (have H2_ := (Option.bind_some _ _).symm.trans H; with_reducible exact H2_) | with_reducible exact H | (rw [hy351]; exact H) | exact H
 have Ny351 := Aside0.mk hy351
 clear hy351
 simp only [Option.some.injEq, Prod.mk.injEq] at H
 obtain ⟨rfl, rfl, rfl⟩ := H
 go_enter Try.func79, Try.ntmps79
 go_wp2_with (first | ((with_reducible refine gate_callee (f := 100) rfl ?_); refine goesL_ (some 6) rfl rfl Try.func100 (by kernel_rfl) rfl #[.pointer (some ⟨g, 0, none⟩), .int .i64 1, .int .i64 10] rfl z79h ?_; (with_reducible refine (spec_l3DrawFrom.calls k g s0_0 s0_1 s0_2 1 10 t334 t337 t338 w0 _ ?side1 ?side2 A2.out).mono ?_); (case side1 => exact z79a); (case side2 => exact z79c); rintro e w9 ⟨v335, rfl, ho0, hi, hb, hk⟩; refine ⟨_, rfl, ?_⟩; have n0_ := Aside0.mk (Kd.R_lower ho0 (keep_size (w := w) (g := g) (row := none) z79b)); have n1_ := Aside0.mk (KeepBut.trans z79b hk (.inl rfl)); have n2_ := Aside0.mk (hb); have n3_ := Aside0.mk (hi); clear HK; clear HB; clear HI0; have HO336 := n0_; have HK := n1_; have HB := n2_; have HI0 := n3_; clear n0_ n1_ n2_ n3_; (try clear hb); (try clear hb2); (try clear hk); (try clear hi); (try clear ho0)) | ((with_reducible refine gate_callee (f := 101) rfl ?_); refine goesL_ (some 8) rfl rfl Try.func101 (by kernel_rfl) rfl #[.pointer (some ⟨g, 0, none⟩), .int .i64 12] rfl z79h ?_; (with_reducible refine (spec_l1Once.calls g s0_0 t337 t338 12 true t340 t341 w0 _ ?side1 ?side2 A3.out).mono ?_); (case side1 => exact z79a); (case side2 => exact z79c); rintro e w10 ⟨rfl, hi, hb, hk⟩; refine ⟨_, rfl, ?_⟩; have n0_ := Aside0.mk (Kd.R_mono (Kd.R_keep (IsS115.apart (show IsS115 w0 _ g s0_0 t337 t338 from z79a) z79d (by decide)) hk (fun _ h => h.2)) (fun _ h => h.1)); have n1_ := Aside0.mk (KeepBut.trans z79b hk (.inl rfl)); have n2_ := Aside0.mk (hb); have n3_ := Aside0.mk (hi); clear HO336; clear HK; clear HB; clear HI0; have HO336 := n0_; have HK := n1_; have HB := n2_; have HI0 := n3_; clear n0_ n1_ n2_ n3_; (try clear hb); (try clear hb2); (try clear hk); (try clear hi)) | ((with_reducible refine gate_callee (f := 102) rfl ?_); refine goesL_ (some 10) rfl rfl Try.func102 (by kernel_rfl) rfl #[.pointer (some ⟨g, 0, none⟩), .int .i64 4] rfl z79h ?_; (with_reducible refine (spec_l1Below.calls g s0_0 t340 t341 4 t342 t343 t344 w0 _ ?side1 ?side2 A5.out).mono ?_); (case side1 => exact z79a); (case side2 => exact z79c); rintro e w11 ⟨rfl, hi, hb, hk⟩; refine ⟨_, rfl, ?_⟩; have n0_ := Aside0.mk (Kd.R_mono (Kd.R_keep (IsS115.apart (show IsS115 w0 _ g s0_0 t340 t341 from z79a) z79d (by decide)) hk (fun _ h => h.2)) (fun _ h => h.1)); have n1_ := Aside0.mk (KeepBut.trans z79b hk (.inl rfl)); have n2_ := Aside0.mk (hb); have n3_ := Aside0.mk (hi); clear HO336; clear HK; clear HB; clear HI0; have HO336 := n0_; have HK := n1_; have HB := n2_; have HI0 := n3_; clear n0_ n1_ n2_ n3_; (try clear hb); (try clear hb2); (try clear hk); (try clear hi)) | ((with_reducible refine gate_callee (f := 103) rfl ?_); refine goesL_ (some 15) rfl rfl Try.func103 (by kernel_rfl) rfl #[.pointer (some ⟨g, 0, none⟩), .int .i64 3] rfl z79h ?_; (with_reducible refine (spec_l3DrawEntry.calls k g s0_0 t343 t344 3 t345 t346 t347 t348 t349 t350 w0 _ ?side1 ?side2 A7.out).mono ?_); (case side1 => exact z79a); (case side2 => exact z79c); rintro e w12 ⟨rfl, hi, hb, hk⟩; refine ⟨_, rfl, ?_⟩; have n0_ := Aside0.mk (Kd.R_mono (Kd.R_keep (IsS115.apart (show IsS115 w0 _ g s0_0 t343 t344 from z79a) z79d (by decide)) hk (fun _ h => h.2)) (fun _ h => h.1)); have n1_ := Aside0.mk (KeepBut.trans z79b hk (.inl rfl)); have n2_ := Aside0.mk (hb); have n3_ := Aside0.mk (hi); clear HO336; clear HK; clear HB; clear HI0; have HO336 := n0_; have HK := n1_; have HB := n2_; have HI0 := n3_; clear n0_ n1_ n2_ n3_; (try clear hb); (try clear hb2); (try clear hk); (try clear hi)) | ((with_reducible refine gate_builtin (b := .append) (xs := #[.tmp 13, .tmp 16]) rfl ?_); at_builtin; refine Kd.R_append k88 w.heap.size rfl (.tmp 13) (.tmp 16) 50 88 (.agg #[(.string ⟨#[]⟩), (.string ⟨#[]⟩), (.int .i64 0), (.bool false)]) 48 rfl Try.underlying50 info88 rfl (by decide) (by omega) v335 t334 (⟨t345, t346, t347, t348⟩ : S88) [.string t345, .string t346, .int .i64 t347, .bool t348] (fun _ => True) (fun _ => False) rfl rfl ?aP (fun _ hk => hk.elim) ?aF ?aO (Below.refl _ _) ?aS ?aL ?_; (case aP => exact k88_mkM _ _ _ (⟨t345, t346, t347, t348⟩ : S88)); (case aF => exact (fun _ _ => trivial)); (case aO => exact z79d); (case aS => exact (keep_size (w := w) (g := g) (row := none) z79b)); (case aL => have := LMc8.out; omega); intro v352 w13 ho hb hg hat; rw [← Ny351.out] at ho; have n0_ := Aside0.mk (IsS115.grown z79a hg (IsS115.own_ne HI0.out HO336.out (by decide))); have n1_ := Aside0.mk (below_weaken z79c HL.out hb); have n2_ := Aside0.mk (KeepBut.trans z79b (KeepBut.of_grown hg g) (Kd.R_base2 HO336.out)); have n3_ := Aside0.mk (ho); clear HI0; clear HB; clear HK; clear HO336; have HI0 := n0_; have HB := n1_; have HK := n2_; have HO353 := n3_; clear n0_ n1_ n2_ n3_; clear ho hb hg hat))
 go_ret
 exact ⟨_, by first | rfl | (simp [errW_none, errW_some] <;> rfl) | (simp [*, errW_none, errW_some] <;> rfl), by (with_reducible repeat (first | apply Kd.R_alloc | apply Kd.R_drewN | apply Kd.R_drew)); exact HO353.out, by repeat (first | (with_reducible first | exact HI0.out | apply IsS115.alloc | apply IsS115.drewN | apply IsS115.drew | apply IsS115.set_1 | apply IsS115.set_2) | exact HI0.out), by repeat (first | (with_reducible first | exact HB.out | apply below_alloc | apply pw_below_drewN | apply below_drew1 | refine below_set ?_ (IsS115.ge HI0.out)) | exact HB.out), by repeat (first | (with_reducible first | exact HK.out | apply KeepBut.set_ | apply keep_drewN | apply keep_drew | apply keep_alloc) | exact HK.out)⟩
 }
 {
 rw [if_neg c8] at H
 exact absurd H (by simp)
 }
 }
 {
 rw [if_neg c6] at H
 have c6b0 : (t342 == 0) = false := beq_eq_false_iff_ne.mpr c6
 have c6b1 : (t342 != 0) = true := bne_iff_ne.mpr c6
 by_cases c14 : t342 = 1
 {
 rw [if_pos c14] at H
 have c14b0 : (t342 == 1) = true := beq_iff_eq.mpr c14
 have c14b1 : (t342 != 1) = false := bne_eq_false_iff_eq.mpr c14
 clear c14
 by_cases c15 : 41 ≤ 281474976710656
 {
 rw [if_pos c15] at H
 have c15b0 := eq_true c15
 have c15b1 : decide (41 ≤ 281474976710656) = true := decide_eq_true c15
 clear c15
 obtain ⟨y354, hy354⟩ : ∃ y_ : List Int, y_ = (List.replicate 41 0) := ⟨_, rfl⟩
 replace H : ((some (([(⟨#[]⟩ : ByteArray), (⟨#[122, 122]⟩ : ByteArray), strOfNums y354] : List ByteArray) : List ByteArray)).bind fun y357 => ((spec_l1Below.f s0_0 t343 t344 3).bind fun bt360 => (if 0 ≤ bt360.1 then (if bt360.1 < (y357.length : Int) then ((some (([0, 1, 1000000, 1000001] : List Int) : List Int)).bind fun y364 => ((spec_l1Below.f s0_0 bt360.2.1 bt360.2.2 4).bind fun bt367 => (if 0 ≤ bt367.1 then (if bt367.1 < (y364.length : Int) then (if t334.length < 2932031007402 then (some ((t334 ++ [(⟨rdOf ByteArray.empty y357 bt360.1, (⟨#[]⟩ : ByteArray), rd y364 bt367.1, false⟩ : S88)]), bt367.2.1, bt367.2.2)) else (none)) else (none)) else (none)))) else (none)) else (none)))) = some (r1, r2, r3) := by first | (rw [hy354]; with_reducible exact H) | (have H2_ := (Option.bind_some _ _).symm.trans H; rw [hy354]; with_reducible exact H2_) | (have H2_ := (Option.bind_some _ _).symm.trans H; with_reducible exact H2_) | with_reducible exact H | (rw [hy354]; exact H) | exact H
 have Ny354 := Aside0.mk hy354
 clear hy354
 obtain ⟨y357, hy357⟩ : ∃ y_ : List ByteArray, y_ = (([(⟨#[]⟩ : ByteArray), (⟨#[122, 122]⟩ : ByteArray), strOfNums y354] : List ByteArray)) := ⟨_, rfl⟩
 replace H : ((spec_l1Below.f s0_0 t343 t344 3).bind fun bt360 => (if 0 ≤ bt360.1 then (if bt360.1 < (y357.length : Int) then ((some (([0, 1, 1000000, 1000001] : List Int) : List Int)).bind fun y364 => ((spec_l1Below.f s0_0 bt360.2.1 bt360.2.2 4).bind fun bt367 => (if 0 ≤ bt367.1 then (if bt367.1 < (y364.length : Int) then (if t334.length < 2932031007402 then (some ((t334 ++ [(⟨rdOf ByteArray.empty y357 bt360.1, (⟨#[]⟩ : ByteArray), rd y364 bt367.1, false⟩ : S88)]), bt367.2.1, bt367.2.2)) else (none)) else (none)) else (none)))) else (none)) else (none))) = some (r1, r2, r3) := by first | (rw [hy357]; with_reducible exact H) | (have H2_ := (Option.bind_some _ _).symm.trans H; rw [hy357]; with_reducible exact H2_) | (have H2_ := (Option.bind_some _ _).symm.trans H; with_reducible exact H2_) | with_reducible exact H | (rw [hy357]; exact H) | exact H
 have Ny357 := Aside0.mk hy357
 clear hy357
 replace H := Option.bind_eq_some_iff.mp H
 obtain ⟨⟨t360, t361, t362⟩, A160, H⟩ := H
 replace H : (if 0 ≤ t360 then (if t360 < (y357.length : Int) then ((some (([0, 1, 1000000, 1000001] : List Int) : List Int)).bind fun y364 => ((spec_l1Below.f s0_0 t361 t362 4).bind fun bt367 => (if 0 ≤ bt367.1 then (if bt367.1 < (y364.length : Int) then (if t334.length < 2932031007402 then (some ((t334 ++ [(⟨rdOf ByteArray.empty y357 t360, (⟨#[]⟩ : ByteArray), rd y364 bt367.1, false⟩ : S88)]), bt367.2.1, bt367.2.2)) else (none)) else (none)) else (none)))) else (none)) else (none)) = some (r1, r2, r3) := H
 have A16 := Aside0.mk A160
 clear A160
 by_cases c17 : 0 ≤ t360
 {
 rw [if_pos c17] at H
 have c17b0 : decide (0 ≤ t360) = true := decide_eq_true c17
 clear c17
 by_cases c18 : t360 < (y357.length : Int)
 {
 rw [if_pos c18] at H
 have c18b0 : decide (t360 < (y357.length : Int)) = true := decide_eq_true c18
 clear c18
 obtain ⟨y364, hy364⟩ : ∃ y_ : List Int, y_ = (([0, 1, 1000000, 1000001] : List Int)) := ⟨_, rfl⟩
 replace H : ((spec_l1Below.f s0_0 t361 t362 4).bind fun bt367 => (if 0 ≤ bt367.1 then (if bt367.1 < (y364.length : Int) then (if t334.length < 2932031007402 then (some ((t334 ++ [(⟨rdOf ByteArray.empty y357 t360, (⟨#[]⟩ : ByteArray), rd y364 bt367.1, false⟩ : S88)]), bt367.2.1, bt367.2.2)) else (none)) else (none)) else (none))) = some (r1, r2, r3) := by first | (rw [hy364]; with_reducible exact H) | (have H2_ := (Option.bind_some _ _).symm.trans H; rw [hy364]; with_reducible exact H2_) | (have H2_ := (Option.bind_some _ _).symm.trans H; with_reducible exact H2_) | with_reducible exact H | (rw [hy364]; exact H) | exact H
 have Ny364 := Aside0.mk hy364
 clear hy364
 replace H := Option.bind_eq_some_iff.mp H
 obtain ⟨⟨t367, t368, t369⟩, A190, H⟩ := H
 replace H : (if 0 ≤ t367 then (if t367 < (y364.length : Int) then (if t334.length < 2932031007402 then (some ((t334 ++ [(⟨rdOf ByteArray.empty y357 t360, (⟨#[]⟩ : ByteArray), rd y364 t367, false⟩ : S88)]), t368, t369)) else (none)) else (none)) else (none)) = some (r1, r2, r3) := H
 have A19 := Aside0.mk A190
 clear A190
 by_cases c20 : 0 ≤ t367
 {
 rw [if_pos c20] at H
 have c20b0 : decide (0 ≤ t367) = true := decide_eq_true c20
 clear c20
 by_cases c21 : t367 < (y364.length : Int)
 {
 rw [if_pos c21] at H
 have c21b0 : decide (t367 < (y364.length : Int)) = true := decide_eq_true c21
 clear c21
 by_cases c22 : t334.length < 2932031007402
 {
 rw [if_pos c22] at H
 have LMc22 := Aside0.mk c22
 clear c22
 obtain ⟨y371, hy371⟩ : ∃ y_ : List (S88), y_ = (t334 ++ [(⟨rdOf ByteArray.empty y357 t360, (⟨#[]⟩ : ByteArray), rd y364 t367, false⟩ : S88)]) := ⟨_, rfl⟩
 replace H : (some (y371, t368, t369)) = some (r1, r2, r3) := by first | (rw [hy371]; with_reducible exact H) | (have H2_ := (Option.bind_some _ _).symm.trans H; rw [hy371]; with_reducible exact H2_) | (have H2_ := (Option.bind_some _ _).symm.trans H; with_reducible exact H2_) | with_reducible exact H | (rw [hy371]; exact H) | exact H
 have Ny371 := Aside0.mk hy371
 clear hy371
 simp only [Option.some.injEq, Prod.mk.injEq] at H
 obtain ⟨rfl, rfl, rfl⟩ := H
 go_enter Try.func79, Try.ntmps79
 try go_wp2_with (first | ((with_reducible refine gate_callee (f := 100) rfl ?_); refine goesL_ (some 6) rfl rfl Try.func100 (by kernel_rfl) rfl #[.pointer (some ⟨g, 0, none⟩), .int .i64 1, .int .i64 10] rfl z79h ?_; (with_reducible refine (spec_l3DrawFrom.calls k g s0_0 s0_1 s0_2 1 10 t334 t337 t338 w0 _ ?side1 ?side2 A2.out).mono ?_); (case side1 => exact z79a); (case side2 => exact z79c); rintro e w23 ⟨v335, rfl, ho0, hi, hb, hk⟩; refine ⟨_, rfl, ?_⟩; have n0_ := Aside0.mk (Kd.R_lower ho0 (keep_size (w := w) (g := g) (row := none) z79b)); have n1_ := Aside0.mk (KeepBut.trans z79b hk (.inl rfl)); have n2_ := Aside0.mk (hb); have n3_ := Aside0.mk (hi); clear HK; clear HB; clear HI0; have HO336 := n0_; have HK := n1_; have HB := n2_; have HI0 := n3_; clear n0_ n1_ n2_ n3_; (try clear hb); (try clear hb2); (try clear hk); (try clear hi); (try clear ho0)) | ((with_reducible refine gate_callee (f := 101) rfl ?_); refine goesL_ (some 8) rfl rfl Try.func101 (by kernel_rfl) rfl #[.pointer (some ⟨g, 0, none⟩), .int .i64 12] rfl z79h ?_; (with_reducible refine (spec_l1Once.calls g s0_0 t337 t338 12 true t340 t341 w0 _ ?side1 ?side2 A3.out).mono ?_); (case side1 => exact z79a); (case side2 => exact z79c); rintro e w24 ⟨rfl, hi, hb, hk⟩; refine ⟨_, rfl, ?_⟩; have n0_ := Aside0.mk (Kd.R_mono (Kd.R_keep (IsS115.apart (show IsS115 w0 _ g s0_0 t337 t338 from z79a) z79d (by decide)) hk (fun _ h => h.2)) (fun _ h => h.1)); have n1_ := Aside0.mk (KeepBut.trans z79b hk (.inl rfl)); have n2_ := Aside0.mk (hb); have n3_ := Aside0.mk (hi); clear HO336; clear HK; clear HB; clear HI0; have HO336 := n0_; have HK := n1_; have HB := n2_; have HI0 := n3_; clear n0_ n1_ n2_ n3_; (try clear hb); (try clear hb2); (try clear hk); (try clear hi)) | ((with_reducible refine gate_callee (f := 102) rfl ?_); refine goesL_ (some 10) rfl rfl Try.func102 (by kernel_rfl) rfl #[.pointer (some ⟨g, 0, none⟩), .int .i64 4] rfl z79h ?_; (with_reducible refine (spec_l1Below.calls g s0_0 t340 t341 4 t342 t343 t344 w0 _ ?side1 ?side2 A5.out).mono ?_); (case side1 => exact z79a); (case side2 => exact z79c); rintro e w25 ⟨rfl, hi, hb, hk⟩; refine ⟨_, rfl, ?_⟩; have n0_ := Aside0.mk (Kd.R_mono (Kd.R_keep (IsS115.apart (show IsS115 w0 _ g s0_0 t340 t341 from z79a) z79d (by decide)) hk (fun _ h => h.2)) (fun _ h => h.1)); have n1_ := Aside0.mk (KeepBut.trans z79b hk (.inl rfl)); have n2_ := Aside0.mk (hb); have n3_ := Aside0.mk (hi); clear HO336; clear HK; clear HB; clear HI0; have HO336 := n0_; have HK := n1_; have HB := n2_; have HI0 := n3_; clear n0_ n1_ n2_ n3_; (try clear hb); (try clear hb2); (try clear hk); (try clear hi); obtain ⟨Ao26, co26, eo26⟩ := Kd.R_slice HO336.out; subst eo26))
 have pi363 : (0 ≤ (t360 : Int)) = True := eq_true (of_decide_eq_true z79l)
 have qi363 : (t360 < (y357.length : Int)) = True := eq_true (of_decide_eq_true z79l)
 have pi370 : (0 ≤ (t367 : Int)) = True := eq_true (of_decide_eq_true z79l)
 have qi370 : (t367 < (y364.length : Int)) = True := eq_true (of_decide_eq_true z79l)
 have n0_ := Aside0.mk (Kd.R_drew HO336.out)
 have n1_ := Aside0.mk (IsS115.drew HI0.out)
 have n2_ := Aside0.mk (keep_drew HK.out)
 have n3_ := Aside0.mk (below_drew1 HB.out)
 clear HO336
 clear HI0
 clear HK
 clear HB
 have HO336 := n0_
 have HI0 := n1_
 have HK := n2_
 have HB := n3_
 clear n0_ n1_ n2_ n3_
 refine start_ (n := 17) (S := fun w' => True) (ds := []) #[U, U, U, U, U, U, U, U, U, U, U, U, U, U, U, U, U] (by kernel_rfl) rfl rfl trivial (fun hHeld => ?_); refine with_tabW spec_l3DrawAny.tab7 spec_l3DrawAny.bits7 (fun HT_ HW_ => ?_)
 generalize w25.drew = w27 at HO336 HI0 HK HB hHeld ⊢
 refine pure_ (i := 0) (N := some 20) (v := _) (a' := _) #[V, U, U, U, U, U, U, U, U, U, U, U, U, U, U, U, U] rfl rfl (any_of HT_.out (by kernel_rfl)) (fun _ _ _ h => h) (Or.inl ⟨by rfl, (by intro w'; go_simp; with_reducible rfl)⟩) z79k ?_
 refine pure_ (i := 4) (N := some 24) (v := _) (a' := _) #[V, U, U, U, V, U, U, U, U, U, U, U, U, U, U, U, U] rfl rfl (any_of HT_.out (by kernel_rfl)) (fun _ _ _ h => h) (Or.inl ⟨by rfl, (by intro w'; go_simp; with_reducible rfl)⟩) z79k ?_
 refine pure_ (i := 9) (N := some 29) (v := _) (a' := _) #[V, U, U, U, V, U, U, U, U, V, U, U, U, U, U, U, U] rfl rfl (any_of HT_.out (by kernel_rfl)) (fun _ _ _ h => h) (Or.inl ⟨by rfl, (by intro w'; go_simp; with_reducible rfl)⟩) z79k ?_
 refine join_ (σ := Value × Value × Addr × Value × Addr) 4 #[V, V, V, V, V, V, V, V, V, V, V, V, V, U, U, U, U] (fun s_ => [(21, s_.1), (22, .string (strOfNums y354)), (23, s_.2.1), (25, .int .i64 t360), (27, .string (rdOf ByteArray.empty y357 t360)), (28, s_.2.2.2.1), (30, .int .i64 t367), (32, .int .i64 (rd y364 t367)), (26, .pointer (some (s_.2.2.1.add (t360).toNat))), (31, .pointer (some (s_.2.2.2.2.add (t367).toNat)))]) (fun s_ w' => (Kd.R k88 88 w' w.heap.size (fun _ => True) (.slice Ao26 t334.length co26) t334) ∧ (Kd.R (Kd.int .u8) 5 w' w.heap.size (fun _ => True) s_.1 y354) ∧ (Kd.R Kd.string 9 w' w.heap.size (fun _ => True) s_.2.1 y357) ∧ (Kd.R (Kd.int .i64) 2 w' w.heap.size (fun _ => True) s_.2.2.2.1 y364) ∧ (∃ c_, (s_.2.1 : Value) = .slice (some s_.2.2.1) y357.length c_) ∧ (∃ c_, (s_.2.2.2.1 : Value) = .slice (some s_.2.2.2.2) y364.length c_) ∧ (IsS115 w0 w' g s0_0 t368 t369) ∧ (KeepBut w w' g none) ∧ (Below w0.heap.size w0 w')) ?_ ?_
 rotate_left
 {
 intro hJ1_2_3_5_7_8_10_12
 refine join_ (σ := Value × Value × Addr × Value × Addr) 5 #[V, V, V, V, V, V, V, V, V, V, V, V, U, U, U, U, U] (fun s_ => [(21, s_.1), (22, .string (strOfNums y354)), (23, s_.2.1), (25, .int .i64 t360), (27, .string (rdOf ByteArray.empty y357 t360)), (28, s_.2.2.2.1), (30, .int .i64 t367), (26, .pointer (some (s_.2.2.1.add (t360).toNat))), (31, .pointer (some (s_.2.2.2.2.add (t367).toNat)))]) (fun s_ w' => (Kd.R k88 88 w' w.heap.size (fun _ => True) (.slice Ao26 t334.length co26) t334) ∧ (Kd.R (Kd.int .u8) 5 w' w.heap.size (fun _ => True) s_.1 y354) ∧ (Kd.R Kd.string 9 w' w.heap.size (fun _ => True) s_.2.1 y357) ∧ (Kd.R (Kd.int .i64) 2 w' w.heap.size (fun _ => True) s_.2.2.2.1 y364) ∧ (∃ c_, (s_.2.1 : Value) = .slice (some s_.2.2.1) y357.length c_) ∧ (∃ c_, (s_.2.2.2.1 : Value) = .slice (some s_.2.2.2.2) y364.length c_) ∧ (IsS115 w0 w' g s0_0 t368 t369) ∧ (KeepBut w w' g none) ∧ (Below w0.heap.size w0 w')) ?_ ?_
 rotate_left
 {
 intro hJ1_2_3_5_7_8_10
 refine join_ (σ := Value × Value × Addr × Value × Addr) 5 #[V, V, V, V, V, V, V, U, V, V, V, V, V, U, U, U, U] (fun s_ => [(21, s_.1), (22, .string (strOfNums y354)), (23, s_.2.1), (25, .int .i64 t360), (28, s_.2.2.2.1), (30, .int .i64 t367), (32, .int .i64 (rd y364 t367)), (26, .pointer (some (s_.2.2.1.add (t360).toNat))), (31, .pointer (some (s_.2.2.2.2.add (t367).toNat)))]) (fun s_ w' => (Kd.R k88 88 w' w.heap.size (fun _ => True) (.slice Ao26 t334.length co26) t334) ∧ (Kd.R (Kd.int .u8) 5 w' w.heap.size (fun _ => True) s_.1 y354) ∧ (Kd.R Kd.string 9 w' w.heap.size (fun _ => True) s_.2.1 y357) ∧ (Kd.R (Kd.int .i64) 2 w' w.heap.size (fun _ => True) s_.2.2.2.1 y364) ∧ (∃ c_, (s_.2.1 : Value) = .slice (some s_.2.2.1) y357.length c_) ∧ (∃ c_, (s_.2.2.2.1 : Value) = .slice (some s_.2.2.2.2) y364.length c_) ∧ (IsS115 w0 w' g s0_0 t368 t369) ∧ (KeepBut w w' g none) ∧ (Below w0.heap.size w0 w')) ?_ ?_
 rotate_left
 {
 intro hJ1_2_3_5_8_10_12
 refine join_ (σ := Value × Value × Addr × Value × Addr) 7 #[V, V, V, V, V, V, V, V, V, V, U, U, U, U, U, U, U] (fun s_ => [(21, s_.1), (22, .string (strOfNums y354)), (23, s_.2.1), (25, .int .i64 t360), (27, .string (rdOf ByteArray.empty y357 t360)), (28, s_.2.2.2.1), (26, .pointer (some (s_.2.2.1.add (t360).toNat)))]) (fun s_ w' => (Kd.R k88 88 w' w.heap.size (fun _ => True) (.slice Ao26 t334.length co26) t334) ∧ (Kd.R (Kd.int .u8) 5 w' w.heap.size (fun _ => True) s_.1 y354) ∧ (Kd.R Kd.string 9 w' w.heap.size (fun _ => True) s_.2.1 y357) ∧ (Kd.R (Kd.int .i64) 2 w' w.heap.size (fun _ => True) s_.2.2.2.1 y364) ∧ (∃ c_, (s_.2.1 : Value) = .slice (some s_.2.2.1) y357.length c_) ∧ (∃ c_, (s_.2.2.2.1 : Value) = .slice (some s_.2.2.2.2) y364.length c_) ∧ (IsS115 w0 w' g s0_0 t361 t362) ∧ (KeepBut w w' g none) ∧ (Below w0.heap.size w0 w')) ?_ ?_
 rotate_left
 {
 intro hJ1_2_3_5_7_8
 refine join_ (σ := Value × Value × Addr) 7 #[V, V, V, V, V, V, V, V, U, V, V, U, U, U, U, U, U] (fun s_ => [(21, s_.1), (22, .string (strOfNums y354)), (23, s_.2.1), (25, .int .i64 t360), (27, .string (rdOf ByteArray.empty y357 t360)), (30, .int .i64 t367), (26, .pointer (some (s_.2.2.add (t360).toNat)))]) (fun s_ w' => (Kd.R k88 88 w' w.heap.size (fun _ => True) (.slice Ao26 t334.length co26) t334) ∧ (Kd.R (Kd.int .u8) 5 w' w.heap.size (fun _ => True) s_.1 y354) ∧ (Kd.R Kd.string 9 w' w.heap.size (fun _ => True) s_.2.1 y357) ∧ (∃ c_, (s_.2.1 : Value) = .slice (some s_.2.2) y357.length c_) ∧ (IsS115 w0 w' g s0_0 t368 t369) ∧ (KeepBut w w' g none) ∧ (Below w0.heap.size w0 w')) ?_ ?_
 rotate_left
 {
 intro hJ1_2_3_5_7_10
 refine join_ (σ := Value × Value × Addr × Value × Addr) 6 #[V, V, V, V, V, V, V, U, V, V, V, V, U, U, U, U, U] (fun s_ => [(21, s_.1), (22, .string (strOfNums y354)), (23, s_.2.1), (25, .int .i64 t360), (28, s_.2.2.2.1), (30, .int .i64 t367), (26, .pointer (some (s_.2.2.1.add (t360).toNat))), (31, .pointer (some (s_.2.2.2.2.add (t367).toNat)))]) (fun s_ w' => (Kd.R k88 88 w' w.heap.size (fun _ => True) (.slice Ao26 t334.length co26) t334) ∧ (Kd.R (Kd.int .u8) 5 w' w.heap.size (fun _ => True) s_.1 y354) ∧ (Kd.R Kd.string 9 w' w.heap.size (fun _ => True) s_.2.1 y357) ∧ (Kd.R (Kd.int .i64) 2 w' w.heap.size (fun _ => True) s_.2.2.2.1 y364) ∧ (∃ c_, (s_.2.1 : Value) = .slice (some s_.2.2.1) y357.length c_) ∧ (∃ c_, (s_.2.2.2.1 : Value) = .slice (some s_.2.2.2.2) y364.length c_) ∧ (IsS115 w0 w' g s0_0 t368 t369) ∧ (KeepBut w w' g none) ∧ (Below w0.heap.size w0 w')) ?_ ?_
 rotate_left
 {
 intro hJ1_2_3_5_8_10
 refine join_ (σ := Value × Value × Addr) 7 #[V, V, V, U, V, V, U, U, V, V, V, V, V, U, U, U, U] (fun s_ => [(21, s_.1), (22, .string (strOfNums y354)), (25, .int .i64 t360), (28, s_.2.1), (30, .int .i64 t367), (32, .int .i64 (rd y364 t367)), (31, .pointer (some (s_.2.2.add (t367).toNat)))]) (fun s_ w' => (Kd.R k88 88 w' w.heap.size (fun _ => True) (.slice Ao26 t334.length co26) t334) ∧ (Kd.R (Kd.int .u8) 5 w' w.heap.size (fun _ => True) s_.1 y354) ∧ (Kd.R (Kd.int .i64) 2 w' w.heap.size (fun _ => True) s_.2.1 y364) ∧ (∃ c_, (s_.2.1 : Value) = .slice (some s_.2.2) y364.length c_) ∧ (IsS115 w0 w' g s0_0 t368 t369) ∧ (KeepBut w w' g none) ∧ (Below w0.heap.size w0 w')) ?_ ?_
 rotate_left
 {
 intro hJ1_2_5_8_10_12
 refine join_ (σ := Value × Value × Addr) 8 #[V, V, V, V, V, V, V, V, U, V, U, U, U, U, U, U, U] (fun s_ => [(21, s_.1), (22, .string (strOfNums y354)), (23, s_.2.1), (25, .int .i64 t360), (27, .string (rdOf ByteArray.empty y357 t360)), (26, .pointer (some (s_.2.2.add (t360).toNat)))]) (fun s_ w' => (Kd.R k88 88 w' w.heap.size (fun _ => True) (.slice Ao26 t334.length co26) t334) ∧ (Kd.R (Kd.int .u8) 5 w' w.heap.size (fun _ => True) s_.1 y354) ∧ (Kd.R Kd.string 9 w' w.heap.size (fun _ => True) s_.2.1 y357) ∧ (∃ c_, (s_.2.1 : Value) = .slice (some s_.2.2) y357.length c_) ∧ (IsS115 w0 w' g s0_0 t361 t362) ∧ (KeepBut w w' g none) ∧ (Below w0.heap.size w0 w')) ?_ ?_
 rotate_left
 {
 intro hJ1_2_3_5_7
 refine join_ (σ := Value × Value × Addr × Value × Addr) 8 #[V, V, V, V, V, V, V, U, V, V, U, U, U, U, U, U, U] (fun s_ => [(21, s_.1), (22, .string (strOfNums y354)), (23, s_.2.1), (25, .int .i64 t360), (28, s_.2.2.2.1), (26, .pointer (some (s_.2.2.1.add (t360).toNat)))]) (fun s_ w' => (Kd.R k88 88 w' w.heap.size (fun _ => True) (.slice Ao26 t334.length co26) t334) ∧ (Kd.R (Kd.int .u8) 5 w' w.heap.size (fun _ => True) s_.1 y354) ∧ (Kd.R Kd.string 9 w' w.heap.size (fun _ => True) s_.2.1 y357) ∧ (Kd.R (Kd.int .i64) 2 w' w.heap.size (fun _ => True) s_.2.2.2.1 y364) ∧ (∃ c_, (s_.2.1 : Value) = .slice (some s_.2.2.1) y357.length c_) ∧ (∃ c_, (s_.2.2.2.1 : Value) = .slice (some s_.2.2.2.2) y364.length c_) ∧ (IsS115 w0 w' g s0_0 t361 t362) ∧ (KeepBut w w' g none) ∧ (Below w0.heap.size w0 w')) ?_ ?_
 rotate_left
 {
 intro hJ1_2_3_5_8
 refine join_ (σ := Value × Value × Addr) 8 #[V, V, V, V, V, V, V, U, U, V, V, U, U, U, U, U, U] (fun s_ => [(21, s_.1), (22, .string (strOfNums y354)), (23, s_.2.1), (25, .int .i64 t360), (30, .int .i64 t367), (26, .pointer (some (s_.2.2.add (t360).toNat)))]) (fun s_ w' => (Kd.R k88 88 w' w.heap.size (fun _ => True) (.slice Ao26 t334.length co26) t334) ∧ (Kd.R (Kd.int .u8) 5 w' w.heap.size (fun _ => True) s_.1 y354) ∧ (Kd.R Kd.string 9 w' w.heap.size (fun _ => True) s_.2.1 y357) ∧ (∃ c_, (s_.2.1 : Value) = .slice (some s_.2.2) y357.length c_) ∧ (IsS115 w0 w' g s0_0 t368 t369) ∧ (KeepBut w w' g none) ∧ (Below w0.heap.size w0 w')) ?_ ?_
 rotate_left
 {
 intro hJ1_2_3_5_10
 refine join_ (σ := Value × Value × Addr) 8 #[V, V, V, U, V, V, U, U, V, V, V, V, U, U, U, U, U] (fun s_ => [(21, s_.1), (22, .string (strOfNums y354)), (25, .int .i64 t360), (28, s_.2.1), (30, .int .i64 t367), (31, .pointer (some (s_.2.2.add (t367).toNat)))]) (fun s_ w' => (Kd.R k88 88 w' w.heap.size (fun _ => True) (.slice Ao26 t334.length co26) t334) ∧ (Kd.R (Kd.int .u8) 5 w' w.heap.size (fun _ => True) s_.1 y354) ∧ (Kd.R (Kd.int .i64) 2 w' w.heap.size (fun _ => True) s_.2.1 y364) ∧ (∃ c_, (s_.2.1 : Value) = .slice (some s_.2.2) y364.length c_) ∧ (IsS115 w0 w' g s0_0 t368 t369) ∧ (KeepBut w w' g none) ∧ (Below w0.heap.size w0 w')) ?_ ?_
 rotate_left
 {
 intro hJ1_2_5_8_10
 refine join_ (σ := Value × Value × Addr) 8 #[V, V, U, U, V, V, U, U, V, V, V, V, V, U, U, U, U] (fun s_ => [(21, s_.1), (25, .int .i64 t360), (28, s_.2.1), (30, .int .i64 t367), (32, .int .i64 (rd y364 t367)), (31, .pointer (some (s_.2.2.add (t367).toNat)))]) (fun s_ w' => (Kd.R k88 88 w' w.heap.size (fun _ => True) (.slice Ao26 t334.length co26) t334) ∧ (Kd.R (Kd.int .u8) 5 w' w.heap.size (fun _ => True) s_.1 y354) ∧ (Kd.R (Kd.int .i64) 2 w' w.heap.size (fun _ => True) s_.2.1 y364) ∧ (∃ c_, (s_.2.1 : Value) = .slice (some s_.2.2) y364.length c_) ∧ (IsS115 w0 w' g s0_0 t368 t369) ∧ (KeepBut w w' g none) ∧ (Below w0.heap.size w0 w')) ?_ ?_
 rotate_left
 {
 intro hJ1_5_8_10_12
 refine join_ (σ := Value × Value × Addr) 9 #[V, V, V, V, V, V, V, U, U, V, U, U, U, U, U, U, U] (fun s_ => [(21, s_.1), (22, .string (strOfNums y354)), (23, s_.2.1), (25, .int .i64 t360), (26, .pointer (some (s_.2.2.add (t360).toNat)))]) (fun s_ w' => (Kd.R k88 88 w' w.heap.size (fun _ => True) (.slice Ao26 t334.length co26) t334) ∧ (Kd.R (Kd.int .u8) 5 w' w.heap.size (fun _ => True) s_.1 y354) ∧ (Kd.R Kd.string 9 w' w.heap.size (fun _ => True) s_.2.1 y357) ∧ (∃ c_, (s_.2.1 : Value) = .slice (some s_.2.2) y357.length c_) ∧ (IsS115 w0 w' g s0_0 t361 t362) ∧ (KeepBut w w' g none) ∧ (Below w0.heap.size w0 w')) ?_ ?_
 rotate_left
 {
 intro hJ1_2_3_5
 refine join_ (σ := Value × Value × Addr × Value × Addr) 10 #[V, V, V, V, V, U, U, U, V, V, U, U, U, U, U, U, U] (fun s_ => [(21, s_.1), (22, .string (strOfNums y354)), (23, s_.2.1), (28, s_.2.2.2.1)]) (fun s_ w' => (Kd.R k88 88 w' w.heap.size (fun _ => True) (.slice Ao26 t334.length co26) t334) ∧ (Kd.R (Kd.int .u8) 5 w' w.heap.size (fun _ => True) s_.1 y354) ∧ (Kd.R Kd.string 9 w' w.heap.size (fun _ => True) s_.2.1 y357) ∧ (Kd.R (Kd.int .i64) 2 w' w.heap.size (fun _ => True) s_.2.2.2.1 y364) ∧ (∃ c_, (s_.2.1 : Value) = .slice (some s_.2.2.1) y357.length c_) ∧ (∃ c_, (s_.2.2.2.1 : Value) = .slice (some s_.2.2.2.2) y364.length c_) ∧ (IsS115 w0 w' g s0_0 t343 t344) ∧ (KeepBut w w' g none) ∧ (Below w0.heap.size w0 w')) ?_ ?_
 rotate_left
 {
 intro hJ1_2_3_8
 refine join_ (σ := Value × Value × Addr) 10 #[V, V, V, U, V, V, U, U, V, V, U, U, U, U, U, U, U] (fun s_ => [(21, s_.1), (22, .string (strOfNums y354)), (25, .int .i64 t360), (28, s_.2.1)]) (fun s_ w' => (Kd.R k88 88 w' w.heap.size (fun _ => True) (.slice Ao26 t334.length co26) t334) ∧ (Kd.R (Kd.int .u8) 5 w' w.heap.size (fun _ => True) s_.1 y354) ∧ (Kd.R (Kd.int .i64) 2 w' w.heap.size (fun _ => True) s_.2.1 y364) ∧ (∃ c_, (s_.2.1 : Value) = .slice (some s_.2.2) y364.length c_) ∧ (IsS115 w0 w' g s0_0 t361 t362) ∧ (KeepBut w w' g none) ∧ (Below w0.heap.size w0 w')) ?_ ?_
 rotate_left
 {
 intro hJ1_2_5_8
 refine join_ (σ := Value) 10 #[V, V, V, U, V, V, U, U, U, V, V, U, U, U, U, U, U] (fun s_ => [(21, s_), (22, .string (strOfNums y354)), (25, .int .i64 t360), (30, .int .i64 t367)]) (fun s_ w' => (Kd.R k88 88 w' w.heap.size (fun _ => True) (.slice Ao26 t334.length co26) t334) ∧ (Kd.R (Kd.int .u8) 5 w' w.heap.size (fun _ => True) s_ y354) ∧ (IsS115 w0 w' g s0_0 t368 t369) ∧ (KeepBut w w' g none) ∧ (Below w0.heap.size w0 w')) ?_ ?_
 rotate_left
 {
 intro hJ1_2_5_10
 refine join_ (σ := Value × Value × Addr) 9 #[V, V, U, U, V, V, U, U, V, V, V, V, U, U, U, U, U] (fun s_ => [(21, s_.1), (25, .int .i64 t360), (28, s_.2.1), (30, .int .i64 t367), (31, .pointer (some (s_.2.2.add (t367).toNat)))]) (fun s_ w' => (Kd.R k88 88 w' w.heap.size (fun _ => True) (.slice Ao26 t334.length co26) t334) ∧ (Kd.R (Kd.int .u8) 5 w' w.heap.size (fun _ => True) s_.1 y354) ∧ (Kd.R (Kd.int .i64) 2 w' w.heap.size (fun _ => True) s_.2.1 y364) ∧ (∃ c_, (s_.2.1 : Value) = .slice (some s_.2.2) y364.length c_) ∧ (IsS115 w0 w' g s0_0 t368 t369) ∧ (KeepBut w w' g none) ∧ (Below w0.heap.size w0 w')) ?_ ?_
 rotate_left
 {
 intro hJ1_5_8_10
 refine join_ (σ := Value × Addr) 9 #[V, U, U, U, V, V, U, U, V, V, V, V, V, U, U, U, U] (fun s_ => [(25, .int .i64 t360), (28, s_.1), (30, .int .i64 t367), (32, .int .i64 (rd y364 t367)), (31, .pointer (some (s_.2.add (t367).toNat)))]) (fun s_ w' => (Kd.R k88 88 w' w.heap.size (fun _ => True) (.slice Ao26 t334.length co26) t334) ∧ (Kd.R (Kd.int .i64) 2 w' w.heap.size (fun _ => True) s_.1 y364) ∧ (∃ c_, (s_.1 : Value) = .slice (some s_.2) y364.length c_) ∧ (IsS115 w0 w' g s0_0 t368 t369) ∧ (KeepBut w w' g none) ∧ (Below w0.heap.size w0 w')) ?_ ?_
 rotate_left
 {
 intro hJ5_8_10_12
 refine join_ (σ := Value × Value × Addr) 11 #[V, V, V, V, V, U, U, U, U, V, U, U, U, U, U, U, U] (fun s_ => [(21, s_.1), (22, .string (strOfNums y354)), (23, s_.2.1)]) (fun s_ w' => (Kd.R k88 88 w' w.heap.size (fun _ => True) (.slice Ao26 t334.length co26) t334) ∧ (Kd.R (Kd.int .u8) 5 w' w.heap.size (fun _ => True) s_.1 y354) ∧ (Kd.R Kd.string 9 w' w.heap.size (fun _ => True) s_.2.1 y357) ∧ (∃ c_, (s_.2.1 : Value) = .slice (some s_.2.2) y357.length c_) ∧ (IsS115 w0 w' g s0_0 t343 t344) ∧ (KeepBut w w' g none) ∧ (Below w0.heap.size w0 w')) ?_ ?_
 rotate_left
 {
 intro hJ1_2_3
 refine join_ (σ := Value) 11 #[V, V, V, U, V, V, U, U, U, V, U, U, U, U, U, U, U] (fun s_ => [(21, s_), (22, .string (strOfNums y354)), (25, .int .i64 t360)]) (fun s_ w' => (Kd.R k88 88 w' w.heap.size (fun _ => True) (.slice Ao26 t334.length co26) t334) ∧ (Kd.R (Kd.int .u8) 5 w' w.heap.size (fun _ => True) s_ y354) ∧ (IsS115 w0 w' g s0_0 t361 t362) ∧ (KeepBut w w' g none) ∧ (Below w0.heap.size w0 w')) ?_ ?_
 rotate_left
 {
 intro hJ1_2_5
 refine join_ (σ := Value × Value × Addr) 11 #[V, V, V, U, V, U, U, U, V, V, U, U, U, U, U, U, U] (fun s_ => [(21, s_.1), (22, .string (strOfNums y354)), (28, s_.2.1)]) (fun s_ w' => (Kd.R k88 88 w' w.heap.size (fun _ => True) (.slice Ao26 t334.length co26) t334) ∧ (Kd.R (Kd.int .u8) 5 w' w.heap.size (fun _ => True) s_.1 y354) ∧ (Kd.R (Kd.int .i64) 2 w' w.heap.size (fun _ => True) s_.2.1 y364) ∧ (∃ c_, (s_.2.1 : Value) = .slice (some s_.2.2) y364.length c_) ∧ (IsS115 w0 w' g s0_0 t343 t344) ∧ (KeepBut w w' g none) ∧ (Below w0.heap.size w0 w')) ?_ ?_
 rotate_left
 {
 intro hJ1_2_8
 refine join_ (σ := Value × Value × Addr) 11 #[V, V, U, U, V, V, U, U, V, V, U, U, U, U, U, U, U] (fun s_ => [(21, s_.1), (25, .int .i64 t360), (28, s_.2.1)]) (fun s_ w' => (Kd.R k88 88 w' w.heap.size (fun _ => True) (.slice Ao26 t334.length co26) t334) ∧ (Kd.R (Kd.int .u8) 5 w' w.heap.size (fun _ => True) s_.1 y354) ∧ (Kd.R (Kd.int .i64) 2 w' w.heap.size (fun _ => True) s_.2.1 y364) ∧ (∃ c_, (s_.2.1 : Value) = .slice (some s_.2.2) y364.length c_) ∧ (IsS115 w0 w' g s0_0 t361 t362) ∧ (KeepBut w w' g none) ∧ (Below w0.heap.size w0 w')) ?_ ?_
 rotate_left
 {
 intro hJ1_5_8
 refine join_ (σ := Value) 11 #[V, V, U, U, V, V, U, U, U, V, V, U, U, U, U, U, U] (fun s_ => [(21, s_), (25, .int .i64 t360), (30, .int .i64 t367)]) (fun s_ w' => (Kd.R k88 88 w' w.heap.size (fun _ => True) (.slice Ao26 t334.length co26) t334) ∧ (Kd.R (Kd.int .u8) 5 w' w.heap.size (fun _ => True) s_ y354) ∧ (IsS115 w0 w' g s0_0 t368 t369) ∧ (KeepBut w w' g none) ∧ (Below w0.heap.size w0 w')) ?_ ?_
 rotate_left
 {
 intro hJ1_5_10
 refine join_ (σ := Value × Addr) 10 #[V, U, U, U, V, V, U, U, V, V, V, V, U, U, U, U, U] (fun s_ => [(25, .int .i64 t360), (28, s_.1), (30, .int .i64 t367), (31, .pointer (some (s_.2.add (t367).toNat)))]) (fun s_ w' => (Kd.R k88 88 w' w.heap.size (fun _ => True) (.slice Ao26 t334.length co26) t334) ∧ (Kd.R (Kd.int .i64) 2 w' w.heap.size (fun _ => True) s_.1 y364) ∧ (∃ c_, (s_.1 : Value) = .slice (some s_.2) y364.length c_) ∧ (IsS115 w0 w' g s0_0 t368 t369) ∧ (KeepBut w w' g none) ∧ (Below w0.heap.size w0 w')) ?_ ?_
 rotate_left
 {
 intro hJ5_8_10
 refine join_ (σ := Value) 12 #[V, V, V, U, V, U, U, U, U, V, U, U, U, U, U, U, U] (fun s_ => [(21, s_), (22, .string (strOfNums y354))]) (fun s_ w' => (Kd.R k88 88 w' w.heap.size (fun _ => True) (.slice Ao26 t334.length co26) t334) ∧ (Kd.R (Kd.int .u8) 5 w' w.heap.size (fun _ => True) s_ y354) ∧ (IsS115 w0 w' g s0_0 t343 t344) ∧ (KeepBut w w' g none) ∧ (Below w0.heap.size w0 w')) ?_ ?_
 rotate_left
 {
 intro hJ1_2
 refine join_ (σ := Value) 12 #[V, V, U, U, V, V, U, U, U, V, U, U, U, U, U, U, U] (fun s_ => [(21, s_), (25, .int .i64 t360)]) (fun s_ w' => (Kd.R k88 88 w' w.heap.size (fun _ => True) (.slice Ao26 t334.length co26) t334) ∧ (Kd.R (Kd.int .u8) 5 w' w.heap.size (fun _ => True) s_ y354) ∧ (IsS115 w0 w' g s0_0 t361 t362) ∧ (KeepBut w w' g none) ∧ (Below w0.heap.size w0 w')) ?_ ?_
 rotate_left
 {
 intro hJ1_5
 refine join_ (σ := Value × Value × Addr) 12 #[V, V, U, U, V, U, U, U, V, V, U, U, U, U, U, U, U] (fun s_ => [(21, s_.1), (28, s_.2.1)]) (fun s_ w' => (Kd.R k88 88 w' w.heap.size (fun _ => True) (.slice Ao26 t334.length co26) t334) ∧ (Kd.R (Kd.int .u8) 5 w' w.heap.size (fun _ => True) s_.1 y354) ∧ (Kd.R (Kd.int .i64) 2 w' w.heap.size (fun _ => True) s_.2.1 y364) ∧ (∃ c_, (s_.2.1 : Value) = .slice (some s_.2.2) y364.length c_) ∧ (IsS115 w0 w' g s0_0 t343 t344) ∧ (KeepBut w w' g none) ∧ (Below w0.heap.size w0 w')) ?_ ?_
 rotate_left
 {
 intro hJ1_8
 refine join_ (σ := Value × Addr) 12 #[V, U, U, U, V, V, U, U, V, V, U, U, U, U, U, U, U] (fun s_ => [(25, .int .i64 t360), (28, s_.1)]) (fun s_ w' => (Kd.R k88 88 w' w.heap.size (fun _ => True) (.slice Ao26 t334.length co26) t334) ∧ (Kd.R (Kd.int .i64) 2 w' w.heap.size (fun _ => True) s_.1 y364) ∧ (∃ c_, (s_.1 : Value) = .slice (some s_.2) y364.length c_) ∧ (IsS115 w0 w' g s0_0 t361 t362) ∧ (KeepBut w w' g none) ∧ (Below w0.heap.size w0 w')) ?_ ?_
 rotate_left
 {
 intro hJ5_8
 refine join_ (σ := Unit) 12 #[V, U, U, U, V, V, U, U, U, V, V, U, U, U, U, U, U] (fun s_ => [(25, .int .i64 t360), (30, .int .i64 t367)]) (fun s_ w' => (Kd.R k88 88 w' w.heap.size (fun _ => True) (.slice Ao26 t334.length co26) t334) ∧ (IsS115 w0 w' g s0_0 t368 t369) ∧ (KeepBut w w' g none) ∧ (Below w0.heap.size w0 w')) ?_ ?_
 rotate_left
 {
 intro hJ5_10
 refine join_ (σ := Value) 13 #[V, V, U, U, V, U, U, U, U, V, U, U, U, U, U, U, U] (fun s_ => [(21, s_)]) (fun s_ w' => (Kd.R k88 88 w' w.heap.size (fun _ => True) (.slice Ao26 t334.length co26) t334) ∧ (Kd.R (Kd.int .u8) 5 w' w.heap.size (fun _ => True) s_ y354) ∧ (IsS115 w0 w' g s0_0 t343 t344) ∧ (KeepBut w w' g none) ∧ (Below w0.heap.size w0 w')) ?_ ?_
 rotate_left
 {
 intro hJ1
 refine join_ (σ := Unit) 13 #[V, U, U, U, V, V, U, U, U, V, U, U, U, U, U, U, U] (fun s_ => [(25, .int .i64 t360)]) (fun s_ w' => (Kd.R k88 88 w' w.heap.size (fun _ => True) (.slice Ao26 t334.length co26) t334) ∧ (IsS115 w0 w' g s0_0 t361 t362) ∧ (KeepBut w w' g none) ∧ (Below w0.heap.size w0 w')) ?_ ?_
 rotate_left
 {
 intro hJ5
 refine join_ (σ := Value × Addr) 13 #[V, U, U, U, V, U, U, U, V, V, U, U, U, U, U, U, U] (fun s_ => [(28, s_.1)]) (fun s_ w' => (Kd.R k88 88 w' w.heap.size (fun _ => True) (.slice Ao26 t334.length co26) t334) ∧ (Kd.R (Kd.int .i64) 2 w' w.heap.size (fun _ => True) s_.1 y364) ∧ (∃ c_, (s_.1 : Value) = .slice (some s_.2) y364.length c_) ∧ (IsS115 w0 w' g s0_0 t343 t344) ∧ (KeepBut w w' g none) ∧ (Below w0.heap.size w0 w')) ?_ ?_
 rotate_left
 {
 intro hJ8
 refine three_ (i := 1) (j := 5) (k := 8) (Ni := some 21) (Nj := some 25) (Nk := some 28) #[V, V, U, U, V, U, U, U, U, V, U, U, U, U, U, U, U] #[V, U, U, U, V, V, U, U, U, V, U, U, U, U, U, U, U] #[V, U, U, U, V, U, U, U, V, V, U, U, U, U, U, U, U] rfl rfl rfl rfl rfl rfl (three_of HT_.out (by kernel_rfl)) (by decide) (by decide) (by decide) (fun K hK => ?_) (fun K hK => ?_) (fun K hK => ?_)
 {
 skip
 refine Kd.R_make_step (Kd.int .u8) _ 5 (by rfl) (N := 21) rfl 59 _ _ rfl 41 rfl rfl Try.underlying59 (.int .u8 0) 1 info5 rfl (by decide) (by omega) 0 (ok := fun _ => True) (okp := fun _ => True) rfl (fun _ hk => hk) trivial (by omega) (by omega) (Below.refl _ _) (Nat.le_refl _) ?_
 intro v355 w28 ho29 hb hg_ hnew_
 clear hg_ hnew_
 (first | rw [← Ny354.out] at ho29 | (simp only [Int.reduceToNat] at ho29; rw [← Ny354.out] at ho29))
 have n0_ := Aside0.mk (Kd.R_below z79d hb)
 have n1_ := Aside0.mk (Kd.R_lower ho29 (keep_size (w := w) (g := g) (row := none) z79b))
 have n2_ := Aside0.mk (IsS115.below z79a hb)
 have n3_ := Aside0.mk (KeepBut.trans z79b (KeepBut.of_below hb g none) (.inl rfl))
 have n4_ := Aside0.mk (below_step z79c hb)
 clear HO336
 clear HI0
 clear HK
 clear HB
 have HO336 := n0_
 have HO356 := n1_
 have HI0 := n2_
 have HK := n3_
 have HB := n4_
 clear n0_ n1_ n2_ n3_ n4_
 clear hb ho29
 refine hK.out _ _ trivial (fun hHeld => ?_)
 clear hK K
 refine norm_ (a' := ?_) ?_ ?_
 rotate_left
 {
 show Act.put _ (some 21) _ = _
 simp only [Act.put, List.setIfInBounds_toArray, List.set_cons_zero, List.set_cons_succ, i64_w, i32_w]
 rfl
 }
 exact norm_ z79e (hJ1 (v355) _ ⟨z79d, z79f, z79a, z79b, z79c⟩)
 }
 {
 skip
 refine goes_ Try.func102 (by kernel_rfl) rfl #[.pointer (some ⟨g, 0, none⟩), .int .i64 3] (by rfl) rfl rfl z79h ?_
 with_reducible refine (spec_l1Below.calls g s0_0 t343 t344 3 t360 t361 t362 w0 _ ?side1 ?side2 A16.out).mono ?_
 (case side1 => exact z79a)
 (case side2 => exact z79c)
 rintro e w28 ⟨rfl, hi, hb, hk⟩
 refine ⟨_, rfl, ?_⟩
 have n0_ := Aside0.mk (Kd.R_mono (Kd.R_keep (IsS115.apart (show IsS115 w0 _ g s0_0 t343 t344 from z79a) z79d (by decide)) hk (fun _ h => h.2)) (fun _ h => h.1))
 have n1_ := Aside0.mk (KeepBut.trans z79b hk (.inl rfl))
 have n2_ := Aside0.mk (hb)
 have n3_ := Aside0.mk (hi)
 clear HO336
 clear HK
 clear HB
 clear HI0
 have HO336 := n0_
 have HK := n1_
 have HB := n2_
 have HI0 := n3_
 clear n0_ n1_ n2_ n3_
 (try clear hb)
 (try clear hb2)
 (try clear hk)
 (try clear hi)
 refine hK.out _ _ trivial (fun hHeld => ?_)
 clear hK K
 refine norm_ (a' := ?_) ?_ ?_
 rotate_left
 {
 show Act.put _ (some 25) _ = _
 simp only [Act.put, List.setIfInBounds_toArray, List.set_cons_zero, List.set_cons_succ, i64_w, i32_w]
 rfl
 }
 exact norm_ z79e (hJ5 () _ ⟨z79d, z79a, z79b, z79c⟩)
 }
 {
 skip
 refine Kd.R_lit_step (Kd.int .i64) _ 2 ?hg (N := 28) ?hd (xs := ([0, 1, 1000000, 1000001] : List Int)) (inner := [.int .i64 0, .int .i64 1, .int .i64 1000000, .int .i64 1000001]) (ok := fun _ => True) (okp := fun _ => True) ?hr ?hp (fun _ hk => hk) trivial (Below.refl _ _) (Nat.le_refl _) (by simp) ?_; (case hd => rfl); (case hg => rfl); (case hr => first | (go_simp; done) | (go_simp; rfl)); (case hp => exact (Reps.one (show Kd.M (Kd.int .i64) _ _ _ 0 [.int .i64 0] from rfl) (Reps.one (show Kd.M (Kd.int .i64) _ _ _ 1 [.int .i64 1] from rfl) (Reps.one (show Kd.M (Kd.int .i64) _ _ _ 1000000 [.int .i64 1000000] from rfl) (Reps.one (show Kd.M (Kd.int .i64) _ _ _ 1000001 [.int .i64 1000001] from rfl) (Reps.none _ _))))))
 intro v365 w28 ho29 hb hg_ hnew_
 clear hg_ hnew_
 (first | rw [← Ny364.out] at ho29 | (simp only [Int.reduceToNat] at ho29; rw [← Ny364.out] at ho29))
 have n0_ := Aside0.mk (Kd.R_below z79d hb)
 have n1_ := Aside0.mk (Kd.R_lower ho29 (keep_size (w := w) (g := g) (row := none) z79b))
 have n2_ := Aside0.mk (IsS115.below z79a hb)
 have n3_ := Aside0.mk (KeepBut.trans z79b (KeepBut.of_below hb g none) (.inl rfl))
 have n4_ := Aside0.mk (below_step z79c hb)
 clear HO336
 clear HI0
 clear HK
 clear HB
 have HO336 := n0_
 have HO366 := n1_
 have HI0 := n2_
 have HK := n3_
 have HB := n4_
 clear n0_ n1_ n2_ n3_ n4_
 clear hb ho29
 obtain ⟨Ao30, co30, eo30⟩ := Kd.R_slice HO366.out
 subst eo30
 obtain ⟨ado30, fo30, _⟩ := Kd.at_int (Kd.R_reads' HO366.out).2.2 0 (by decide) (by rw [Ny364.out]; simp)
 cases fo30
 refine hK.out _ _ trivial (fun hHeld => ?_)
 clear hK K
 refine norm_ (a' := ?_) ?_ ?_
 rotate_left
 {
 show Act.put _ (some 28) _ = _
 simp only [Act.put, List.setIfInBounds_toArray, List.set_cons_zero, List.set_cons_succ, i64_w, i32_w]
 rfl
 }
 exact norm_ z79e (hJ8 (.slice (some ado30) y364.length co30, ado30) _ ⟨z79d, z79g, ⟨_, rfl⟩, z79a, z79b, z79c⟩)
 }
 }
 {
 skip
 rintro ⟨v365, adz_v365⟩ w31 ⟨h0_, h1_, h2_, h3_, h4_, h5_⟩
 have n0_ : Aside0 (Kd.R k88 88 w31 w.heap.size (fun _ => True) (.slice Ao26 t334.length co26) t334) := ⟨h0_⟩
 have n1_ : Aside0 (Kd.R (Kd.int .i64) 2 w31 w.heap.size (fun _ => True) v365 y364) := ⟨h1_⟩
 have n2_ : Aside0 (∃ c_, (v365 : Value) = .slice (some adz_v365) y364.length c_) := ⟨h2_⟩
 have n3_ : Aside0 (IsS115 w0 w31 g s0_0 t343 t344) := ⟨h3_⟩
 have n4_ : Aside0 (KeepBut w w31 g none) := ⟨h4_⟩
 have n5_ : Aside0 (Below w0.heap.size w0 w31) := ⟨h5_⟩
 clear HO336
 clear HI0
 clear HK
 clear HB
 clear h0_ h1_ h2_ h3_ h4_ h5_
 have HO336 := n0_
 have HO366 := n1_
 have HA_HO366 := n2_
 have HI0 := n3_
 have HK := n4_
 have HB := n5_
 clear n0_ n1_ n2_ n3_ n4_ n5_
 have hHeld := trivial
 obtain ⟨co32, eo32⟩ := HA_HO366.out
 clear HA_HO366
 subst eo32
 refine norm_ (a' := ?_) ?_ ?_
 rotate_left
 exact z79j
 refine two_ (i := 1) (j := 5) (Ni := some 21) (Nj := some 25) #[V, V, U, U, V, U, U, U, V, V, U, U, U, U, U, U, U] #[V, U, U, U, V, V, U, U, V, V, U, U, U, U, U, U, U] rfl rfl rfl rfl (two_of HT_.out (by kernel_rfl)) (by decide) (by decide) (fun K hK => ?_) (fun K hK => ?_)
 {
 skip
 refine Kd.R_make_step (Kd.int .u8) _ 5 (by rfl) (N := 21) rfl 59 _ _ rfl 41 rfl rfl Try.underlying59 (.int .u8 0) 1 info5 rfl (by decide) (by omega) 0 (ok := fun _ => True) (okp := fun _ => True) rfl (fun _ hk => hk) trivial (by omega) (by omega) (Below.refl _ _) (Nat.le_refl _) ?_
 intro v355 w33 ho34 hb hg_ hnew_
 clear hg_ hnew_
 (first | rw [← Ny354.out] at ho34 | (simp only [Int.reduceToNat] at ho34; rw [← Ny354.out] at ho34))
 have n0_ := Aside0.mk (Kd.R_below z79d hb)
 have n1_ := Aside0.mk (Kd.R_below z79g hb)
 have n2_ := Aside0.mk (Kd.R_lower ho34 (keep_size (w := w) (g := g) (row := none) z79b))
 have n3_ := Aside0.mk (IsS115.below z79a hb)
 have n4_ := Aside0.mk (KeepBut.trans z79b (KeepBut.of_below hb g none) (.inl rfl))
 have n5_ := Aside0.mk (below_step z79c hb)
 clear HO336
 clear HO366
 clear HI0
 clear HK
 clear HB
 have HO336 := n0_
 have HO366 := n1_
 have HO356 := n2_
 have HI0 := n3_
 have HK := n4_
 have HB := n5_
 clear n0_ n1_ n2_ n3_ n4_ n5_
 clear hb ho34
 refine hK.out _ _ trivial (fun hHeld => ?_)
 clear hK K
 refine norm_ (a' := ?_) ?_ ?_
 rotate_left
 {
 show Act.put _ (some 21) _ = _
 simp only [Act.put, List.setIfInBounds_toArray, List.set_cons_zero, List.set_cons_succ, i64_w, i32_w]
 rfl
 }
 exact norm_ z79e (hJ1_8 (v355, .slice (some adz_v365) y364.length co32, adz_v365) _ ⟨z79d, z79f, z79g, ⟨_, rfl⟩, z79a, z79b, z79c⟩)
 }
 {
 skip
 refine goes_ Try.func102 (by kernel_rfl) rfl #[.pointer (some ⟨g, 0, none⟩), .int .i64 3] (by rfl) rfl rfl z79h ?_
 with_reducible refine (spec_l1Below.calls g s0_0 t343 t344 3 t360 t361 t362 w0 _ ?side1 ?side2 A16.out).mono ?_
 (case side1 => exact z79a)
 (case side2 => exact z79c)
 rintro e w33 ⟨rfl, hi, hb, hk⟩
 refine ⟨_, rfl, ?_⟩
 have n0_ := Aside0.mk (Kd.R_mono (Kd.R_keep (IsS115.apart (show IsS115 w0 _ g s0_0 t343 t344 from z79a) z79d (by decide)) hk (fun _ h => h.2)) (fun _ h => h.1))
 have n1_ := Aside0.mk (Kd.R_mono (Kd.R_keep (IsS115.apart (show IsS115 w0 _ g s0_0 t343 t344 from z79a) z79g (by decide)) hk (fun _ h => h.2)) (fun _ h => h.1))
 have n2_ := Aside0.mk (KeepBut.trans z79b hk (.inl rfl))
 have n3_ := Aside0.mk (hb)
 have n4_ := Aside0.mk (hi)
 clear HO336
 clear HO366
 clear HK
 clear HB
 clear HI0
 have HO336 := n0_
 have HO366 := n1_
 have HK := n2_
 have HB := n3_
 have HI0 := n4_
 clear n0_ n1_ n2_ n3_ n4_
 (try clear hb)
 (try clear hb2)
 (try clear hk)
 (try clear hi)
 refine hK.out _ _ trivial (fun hHeld => ?_)
 clear hK K
 refine norm_ (a' := ?_) ?_ ?_
 rotate_left
 {
 show Act.put _ (some 25) _ = _
 simp only [Act.put, List.setIfInBounds_toArray, List.set_cons_zero, List.set_cons_succ, i64_w, i32_w]
 rfl
 }
 exact norm_ z79e (hJ5_8 (.slice (some adz_v365) y364.length co32, adz_v365) _ ⟨z79d, z79g, ⟨_, rfl⟩, z79a, z79b, z79c⟩)
 }
 }
 }
 {
 skip
 rintro _ w29 ⟨h0_, h1_, h2_, h3_⟩
 have n0_ : Aside0 (Kd.R k88 88 w29 w.heap.size (fun _ => True) (.slice Ao26 t334.length co26) t334) := ⟨h0_⟩
 have n1_ : Aside0 (IsS115 w0 w29 g s0_0 t361 t362) := ⟨h1_⟩
 have n2_ : Aside0 (KeepBut w w29 g none) := ⟨h2_⟩
 have n3_ : Aside0 (Below w0.heap.size w0 w29) := ⟨h3_⟩
 clear HO336
 clear HI0
 clear HK
 clear HB
 clear h0_ h1_ h2_ h3_
 have HO336 := n0_
 have HI0 := n1_
 have HK := n2_
 have HB := n3_
 clear n0_ n1_ n2_ n3_
 have hHeld := trivial
 refine norm_ (a' := ?_) ?_ ?_
 rotate_left
 exact z79j
 refine three_ (i := 1) (j := 8) (k := 10) (Ni := some 21) (Nj := some 28) (Nk := some 30) #[V, V, U, U, V, V, U, U, U, V, U, U, U, U, U, U, U] #[V, U, U, U, V, V, U, U, V, V, U, U, U, U, U, U, U] #[V, U, U, U, V, V, U, U, U, V, V, U, U, U, U, U, U] rfl rfl rfl rfl rfl rfl (three_of HT_.out (by kernel_rfl)) (by decide) (by decide) (by decide) (fun K hK => ?_) (fun K hK => ?_) (fun K hK => ?_)
 {
 skip
 refine Kd.R_make_step (Kd.int .u8) _ 5 (by rfl) (N := 21) rfl 59 _ _ rfl 41 rfl rfl Try.underlying59 (.int .u8 0) 1 info5 rfl (by decide) (by omega) 0 (ok := fun _ => True) (okp := fun _ => True) rfl (fun _ hk => hk) trivial (by omega) (by omega) (Below.refl _ _) (Nat.le_refl _) ?_
 intro v355 w30 ho31 hb hg_ hnew_
 clear hg_ hnew_
 (first | rw [← Ny354.out] at ho31 | (simp only [Int.reduceToNat] at ho31; rw [← Ny354.out] at ho31))
 have n0_ := Aside0.mk (Kd.R_below z79d hb)
 have n1_ := Aside0.mk (Kd.R_lower ho31 (keep_size (w := w) (g := g) (row := none) z79b))
 have n2_ := Aside0.mk (IsS115.below z79a hb)
 have n3_ := Aside0.mk (KeepBut.trans z79b (KeepBut.of_below hb g none) (.inl rfl))
 have n4_ := Aside0.mk (below_step z79c hb)
 clear HO336
 clear HI0
 clear HK
 clear HB
 have HO336 := n0_
 have HO356 := n1_
 have HI0 := n2_
 have HK := n3_
 have HB := n4_
 clear n0_ n1_ n2_ n3_ n4_
 clear hb ho31
 refine hK.out _ _ trivial (fun hHeld => ?_)
 clear hK K
 refine norm_ (a' := ?_) ?_ ?_
 rotate_left
 {
 show Act.put _ (some 21) _ = _
 simp only [Act.put, List.setIfInBounds_toArray, List.set_cons_zero, List.set_cons_succ, i64_w, i32_w]
 rfl
 }
 exact norm_ z79e (hJ1_5 (v355) _ ⟨z79d, z79f, z79a, z79b, z79c⟩)
 }
 {
 skip
 refine Kd.R_lit_step (Kd.int .i64) _ 2 ?hg (N := 28) ?hd (xs := ([0, 1, 1000000, 1000001] : List Int)) (inner := [.int .i64 0, .int .i64 1, .int .i64 1000000, .int .i64 1000001]) (ok := fun _ => True) (okp := fun _ => True) ?hr ?hp (fun _ hk => hk) trivial (Below.refl _ _) (Nat.le_refl _) (by simp) ?_; (case hd => rfl); (case hg => rfl); (case hr => first | (go_simp; done) | (go_simp; rfl)); (case hp => exact (Reps.one (show Kd.M (Kd.int .i64) _ _ _ 0 [.int .i64 0] from rfl) (Reps.one (show Kd.M (Kd.int .i64) _ _ _ 1 [.int .i64 1] from rfl) (Reps.one (show Kd.M (Kd.int .i64) _ _ _ 1000000 [.int .i64 1000000] from rfl) (Reps.one (show Kd.M (Kd.int .i64) _ _ _ 1000001 [.int .i64 1000001] from rfl) (Reps.none _ _))))))
 intro v365 w30 ho31 hb hg_ hnew_
 clear hg_ hnew_
 (first | rw [← Ny364.out] at ho31 | (simp only [Int.reduceToNat] at ho31; rw [← Ny364.out] at ho31))
 have n0_ := Aside0.mk (Kd.R_below z79d hb)
 have n1_ := Aside0.mk (Kd.R_lower ho31 (keep_size (w := w) (g := g) (row := none) z79b))
 have n2_ := Aside0.mk (IsS115.below z79a hb)
 have n3_ := Aside0.mk (KeepBut.trans z79b (KeepBut.of_below hb g none) (.inl rfl))
 have n4_ := Aside0.mk (below_step z79c hb)
 clear HO336
 clear HI0
 clear HK
 clear HB
 have HO336 := n0_
 have HO366 := n1_
 have HI0 := n2_
 have HK := n3_
 have HB := n4_
 clear n0_ n1_ n2_ n3_ n4_
 clear hb ho31
 obtain ⟨Ao32, co32, eo32⟩ := Kd.R_slice HO366.out
 subst eo32
 obtain ⟨ado32, fo32, _⟩ := Kd.at_int (Kd.R_reads' HO366.out).2.2 0 (by decide) (by rw [Ny364.out]; simp)
 cases fo32
 refine hK.out _ _ trivial (fun hHeld => ?_)
 clear hK K
 refine norm_ (a' := ?_) ?_ ?_
 rotate_left
 {
 show Act.put _ (some 28) _ = _
 simp only [Act.put, List.setIfInBounds_toArray, List.set_cons_zero, List.set_cons_succ, i64_w, i32_w]
 rfl
 }
 exact norm_ z79e (hJ5_8 (.slice (some ado32) y364.length co32, ado32) _ ⟨z79d, z79g, ⟨_, rfl⟩, z79a, z79b, z79c⟩)
 }
 {
 skip
 refine goes_ Try.func102 (by kernel_rfl) rfl #[.pointer (some ⟨g, 0, none⟩), .int .i64 4] (by rfl) rfl rfl z79h ?_
 with_reducible refine (spec_l1Below.calls g s0_0 t361 t362 4 t367 t368 t369 w0 _ ?side1 ?side2 A19.out).mono ?_
 (case side1 => exact z79a)
 (case side2 => exact z79c)
 rintro e w30 ⟨rfl, hi, hb, hk⟩
 refine ⟨_, rfl, ?_⟩
 have n0_ := Aside0.mk (Kd.R_mono (Kd.R_keep (IsS115.apart (show IsS115 w0 _ g s0_0 t361 t362 from z79a) z79d (by decide)) hk (fun _ h => h.2)) (fun _ h => h.1))
 have n1_ := Aside0.mk (KeepBut.trans z79b hk (.inl rfl))
 have n2_ := Aside0.mk (hb)
 have n3_ := Aside0.mk (hi)
 clear HO336
 clear HK
 clear HB
 clear HI0
 have HO336 := n0_
 have HK := n1_
 have HB := n2_
 have HI0 := n3_
 clear n0_ n1_ n2_ n3_
 (try clear hb)
 (try clear hb2)
 (try clear hk)
 (try clear hi)
 refine hK.out _ _ trivial (fun hHeld => ?_)
 clear hK K
 refine norm_ (a' := ?_) ?_ ?_
 rotate_left
 {
 show Act.put _ (some 30) _ = _
 simp only [Act.put, List.setIfInBounds_toArray, List.set_cons_zero, List.set_cons_succ, i64_w, i32_w]
 rfl
 }
 exact norm_ z79e (hJ5_10 () _ ⟨z79d, z79a, z79b, z79c⟩)
 }
 }
 }
 {
 skip
 rintro v355 w30 ⟨h0_, h1_, h2_, h3_, h4_⟩
 have n0_ : Aside0 (Kd.R k88 88 w30 w.heap.size (fun _ => True) (.slice Ao26 t334.length co26) t334) := ⟨h0_⟩
 have n1_ : Aside0 (Kd.R (Kd.int .u8) 5 w30 w.heap.size (fun _ => True) v355 y354) := ⟨h1_⟩
 have n2_ : Aside0 (IsS115 w0 w30 g s0_0 t343 t344) := ⟨h2_⟩
 have n3_ : Aside0 (KeepBut w w30 g none) := ⟨h3_⟩
 have n4_ : Aside0 (Below w0.heap.size w0 w30) := ⟨h4_⟩
 clear HO336
 clear HI0
 clear HK
 clear HB
 clear h0_ h1_ h2_ h3_ h4_
 have HO336 := n0_
 have HO356 := n1_
 have HI0 := n2_
 have HK := n3_
 have HB := n4_
 clear n0_ n1_ n2_ n3_ n4_
 have hHeld := trivial
 refine norm_ (a' := ?_) ?_ ?_
 rotate_left
 exact z79j
 refine three_ (i := 2) (j := 5) (k := 8) (Ni := some 22) (Nj := some 25) (Nk := some 28) #[V, V, V, U, V, U, U, U, U, V, U, U, U, U, U, U, U] #[V, V, U, U, V, V, U, U, U, V, U, U, U, U, U, U, U] #[V, V, U, U, V, U, U, U, V, V, U, U, U, U, U, U, U] rfl rfl rfl rfl rfl rfl (three_of HT_.out (by kernel_rfl)) (by decide) (by decide) (by decide) (fun K hK => ?_) (fun K hK => ?_) (fun K hK => ?_)
 {
 skip
 have hcv31 := own_string (P := Try.prog) Try.underlying59 Try.underlying5 Try.underlying9 (Kd.own_of_R HO356.out)
 refine value_ (w1 := ?_) (v := ?_) (by rfl) rfl ?_ ?_
 rotate_left 2
 {
 go_simp
 constructor
 {
 rfl
 }
 {
 rfl
 }
 }
 clear hcv31
 refine hK.out _ _ trivial (fun hHeld => ?_)
 clear hK K
 refine norm_ (a' := ?_) ?_ ?_
 rotate_left
 {
 show Act.put _ (some 22) _ = _
 simp only [Act.put, List.setIfInBounds_toArray, List.set_cons_zero, List.set_cons_succ, i64_w, i32_w]
 rfl
 }
 exact norm_ z79e (hJ1_2 (v355) _ ⟨z79d, z79f, z79a, z79b, z79c⟩)
 }
 {
 skip
 refine goes_ Try.func102 (by kernel_rfl) rfl #[.pointer (some ⟨g, 0, none⟩), .int .i64 3] (by rfl) rfl rfl z79h ?_
 with_reducible refine (spec_l1Below.calls g s0_0 t343 t344 3 t360 t361 t362 w0 _ ?side1 ?side2 A16.out).mono ?_
 (case side1 => exact z79a)
 (case side2 => exact z79c)
 rintro e w31 ⟨rfl, hi, hb, hk⟩
 refine ⟨_, rfl, ?_⟩
 have n0_ := Aside0.mk (Kd.R_mono (Kd.R_keep (IsS115.apart (show IsS115 w0 _ g s0_0 t343 t344 from z79a) z79d (by decide)) hk (fun _ h => h.2)) (fun _ h => h.1))
 have n1_ := Aside0.mk (Kd.R_mono (Kd.R_keep (IsS115.apart (show IsS115 w0 _ g s0_0 t343 t344 from z79a) z79f (by decide)) hk (fun _ h => h.2)) (fun _ h => h.1))
 have n2_ := Aside0.mk (KeepBut.trans z79b hk (.inl rfl))
 have n3_ := Aside0.mk (hb)
 have n4_ := Aside0.mk (hi)
 clear HO336
 clear HO356
 clear HK
 clear HB
 clear HI0
 have HO336 := n0_
 have HO356 := n1_
 have HK := n2_
 have HB := n3_
 have HI0 := n4_
 clear n0_ n1_ n2_ n3_ n4_
 (try clear hb)
 (try clear hb2)
 (try clear hk)
 (try clear hi)
 refine hK.out _ _ trivial (fun hHeld => ?_)
 clear hK K
 refine norm_ (a' := ?_) ?_ ?_
 rotate_left
 {
 show Act.put _ (some 25) _ = _
 simp only [Act.put, List.setIfInBounds_toArray, List.set_cons_zero, List.set_cons_succ, i64_w, i32_w]
 rfl
 }
 exact norm_ z79e (hJ1_5 (v355) _ ⟨z79d, z79f, z79a, z79b, z79c⟩)
 }
 {
 skip
 refine Kd.R_lit_step (Kd.int .i64) _ 2 ?hg (N := 28) ?hd (xs := ([0, 1, 1000000, 1000001] : List Int)) (inner := [.int .i64 0, .int .i64 1, .int .i64 1000000, .int .i64 1000001]) (ok := fun _ => True) (okp := fun _ => True) ?hr ?hp (fun _ hk => hk) trivial (Below.refl _ _) (Nat.le_refl _) (by simp) ?_; (case hd => rfl); (case hg => rfl); (case hr => first | (go_simp; done) | (go_simp; rfl)); (case hp => exact (Reps.one (show Kd.M (Kd.int .i64) _ _ _ 0 [.int .i64 0] from rfl) (Reps.one (show Kd.M (Kd.int .i64) _ _ _ 1 [.int .i64 1] from rfl) (Reps.one (show Kd.M (Kd.int .i64) _ _ _ 1000000 [.int .i64 1000000] from rfl) (Reps.one (show Kd.M (Kd.int .i64) _ _ _ 1000001 [.int .i64 1000001] from rfl) (Reps.none _ _))))))
 intro v365 w31 ho32 hb hg_ hnew_
 clear hg_ hnew_
 (first | rw [← Ny364.out] at ho32 | (simp only [Int.reduceToNat] at ho32; rw [← Ny364.out] at ho32))
 have n0_ := Aside0.mk (Kd.R_below z79d hb)
 have n1_ := Aside0.mk (Kd.R_below z79f hb)
 have n2_ := Aside0.mk (Kd.R_lower ho32 (keep_size (w := w) (g := g) (row := none) z79b))
 have n3_ := Aside0.mk (IsS115.below z79a hb)
 have n4_ := Aside0.mk (KeepBut.trans z79b (KeepBut.of_below hb g none) (.inl rfl))
 have n5_ := Aside0.mk (below_step z79c hb)
 clear HO336
 clear HO356
 clear HI0
 clear HK
 clear HB
 have HO336 := n0_
 have HO356 := n1_
 have HO366 := n2_
 have HI0 := n3_
 have HK := n4_
 have HB := n5_
 clear n0_ n1_ n2_ n3_ n4_ n5_
 clear hb ho32
 obtain ⟨Ao33, co33, eo33⟩ := Kd.R_slice HO366.out
 subst eo33
 obtain ⟨ado33, fo33, _⟩ := Kd.at_int (Kd.R_reads' HO366.out).2.2 0 (by decide) (by rw [Ny364.out]; simp)
 cases fo33
 refine hK.out _ _ trivial (fun hHeld => ?_)
 clear hK K
 refine norm_ (a' := ?_) ?_ ?_
 rotate_left
 {
 show Act.put _ (some 28) _ = _
 simp only [Act.put, List.setIfInBounds_toArray, List.set_cons_zero, List.set_cons_succ, i64_w, i32_w]
 rfl
 }
 exact norm_ z79e (hJ1_8 (v355, .slice (some ado33) y364.length co33, ado33) _ ⟨z79d, z79f, z79g, ⟨_, rfl⟩, z79a, z79b, z79c⟩)
 }
 }
 }
 {
 skip
 rintro _ w30 ⟨h0_, h1_, h2_, h3_⟩
 have n0_ : Aside0 (Kd.R k88 88 w30 w.heap.size (fun _ => True) (.slice Ao26 t334.length co26) t334) := ⟨h0_⟩
 have n1_ : Aside0 (IsS115 w0 w30 g s0_0 t368 t369) := ⟨h1_⟩
 have n2_ : Aside0 (KeepBut w w30 g none) := ⟨h2_⟩
 have n3_ : Aside0 (Below w0.heap.size w0 w30) := ⟨h3_⟩
 clear HO336
 clear HI0
 clear HK
 clear HB
 clear h0_ h1_ h2_ h3_
 have HO336 := n0_
 have HI0 := n1_
 have HK := n2_
 have HB := n3_
 clear n0_ n1_ n2_ n3_
 have hHeld := trivial
 refine norm_ (a' := ?_) ?_ ?_
 rotate_left
 exact z79j
 refine two_ (i := 1) (j := 8) (Ni := some 21) (Nj := some 28) #[V, V, U, U, V, V, U, U, U, V, V, U, U, U, U, U, U] #[V, U, U, U, V, V, U, U, V, V, V, U, U, U, U, U, U] rfl rfl rfl rfl (two_of HT_.out (by kernel_rfl)) (by decide) (by decide) (fun K hK => ?_) (fun K hK => ?_)
 {
 skip
 refine Kd.R_make_step (Kd.int .u8) _ 5 (by rfl) (N := 21) rfl 59 _ _ rfl 41 rfl rfl Try.underlying59 (.int .u8 0) 1 info5 rfl (by decide) (by omega) 0 (ok := fun _ => True) (okp := fun _ => True) rfl (fun _ hk => hk) trivial (by omega) (by omega) (Below.refl _ _) (Nat.le_refl _) ?_
 intro v355 w31 ho32 hb hg_ hnew_
 clear hg_ hnew_
 (first | rw [← Ny354.out] at ho32 | (simp only [Int.reduceToNat] at ho32; rw [← Ny354.out] at ho32))
 have n0_ := Aside0.mk (Kd.R_below z79d hb)
 have n1_ := Aside0.mk (Kd.R_lower ho32 (keep_size (w := w) (g := g) (row := none) z79b))
 have n2_ := Aside0.mk (IsS115.below z79a hb)
 have n3_ := Aside0.mk (KeepBut.trans z79b (KeepBut.of_below hb g none) (.inl rfl))
 have n4_ := Aside0.mk (below_step z79c hb)
 clear HO336
 clear HI0
 clear HK
 clear HB
 have HO336 := n0_
 have HO356 := n1_
 have HI0 := n2_
 have HK := n3_
 have HB := n4_
 clear n0_ n1_ n2_ n3_ n4_
 clear hb ho32
 refine hK.out _ _ trivial (fun hHeld => ?_)
 clear hK K
 refine norm_ (a' := ?_) ?_ ?_
 rotate_left
 {
 show Act.put _ (some 21) _ = _
 simp only [Act.put, List.setIfInBounds_toArray, List.set_cons_zero, List.set_cons_succ, i64_w, i32_w]
 rfl
 }
 exact norm_ z79e (hJ1_5_10 (v355) _ ⟨z79d, z79f, z79a, z79b, z79c⟩)
 }
 {
 skip
 refine Kd.R_lit_step (Kd.int .i64) _ 2 ?hg (N := 28) ?hd (xs := ([0, 1, 1000000, 1000001] : List Int)) (inner := [.int .i64 0, .int .i64 1, .int .i64 1000000, .int .i64 1000001]) (ok := fun _ => True) (okp := fun _ => True) ?hr ?hp (fun _ hk => hk) trivial (Below.refl _ _) (Nat.le_refl _) (by simp) ?_; (case hd => rfl); (case hg => rfl); (case hr => first | (go_simp; done) | (go_simp; rfl)); (case hp => exact (Reps.one (show Kd.M (Kd.int .i64) _ _ _ 0 [.int .i64 0] from rfl) (Reps.one (show Kd.M (Kd.int .i64) _ _ _ 1 [.int .i64 1] from rfl) (Reps.one (show Kd.M (Kd.int .i64) _ _ _ 1000000 [.int .i64 1000000] from rfl) (Reps.one (show Kd.M (Kd.int .i64) _ _ _ 1000001 [.int .i64 1000001] from rfl) (Reps.none _ _))))))
 intro v365 w31 ho32 hb hg_ hnew_
 clear hg_ hnew_
 (first | rw [← Ny364.out] at ho32 | (simp only [Int.reduceToNat] at ho32; rw [← Ny364.out] at ho32))
 have n0_ := Aside0.mk (Kd.R_below z79d hb)
 have n1_ := Aside0.mk (Kd.R_lower ho32 (keep_size (w := w) (g := g) (row := none) z79b))
 have n2_ := Aside0.mk (IsS115.below z79a hb)
 have n3_ := Aside0.mk (KeepBut.trans z79b (KeepBut.of_below hb g none) (.inl rfl))
 have n4_ := Aside0.mk (below_step z79c hb)
 clear HO336
 clear HI0
 clear HK
 clear HB
 have HO336 := n0_
 have HO366 := n1_
 have HI0 := n2_
 have HK := n3_
 have HB := n4_
 clear n0_ n1_ n2_ n3_ n4_
 clear hb ho32
 obtain ⟨Ao33, co33, eo33⟩ := Kd.R_slice HO366.out
 subst eo33
 obtain ⟨ado33, fo33, _⟩ := Kd.at_int (Kd.R_reads' HO366.out).2.2 0 (by decide) (by rw [Ny364.out]; simp)
 cases fo33
 refine hK.out _ _ trivial (fun hHeld => ?_)
 clear hK K
 refine norm_ (a' := ?_) ?_ ?_
 rotate_left
 {
 show Act.put _ (some 28) _ = _
 simp only [Act.put, List.setIfInBounds_toArray, List.set_cons_zero, List.set_cons_succ, i64_w, i32_w]
 rfl
 }
 refine pure_ (i := 11) (N := some 31) (v := _) (a' := _) #[V, U, U, U, V, V, U, U, V, V, V, V, U, U, U, U, U] rfl rfl (any_of HT_.out (by kernel_rfl)) (fun _ _ _ h => h) (Or.inl ⟨by rfl, (by intro w'; go_simp; with_reducible rfl)⟩) z79k ?_
 exact norm_ z79e (hJ5_8_10 (.slice (some ado33) y364.length co33, ado33) _ ⟨z79d, z79g, ⟨_, rfl⟩, z79a, z79b, z79c⟩)
 }
 }
 }
 {
 skip
 rintro ⟨v365, adz_v365⟩ w32 ⟨h0_, h1_, h2_, h3_, h4_, h5_⟩
 have n0_ : Aside0 (Kd.R k88 88 w32 w.heap.size (fun _ => True) (.slice Ao26 t334.length co26) t334) := ⟨h0_⟩
 have n1_ : Aside0 (Kd.R (Kd.int .i64) 2 w32 w.heap.size (fun _ => True) v365 y364) := ⟨h1_⟩
 have n2_ : Aside0 (∃ c_, (v365 : Value) = .slice (some adz_v365) y364.length c_) := ⟨h2_⟩
 have n3_ : Aside0 (IsS115 w0 w32 g s0_0 t361 t362) := ⟨h3_⟩
 have n4_ : Aside0 (KeepBut w w32 g none) := ⟨h4_⟩
 have n5_ : Aside0 (Below w0.heap.size w0 w32) := ⟨h5_⟩
 clear HO336
 clear HI0
 clear HK
 clear HB
 clear h0_ h1_ h2_ h3_ h4_ h5_
 have HO336 := n0_
 have HO366 := n1_
 have HA_HO366 := n2_
 have HI0 := n3_
 have HK := n4_
 have HB := n5_
 clear n0_ n1_ n2_ n3_ n4_ n5_
 have hHeld := trivial
 obtain ⟨co33, eo33⟩ := HA_HO366.out
 clear HA_HO366
 subst eo33
 refine norm_ (a' := ?_) ?_ ?_
 rotate_left
 exact z79j
 refine two_ (i := 1) (j := 10) (Ni := some 21) (Nj := some 30) #[V, V, U, U, V, V, U, U, V, V, U, U, U, U, U, U, U] #[V, U, U, U, V, V, U, U, V, V, V, U, U, U, U, U, U] rfl rfl rfl rfl (two_of HT_.out (by kernel_rfl)) (by decide) (by decide) (fun K hK => ?_) (fun K hK => ?_)
 {
 skip
 refine Kd.R_make_step (Kd.int .u8) _ 5 (by rfl) (N := 21) rfl 59 _ _ rfl 41 rfl rfl Try.underlying59 (.int .u8 0) 1 info5 rfl (by decide) (by omega) 0 (ok := fun _ => True) (okp := fun _ => True) rfl (fun _ hk => hk) trivial (by omega) (by omega) (Below.refl _ _) (Nat.le_refl _) ?_
 intro v355 w34 ho35 hb hg_ hnew_
 clear hg_ hnew_
 (first | rw [← Ny354.out] at ho35 | (simp only [Int.reduceToNat] at ho35; rw [← Ny354.out] at ho35))
 have n0_ := Aside0.mk (Kd.R_below z79d hb)
 have n1_ := Aside0.mk (Kd.R_below z79g hb)
 have n2_ := Aside0.mk (Kd.R_lower ho35 (keep_size (w := w) (g := g) (row := none) z79b))
 have n3_ := Aside0.mk (IsS115.below z79a hb)
 have n4_ := Aside0.mk (KeepBut.trans z79b (KeepBut.of_below hb g none) (.inl rfl))
 have n5_ := Aside0.mk (below_step z79c hb)
 clear HO336
 clear HO366
 clear HI0
 clear HK
 clear HB
 have HO336 := n0_
 have HO366 := n1_
 have HO356 := n2_
 have HI0 := n3_
 have HK := n4_
 have HB := n5_
 clear n0_ n1_ n2_ n3_ n4_ n5_
 clear hb ho35
 refine hK.out _ _ trivial (fun hHeld => ?_)
 clear hK K
 refine norm_ (a' := ?_) ?_ ?_
 rotate_left
 {
 show Act.put _ (some 21) _ = _
 simp only [Act.put, List.setIfInBounds_toArray, List.set_cons_zero, List.set_cons_succ, i64_w, i32_w]
 rfl
 }
 exact norm_ z79e (hJ1_5_8 (v355, .slice (some adz_v365) y364.length co33, adz_v365) _ ⟨z79d, z79f, z79g, ⟨_, rfl⟩, z79a, z79b, z79c⟩)
 }
 {
 skip
 refine goes_ Try.func102 (by kernel_rfl) rfl #[.pointer (some ⟨g, 0, none⟩), .int .i64 4] (by rfl) rfl rfl z79h ?_
 with_reducible refine (spec_l1Below.calls g s0_0 t361 t362 4 t367 t368 t369 w0 _ ?side1 ?side2 A19.out).mono ?_
 (case side1 => exact z79a)
 (case side2 => exact z79c)
 rintro e w34 ⟨rfl, hi, hb, hk⟩
 refine ⟨_, rfl, ?_⟩
 have n0_ := Aside0.mk (Kd.R_mono (Kd.R_keep (IsS115.apart (show IsS115 w0 _ g s0_0 t361 t362 from z79a) z79d (by decide)) hk (fun _ h => h.2)) (fun _ h => h.1))
 have n1_ := Aside0.mk (Kd.R_mono (Kd.R_keep (IsS115.apart (show IsS115 w0 _ g s0_0 t361 t362 from z79a) z79g (by decide)) hk (fun _ h => h.2)) (fun _ h => h.1))
 have n2_ := Aside0.mk (KeepBut.trans z79b hk (.inl rfl))
 have n3_ := Aside0.mk (hb)
 have n4_ := Aside0.mk (hi)
 clear HO336
 clear HO366
 clear HK
 clear HB
 clear HI0
 have HO336 := n0_
 have HO366 := n1_
 have HK := n2_
 have HB := n3_
 have HI0 := n4_
 clear n0_ n1_ n2_ n3_ n4_
 (try clear hb)
 (try clear hb2)
 (try clear hk)
 (try clear hi)
 refine hK.out _ _ trivial (fun hHeld => ?_)
 clear hK K
 refine norm_ (a' := ?_) ?_ ?_
 rotate_left
 {
 show Act.put _ (some 30) _ = _
 simp only [Act.put, List.setIfInBounds_toArray, List.set_cons_zero, List.set_cons_succ, i64_w, i32_w]
 rfl
 }
 refine pure_ (i := 11) (N := some 31) (v := _) (a' := _) #[V, U, U, U, V, V, U, U, V, V, V, V, U, U, U, U, U] rfl rfl (any_of HT_.out (by kernel_rfl)) (fun _ _ _ h => h) (Or.inl ⟨by rfl, (by intro w'; go_simp; with_reducible rfl)⟩) z79k ?_
 exact norm_ z79e (hJ5_8_10 (.slice (some adz_v365) y364.length co33, adz_v365) _ ⟨z79d, z79g, ⟨_, rfl⟩, z79a, z79b, z79c⟩)
 }
 }
 }
 {
 skip
 rintro ⟨v355, v365, adz_v365⟩ w33 ⟨h0_, h1_, h2_, h3_, h4_, h5_, h6_⟩
 have n0_ : Aside0 (Kd.R k88 88 w33 w.heap.size (fun _ => True) (.slice Ao26 t334.length co26) t334) := ⟨h0_⟩
 have n1_ : Aside0 (Kd.R (Kd.int .u8) 5 w33 w.heap.size (fun _ => True) v355 y354) := ⟨h1_⟩
 have n2_ : Aside0 (Kd.R (Kd.int .i64) 2 w33 w.heap.size (fun _ => True) v365 y364) := ⟨h2_⟩
 have n3_ : Aside0 (∃ c_, (v365 : Value) = .slice (some adz_v365) y364.length c_) := ⟨h3_⟩
 have n4_ : Aside0 (IsS115 w0 w33 g s0_0 t343 t344) := ⟨h4_⟩
 have n5_ : Aside0 (KeepBut w w33 g none) := ⟨h5_⟩
 have n6_ : Aside0 (Below w0.heap.size w0 w33) := ⟨h6_⟩
 clear HO336
 clear HI0
 clear HK
 clear HB
 clear h0_ h1_ h2_ h3_ h4_ h5_ h6_
 have HO336 := n0_
 have HO356 := n1_
 have HO366 := n2_
 have HA_HO366 := n3_
 have HI0 := n4_
 have HK := n5_
 have HB := n6_
 clear n0_ n1_ n2_ n3_ n4_ n5_ n6_
 have hHeld := trivial
 obtain ⟨co34, eo34⟩ := HA_HO366.out
 clear HA_HO366
 subst eo34
 refine norm_ (a' := ?_) ?_ ?_
 rotate_left
 exact z79j
 refine two_ (i := 2) (j := 5) (Ni := some 22) (Nj := some 25) #[V, V, V, U, V, U, U, U, V, V, U, U, U, U, U, U, U] #[V, V, U, U, V, V, U, U, V, V, U, U, U, U, U, U, U] rfl rfl rfl rfl (two_of HT_.out (by kernel_rfl)) (by decide) (by decide) (fun K hK => ?_) (fun K hK => ?_)
 {
 skip
 have hcv35 := own_string (P := Try.prog) Try.underlying59 Try.underlying5 Try.underlying9 (Kd.own_of_R HO356.out)
 refine value_ (w1 := ?_) (v := ?_) (by rfl) rfl ?_ ?_
 rotate_left 2
 {
 go_simp
 constructor
 {
 rfl
 }
 {
 rfl
 }
 }
 clear hcv35
 refine hK.out _ _ trivial (fun hHeld => ?_)
 clear hK K
 refine norm_ (a' := ?_) ?_ ?_
 rotate_left
 {
 show Act.put _ (some 22) _ = _
 simp only [Act.put, List.setIfInBounds_toArray, List.set_cons_zero, List.set_cons_succ, i64_w, i32_w]
 rfl
 }
 exact norm_ z79e (hJ1_2_8 (v355, .slice (some adz_v365) y364.length co34, adz_v365) _ ⟨z79d, z79f, z79g, ⟨_, rfl⟩, z79a, z79b, z79c⟩)
 }
 {
 skip
 refine goes_ Try.func102 (by kernel_rfl) rfl #[.pointer (some ⟨g, 0, none⟩), .int .i64 3] (by rfl) rfl rfl z79h ?_
 with_reducible refine (spec_l1Below.calls g s0_0 t343 t344 3 t360 t361 t362 w0 _ ?side1 ?side2 A16.out).mono ?_
 (case side1 => exact z79a)
 (case side2 => exact z79c)
 rintro e w35 ⟨rfl, hi, hb, hk⟩
 refine ⟨_, rfl, ?_⟩
 have n0_ := Aside0.mk (Kd.R_mono (Kd.R_keep (IsS115.apart (show IsS115 w0 _ g s0_0 t343 t344 from z79a) z79d (by decide)) hk (fun _ h => h.2)) (fun _ h => h.1))
 have n1_ := Aside0.mk (Kd.R_mono (Kd.R_keep (IsS115.apart (show IsS115 w0 _ g s0_0 t343 t344 from z79a) z79f (by decide)) hk (fun _ h => h.2)) (fun _ h => h.1))
 have n2_ := Aside0.mk (Kd.R_mono (Kd.R_keep (IsS115.apart (show IsS115 w0 _ g s0_0 t343 t344 from z79a) z79g (by decide)) hk (fun _ h => h.2)) (fun _ h => h.1))
 have n3_ := Aside0.mk (KeepBut.trans z79b hk (.inl rfl))
 have n4_ := Aside0.mk (hb)
 have n5_ := Aside0.mk (hi)
 clear HO336
 clear HO356
 clear HO366
 clear HK
 clear HB
 clear HI0
 have HO336 := n0_
 have HO356 := n1_
 have HO366 := n2_
 have HK := n3_
 have HB := n4_
 have HI0 := n5_
 clear n0_ n1_ n2_ n3_ n4_ n5_
 (try clear hb)
 (try clear hb2)
 (try clear hk)
 (try clear hi)
 refine hK.out _ _ trivial (fun hHeld => ?_)
 clear hK K
 refine norm_ (a' := ?_) ?_ ?_
 rotate_left
 {
 show Act.put _ (some 25) _ = _
 simp only [Act.put, List.setIfInBounds_toArray, List.set_cons_zero, List.set_cons_succ, i64_w, i32_w]
 rfl
 }
 exact norm_ z79e (hJ1_5_8 (v355, .slice (some adz_v365) y364.length co34, adz_v365) _ ⟨z79d, z79f, z79g, ⟨_, rfl⟩, z79a, z79b, z79c⟩)
 }
 }
 }
 {
 skip
 rintro v355 w31 ⟨h0_, h1_, h2_, h3_, h4_⟩
 have n0_ : Aside0 (Kd.R k88 88 w31 w.heap.size (fun _ => True) (.slice Ao26 t334.length co26) t334) := ⟨h0_⟩
 have n1_ : Aside0 (Kd.R (Kd.int .u8) 5 w31 w.heap.size (fun _ => True) v355 y354) := ⟨h1_⟩
 have n2_ : Aside0 (IsS115 w0 w31 g s0_0 t361 t362) := ⟨h2_⟩
 have n3_ : Aside0 (KeepBut w w31 g none) := ⟨h3_⟩
 have n4_ : Aside0 (Below w0.heap.size w0 w31) := ⟨h4_⟩
 clear HO336
 clear HI0
 clear HK
 clear HB
 clear h0_ h1_ h2_ h3_ h4_
 have HO336 := n0_
 have HO356 := n1_
 have HI0 := n2_
 have HK := n3_
 have HB := n4_
 clear n0_ n1_ n2_ n3_ n4_
 have hHeld := trivial
 refine norm_ (a' := ?_) ?_ ?_
 rotate_left
 exact z79j
 refine three_ (i := 2) (j := 8) (k := 10) (Ni := some 22) (Nj := some 28) (Nk := some 30) #[V, V, V, U, V, V, U, U, U, V, U, U, U, U, U, U, U] #[V, V, U, U, V, V, U, U, V, V, U, U, U, U, U, U, U] #[V, V, U, U, V, V, U, U, U, V, V, U, U, U, U, U, U] rfl rfl rfl rfl rfl rfl (three_of HT_.out (by kernel_rfl)) (by decide) (by decide) (by decide) (fun K hK => ?_) (fun K hK => ?_) (fun K hK => ?_)
 {
 skip
 have hcv32 := own_string (P := Try.prog) Try.underlying59 Try.underlying5 Try.underlying9 (Kd.own_of_R HO356.out)
 refine value_ (w1 := ?_) (v := ?_) (by rfl) rfl ?_ ?_
 rotate_left 2
 {
 go_simp
 constructor
 {
 rfl
 }
 {
 rfl
 }
 }
 clear hcv32
 refine hK.out _ _ trivial (fun hHeld => ?_)
 clear hK K
 refine norm_ (a' := ?_) ?_ ?_
 rotate_left
 {
 show Act.put _ (some 22) _ = _
 simp only [Act.put, List.setIfInBounds_toArray, List.set_cons_zero, List.set_cons_succ, i64_w, i32_w]
 rfl
 }
 exact norm_ z79e (hJ1_2_5 (v355) _ ⟨z79d, z79f, z79a, z79b, z79c⟩)
 }
 {
 skip
 refine Kd.R_lit_step (Kd.int .i64) _ 2 ?hg (N := 28) ?hd (xs := ([0, 1, 1000000, 1000001] : List Int)) (inner := [.int .i64 0, .int .i64 1, .int .i64 1000000, .int .i64 1000001]) (ok := fun _ => True) (okp := fun _ => True) ?hr ?hp (fun _ hk => hk) trivial (Below.refl _ _) (Nat.le_refl _) (by simp) ?_; (case hd => rfl); (case hg => rfl); (case hr => first | (go_simp; done) | (go_simp; rfl)); (case hp => exact (Reps.one (show Kd.M (Kd.int .i64) _ _ _ 0 [.int .i64 0] from rfl) (Reps.one (show Kd.M (Kd.int .i64) _ _ _ 1 [.int .i64 1] from rfl) (Reps.one (show Kd.M (Kd.int .i64) _ _ _ 1000000 [.int .i64 1000000] from rfl) (Reps.one (show Kd.M (Kd.int .i64) _ _ _ 1000001 [.int .i64 1000001] from rfl) (Reps.none _ _))))))
 intro v365 w32 ho33 hb hg_ hnew_
 clear hg_ hnew_
 (first | rw [← Ny364.out] at ho33 | (simp only [Int.reduceToNat] at ho33; rw [← Ny364.out] at ho33))
 have n0_ := Aside0.mk (Kd.R_below z79d hb)
 have n1_ := Aside0.mk (Kd.R_below z79f hb)
 have n2_ := Aside0.mk (Kd.R_lower ho33 (keep_size (w := w) (g := g) (row := none) z79b))
 have n3_ := Aside0.mk (IsS115.below z79a hb)
 have n4_ := Aside0.mk (KeepBut.trans z79b (KeepBut.of_below hb g none) (.inl rfl))
 have n5_ := Aside0.mk (below_step z79c hb)
 clear HO336
 clear HO356
 clear HI0
 clear HK
 clear HB
 have HO336 := n0_
 have HO356 := n1_
 have HO366 := n2_
 have HI0 := n3_
 have HK := n4_
 have HB := n5_
 clear n0_ n1_ n2_ n3_ n4_ n5_
 clear hb ho33
 obtain ⟨Ao34, co34, eo34⟩ := Kd.R_slice HO366.out
 subst eo34
 obtain ⟨ado34, fo34, _⟩ := Kd.at_int (Kd.R_reads' HO366.out).2.2 0 (by decide) (by rw [Ny364.out]; simp)
 cases fo34
 refine hK.out _ _ trivial (fun hHeld => ?_)
 clear hK K
 refine norm_ (a' := ?_) ?_ ?_
 rotate_left
 {
 show Act.put _ (some 28) _ = _
 simp only [Act.put, List.setIfInBounds_toArray, List.set_cons_zero, List.set_cons_succ, i64_w, i32_w]
 rfl
 }
 exact norm_ z79e (hJ1_5_8 (v355, .slice (some ado34) y364.length co34, ado34) _ ⟨z79d, z79f, z79g, ⟨_, rfl⟩, z79a, z79b, z79c⟩)
 }
 {
 skip
 refine goes_ Try.func102 (by kernel_rfl) rfl #[.pointer (some ⟨g, 0, none⟩), .int .i64 4] (by rfl) rfl rfl z79h ?_
 with_reducible refine (spec_l1Below.calls g s0_0 t361 t362 4 t367 t368 t369 w0 _ ?side1 ?side2 A19.out).mono ?_
 (case side1 => exact z79a)
 (case side2 => exact z79c)
 rintro e w32 ⟨rfl, hi, hb, hk⟩
 refine ⟨_, rfl, ?_⟩
 have n0_ := Aside0.mk (Kd.R_mono (Kd.R_keep (IsS115.apart (show IsS115 w0 _ g s0_0 t361 t362 from z79a) z79d (by decide)) hk (fun _ h => h.2)) (fun _ h => h.1))
 have n1_ := Aside0.mk (Kd.R_mono (Kd.R_keep (IsS115.apart (show IsS115 w0 _ g s0_0 t361 t362 from z79a) z79f (by decide)) hk (fun _ h => h.2)) (fun _ h => h.1))
 have n2_ := Aside0.mk (KeepBut.trans z79b hk (.inl rfl))
 have n3_ := Aside0.mk (hb)
 have n4_ := Aside0.mk (hi)
 clear HO336
 clear HO356
 clear HK
 clear HB
 clear HI0
 have HO336 := n0_
 have HO356 := n1_
 have HK := n2_
 have HB := n3_
 have HI0 := n4_
 clear n0_ n1_ n2_ n3_ n4_
 (try clear hb)
 (try clear hb2)
 (try clear hk)
 (try clear hi)
 refine hK.out _ _ trivial (fun hHeld => ?_)
 clear hK K
 refine norm_ (a' := ?_) ?_ ?_
 rotate_left
 {
 show Act.put _ (some 30) _ = _
 simp only [Act.put, List.setIfInBounds_toArray, List.set_cons_zero, List.set_cons_succ, i64_w, i32_w]
 rfl
 }
 exact norm_ z79e (hJ1_5_10 (v355) _ ⟨z79d, z79f, z79a, z79b, z79c⟩)
 }
 }
 }
 {
 skip
 rintro v355 w31 ⟨h0_, h1_, h2_, h3_, h4_⟩
 have n0_ : Aside0 (Kd.R k88 88 w31 w.heap.size (fun _ => True) (.slice Ao26 t334.length co26) t334) := ⟨h0_⟩
 have n1_ : Aside0 (Kd.R (Kd.int .u8) 5 w31 w.heap.size (fun _ => True) v355 y354) := ⟨h1_⟩
 have n2_ : Aside0 (IsS115 w0 w31 g s0_0 t343 t344) := ⟨h2_⟩
 have n3_ : Aside0 (KeepBut w w31 g none) := ⟨h3_⟩
 have n4_ : Aside0 (Below w0.heap.size w0 w31) := ⟨h4_⟩
 clear HO336
 clear HI0
 clear HK
 clear HB
 clear h0_ h1_ h2_ h3_ h4_
 have HO336 := n0_
 have HO356 := n1_
 have HI0 := n2_
 have HK := n3_
 have HB := n4_
 clear n0_ n1_ n2_ n3_ n4_
 have hHeld := trivial
 refine norm_ (a' := ?_) ?_ ?_
 rotate_left
 exact z79j
 refine three_ (i := 3) (j := 5) (k := 8) (Ni := some 23) (Nj := some 25) (Nk := some 28) #[V, V, V, V, V, U, U, U, U, V, U, U, U, U, U, U, U] #[V, V, V, U, V, V, U, U, U, V, U, U, U, U, U, U, U] #[V, V, V, U, V, U, U, U, V, V, U, U, U, U, U, U, U] rfl rfl rfl rfl rfl rfl (three_of HT_.out (by kernel_rfl)) (by decide) (by decide) (by decide) (fun K hK => ?_) (fun K hK => ?_) (fun K hK => ?_)
 {
 skip
 refine Kd.R_lit_step Kd.string _ 9 ?hg (N := 23) ?hd (xs := ([(⟨#[]⟩ : ByteArray), (⟨#[122, 122]⟩ : ByteArray), strOfNums y354] : List ByteArray)) (inner := [.string (⟨#[]⟩ : ByteArray), .string (⟨#[122, 122]⟩ : ByteArray), .string (strOfNums y354)]) (ok := fun _ => True) (okp := fun _ => True) ?hr ?hp (fun _ hk => hk) trivial (Below.refl _ _) (Nat.le_refl _) (by simp) ?_; (case hd => rfl); (case hg => rfl); (case hr => first | (go_simp; done) | (go_simp; rfl)); (case hp => exact (Reps.one (show Kd.M Kd.string _ _ _ (⟨#[]⟩ : ByteArray) [.string (⟨#[]⟩ : ByteArray)] from rfl) (Reps.one (show Kd.M Kd.string _ _ _ (⟨#[122, 122]⟩ : ByteArray) [.string (⟨#[122, 122]⟩ : ByteArray)] from rfl) (Reps.one (show Kd.M Kd.string _ _ _ (strOfNums y354) [.string (strOfNums y354)] from rfl) (Reps.none _ _)))))
 intro v358 w32 ho33 hb hg_ hnew_
 clear hg_ hnew_
 (first | rw [← Ny357.out] at ho33 | (simp only [Int.reduceToNat] at ho33; rw [← Ny357.out] at ho33))
 have n0_ := Aside0.mk (Kd.R_below z79d hb)
 have n1_ := Aside0.mk (Kd.R_below z79f hb)
 have n2_ := Aside0.mk (Kd.R_lower ho33 (keep_size (w := w) (g := g) (row := none) z79b))
 have n3_ := Aside0.mk (IsS115.below z79a hb)
 have n4_ := Aside0.mk (KeepBut.trans z79b (KeepBut.of_below hb g none) (.inl rfl))
 have n5_ := Aside0.mk (below_step z79c hb)
 clear HO336
 clear HO356
 clear HI0
 clear HK
 clear HB
 have HO336 := n0_
 have HO356 := n1_
 have HO359 := n2_
 have HI0 := n3_
 have HK := n4_
 have HB := n5_
 clear n0_ n1_ n2_ n3_ n4_ n5_
 clear hb ho33
 obtain ⟨Ao34, co34, eo34⟩ := Kd.R_slice HO359.out
 subst eo34
 obtain ⟨ado34, fo34, _⟩ := Kd.at_string (Kd.R_reads' HO359.out).2.2 0 (by decide) (by rw [Ny357.out]; simp)
 cases fo34
 refine hK.out _ _ trivial (fun hHeld => ?_)
 clear hK K
 refine norm_ (a' := ?_) ?_ ?_
 rotate_left
 {
 show Act.put _ (some 23) _ = _
 simp only [Act.put, List.setIfInBounds_toArray, List.set_cons_zero, List.set_cons_succ, i64_w, i32_w]
 rfl
 }
 exact norm_ z79e (hJ1_2_3 (v355, .slice (some ado34) y357.length co34, ado34) _ ⟨z79d, z79f, z79i, ⟨_, rfl⟩, z79a, z79b, z79c⟩)
 }
 {
 skip
 refine goes_ Try.func102 (by kernel_rfl) rfl #[.pointer (some ⟨g, 0, none⟩), .int .i64 3] (by rfl) rfl rfl z79h ?_
 with_reducible refine (spec_l1Below.calls g s0_0 t343 t344 3 t360 t361 t362 w0 _ ?side1 ?side2 A16.out).mono ?_
 (case side1 => exact z79a)
 (case side2 => exact z79c)
 rintro e w32 ⟨rfl, hi, hb, hk⟩
 refine ⟨_, rfl, ?_⟩
 have n0_ := Aside0.mk (Kd.R_mono (Kd.R_keep (IsS115.apart (show IsS115 w0 _ g s0_0 t343 t344 from z79a) z79d (by decide)) hk (fun _ h => h.2)) (fun _ h => h.1))
 have n1_ := Aside0.mk (Kd.R_mono (Kd.R_keep (IsS115.apart (show IsS115 w0 _ g s0_0 t343 t344 from z79a) z79f (by decide)) hk (fun _ h => h.2)) (fun _ h => h.1))
 have n2_ := Aside0.mk (KeepBut.trans z79b hk (.inl rfl))
 have n3_ := Aside0.mk (hb)
 have n4_ := Aside0.mk (hi)
 clear HO336
 clear HO356
 clear HK
 clear HB
 clear HI0
 have HO336 := n0_
 have HO356 := n1_
 have HK := n2_
 have HB := n3_
 have HI0 := n4_
 clear n0_ n1_ n2_ n3_ n4_
 (try clear hb)
 (try clear hb2)
 (try clear hk)
 (try clear hi)
 refine hK.out _ _ trivial (fun hHeld => ?_)
 clear hK K
 refine norm_ (a' := ?_) ?_ ?_
 rotate_left
 {
 show Act.put _ (some 25) _ = _
 simp only [Act.put, List.setIfInBounds_toArray, List.set_cons_zero, List.set_cons_succ, i64_w, i32_w]
 rfl
 }
 exact norm_ z79e (hJ1_2_5 (v355) _ ⟨z79d, z79f, z79a, z79b, z79c⟩)
 }
 {
 skip
 refine Kd.R_lit_step (Kd.int .i64) _ 2 ?hg (N := 28) ?hd (xs := ([0, 1, 1000000, 1000001] : List Int)) (inner := [.int .i64 0, .int .i64 1, .int .i64 1000000, .int .i64 1000001]) (ok := fun _ => True) (okp := fun _ => True) ?hr ?hp (fun _ hk => hk) trivial (Below.refl _ _) (Nat.le_refl _) (by simp) ?_; (case hd => rfl); (case hg => rfl); (case hr => first | (go_simp; done) | (go_simp; rfl)); (case hp => exact (Reps.one (show Kd.M (Kd.int .i64) _ _ _ 0 [.int .i64 0] from rfl) (Reps.one (show Kd.M (Kd.int .i64) _ _ _ 1 [.int .i64 1] from rfl) (Reps.one (show Kd.M (Kd.int .i64) _ _ _ 1000000 [.int .i64 1000000] from rfl) (Reps.one (show Kd.M (Kd.int .i64) _ _ _ 1000001 [.int .i64 1000001] from rfl) (Reps.none _ _))))))
 intro v365 w32 ho33 hb hg_ hnew_
 clear hg_ hnew_
 (first | rw [← Ny364.out] at ho33 | (simp only [Int.reduceToNat] at ho33; rw [← Ny364.out] at ho33))
 have n0_ := Aside0.mk (Kd.R_below z79d hb)
 have n1_ := Aside0.mk (Kd.R_below z79f hb)
 have n2_ := Aside0.mk (Kd.R_lower ho33 (keep_size (w := w) (g := g) (row := none) z79b))
 have n3_ := Aside0.mk (IsS115.below z79a hb)
 have n4_ := Aside0.mk (KeepBut.trans z79b (KeepBut.of_below hb g none) (.inl rfl))
 have n5_ := Aside0.mk (below_step z79c hb)
 clear HO336
 clear HO356
 clear HI0
 clear HK
 clear HB
 have HO336 := n0_
 have HO356 := n1_
 have HO366 := n2_
 have HI0 := n3_
 have HK := n4_
 have HB := n5_
 clear n0_ n1_ n2_ n3_ n4_ n5_
 clear hb ho33
 obtain ⟨Ao34, co34, eo34⟩ := Kd.R_slice HO366.out
 subst eo34
 obtain ⟨ado34, fo34, _⟩ := Kd.at_int (Kd.R_reads' HO366.out).2.2 0 (by decide) (by rw [Ny364.out]; simp)
 cases fo34
 refine hK.out _ _ trivial (fun hHeld => ?_)
 clear hK K
 refine norm_ (a' := ?_) ?_ ?_
 rotate_left
 {
 show Act.put _ (some 28) _ = _
 simp only [Act.put, List.setIfInBounds_toArray, List.set_cons_zero, List.set_cons_succ, i64_w, i32_w]
 rfl
 }
 exact norm_ z79e (hJ1_2_8 (v355, .slice (some ado34) y364.length co34, ado34) _ ⟨z79d, z79f, z79g, ⟨_, rfl⟩, z79a, z79b, z79c⟩)
 }
 }
 }
 {
 skip
 rintro ⟨v365, adz_v365⟩ w33 ⟨h0_, h1_, h2_, h3_, h4_, h5_⟩
 have n0_ : Aside0 (Kd.R k88 88 w33 w.heap.size (fun _ => True) (.slice Ao26 t334.length co26) t334) := ⟨h0_⟩
 have n1_ : Aside0 (Kd.R (Kd.int .i64) 2 w33 w.heap.size (fun _ => True) v365 y364) := ⟨h1_⟩
 have n2_ : Aside0 (∃ c_, (v365 : Value) = .slice (some adz_v365) y364.length c_) := ⟨h2_⟩
 have n3_ : Aside0 (IsS115 w0 w33 g s0_0 t368 t369) := ⟨h3_⟩
 have n4_ : Aside0 (KeepBut w w33 g none) := ⟨h4_⟩
 have n5_ : Aside0 (Below w0.heap.size w0 w33) := ⟨h5_⟩
 clear HO336
 clear HI0
 clear HK
 clear HB
 clear h0_ h1_ h2_ h3_ h4_ h5_
 have HO336 := n0_
 have HO366 := n1_
 have HA_HO366 := n2_
 have HI0 := n3_
 have HK := n4_
 have HB := n5_
 clear n0_ n1_ n2_ n3_ n4_ n5_
 have hHeld := trivial
 obtain ⟨co34, eo34⟩ := HA_HO366.out
 clear HA_HO366
 subst eo34
 refine norm_ (a' := ?_) ?_ ?_
 rotate_left
 exact z79j
 refine two_ (i := 1) (j := 12) (Ni := some 21) (Nj := some 32) #[V, V, U, U, V, V, U, U, V, V, V, V, U, U, U, U, U] #[V, U, U, U, V, V, U, U, V, V, V, V, V, U, U, U, U] rfl rfl rfl rfl (two_of HT_.out (by kernel_rfl)) (by decide) (by decide) (fun K hK => ?_) (fun K hK => ?_)
 {
 skip
 refine Kd.R_make_step (Kd.int .u8) _ 5 (by rfl) (N := 21) rfl 59 _ _ rfl 41 rfl rfl Try.underlying59 (.int .u8 0) 1 info5 rfl (by decide) (by omega) 0 (ok := fun _ => True) (okp := fun _ => True) rfl (fun _ hk => hk) trivial (by omega) (by omega) (Below.refl _ _) (Nat.le_refl _) ?_
 intro v355 w35 ho36 hb hg_ hnew_
 clear hg_ hnew_
 (first | rw [← Ny354.out] at ho36 | (simp only [Int.reduceToNat] at ho36; rw [← Ny354.out] at ho36))
 have n0_ := Aside0.mk (Kd.R_below z79d hb)
 have n1_ := Aside0.mk (Kd.R_below z79g hb)
 have n2_ := Aside0.mk (Kd.R_lower ho36 (keep_size (w := w) (g := g) (row := none) z79b))
 have n3_ := Aside0.mk (IsS115.below z79a hb)
 have n4_ := Aside0.mk (KeepBut.trans z79b (KeepBut.of_below hb g none) (.inl rfl))
 have n5_ := Aside0.mk (below_step z79c hb)
 clear HO336
 clear HO366
 clear HI0
 clear HK
 clear HB
 have HO336 := n0_
 have HO366 := n1_
 have HO356 := n2_
 have HI0 := n3_
 have HK := n4_
 have HB := n5_
 clear n0_ n1_ n2_ n3_ n4_ n5_
 clear hb ho36
 refine hK.out _ _ trivial (fun hHeld => ?_)
 clear hK K
 refine norm_ (a' := ?_) ?_ ?_
 rotate_left
 {
 show Act.put _ (some 21) _ = _
 simp only [Act.put, List.setIfInBounds_toArray, List.set_cons_zero, List.set_cons_succ, i64_w, i32_w]
 rfl
 }
 exact norm_ z79e (hJ1_5_8_10 (v355, .slice (some adz_v365) y364.length co34, adz_v365) _ ⟨z79d, z79f, z79g, ⟨_, rfl⟩, z79a, z79b, z79c⟩)
 }
 {
 skip
 (have p370 : 0 ≤ (t367 : Int) := of_decide_eq_true z79l; have q370 : t367 < (y364.length : Int) := of_decide_eq_true z79l; obtain ⟨ad370, e370, hx370_0⟩ := Kd.at_int (Kd.R_reads' HO366.out).2.2 t367 p370 q370; obtain rfl : adz_v365 = ad370 := (by injection e370))
 refine value_ (w1 := ?_) (v := ?_) (by rfl) rfl ?_ ?_
 rotate_left 2
 {
 go_simp
 constructor
 {
 rfl
 }
 {
 rfl
 }
 }
 clear hx370_0
 refine hK.out _ _ trivial (fun hHeld => ?_)
 clear hK K
 refine norm_ (a' := ?_) ?_ ?_
 rotate_left
 {
 show Act.put _ (some 32) _ = _
 simp only [Act.put, List.setIfInBounds_toArray, List.set_cons_zero, List.set_cons_succ, i64_w, i32_w]
 rfl
 }
 exact norm_ z79e (hJ5_8_10_12 (.slice (some adz_v365) y364.length co34, adz_v365) _ ⟨z79d, z79g, ⟨_, rfl⟩, z79a, z79b, z79c⟩)
 }
 }
 }
 {
 skip
 rintro v355 w32 ⟨h0_, h1_, h2_, h3_, h4_⟩
 have n0_ : Aside0 (Kd.R k88 88 w32 w.heap.size (fun _ => True) (.slice Ao26 t334.length co26) t334) := ⟨h0_⟩
 have n1_ : Aside0 (Kd.R (Kd.int .u8) 5 w32 w.heap.size (fun _ => True) v355 y354) := ⟨h1_⟩
 have n2_ : Aside0 (IsS115 w0 w32 g s0_0 t368 t369) := ⟨h2_⟩
 have n3_ : Aside0 (KeepBut w w32 g none) := ⟨h3_⟩
 have n4_ : Aside0 (Below w0.heap.size w0 w32) := ⟨h4_⟩
 clear HO336
 clear HI0
 clear HK
 clear HB
 clear h0_ h1_ h2_ h3_ h4_
 have HO336 := n0_
 have HO356 := n1_
 have HI0 := n2_
 have HK := n3_
 have HB := n4_
 clear n0_ n1_ n2_ n3_ n4_
 have hHeld := trivial
 refine norm_ (a' := ?_) ?_ ?_
 rotate_left
 exact z79j
 refine two_ (i := 2) (j := 8) (Ni := some 22) (Nj := some 28) #[V, V, V, U, V, V, U, U, U, V, V, U, U, U, U, U, U] #[V, V, U, U, V, V, U, U, V, V, V, U, U, U, U, U, U] rfl rfl rfl rfl (two_of HT_.out (by kernel_rfl)) (by decide) (by decide) (fun K hK => ?_) (fun K hK => ?_)
 {
 skip
 have hcv33 := own_string (P := Try.prog) Try.underlying59 Try.underlying5 Try.underlying9 (Kd.own_of_R HO356.out)
 refine value_ (w1 := ?_) (v := ?_) (by rfl) rfl ?_ ?_
 rotate_left 2
 {
 go_simp
 constructor
 {
 rfl
 }
 {
 rfl
 }
 }
 clear hcv33
 refine hK.out _ _ trivial (fun hHeld => ?_)
 clear hK K
 refine norm_ (a' := ?_) ?_ ?_
 rotate_left
 {
 show Act.put _ (some 22) _ = _
 simp only [Act.put, List.setIfInBounds_toArray, List.set_cons_zero, List.set_cons_succ, i64_w, i32_w]
 rfl
 }
 exact norm_ z79e (hJ1_2_5_10 (v355) _ ⟨z79d, z79f, z79a, z79b, z79c⟩)
 }
 {
 skip
 refine Kd.R_lit_step (Kd.int .i64) _ 2 ?hg (N := 28) ?hd (xs := ([0, 1, 1000000, 1000001] : List Int)) (inner := [.int .i64 0, .int .i64 1, .int .i64 1000000, .int .i64 1000001]) (ok := fun _ => True) (okp := fun _ => True) ?hr ?hp (fun _ hk => hk) trivial (Below.refl _ _) (Nat.le_refl _) (by simp) ?_; (case hd => rfl); (case hg => rfl); (case hr => first | (go_simp; done) | (go_simp; rfl)); (case hp => exact (Reps.one (show Kd.M (Kd.int .i64) _ _ _ 0 [.int .i64 0] from rfl) (Reps.one (show Kd.M (Kd.int .i64) _ _ _ 1 [.int .i64 1] from rfl) (Reps.one (show Kd.M (Kd.int .i64) _ _ _ 1000000 [.int .i64 1000000] from rfl) (Reps.one (show Kd.M (Kd.int .i64) _ _ _ 1000001 [.int .i64 1000001] from rfl) (Reps.none _ _))))))
 intro v365 w33 ho34 hb hg_ hnew_
 clear hg_ hnew_
 (first | rw [← Ny364.out] at ho34 | (simp only [Int.reduceToNat] at ho34; rw [← Ny364.out] at ho34))
 have n0_ := Aside0.mk (Kd.R_below z79d hb)
 have n1_ := Aside0.mk (Kd.R_below z79f hb)
 have n2_ := Aside0.mk (Kd.R_lower ho34 (keep_size (w := w) (g := g) (row := none) z79b))
 have n3_ := Aside0.mk (IsS115.below z79a hb)
 have n4_ := Aside0.mk (KeepBut.trans z79b (KeepBut.of_below hb g none) (.inl rfl))
 have n5_ := Aside0.mk (below_step z79c hb)
 clear HO336
 clear HO356
 clear HI0
 clear HK
 clear HB
 have HO336 := n0_
 have HO356 := n1_
 have HO366 := n2_
 have HI0 := n3_
 have HK := n4_
 have HB := n5_
 clear n0_ n1_ n2_ n3_ n4_ n5_
 clear hb ho34
 obtain ⟨Ao35, co35, eo35⟩ := Kd.R_slice HO366.out
 subst eo35
 obtain ⟨ado35, fo35, _⟩ := Kd.at_int (Kd.R_reads' HO366.out).2.2 0 (by decide) (by rw [Ny364.out]; simp)
 cases fo35
 refine hK.out _ _ trivial (fun hHeld => ?_)
 clear hK K
 refine norm_ (a' := ?_) ?_ ?_
 rotate_left
 {
 show Act.put _ (some 28) _ = _
 simp only [Act.put, List.setIfInBounds_toArray, List.set_cons_zero, List.set_cons_succ, i64_w, i32_w]
 rfl
 }
 refine pure_ (i := 11) (N := some 31) (v := _) (a' := _) #[V, V, U, U, V, V, U, U, V, V, V, V, U, U, U, U, U] rfl rfl (any_of HT_.out (by kernel_rfl)) (fun _ _ _ h => h) (Or.inl ⟨by rfl, (by intro w'; go_simp; with_reducible rfl)⟩) z79k ?_
 exact norm_ z79e (hJ1_5_8_10 (v355, .slice (some ado35) y364.length co35, ado35) _ ⟨z79d, z79f, z79g, ⟨_, rfl⟩, z79a, z79b, z79c⟩)
 }
 }
 }
 {
 skip
 rintro ⟨v355, v365, adz_v365⟩ w34 ⟨h0_, h1_, h2_, h3_, h4_, h5_, h6_⟩
 have n0_ : Aside0 (Kd.R k88 88 w34 w.heap.size (fun _ => True) (.slice Ao26 t334.length co26) t334) := ⟨h0_⟩
 have n1_ : Aside0 (Kd.R (Kd.int .u8) 5 w34 w.heap.size (fun _ => True) v355 y354) := ⟨h1_⟩
 have n2_ : Aside0 (Kd.R (Kd.int .i64) 2 w34 w.heap.size (fun _ => True) v365 y364) := ⟨h2_⟩
 have n3_ : Aside0 (∃ c_, (v365 : Value) = .slice (some adz_v365) y364.length c_) := ⟨h3_⟩
 have n4_ : Aside0 (IsS115 w0 w34 g s0_0 t361 t362) := ⟨h4_⟩
 have n5_ : Aside0 (KeepBut w w34 g none) := ⟨h5_⟩
 have n6_ : Aside0 (Below w0.heap.size w0 w34) := ⟨h6_⟩
 clear HO336
 clear HI0
 clear HK
 clear HB
 clear h0_ h1_ h2_ h3_ h4_ h5_ h6_
 have HO336 := n0_
 have HO356 := n1_
 have HO366 := n2_
 have HA_HO366 := n3_
 have HI0 := n4_
 have HK := n5_
 have HB := n6_
 clear n0_ n1_ n2_ n3_ n4_ n5_ n6_
 have hHeld := trivial
 obtain ⟨co35, eo35⟩ := HA_HO366.out
 clear HA_HO366
 subst eo35
 refine norm_ (a' := ?_) ?_ ?_
 rotate_left
 exact z79j
 refine two_ (i := 2) (j := 10) (Ni := some 22) (Nj := some 30) #[V, V, V, U, V, V, U, U, V, V, U, U, U, U, U, U, U] #[V, V, U, U, V, V, U, U, V, V, V, U, U, U, U, U, U] rfl rfl rfl rfl (two_of HT_.out (by kernel_rfl)) (by decide) (by decide) (fun K hK => ?_) (fun K hK => ?_)
 {
 skip
 have hcv36 := own_string (P := Try.prog) Try.underlying59 Try.underlying5 Try.underlying9 (Kd.own_of_R HO356.out)
 refine value_ (w1 := ?_) (v := ?_) (by rfl) rfl ?_ ?_
 rotate_left 2
 {
 go_simp
 constructor
 {
 rfl
 }
 {
 rfl
 }
 }
 clear hcv36
 refine hK.out _ _ trivial (fun hHeld => ?_)
 clear hK K
 refine norm_ (a' := ?_) ?_ ?_
 rotate_left
 {
 show Act.put _ (some 22) _ = _
 simp only [Act.put, List.setIfInBounds_toArray, List.set_cons_zero, List.set_cons_succ, i64_w, i32_w]
 rfl
 }
 exact norm_ z79e (hJ1_2_5_8 (v355, .slice (some adz_v365) y364.length co35, adz_v365) _ ⟨z79d, z79f, z79g, ⟨_, rfl⟩, z79a, z79b, z79c⟩)
 }
 {
 skip
 refine goes_ Try.func102 (by kernel_rfl) rfl #[.pointer (some ⟨g, 0, none⟩), .int .i64 4] (by rfl) rfl rfl z79h ?_
 with_reducible refine (spec_l1Below.calls g s0_0 t361 t362 4 t367 t368 t369 w0 _ ?side1 ?side2 A19.out).mono ?_
 (case side1 => exact z79a)
 (case side2 => exact z79c)
 rintro e w36 ⟨rfl, hi, hb, hk⟩
 refine ⟨_, rfl, ?_⟩
 have n0_ := Aside0.mk (Kd.R_mono (Kd.R_keep (IsS115.apart (show IsS115 w0 _ g s0_0 t361 t362 from z79a) z79d (by decide)) hk (fun _ h => h.2)) (fun _ h => h.1))
 have n1_ := Aside0.mk (Kd.R_mono (Kd.R_keep (IsS115.apart (show IsS115 w0 _ g s0_0 t361 t362 from z79a) z79f (by decide)) hk (fun _ h => h.2)) (fun _ h => h.1))
 have n2_ := Aside0.mk (Kd.R_mono (Kd.R_keep (IsS115.apart (show IsS115 w0 _ g s0_0 t361 t362 from z79a) z79g (by decide)) hk (fun _ h => h.2)) (fun _ h => h.1))
 have n3_ := Aside0.mk (KeepBut.trans z79b hk (.inl rfl))
 have n4_ := Aside0.mk (hb)
 have n5_ := Aside0.mk (hi)
 clear HO336
 clear HO356
 clear HO366
 clear HK
 clear HB
 clear HI0
 have HO336 := n0_
 have HO356 := n1_
 have HO366 := n2_
 have HK := n3_
 have HB := n4_
 have HI0 := n5_
 clear n0_ n1_ n2_ n3_ n4_ n5_
 (try clear hb)
 (try clear hb2)
 (try clear hk)
 (try clear hi)
 refine hK.out _ _ trivial (fun hHeld => ?_)
 clear hK K
 refine norm_ (a' := ?_) ?_ ?_
 rotate_left
 {
 show Act.put _ (some 30) _ = _
 simp only [Act.put, List.setIfInBounds_toArray, List.set_cons_zero, List.set_cons_succ, i64_w, i32_w]
 rfl
 }
 refine pure_ (i := 11) (N := some 31) (v := _) (a' := _) #[V, V, U, U, V, V, U, U, V, V, V, V, U, U, U, U, U] rfl rfl (any_of HT_.out (by kernel_rfl)) (fun _ _ _ h => h) (Or.inl ⟨by rfl, (by intro w'; go_simp; with_reducible rfl)⟩) z79k ?_
 exact norm_ z79e (hJ1_5_8_10 (v355, .slice (some adz_v365) y364.length co35, adz_v365) _ ⟨z79d, z79f, z79g, ⟨_, rfl⟩, z79a, z79b, z79c⟩)
 }
 }
 }
 {
 skip
 rintro ⟨v355, v365, adz_v365⟩ w34 ⟨h0_, h1_, h2_, h3_, h4_, h5_, h6_⟩
 have n0_ : Aside0 (Kd.R k88 88 w34 w.heap.size (fun _ => True) (.slice Ao26 t334.length co26) t334) := ⟨h0_⟩
 have n1_ : Aside0 (Kd.R (Kd.int .u8) 5 w34 w.heap.size (fun _ => True) v355 y354) := ⟨h1_⟩
 have n2_ : Aside0 (Kd.R (Kd.int .i64) 2 w34 w.heap.size (fun _ => True) v365 y364) := ⟨h2_⟩
 have n3_ : Aside0 (∃ c_, (v365 : Value) = .slice (some adz_v365) y364.length c_) := ⟨h3_⟩
 have n4_ : Aside0 (IsS115 w0 w34 g s0_0 t343 t344) := ⟨h4_⟩
 have n5_ : Aside0 (KeepBut w w34 g none) := ⟨h5_⟩
 have n6_ : Aside0 (Below w0.heap.size w0 w34) := ⟨h6_⟩
 clear HO336
 clear HI0
 clear HK
 clear HB
 clear h0_ h1_ h2_ h3_ h4_ h5_ h6_
 have HO336 := n0_
 have HO356 := n1_
 have HO366 := n2_
 have HA_HO366 := n3_
 have HI0 := n4_
 have HK := n5_
 have HB := n6_
 clear n0_ n1_ n2_ n3_ n4_ n5_ n6_
 have hHeld := trivial
 obtain ⟨co35, eo35⟩ := HA_HO366.out
 clear HA_HO366
 subst eo35
 refine norm_ (a' := ?_) ?_ ?_
 rotate_left
 exact z79j
 refine two_ (i := 3) (j := 5) (Ni := some 23) (Nj := some 25) #[V, V, V, V, V, U, U, U, V, V, U, U, U, U, U, U, U] #[V, V, V, U, V, V, U, U, V, V, U, U, U, U, U, U, U] rfl rfl rfl rfl (two_of HT_.out (by kernel_rfl)) (by decide) (by decide) (fun K hK => ?_) (fun K hK => ?_)
 {
 skip
 refine Kd.R_lit_step Kd.string _ 9 ?hg (N := 23) ?hd (xs := ([(⟨#[]⟩ : ByteArray), (⟨#[122, 122]⟩ : ByteArray), strOfNums y354] : List ByteArray)) (inner := [.string (⟨#[]⟩ : ByteArray), .string (⟨#[122, 122]⟩ : ByteArray), .string (strOfNums y354)]) (ok := fun _ => True) (okp := fun _ => True) ?hr ?hp (fun _ hk => hk) trivial (Below.refl _ _) (Nat.le_refl _) (by simp) ?_; (case hd => rfl); (case hg => rfl); (case hr => first | (go_simp; done) | (go_simp; rfl)); (case hp => exact (Reps.one (show Kd.M Kd.string _ _ _ (⟨#[]⟩ : ByteArray) [.string (⟨#[]⟩ : ByteArray)] from rfl) (Reps.one (show Kd.M Kd.string _ _ _ (⟨#[122, 122]⟩ : ByteArray) [.string (⟨#[122, 122]⟩ : ByteArray)] from rfl) (Reps.one (show Kd.M Kd.string _ _ _ (strOfNums y354) [.string (strOfNums y354)] from rfl) (Reps.none _ _)))))
 intro v358 w36 ho37 hb hg_ hnew_
 clear hg_ hnew_
 (first | rw [← Ny357.out] at ho37 | (simp only [Int.reduceToNat] at ho37; rw [← Ny357.out] at ho37))
 have n0_ := Aside0.mk (Kd.R_below z79d hb)
 have n1_ := Aside0.mk (Kd.R_below z79f hb)
 have n2_ := Aside0.mk (Kd.R_below z79g hb)
 have n3_ := Aside0.mk (Kd.R_lower ho37 (keep_size (w := w) (g := g) (row := none) z79b))
 have n4_ := Aside0.mk (IsS115.below z79a hb)
 have n5_ := Aside0.mk (KeepBut.trans z79b (KeepBut.of_below hb g none) (.inl rfl))
 have n6_ := Aside0.mk (below_step z79c hb)
 clear HO336
 clear HO356
 clear HO366
 clear HI0
 clear HK
 clear HB
 have HO336 := n0_
 have HO356 := n1_
 have HO366 := n2_
 have HO359 := n3_
 have HI0 := n4_
 have HK := n5_
 have HB := n6_
 clear n0_ n1_ n2_ n3_ n4_ n5_ n6_
 clear hb ho37
 obtain ⟨Ao38, co38, eo38⟩ := Kd.R_slice HO359.out
 subst eo38
 obtain ⟨ado38, fo38, _⟩ := Kd.at_string (Kd.R_reads' HO359.out).2.2 0 (by decide) (by rw [Ny357.out]; simp)
 cases fo38
 refine hK.out _ _ trivial (fun hHeld => ?_)
 clear hK K
 refine norm_ (a' := ?_) ?_ ?_
 rotate_left
 {
 show Act.put _ (some 23) _ = _
 simp only [Act.put, List.setIfInBounds_toArray, List.set_cons_zero, List.set_cons_succ, i64_w, i32_w]
 rfl
 }
 exact norm_ z79e (hJ1_2_3_8 (v355, .slice (some ado38) y357.length co38, ado38, .slice (some adz_v365) y364.length co35, adz_v365) _ ⟨z79d, z79f, z79i, z79g, ⟨_, rfl⟩, ⟨_, rfl⟩, z79a, z79b, z79c⟩)
 }
 {
 skip
 refine goes_ Try.func102 (by kernel_rfl) rfl #[.pointer (some ⟨g, 0, none⟩), .int .i64 3] (by rfl) rfl rfl z79h ?_
 with_reducible refine (spec_l1Below.calls g s0_0 t343 t344 3 t360 t361 t362 w0 _ ?side1 ?side2 A16.out).mono ?_
 (case side1 => exact z79a)
 (case side2 => exact z79c)
 rintro e w36 ⟨rfl, hi, hb, hk⟩
 refine ⟨_, rfl, ?_⟩
 have n0_ := Aside0.mk (Kd.R_mono (Kd.R_keep (IsS115.apart (show IsS115 w0 _ g s0_0 t343 t344 from z79a) z79d (by decide)) hk (fun _ h => h.2)) (fun _ h => h.1))
 have n1_ := Aside0.mk (Kd.R_mono (Kd.R_keep (IsS115.apart (show IsS115 w0 _ g s0_0 t343 t344 from z79a) z79f (by decide)) hk (fun _ h => h.2)) (fun _ h => h.1))
 have n2_ := Aside0.mk (Kd.R_mono (Kd.R_keep (IsS115.apart (show IsS115 w0 _ g s0_0 t343 t344 from z79a) z79g (by decide)) hk (fun _ h => h.2)) (fun _ h => h.1))
 have n3_ := Aside0.mk (KeepBut.trans z79b hk (.inl rfl))
 have n4_ := Aside0.mk (hb)
 have n5_ := Aside0.mk (hi)
 clear HO336
 clear HO356
 clear HO366
 clear HK
 clear HB
 clear HI0
 have HO336 := n0_
 have HO356 := n1_
 have HO366 := n2_
 have HK := n3_
 have HB := n4_
 have HI0 := n5_
 clear n0_ n1_ n2_ n3_ n4_ n5_
 (try clear hb)
 (try clear hb2)
 (try clear hk)
 (try clear hi)
 refine hK.out _ _ trivial (fun hHeld => ?_)
 clear hK K
 refine norm_ (a' := ?_) ?_ ?_
 rotate_left
 {
 show Act.put _ (some 25) _ = _
 simp only [Act.put, List.setIfInBounds_toArray, List.set_cons_zero, List.set_cons_succ, i64_w, i32_w]
 rfl
 }
 exact norm_ z79e (hJ1_2_5_8 (v355, .slice (some adz_v365) y364.length co35, adz_v365) _ ⟨z79d, z79f, z79g, ⟨_, rfl⟩, z79a, z79b, z79c⟩)
 }
 }
 }
 {
 skip
 rintro v355 w32 ⟨h0_, h1_, h2_, h3_, h4_⟩
 have n0_ : Aside0 (Kd.R k88 88 w32 w.heap.size (fun _ => True) (.slice Ao26 t334.length co26) t334) := ⟨h0_⟩
 have n1_ : Aside0 (Kd.R (Kd.int .u8) 5 w32 w.heap.size (fun _ => True) v355 y354) := ⟨h1_⟩
 have n2_ : Aside0 (IsS115 w0 w32 g s0_0 t361 t362) := ⟨h2_⟩
 have n3_ : Aside0 (KeepBut w w32 g none) := ⟨h3_⟩
 have n4_ : Aside0 (Below w0.heap.size w0 w32) := ⟨h4_⟩
 clear HO336
 clear HI0
 clear HK
 clear HB
 clear h0_ h1_ h2_ h3_ h4_
 have HO336 := n0_
 have HO356 := n1_
 have HI0 := n2_
 have HK := n3_
 have HB := n4_
 clear n0_ n1_ n2_ n3_ n4_
 have hHeld := trivial
 refine norm_ (a' := ?_) ?_ ?_
 rotate_left
 exact z79j
 refine three_ (i := 3) (j := 8) (k := 10) (Ni := some 23) (Nj := some 28) (Nk := some 30) #[V, V, V, V, V, V, U, U, U, V, U, U, U, U, U, U, U] #[V, V, V, U, V, V, U, U, V, V, U, U, U, U, U, U, U] #[V, V, V, U, V, V, U, U, U, V, V, U, U, U, U, U, U] rfl rfl rfl rfl rfl rfl (three_of HT_.out (by kernel_rfl)) (by decide) (by decide) (by decide) (fun K hK => ?_) (fun K hK => ?_) (fun K hK => ?_)
 {
 skip
 refine Kd.R_lit_step Kd.string _ 9 ?hg (N := 23) ?hd (xs := ([(⟨#[]⟩ : ByteArray), (⟨#[122, 122]⟩ : ByteArray), strOfNums y354] : List ByteArray)) (inner := [.string (⟨#[]⟩ : ByteArray), .string (⟨#[122, 122]⟩ : ByteArray), .string (strOfNums y354)]) (ok := fun _ => True) (okp := fun _ => True) ?hr ?hp (fun _ hk => hk) trivial (Below.refl _ _) (Nat.le_refl _) (by simp) ?_; (case hd => rfl); (case hg => rfl); (case hr => first | (go_simp; done) | (go_simp; rfl)); (case hp => exact (Reps.one (show Kd.M Kd.string _ _ _ (⟨#[]⟩ : ByteArray) [.string (⟨#[]⟩ : ByteArray)] from rfl) (Reps.one (show Kd.M Kd.string _ _ _ (⟨#[122, 122]⟩ : ByteArray) [.string (⟨#[122, 122]⟩ : ByteArray)] from rfl) (Reps.one (show Kd.M Kd.string _ _ _ (strOfNums y354) [.string (strOfNums y354)] from rfl) (Reps.none _ _)))))
 intro v358 w33 ho34 hb hg_ hnew_
 clear hg_ hnew_
 (first | rw [← Ny357.out] at ho34 | (simp only [Int.reduceToNat] at ho34; rw [← Ny357.out] at ho34))
 have n0_ := Aside0.mk (Kd.R_below z79d hb)
 have n1_ := Aside0.mk (Kd.R_below z79f hb)
 have n2_ := Aside0.mk (Kd.R_lower ho34 (keep_size (w := w) (g := g) (row := none) z79b))
 have n3_ := Aside0.mk (IsS115.below z79a hb)
 have n4_ := Aside0.mk (KeepBut.trans z79b (KeepBut.of_below hb g none) (.inl rfl))
 have n5_ := Aside0.mk (below_step z79c hb)
 clear HO336
 clear HO356
 clear HI0
 clear HK
 clear HB
 have HO336 := n0_
 have HO356 := n1_
 have HO359 := n2_
 have HI0 := n3_
 have HK := n4_
 have HB := n5_
 clear n0_ n1_ n2_ n3_ n4_ n5_
 clear hb ho34
 obtain ⟨Ao35, co35, eo35⟩ := Kd.R_slice HO359.out
 subst eo35
 obtain ⟨ado35, fo35, _⟩ := Kd.at_string (Kd.R_reads' HO359.out).2.2 0 (by decide) (by rw [Ny357.out]; simp)
 cases fo35
 refine hK.out _ _ trivial (fun hHeld => ?_)
 clear hK K
 refine norm_ (a' := ?_) ?_ ?_
 rotate_left
 {
 show Act.put _ (some 23) _ = _
 simp only [Act.put, List.setIfInBounds_toArray, List.set_cons_zero, List.set_cons_succ, i64_w, i32_w]
 rfl
 }
 refine pure_ (i := 6) (N := some 26) (v := _) (a' := _) #[V, V, V, V, V, V, V, U, U, V, U, U, U, U, U, U, U] rfl rfl (any_of HT_.out (by kernel_rfl)) (fun _ _ _ h => h) (Or.inl ⟨by rfl, (by intro w'; go_simp; with_reducible rfl)⟩) z79k ?_
 exact norm_ z79e (hJ1_2_3_5 (v355, .slice (some ado35) y357.length co35, ado35) _ ⟨z79d, z79f, z79i, ⟨_, rfl⟩, z79a, z79b, z79c⟩)
 }
 {
 skip
 refine Kd.R_lit_step (Kd.int .i64) _ 2 ?hg (N := 28) ?hd (xs := ([0, 1, 1000000, 1000001] : List Int)) (inner := [.int .i64 0, .int .i64 1, .int .i64 1000000, .int .i64 1000001]) (ok := fun _ => True) (okp := fun _ => True) ?hr ?hp (fun _ hk => hk) trivial (Below.refl _ _) (Nat.le_refl _) (by simp) ?_; (case hd => rfl); (case hg => rfl); (case hr => first | (go_simp; done) | (go_simp; rfl)); (case hp => exact (Reps.one (show Kd.M (Kd.int .i64) _ _ _ 0 [.int .i64 0] from rfl) (Reps.one (show Kd.M (Kd.int .i64) _ _ _ 1 [.int .i64 1] from rfl) (Reps.one (show Kd.M (Kd.int .i64) _ _ _ 1000000 [.int .i64 1000000] from rfl) (Reps.one (show Kd.M (Kd.int .i64) _ _ _ 1000001 [.int .i64 1000001] from rfl) (Reps.none _ _))))))
 intro v365 w33 ho34 hb hg_ hnew_
 clear hg_ hnew_
 (first | rw [← Ny364.out] at ho34 | (simp only [Int.reduceToNat] at ho34; rw [← Ny364.out] at ho34))
 have n0_ := Aside0.mk (Kd.R_below z79d hb)
 have n1_ := Aside0.mk (Kd.R_below z79f hb)
 have n2_ := Aside0.mk (Kd.R_lower ho34 (keep_size (w := w) (g := g) (row := none) z79b))
 have n3_ := Aside0.mk (IsS115.below z79a hb)
 have n4_ := Aside0.mk (KeepBut.trans z79b (KeepBut.of_below hb g none) (.inl rfl))
 have n5_ := Aside0.mk (below_step z79c hb)
 clear HO336
 clear HO356
 clear HI0
 clear HK
 clear HB
 have HO336 := n0_
 have HO356 := n1_
 have HO366 := n2_
 have HI0 := n3_
 have HK := n4_
 have HB := n5_
 clear n0_ n1_ n2_ n3_ n4_ n5_
 clear hb ho34
 obtain ⟨Ao35, co35, eo35⟩ := Kd.R_slice HO366.out
 subst eo35
 obtain ⟨ado35, fo35, _⟩ := Kd.at_int (Kd.R_reads' HO366.out).2.2 0 (by decide) (by rw [Ny364.out]; simp)
 cases fo35
 refine hK.out _ _ trivial (fun hHeld => ?_)
 clear hK K
 refine norm_ (a' := ?_) ?_ ?_
 rotate_left
 {
 show Act.put _ (some 28) _ = _
 simp only [Act.put, List.setIfInBounds_toArray, List.set_cons_zero, List.set_cons_succ, i64_w, i32_w]
 rfl
 }
 exact norm_ z79e (hJ1_2_5_8 (v355, .slice (some ado35) y364.length co35, ado35) _ ⟨z79d, z79f, z79g, ⟨_, rfl⟩, z79a, z79b, z79c⟩)
 }
 {
 skip
 refine goes_ Try.func102 (by kernel_rfl) rfl #[.pointer (some ⟨g, 0, none⟩), .int .i64 4] (by rfl) rfl rfl z79h ?_
 with_reducible refine (spec_l1Below.calls g s0_0 t361 t362 4 t367 t368 t369 w0 _ ?side1 ?side2 A19.out).mono ?_
 (case side1 => exact z79a)
 (case side2 => exact z79c)
 rintro e w33 ⟨rfl, hi, hb, hk⟩
 refine ⟨_, rfl, ?_⟩
 have n0_ := Aside0.mk (Kd.R_mono (Kd.R_keep (IsS115.apart (show IsS115 w0 _ g s0_0 t361 t362 from z79a) z79d (by decide)) hk (fun _ h => h.2)) (fun _ h => h.1))
 have n1_ := Aside0.mk (Kd.R_mono (Kd.R_keep (IsS115.apart (show IsS115 w0 _ g s0_0 t361 t362 from z79a) z79f (by decide)) hk (fun _ h => h.2)) (fun _ h => h.1))
 have n2_ := Aside0.mk (KeepBut.trans z79b hk (.inl rfl))
 have n3_ := Aside0.mk (hb)
 have n4_ := Aside0.mk (hi)
 clear HO336
 clear HO356
 clear HK
 clear HB
 clear HI0
 have HO336 := n0_
 have HO356 := n1_
 have HK := n2_
 have HB := n3_
 have HI0 := n4_
 clear n0_ n1_ n2_ n3_ n4_
 (try clear hb)
 (try clear hb2)
 (try clear hk)
 (try clear hi)
 refine hK.out _ _ trivial (fun hHeld => ?_)
 clear hK K
 refine norm_ (a' := ?_) ?_ ?_
 rotate_left
 {
 show Act.put _ (some 30) _ = _
 simp only [Act.put, List.setIfInBounds_toArray, List.set_cons_zero, List.set_cons_succ, i64_w, i32_w]
 rfl
 }
 exact norm_ z79e (hJ1_2_5_10 (v355) _ ⟨z79d, z79f, z79a, z79b, z79c⟩)
 }
 }
 }
 {
 skip
 rintro ⟨v355, v358, adz_v358⟩ w34 ⟨h0_, h1_, h2_, h3_, h4_, h5_, h6_⟩
 have n0_ : Aside0 (Kd.R k88 88 w34 w.heap.size (fun _ => True) (.slice Ao26 t334.length co26) t334) := ⟨h0_⟩
 have n1_ : Aside0 (Kd.R (Kd.int .u8) 5 w34 w.heap.size (fun _ => True) v355 y354) := ⟨h1_⟩
 have n2_ : Aside0 (Kd.R Kd.string 9 w34 w.heap.size (fun _ => True) v358 y357) := ⟨h2_⟩
 have n3_ : Aside0 (∃ c_, (v358 : Value) = .slice (some adz_v358) y357.length c_) := ⟨h3_⟩
 have n4_ : Aside0 (IsS115 w0 w34 g s0_0 t343 t344) := ⟨h4_⟩
 have n5_ : Aside0 (KeepBut w w34 g none) := ⟨h5_⟩
 have n6_ : Aside0 (Below w0.heap.size w0 w34) := ⟨h6_⟩
 clear HO336
 clear HI0
 clear HK
 clear HB
 clear h0_ h1_ h2_ h3_ h4_ h5_ h6_
 have HO336 := n0_
 have HO356 := n1_
 have HO359 := n2_
 have HA_HO359 := n3_
 have HI0 := n4_
 have HK := n5_
 have HB := n6_
 clear n0_ n1_ n2_ n3_ n4_ n5_ n6_
 have hHeld := trivial
 obtain ⟨co35, eo35⟩ := HA_HO359.out
 clear HA_HO359
 subst eo35
 refine norm_ (a' := ?_) ?_ ?_
 rotate_left
 exact z79j
 refine two_ (i := 5) (j := 8) (Ni := some 25) (Nj := some 28) #[V, V, V, V, V, V, U, U, U, V, U, U, U, U, U, U, U] #[V, V, V, V, V, U, U, U, V, V, U, U, U, U, U, U, U] rfl rfl rfl rfl (two_of HT_.out (by kernel_rfl)) (by decide) (by decide) (fun K hK => ?_) (fun K hK => ?_)
 {
 skip
 refine goes_ Try.func102 (by kernel_rfl) rfl #[.pointer (some ⟨g, 0, none⟩), .int .i64 3] (by rfl) rfl rfl z79h ?_
 with_reducible refine (spec_l1Below.calls g s0_0 t343 t344 3 t360 t361 t362 w0 _ ?side1 ?side2 A16.out).mono ?_
 (case side1 => exact z79a)
 (case side2 => exact z79c)
 rintro e w36 ⟨rfl, hi, hb, hk⟩
 refine ⟨_, rfl, ?_⟩
 have n0_ := Aside0.mk (Kd.R_mono (Kd.R_keep (IsS115.apart (show IsS115 w0 _ g s0_0 t343 t344 from z79a) z79d (by decide)) hk (fun _ h => h.2)) (fun _ h => h.1))
 have n1_ := Aside0.mk (Kd.R_mono (Kd.R_keep (IsS115.apart (show IsS115 w0 _ g s0_0 t343 t344 from z79a) z79f (by decide)) hk (fun _ h => h.2)) (fun _ h => h.1))
 have n2_ := Aside0.mk (Kd.R_mono (Kd.R_keep (IsS115.apart (show IsS115 w0 _ g s0_0 t343 t344 from z79a) z79i (by decide)) hk (fun _ h => h.2)) (fun _ h => h.1))
 have n3_ := Aside0.mk (KeepBut.trans z79b hk (.inl rfl))
 have n4_ := Aside0.mk (hb)
 have n5_ := Aside0.mk (hi)
 clear HO336
 clear HO356
 clear HO359
 clear HK
 clear HB
 clear HI0
 have HO336 := n0_
 have HO356 := n1_
 have HO359 := n2_
 have HK := n3_
 have HB := n4_
 have HI0 := n5_
 clear n0_ n1_ n2_ n3_ n4_ n5_
 (try clear hb)
 (try clear hb2)
 (try clear hk)
 (try clear hi)
 refine hK.out _ _ trivial (fun hHeld => ?_)
 clear hK K
 refine norm_ (a' := ?_) ?_ ?_
 rotate_left
 {
 show Act.put _ (some 25) _ = _
 simp only [Act.put, List.setIfInBounds_toArray, List.set_cons_zero, List.set_cons_succ, i64_w, i32_w]
 rfl
 }
 refine pure_ (i := 6) (N := some 26) (v := _) (a' := _) #[V, V, V, V, V, V, V, U, U, V, U, U, U, U, U, U, U] rfl rfl (any_of HT_.out (by kernel_rfl)) (fun _ _ _ h => h) (Or.inl ⟨by rfl, (by intro w'; go_simp; with_reducible rfl)⟩) z79k ?_
 exact norm_ z79e (hJ1_2_3_5 (v355, .slice (some adz_v358) y357.length co35, adz_v358) _ ⟨z79d, z79f, z79i, ⟨_, rfl⟩, z79a, z79b, z79c⟩)
 }
 {
 skip
 refine Kd.R_lit_step (Kd.int .i64) _ 2 ?hg (N := 28) ?hd (xs := ([0, 1, 1000000, 1000001] : List Int)) (inner := [.int .i64 0, .int .i64 1, .int .i64 1000000, .int .i64 1000001]) (ok := fun _ => True) (okp := fun _ => True) ?hr ?hp (fun _ hk => hk) trivial (Below.refl _ _) (Nat.le_refl _) (by simp) ?_; (case hd => rfl); (case hg => rfl); (case hr => first | (go_simp; done) | (go_simp; rfl)); (case hp => exact (Reps.one (show Kd.M (Kd.int .i64) _ _ _ 0 [.int .i64 0] from rfl) (Reps.one (show Kd.M (Kd.int .i64) _ _ _ 1 [.int .i64 1] from rfl) (Reps.one (show Kd.M (Kd.int .i64) _ _ _ 1000000 [.int .i64 1000000] from rfl) (Reps.one (show Kd.M (Kd.int .i64) _ _ _ 1000001 [.int .i64 1000001] from rfl) (Reps.none _ _))))))
 intro v365 w36 ho37 hb hg_ hnew_
 clear hg_ hnew_
 (first | rw [← Ny364.out] at ho37 | (simp only [Int.reduceToNat] at ho37; rw [← Ny364.out] at ho37))
 have n0_ := Aside0.mk (Kd.R_below z79d hb)
 have n1_ := Aside0.mk (Kd.R_below z79f hb)
 have n2_ := Aside0.mk (Kd.R_below z79i hb)
 have n3_ := Aside0.mk (Kd.R_lower ho37 (keep_size (w := w) (g := g) (row := none) z79b))
 have n4_ := Aside0.mk (IsS115.below z79a hb)
 have n5_ := Aside0.mk (KeepBut.trans z79b (KeepBut.of_below hb g none) (.inl rfl))
 have n6_ := Aside0.mk (below_step z79c hb)
 clear HO336
 clear HO356
 clear HO359
 clear HI0
 clear HK
 clear HB
 have HO336 := n0_
 have HO356 := n1_
 have HO359 := n2_
 have HO366 := n3_
 have HI0 := n4_
 have HK := n5_
 have HB := n6_
 clear n0_ n1_ n2_ n3_ n4_ n5_ n6_
 clear hb ho37
 obtain ⟨Ao38, co38, eo38⟩ := Kd.R_slice HO366.out
 subst eo38
 obtain ⟨ado38, fo38, _⟩ := Kd.at_int (Kd.R_reads' HO366.out).2.2 0 (by decide) (by rw [Ny364.out]; simp)
 cases fo38
 refine hK.out _ _ trivial (fun hHeld => ?_)
 clear hK K
 refine norm_ (a' := ?_) ?_ ?_
 rotate_left
 {
 show Act.put _ (some 28) _ = _
 simp only [Act.put, List.setIfInBounds_toArray, List.set_cons_zero, List.set_cons_succ, i64_w, i32_w]
 rfl
 }
 exact norm_ z79e (hJ1_2_3_8 (v355, .slice (some adz_v358) y357.length co35, adz_v358, .slice (some ado38) y364.length co38, ado38) _ ⟨z79d, z79f, z79i, z79g, ⟨_, rfl⟩, ⟨_, rfl⟩, z79a, z79b, z79c⟩)
 }
 }
 }
 {
 skip
 rintro ⟨v365, adz_v365⟩ w33 ⟨h0_, h1_, h2_, h3_, h4_, h5_⟩
 have n0_ : Aside0 (Kd.R k88 88 w33 w.heap.size (fun _ => True) (.slice Ao26 t334.length co26) t334) := ⟨h0_⟩
 have n1_ : Aside0 (Kd.R (Kd.int .i64) 2 w33 w.heap.size (fun _ => True) v365 y364) := ⟨h1_⟩
 have n2_ : Aside0 (∃ c_, (v365 : Value) = .slice (some adz_v365) y364.length c_) := ⟨h2_⟩
 have n3_ : Aside0 (IsS115 w0 w33 g s0_0 t368 t369) := ⟨h3_⟩
 have n4_ : Aside0 (KeepBut w w33 g none) := ⟨h4_⟩
 have n5_ : Aside0 (Below w0.heap.size w0 w33) := ⟨h5_⟩
 clear HO336
 clear HI0
 clear HK
 clear HB
 clear h0_ h1_ h2_ h3_ h4_ h5_
 have HO336 := n0_
 have HO366 := n1_
 have HA_HO366 := n2_
 have HI0 := n3_
 have HK := n4_
 have HB := n5_
 clear n0_ n1_ n2_ n3_ n4_ n5_
 have hHeld := trivial
 obtain ⟨co34, eo34⟩ := HA_HO366.out
 clear HA_HO366
 subst eo34
 refine norm_ (a' := ?_) ?_ ?_
 rotate_left
 exact z79j
 refine one_ (i := 1) (N := some 21) #[V, V, U, U, V, V, U, U, V, V, V, V, V, U, U, U, U] rfl rfl (one_of HT_.out (by kernel_rfl)) (by decide) (fun K hK => ?_)
 refine Kd.R_make_step (Kd.int .u8) _ 5 (by rfl) (N := 21) rfl 59 _ _ rfl 41 rfl rfl Try.underlying59 (.int .u8 0) 1 info5 rfl (by decide) (by omega) 0 (ok := fun _ => True) (okp := fun _ => True) rfl (fun _ hk => hk) trivial (by omega) (by omega) (Below.refl _ _) (Nat.le_refl _) ?_
 intro v355 w35 ho36 hb hg_ hnew_
 clear hg_ hnew_
 (first | rw [← Ny354.out] at ho36 | (simp only [Int.reduceToNat] at ho36; rw [← Ny354.out] at ho36))
 have n0_ := Aside0.mk (Kd.R_below z79d hb)
 have n1_ := Aside0.mk (Kd.R_below z79g hb)
 have n2_ := Aside0.mk (Kd.R_lower ho36 (keep_size (w := w) (g := g) (row := none) z79b))
 have n3_ := Aside0.mk (IsS115.below z79a hb)
 have n4_ := Aside0.mk (KeepBut.trans z79b (KeepBut.of_below hb g none) (.inl rfl))
 have n5_ := Aside0.mk (below_step z79c hb)
 clear HO336
 clear HO366
 clear HI0
 clear HK
 clear HB
 have HO336 := n0_
 have HO366 := n1_
 have HO356 := n2_
 have HI0 := n3_
 have HK := n4_
 have HB := n5_
 clear n0_ n1_ n2_ n3_ n4_ n5_
 clear hb ho36
 refine hK.out _ _ trivial (fun hHeld => ?_)
 clear hK K
 refine norm_ (a' := ?_) ?_ ?_
 rotate_left
 {
 show Act.put _ (some 21) _ = _
 simp only [Act.put, List.setIfInBounds_toArray, List.set_cons_zero, List.set_cons_succ, i64_w, i32_w]
 rfl
 }
 exact norm_ z79e (hJ1_5_8_10_12 (v355, .slice (some adz_v365) y364.length co34, adz_v365) _ ⟨z79d, z79f, z79g, ⟨_, rfl⟩, z79a, z79b, z79c⟩)
 }
 }
 {
 skip
 rintro ⟨v355, v365, adz_v365⟩ w35 ⟨h0_, h1_, h2_, h3_, h4_, h5_, h6_⟩
 have n0_ : Aside0 (Kd.R k88 88 w35 w.heap.size (fun _ => True) (.slice Ao26 t334.length co26) t334) := ⟨h0_⟩
 have n1_ : Aside0 (Kd.R (Kd.int .u8) 5 w35 w.heap.size (fun _ => True) v355 y354) := ⟨h1_⟩
 have n2_ : Aside0 (Kd.R (Kd.int .i64) 2 w35 w.heap.size (fun _ => True) v365 y364) := ⟨h2_⟩
 have n3_ : Aside0 (∃ c_, (v365 : Value) = .slice (some adz_v365) y364.length c_) := ⟨h3_⟩
 have n4_ : Aside0 (IsS115 w0 w35 g s0_0 t368 t369) := ⟨h4_⟩
 have n5_ : Aside0 (KeepBut w w35 g none) := ⟨h5_⟩
 have n6_ : Aside0 (Below w0.heap.size w0 w35) := ⟨h6_⟩
 clear HO336
 clear HI0
 clear HK
 clear HB
 clear h0_ h1_ h2_ h3_ h4_ h5_ h6_
 have HO336 := n0_
 have HO356 := n1_
 have HO366 := n2_
 have HA_HO366 := n3_
 have HI0 := n4_
 have HK := n5_
 have HB := n6_
 clear n0_ n1_ n2_ n3_ n4_ n5_ n6_
 have hHeld := trivial
 obtain ⟨co36, eo36⟩ := HA_HO366.out
 clear HA_HO366
 subst eo36
 refine norm_ (a' := ?_) ?_ ?_
 rotate_left
 exact z79j
 refine two_ (i := 2) (j := 12) (Ni := some 22) (Nj := some 32) #[V, V, V, U, V, V, U, U, V, V, V, V, U, U, U, U, U] #[V, V, U, U, V, V, U, U, V, V, V, V, V, U, U, U, U] rfl rfl rfl rfl (two_of HT_.out (by kernel_rfl)) (by decide) (by decide) (fun K hK => ?_) (fun K hK => ?_)
 {
 skip
 have hcv37 := own_string (P := Try.prog) Try.underlying59 Try.underlying5 Try.underlying9 (Kd.own_of_R HO356.out)
 refine value_ (w1 := ?_) (v := ?_) (by rfl) rfl ?_ ?_
 rotate_left 2
 {
 go_simp
 constructor
 {
 rfl
 }
 {
 rfl
 }
 }
 clear hcv37
 refine hK.out _ _ trivial (fun hHeld => ?_)
 clear hK K
 refine norm_ (a' := ?_) ?_ ?_
 rotate_left
 {
 show Act.put _ (some 22) _ = _
 simp only [Act.put, List.setIfInBounds_toArray, List.set_cons_zero, List.set_cons_succ, i64_w, i32_w]
 rfl
 }
 exact norm_ z79e (hJ1_2_5_8_10 (v355, .slice (some adz_v365) y364.length co36, adz_v365) _ ⟨z79d, z79f, z79g, ⟨_, rfl⟩, z79a, z79b, z79c⟩)
 }
 {
 skip
 (have p370 : 0 ≤ (t367 : Int) := of_decide_eq_true z79l; have q370 : t367 < (y364.length : Int) := of_decide_eq_true z79l; obtain ⟨ad370, e370, hx370_0⟩ := Kd.at_int (Kd.R_reads' HO366.out).2.2 t367 p370 q370; obtain rfl : adz_v365 = ad370 := (by injection e370))
 refine value_ (w1 := ?_) (v := ?_) (by rfl) rfl ?_ ?_
 rotate_left 2
 {
 go_simp
 constructor
 {
 rfl
 }
 {
 rfl
 }
 }
 clear hx370_0
 refine hK.out _ _ trivial (fun hHeld => ?_)
 clear hK K
 refine norm_ (a' := ?_) ?_ ?_
 rotate_left
 {
 show Act.put _ (some 32) _ = _
 simp only [Act.put, List.setIfInBounds_toArray, List.set_cons_zero, List.set_cons_succ, i64_w, i32_w]
 rfl
 }
 exact norm_ z79e (hJ1_5_8_10_12 (v355, .slice (some adz_v365) y364.length co36, adz_v365) _ ⟨z79d, z79f, z79g, ⟨_, rfl⟩, z79a, z79b, z79c⟩)
 }
 }
 }
 {
 skip
 rintro v355 w33 ⟨h0_, h1_, h2_, h3_, h4_⟩
 have n0_ : Aside0 (Kd.R k88 88 w33 w.heap.size (fun _ => True) (.slice Ao26 t334.length co26) t334) := ⟨h0_⟩
 have n1_ : Aside0 (Kd.R (Kd.int .u8) 5 w33 w.heap.size (fun _ => True) v355 y354) := ⟨h1_⟩
 have n2_ : Aside0 (IsS115 w0 w33 g s0_0 t368 t369) := ⟨h2_⟩
 have n3_ : Aside0 (KeepBut w w33 g none) := ⟨h3_⟩
 have n4_ : Aside0 (Below w0.heap.size w0 w33) := ⟨h4_⟩
 clear HO336
 clear HI0
 clear HK
 clear HB
 clear h0_ h1_ h2_ h3_ h4_
 have HO336 := n0_
 have HO356 := n1_
 have HI0 := n2_
 have HK := n3_
 have HB := n4_
 clear n0_ n1_ n2_ n3_ n4_
 have hHeld := trivial
 refine norm_ (a' := ?_) ?_ ?_
 rotate_left
 exact z79j
 refine two_ (i := 3) (j := 8) (Ni := some 23) (Nj := some 28) #[V, V, V, V, V, V, U, U, U, V, V, U, U, U, U, U, U] #[V, V, V, U, V, V, U, U, V, V, V, U, U, U, U, U, U] rfl rfl rfl rfl (two_of HT_.out (by kernel_rfl)) (by decide) (by decide) (fun K hK => ?_) (fun K hK => ?_)
 {
 skip
 refine Kd.R_lit_step Kd.string _ 9 ?hg (N := 23) ?hd (xs := ([(⟨#[]⟩ : ByteArray), (⟨#[122, 122]⟩ : ByteArray), strOfNums y354] : List ByteArray)) (inner := [.string (⟨#[]⟩ : ByteArray), .string (⟨#[122, 122]⟩ : ByteArray), .string (strOfNums y354)]) (ok := fun _ => True) (okp := fun _ => True) ?hr ?hp (fun _ hk => hk) trivial (Below.refl _ _) (Nat.le_refl _) (by simp) ?_; (case hd => rfl); (case hg => rfl); (case hr => first | (go_simp; done) | (go_simp; rfl)); (case hp => exact (Reps.one (show Kd.M Kd.string _ _ _ (⟨#[]⟩ : ByteArray) [.string (⟨#[]⟩ : ByteArray)] from rfl) (Reps.one (show Kd.M Kd.string _ _ _ (⟨#[122, 122]⟩ : ByteArray) [.string (⟨#[122, 122]⟩ : ByteArray)] from rfl) (Reps.one (show Kd.M Kd.string _ _ _ (strOfNums y354) [.string (strOfNums y354)] from rfl) (Reps.none _ _)))))
 intro v358 w34 ho35 hb hg_ hnew_
 clear hg_ hnew_
 (first | rw [← Ny357.out] at ho35 | (simp only [Int.reduceToNat] at ho35; rw [← Ny357.out] at ho35))
 have n0_ := Aside0.mk (Kd.R_below z79d hb)
 have n1_ := Aside0.mk (Kd.R_below z79f hb)
 have n2_ := Aside0.mk (Kd.R_lower ho35 (keep_size (w := w) (g := g) (row := none) z79b))
 have n3_ := Aside0.mk (IsS115.below z79a hb)
 have n4_ := Aside0.mk (KeepBut.trans z79b (KeepBut.of_below hb g none) (.inl rfl))
 have n5_ := Aside0.mk (below_step z79c hb)
 clear HO336
 clear HO356
 clear HI0
 clear HK
 clear HB
 have HO336 := n0_
 have HO356 := n1_
 have HO359 := n2_
 have HI0 := n3_
 have HK := n4_
 have HB := n5_
 clear n0_ n1_ n2_ n3_ n4_ n5_
 clear hb ho35
 obtain ⟨Ao36, co36, eo36⟩ := Kd.R_slice HO359.out
 subst eo36
 obtain ⟨ado36, fo36, _⟩ := Kd.at_string (Kd.R_reads' HO359.out).2.2 0 (by decide) (by rw [Ny357.out]; simp)
 cases fo36
 refine hK.out _ _ trivial (fun hHeld => ?_)
 clear hK K
 refine norm_ (a' := ?_) ?_ ?_
 rotate_left
 {
 show Act.put _ (some 23) _ = _
 simp only [Act.put, List.setIfInBounds_toArray, List.set_cons_zero, List.set_cons_succ, i64_w, i32_w]
 rfl
 }
 refine pure_ (i := 6) (N := some 26) (v := _) (a' := _) #[V, V, V, V, V, V, V, U, U, V, V, U, U, U, U, U, U] rfl rfl (any_of HT_.out (by kernel_rfl)) (fun _ _ _ h => h) (Or.inl ⟨by rfl, (by intro w'; go_simp; with_reducible rfl)⟩) z79k ?_
 exact norm_ z79e (hJ1_2_3_5_10 (v355, .slice (some ado36) y357.length co36, ado36) _ ⟨z79d, z79f, z79i, ⟨_, rfl⟩, z79a, z79b, z79c⟩)
 }
 {
 skip
 refine Kd.R_lit_step (Kd.int .i64) _ 2 ?hg (N := 28) ?hd (xs := ([0, 1, 1000000, 1000001] : List Int)) (inner := [.int .i64 0, .int .i64 1, .int .i64 1000000, .int .i64 1000001]) (ok := fun _ => True) (okp := fun _ => True) ?hr ?hp (fun _ hk => hk) trivial (Below.refl _ _) (Nat.le_refl _) (by simp) ?_; (case hd => rfl); (case hg => rfl); (case hr => first | (go_simp; done) | (go_simp; rfl)); (case hp => exact (Reps.one (show Kd.M (Kd.int .i64) _ _ _ 0 [.int .i64 0] from rfl) (Reps.one (show Kd.M (Kd.int .i64) _ _ _ 1 [.int .i64 1] from rfl) (Reps.one (show Kd.M (Kd.int .i64) _ _ _ 1000000 [.int .i64 1000000] from rfl) (Reps.one (show Kd.M (Kd.int .i64) _ _ _ 1000001 [.int .i64 1000001] from rfl) (Reps.none _ _))))))
 intro v365 w34 ho35 hb hg_ hnew_
 clear hg_ hnew_
 (first | rw [← Ny364.out] at ho35 | (simp only [Int.reduceToNat] at ho35; rw [← Ny364.out] at ho35))
 have n0_ := Aside0.mk (Kd.R_below z79d hb)
 have n1_ := Aside0.mk (Kd.R_below z79f hb)
 have n2_ := Aside0.mk (Kd.R_lower ho35 (keep_size (w := w) (g := g) (row := none) z79b))
 have n3_ := Aside0.mk (IsS115.below z79a hb)
 have n4_ := Aside0.mk (KeepBut.trans z79b (KeepBut.of_below hb g none) (.inl rfl))
 have n5_ := Aside0.mk (below_step z79c hb)
 clear HO336
 clear HO356
 clear HI0
 clear HK
 clear HB
 have HO336 := n0_
 have HO356 := n1_
 have HO366 := n2_
 have HI0 := n3_
 have HK := n4_
 have HB := n5_
 clear n0_ n1_ n2_ n3_ n4_ n5_
 clear hb ho35
 obtain ⟨Ao36, co36, eo36⟩ := Kd.R_slice HO366.out
 subst eo36
 obtain ⟨ado36, fo36, _⟩ := Kd.at_int (Kd.R_reads' HO366.out).2.2 0 (by decide) (by rw [Ny364.out]; simp)
 cases fo36
 refine hK.out _ _ trivial (fun hHeld => ?_)
 clear hK K
 refine norm_ (a' := ?_) ?_ ?_
 rotate_left
 {
 show Act.put _ (some 28) _ = _
 simp only [Act.put, List.setIfInBounds_toArray, List.set_cons_zero, List.set_cons_succ, i64_w, i32_w]
 rfl
 }
 refine pure_ (i := 11) (N := some 31) (v := _) (a' := _) #[V, V, V, U, V, V, U, U, V, V, V, V, U, U, U, U, U] rfl rfl (any_of HT_.out (by kernel_rfl)) (fun _ _ _ h => h) (Or.inl ⟨by rfl, (by intro w'; go_simp; with_reducible rfl)⟩) z79k ?_
 exact norm_ z79e (hJ1_2_5_8_10 (v355, .slice (some ado36) y364.length co36, ado36) _ ⟨z79d, z79f, z79g, ⟨_, rfl⟩, z79a, z79b, z79c⟩)
 }
 }
 }
 {
 skip
 rintro ⟨v355, v365, adz_v365⟩ w35 ⟨h0_, h1_, h2_, h3_, h4_, h5_, h6_⟩
 have n0_ : Aside0 (Kd.R k88 88 w35 w.heap.size (fun _ => True) (.slice Ao26 t334.length co26) t334) := ⟨h0_⟩
 have n1_ : Aside0 (Kd.R (Kd.int .u8) 5 w35 w.heap.size (fun _ => True) v355 y354) := ⟨h1_⟩
 have n2_ : Aside0 (Kd.R (Kd.int .i64) 2 w35 w.heap.size (fun _ => True) v365 y364) := ⟨h2_⟩
 have n3_ : Aside0 (∃ c_, (v365 : Value) = .slice (some adz_v365) y364.length c_) := ⟨h3_⟩
 have n4_ : Aside0 (IsS115 w0 w35 g s0_0 t361 t362) := ⟨h4_⟩
 have n5_ : Aside0 (KeepBut w w35 g none) := ⟨h5_⟩
 have n6_ : Aside0 (Below w0.heap.size w0 w35) := ⟨h6_⟩
 clear HO336
 clear HI0
 clear HK
 clear HB
 clear h0_ h1_ h2_ h3_ h4_ h5_ h6_
 have HO336 := n0_
 have HO356 := n1_
 have HO366 := n2_
 have HA_HO366 := n3_
 have HI0 := n4_
 have HK := n5_
 have HB := n6_
 clear n0_ n1_ n2_ n3_ n4_ n5_ n6_
 have hHeld := trivial
 obtain ⟨co36, eo36⟩ := HA_HO366.out
 clear HA_HO366
 subst eo36
 refine norm_ (a' := ?_) ?_ ?_
 rotate_left
 exact z79j
 refine two_ (i := 3) (j := 10) (Ni := some 23) (Nj := some 30) #[V, V, V, V, V, V, U, U, V, V, U, U, U, U, U, U, U] #[V, V, V, U, V, V, U, U, V, V, V, U, U, U, U, U, U] rfl rfl rfl rfl (two_of HT_.out (by kernel_rfl)) (by decide) (by decide) (fun K hK => ?_) (fun K hK => ?_)
 {
 skip
 refine Kd.R_lit_step Kd.string _ 9 ?hg (N := 23) ?hd (xs := ([(⟨#[]⟩ : ByteArray), (⟨#[122, 122]⟩ : ByteArray), strOfNums y354] : List ByteArray)) (inner := [.string (⟨#[]⟩ : ByteArray), .string (⟨#[122, 122]⟩ : ByteArray), .string (strOfNums y354)]) (ok := fun _ => True) (okp := fun _ => True) ?hr ?hp (fun _ hk => hk) trivial (Below.refl _ _) (Nat.le_refl _) (by simp) ?_; (case hd => rfl); (case hg => rfl); (case hr => first | (go_simp; done) | (go_simp; rfl)); (case hp => exact (Reps.one (show Kd.M Kd.string _ _ _ (⟨#[]⟩ : ByteArray) [.string (⟨#[]⟩ : ByteArray)] from rfl) (Reps.one (show Kd.M Kd.string _ _ _ (⟨#[122, 122]⟩ : ByteArray) [.string (⟨#[122, 122]⟩ : ByteArray)] from rfl) (Reps.one (show Kd.M Kd.string _ _ _ (strOfNums y354) [.string (strOfNums y354)] from rfl) (Reps.none _ _)))))
 intro v358 w37 ho38 hb hg_ hnew_
 clear hg_ hnew_
 (first | rw [← Ny357.out] at ho38 | (simp only [Int.reduceToNat] at ho38; rw [← Ny357.out] at ho38))
 have n0_ := Aside0.mk (Kd.R_below z79d hb)
 have n1_ := Aside0.mk (Kd.R_below z79f hb)
 have n2_ := Aside0.mk (Kd.R_below z79g hb)
 have n3_ := Aside0.mk (Kd.R_lower ho38 (keep_size (w := w) (g := g) (row := none) z79b))
 have n4_ := Aside0.mk (IsS115.below z79a hb)
 have n5_ := Aside0.mk (KeepBut.trans z79b (KeepBut.of_below hb g none) (.inl rfl))
 have n6_ := Aside0.mk (below_step z79c hb)
 clear HO336
 clear HO356
 clear HO366
 clear HI0
 clear HK
 clear HB
 have HO336 := n0_
 have HO356 := n1_
 have HO366 := n2_
 have HO359 := n3_
 have HI0 := n4_
 have HK := n5_
 have HB := n6_
 clear n0_ n1_ n2_ n3_ n4_ n5_ n6_
 clear hb ho38
 obtain ⟨Ao39, co39, eo39⟩ := Kd.R_slice HO359.out
 subst eo39
 obtain ⟨ado39, fo39, _⟩ := Kd.at_string (Kd.R_reads' HO359.out).2.2 0 (by decide) (by rw [Ny357.out]; simp)
 cases fo39
 refine hK.out _ _ trivial (fun hHeld => ?_)
 clear hK K
 refine norm_ (a' := ?_) ?_ ?_
 rotate_left
 {
 show Act.put _ (some 23) _ = _
 simp only [Act.put, List.setIfInBounds_toArray, List.set_cons_zero, List.set_cons_succ, i64_w, i32_w]
 rfl
 }
 refine pure_ (i := 6) (N := some 26) (v := _) (a' := _) #[V, V, V, V, V, V, V, U, V, V, U, U, U, U, U, U, U] rfl rfl (any_of HT_.out (by kernel_rfl)) (fun _ _ _ h => h) (Or.inl ⟨by rfl, (by intro w'; go_simp; with_reducible rfl)⟩) z79k ?_
 exact norm_ z79e (hJ1_2_3_5_8 (v355, .slice (some ado39) y357.length co39, ado39, .slice (some adz_v365) y364.length co36, adz_v365) _ ⟨z79d, z79f, z79i, z79g, ⟨_, rfl⟩, ⟨_, rfl⟩, z79a, z79b, z79c⟩)
 }
 {
 skip
 refine goes_ Try.func102 (by kernel_rfl) rfl #[.pointer (some ⟨g, 0, none⟩), .int .i64 4] (by rfl) rfl rfl z79h ?_
 with_reducible refine (spec_l1Below.calls g s0_0 t361 t362 4 t367 t368 t369 w0 _ ?side1 ?side2 A19.out).mono ?_
 (case side1 => exact z79a)
 (case side2 => exact z79c)
 rintro e w37 ⟨rfl, hi, hb, hk⟩
 refine ⟨_, rfl, ?_⟩
 have n0_ := Aside0.mk (Kd.R_mono (Kd.R_keep (IsS115.apart (show IsS115 w0 _ g s0_0 t361 t362 from z79a) z79d (by decide)) hk (fun _ h => h.2)) (fun _ h => h.1))
 have n1_ := Aside0.mk (Kd.R_mono (Kd.R_keep (IsS115.apart (show IsS115 w0 _ g s0_0 t361 t362 from z79a) z79f (by decide)) hk (fun _ h => h.2)) (fun _ h => h.1))
 have n2_ := Aside0.mk (Kd.R_mono (Kd.R_keep (IsS115.apart (show IsS115 w0 _ g s0_0 t361 t362 from z79a) z79g (by decide)) hk (fun _ h => h.2)) (fun _ h => h.1))
 have n3_ := Aside0.mk (KeepBut.trans z79b hk (.inl rfl))
 have n4_ := Aside0.mk (hb)
 have n5_ := Aside0.mk (hi)
 clear HO336
 clear HO356
 clear HO366
 clear HK
 clear HB
 clear HI0
 have HO336 := n0_
 have HO356 := n1_
 have HO366 := n2_
 have HK := n3_
 have HB := n4_
 have HI0 := n5_
 clear n0_ n1_ n2_ n3_ n4_ n5_
 (try clear hb)
 (try clear hb2)
 (try clear hk)
 (try clear hi)
 refine hK.out _ _ trivial (fun hHeld => ?_)
 clear hK K
 refine norm_ (a' := ?_) ?_ ?_
 rotate_left
 {
 show Act.put _ (some 30) _ = _
 simp only [Act.put, List.setIfInBounds_toArray, List.set_cons_zero, List.set_cons_succ, i64_w, i32_w]
 rfl
 }
 refine pure_ (i := 11) (N := some 31) (v := _) (a' := _) #[V, V, V, U, V, V, U, U, V, V, V, V, U, U, U, U, U] rfl rfl (any_of HT_.out (by kernel_rfl)) (fun _ _ _ h => h) (Or.inl ⟨by rfl, (by intro w'; go_simp; with_reducible rfl)⟩) z79k ?_
 exact norm_ z79e (hJ1_2_5_8_10 (v355, .slice (some adz_v365) y364.length co36, adz_v365) _ ⟨z79d, z79f, z79g, ⟨_, rfl⟩, z79a, z79b, z79c⟩)
 }
 }
 }
 {
 skip
 rintro ⟨v355, v358, adz_v358, v365, adz_v365⟩ w37 ⟨h0_, h1_, h2_, h3_, h4_, h5_, h6_, h7_, h8_⟩
 have n0_ : Aside0 (Kd.R k88 88 w37 w.heap.size (fun _ => True) (.slice Ao26 t334.length co26) t334) := ⟨h0_⟩
 have n1_ : Aside0 (Kd.R (Kd.int .u8) 5 w37 w.heap.size (fun _ => True) v355 y354) := ⟨h1_⟩
 have n2_ : Aside0 (Kd.R Kd.string 9 w37 w.heap.size (fun _ => True) v358 y357) := ⟨h2_⟩
 have n3_ : Aside0 (Kd.R (Kd.int .i64) 2 w37 w.heap.size (fun _ => True) v365 y364) := ⟨h3_⟩
 have n4_ : Aside0 (∃ c_, (v358 : Value) = .slice (some adz_v358) y357.length c_) := ⟨h4_⟩
 have n5_ : Aside0 (∃ c_, (v365 : Value) = .slice (some adz_v365) y364.length c_) := ⟨h5_⟩
 have n6_ : Aside0 (IsS115 w0 w37 g s0_0 t343 t344) := ⟨h6_⟩
 have n7_ : Aside0 (KeepBut w w37 g none) := ⟨h7_⟩
 have n8_ : Aside0 (Below w0.heap.size w0 w37) := ⟨h8_⟩
 clear HO336
 clear HI0
 clear HK
 clear HB
 clear h0_ h1_ h2_ h3_ h4_ h5_ h6_ h7_ h8_
 have HO336 := n0_
 have HO356 := n1_
 have HO359 := n2_
 have HO366 := n3_
 have HA_HO359 := n4_
 have HA_HO366 := n5_
 have HI0 := n6_
 have HK := n7_
 have HB := n8_
 clear n0_ n1_ n2_ n3_ n4_ n5_ n6_ n7_ n8_
 have hHeld := trivial
 obtain ⟨co38, eo38⟩ := HA_HO359.out
 clear HA_HO359
 subst eo38
 obtain ⟨co39, eo39⟩ := HA_HO366.out
 clear HA_HO366
 subst eo39
 refine norm_ (a' := ?_) ?_ ?_
 rotate_left
 exact z79j
 refine one_ (i := 5) (N := some 25) #[V, V, V, V, V, V, U, U, V, V, U, U, U, U, U, U, U] rfl rfl (one_of HT_.out (by kernel_rfl)) (by decide) (fun K hK => ?_)
 refine goes_ Try.func102 (by kernel_rfl) rfl #[.pointer (some ⟨g, 0, none⟩), .int .i64 3] (by rfl) rfl rfl z79h ?_
 with_reducible refine (spec_l1Below.calls g s0_0 t343 t344 3 t360 t361 t362 w0 _ ?side1 ?side2 A16.out).mono ?_
 (case side1 => exact z79a)
 (case side2 => exact z79c)
 rintro e w40 ⟨rfl, hi, hb, hk⟩
 refine ⟨_, rfl, ?_⟩
 have n0_ := Aside0.mk (Kd.R_mono (Kd.R_keep (IsS115.apart (show IsS115 w0 _ g s0_0 t343 t344 from z79a) z79d (by decide)) hk (fun _ h => h.2)) (fun _ h => h.1))
 have n1_ := Aside0.mk (Kd.R_mono (Kd.R_keep (IsS115.apart (show IsS115 w0 _ g s0_0 t343 t344 from z79a) z79f (by decide)) hk (fun _ h => h.2)) (fun _ h => h.1))
 have n2_ := Aside0.mk (Kd.R_mono (Kd.R_keep (IsS115.apart (show IsS115 w0 _ g s0_0 t343 t344 from z79a) z79i (by decide)) hk (fun _ h => h.2)) (fun _ h => h.1))
 have n3_ := Aside0.mk (Kd.R_mono (Kd.R_keep (IsS115.apart (show IsS115 w0 _ g s0_0 t343 t344 from z79a) z79g (by decide)) hk (fun _ h => h.2)) (fun _ h => h.1))
 have n4_ := Aside0.mk (KeepBut.trans z79b hk (.inl rfl))
 have n5_ := Aside0.mk (hb)
 have n6_ := Aside0.mk (hi)
 clear HO336
 clear HO356
 clear HO359
 clear HO366
 clear HK
 clear HB
 clear HI0
 have HO336 := n0_
 have HO356 := n1_
 have HO359 := n2_
 have HO366 := n3_
 have HK := n4_
 have HB := n5_
 have HI0 := n6_
 clear n0_ n1_ n2_ n3_ n4_ n5_ n6_
 (try clear hb)
 (try clear hb2)
 (try clear hk)
 (try clear hi)
 refine hK.out _ _ trivial (fun hHeld => ?_)
 clear hK K
 refine norm_ (a' := ?_) ?_ ?_
 rotate_left
 {
 show Act.put _ (some 25) _ = _
 simp only [Act.put, List.setIfInBounds_toArray, List.set_cons_zero, List.set_cons_succ, i64_w, i32_w]
 rfl
 }
 refine pure_ (i := 6) (N := some 26) (v := _) (a' := _) #[V, V, V, V, V, V, V, U, V, V, U, U, U, U, U, U, U] rfl rfl (any_of HT_.out (by kernel_rfl)) (fun _ _ _ h => h) (Or.inl ⟨by rfl, (by intro w'; go_simp; with_reducible rfl)⟩) z79k ?_
 exact norm_ z79e (hJ1_2_3_5_8 (v355, .slice (some adz_v358) y357.length co38, adz_v358, .slice (some adz_v365) y364.length co39, adz_v365) _ ⟨z79d, z79f, z79i, z79g, ⟨_, rfl⟩, ⟨_, rfl⟩, z79a, z79b, z79c⟩)
 }
 }
 {
 skip
 rintro ⟨v355, v358, adz_v358⟩ w35 ⟨h0_, h1_, h2_, h3_, h4_, h5_, h6_⟩
 have n0_ : Aside0 (Kd.R k88 88 w35 w.heap.size (fun _ => True) (.slice Ao26 t334.length co26) t334) := ⟨h0_⟩
 have n1_ : Aside0 (Kd.R (Kd.int .u8) 5 w35 w.heap.size (fun _ => True) v355 y354) := ⟨h1_⟩
 have n2_ : Aside0 (Kd.R Kd.string 9 w35 w.heap.size (fun _ => True) v358 y357) := ⟨h2_⟩
 have n3_ : Aside0 (∃ c_, (v358 : Value) = .slice (some adz_v358) y357.length c_) := ⟨h3_⟩
 have n4_ : Aside0 (IsS115 w0 w35 g s0_0 t361 t362) := ⟨h4_⟩
 have n5_ : Aside0 (KeepBut w w35 g none) := ⟨h5_⟩
 have n6_ : Aside0 (Below w0.heap.size w0 w35) := ⟨h6_⟩
 clear HO336
 clear HI0
 clear HK
 clear HB
 clear h0_ h1_ h2_ h3_ h4_ h5_ h6_
 have HO336 := n0_
 have HO356 := n1_
 have HO359 := n2_
 have HA_HO359 := n3_
 have HI0 := n4_
 have HK := n5_
 have HB := n6_
 clear n0_ n1_ n2_ n3_ n4_ n5_ n6_
 have hHeld := trivial
 obtain ⟨co36, eo36⟩ := HA_HO359.out
 clear HA_HO359
 subst eo36
 refine norm_ (a' := ?_) ?_ ?_
 rotate_left
 exact z79j
 refine three_ (i := 7) (j := 8) (k := 10) (Ni := some 27) (Nj := some 28) (Nk := some 30) #[V, V, V, V, V, V, V, V, U, V, U, U, U, U, U, U, U] #[V, V, V, V, V, V, V, U, V, V, U, U, U, U, U, U, U] #[V, V, V, V, V, V, V, U, U, V, V, U, U, U, U, U, U] rfl rfl rfl rfl rfl rfl (three_of HT_.out (by kernel_rfl)) (by decide) (by decide) (by decide) (fun K hK => ?_) (fun K hK => ?_) (fun K hK => ?_)
 {
 skip
 (have p363 : 0 ≤ (t360 : Int) := of_decide_eq_true z79l; have q363 : t360 < (y357.length : Int) := of_decide_eq_true z79l; obtain ⟨ad363, e363, hx363_0⟩ := Kd.at_string (Kd.R_reads' HO359.out).2.2 t360 p363 q363; obtain rfl : adz_v358 = ad363 := (by injection e363))
 refine value_ (w1 := ?_) (v := ?_) (by rfl) rfl ?_ ?_
 rotate_left 2
 {
 go_simp
 constructor
 {
 rfl
 }
 {
 rfl
 }
 }
 clear hx363_0
 refine hK.out _ _ trivial (fun hHeld => ?_)
 clear hK K
 refine norm_ (a' := ?_) ?_ ?_
 rotate_left
 {
 show Act.put _ (some 27) _ = _
 simp only [Act.put, List.setIfInBounds_toArray, List.set_cons_zero, List.set_cons_succ, i64_w, i32_w]
 rfl
 }
 exact norm_ z79e (hJ1_2_3_5_7 (v355, .slice (some adz_v358) y357.length co36, adz_v358) _ ⟨z79d, z79f, z79i, ⟨_, rfl⟩, z79a, z79b, z79c⟩)
 }
 {
 skip
 refine Kd.R_lit_step (Kd.int .i64) _ 2 ?hg (N := 28) ?hd (xs := ([0, 1, 1000000, 1000001] : List Int)) (inner := [.int .i64 0, .int .i64 1, .int .i64 1000000, .int .i64 1000001]) (ok := fun _ => True) (okp := fun _ => True) ?hr ?hp (fun _ hk => hk) trivial (Below.refl _ _) (Nat.le_refl _) (by simp) ?_; (case hd => rfl); (case hg => rfl); (case hr => first | (go_simp; done) | (go_simp; rfl)); (case hp => exact (Reps.one (show Kd.M (Kd.int .i64) _ _ _ 0 [.int .i64 0] from rfl) (Reps.one (show Kd.M (Kd.int .i64) _ _ _ 1 [.int .i64 1] from rfl) (Reps.one (show Kd.M (Kd.int .i64) _ _ _ 1000000 [.int .i64 1000000] from rfl) (Reps.one (show Kd.M (Kd.int .i64) _ _ _ 1000001 [.int .i64 1000001] from rfl) (Reps.none _ _))))))
 intro v365 w37 ho38 hb hg_ hnew_
 clear hg_ hnew_
 (first | rw [← Ny364.out] at ho38 | (simp only [Int.reduceToNat] at ho38; rw [← Ny364.out] at ho38))
 have n0_ := Aside0.mk (Kd.R_below z79d hb)
 have n1_ := Aside0.mk (Kd.R_below z79f hb)
 have n2_ := Aside0.mk (Kd.R_below z79i hb)
 have n3_ := Aside0.mk (Kd.R_lower ho38 (keep_size (w := w) (g := g) (row := none) z79b))
 have n4_ := Aside0.mk (IsS115.below z79a hb)
 have n5_ := Aside0.mk (KeepBut.trans z79b (KeepBut.of_below hb g none) (.inl rfl))
 have n6_ := Aside0.mk (below_step z79c hb)
 clear HO336
 clear HO356
 clear HO359
 clear HI0
 clear HK
 clear HB
 have HO336 := n0_
 have HO356 := n1_
 have HO359 := n2_
 have HO366 := n3_
 have HI0 := n4_
 have HK := n5_
 have HB := n6_
 clear n0_ n1_ n2_ n3_ n4_ n5_ n6_
 clear hb ho38
 obtain ⟨Ao39, co39, eo39⟩ := Kd.R_slice HO366.out
 subst eo39
 obtain ⟨ado39, fo39, _⟩ := Kd.at_int (Kd.R_reads' HO366.out).2.2 0 (by decide) (by rw [Ny364.out]; simp)
 cases fo39
 refine hK.out _ _ trivial (fun hHeld => ?_)
 clear hK K
 refine norm_ (a' := ?_) ?_ ?_
 rotate_left
 {
 show Act.put _ (some 28) _ = _
 simp only [Act.put, List.setIfInBounds_toArray, List.set_cons_zero, List.set_cons_succ, i64_w, i32_w]
 rfl
 }
 exact norm_ z79e (hJ1_2_3_5_8 (v355, .slice (some adz_v358) y357.length co36, adz_v358, .slice (some ado39) y364.length co39, ado39) _ ⟨z79d, z79f, z79i, z79g, ⟨_, rfl⟩, ⟨_, rfl⟩, z79a, z79b, z79c⟩)
 }
 {
 skip
 refine goes_ Try.func102 (by kernel_rfl) rfl #[.pointer (some ⟨g, 0, none⟩), .int .i64 4] (by rfl) rfl rfl z79h ?_
 with_reducible refine (spec_l1Below.calls g s0_0 t361 t362 4 t367 t368 t369 w0 _ ?side1 ?side2 A19.out).mono ?_
 (case side1 => exact z79a)
 (case side2 => exact z79c)
 rintro e w37 ⟨rfl, hi, hb, hk⟩
 refine ⟨_, rfl, ?_⟩
 have n0_ := Aside0.mk (Kd.R_mono (Kd.R_keep (IsS115.apart (show IsS115 w0 _ g s0_0 t361 t362 from z79a) z79d (by decide)) hk (fun _ h => h.2)) (fun _ h => h.1))
 have n1_ := Aside0.mk (Kd.R_mono (Kd.R_keep (IsS115.apart (show IsS115 w0 _ g s0_0 t361 t362 from z79a) z79f (by decide)) hk (fun _ h => h.2)) (fun _ h => h.1))
 have n2_ := Aside0.mk (Kd.R_mono (Kd.R_keep (IsS115.apart (show IsS115 w0 _ g s0_0 t361 t362 from z79a) z79i (by decide)) hk (fun _ h => h.2)) (fun _ h => h.1))
 have n3_ := Aside0.mk (KeepBut.trans z79b hk (.inl rfl))
 have n4_ := Aside0.mk (hb)
 have n5_ := Aside0.mk (hi)
 clear HO336
 clear HO356
 clear HO359
 clear HK
 clear HB
 clear HI0
 have HO336 := n0_
 have HO356 := n1_
 have HO359 := n2_
 have HK := n3_
 have HB := n4_
 have HI0 := n5_
 clear n0_ n1_ n2_ n3_ n4_ n5_
 (try clear hb)
 (try clear hb2)
 (try clear hk)
 (try clear hi)
 refine hK.out _ _ trivial (fun hHeld => ?_)
 clear hK K
 refine norm_ (a' := ?_) ?_ ?_
 rotate_left
 {
 show Act.put _ (some 30) _ = _
 simp only [Act.put, List.setIfInBounds_toArray, List.set_cons_zero, List.set_cons_succ, i64_w, i32_w]
 rfl
 }
 exact norm_ z79e (hJ1_2_3_5_10 (v355, .slice (some adz_v358) y357.length co36, adz_v358) _ ⟨z79d, z79f, z79i, ⟨_, rfl⟩, z79a, z79b, z79c⟩)
 }
 }
 }
 {
 skip
 rintro ⟨v355, v365, adz_v365⟩ w35 ⟨h0_, h1_, h2_, h3_, h4_, h5_, h6_⟩
 have n0_ : Aside0 (Kd.R k88 88 w35 w.heap.size (fun _ => True) (.slice Ao26 t334.length co26) t334) := ⟨h0_⟩
 have n1_ : Aside0 (Kd.R (Kd.int .u8) 5 w35 w.heap.size (fun _ => True) v355 y354) := ⟨h1_⟩
 have n2_ : Aside0 (Kd.R (Kd.int .i64) 2 w35 w.heap.size (fun _ => True) v365 y364) := ⟨h2_⟩
 have n3_ : Aside0 (∃ c_, (v365 : Value) = .slice (some adz_v365) y364.length c_) := ⟨h3_⟩
 have n4_ : Aside0 (IsS115 w0 w35 g s0_0 t368 t369) := ⟨h4_⟩
 have n5_ : Aside0 (KeepBut w w35 g none) := ⟨h5_⟩
 have n6_ : Aside0 (Below w0.heap.size w0 w35) := ⟨h6_⟩
 clear HO336
 clear HI0
 clear HK
 clear HB
 clear h0_ h1_ h2_ h3_ h4_ h5_ h6_
 have HO336 := n0_
 have HO356 := n1_
 have HO366 := n2_
 have HA_HO366 := n3_
 have HI0 := n4_
 have HK := n5_
 have HB := n6_
 clear n0_ n1_ n2_ n3_ n4_ n5_ n6_
 have hHeld := trivial
 obtain ⟨co36, eo36⟩ := HA_HO366.out
 clear HA_HO366
 subst eo36
 refine norm_ (a' := ?_) ?_ ?_
 rotate_left
 exact z79j
 refine one_ (i := 2) (N := some 22) #[V, V, V, U, V, V, U, U, V, V, V, V, V, U, U, U, U] rfl rfl (one_of HT_.out (by kernel_rfl)) (by decide) (fun K hK => ?_)
 have hcv37 := own_string (P := Try.prog) Try.underlying59 Try.underlying5 Try.underlying9 (Kd.own_of_R HO356.out)
 refine value_ (w1 := ?_) (v := ?_) (by rfl) rfl ?_ ?_
 rotate_left 2
 {
 go_simp
 constructor
 {
 rfl
 }
 {
 rfl
 }
 }
 clear hcv37
 refine hK.out _ _ trivial (fun hHeld => ?_)
 clear hK K
 refine norm_ (a' := ?_) ?_ ?_
 rotate_left
 {
 show Act.put _ (some 22) _ = _
 simp only [Act.put, List.setIfInBounds_toArray, List.set_cons_zero, List.set_cons_succ, i64_w, i32_w]
 rfl
 }
 exact norm_ z79e (hJ1_2_5_8_10_12 (v355, .slice (some adz_v365) y364.length co36, adz_v365) _ ⟨z79d, z79f, z79g, ⟨_, rfl⟩, z79a, z79b, z79c⟩)
 }
 }
 {
 skip
 rintro ⟨v355, v365, adz_v365⟩ w36 ⟨h0_, h1_, h2_, h3_, h4_, h5_, h6_⟩
 have n0_ : Aside0 (Kd.R k88 88 w36 w.heap.size (fun _ => True) (.slice Ao26 t334.length co26) t334) := ⟨h0_⟩
 have n1_ : Aside0 (Kd.R (Kd.int .u8) 5 w36 w.heap.size (fun _ => True) v355 y354) := ⟨h1_⟩
 have n2_ : Aside0 (Kd.R (Kd.int .i64) 2 w36 w.heap.size (fun _ => True) v365 y364) := ⟨h2_⟩
 have n3_ : Aside0 (∃ c_, (v365 : Value) = .slice (some adz_v365) y364.length c_) := ⟨h3_⟩
 have n4_ : Aside0 (IsS115 w0 w36 g s0_0 t368 t369) := ⟨h4_⟩
 have n5_ : Aside0 (KeepBut w w36 g none) := ⟨h5_⟩
 have n6_ : Aside0 (Below w0.heap.size w0 w36) := ⟨h6_⟩
 clear HO336
 clear HI0
 clear HK
 clear HB
 clear h0_ h1_ h2_ h3_ h4_ h5_ h6_
 have HO336 := n0_
 have HO356 := n1_
 have HO366 := n2_
 have HA_HO366 := n3_
 have HI0 := n4_
 have HK := n5_
 have HB := n6_
 clear n0_ n1_ n2_ n3_ n4_ n5_ n6_
 have hHeld := trivial
 obtain ⟨co37, eo37⟩ := HA_HO366.out
 clear HA_HO366
 subst eo37
 refine norm_ (a' := ?_) ?_ ?_
 rotate_left
 exact z79j
 refine two_ (i := 3) (j := 12) (Ni := some 23) (Nj := some 32) #[V, V, V, V, V, V, U, U, V, V, V, V, U, U, U, U, U] #[V, V, V, U, V, V, U, U, V, V, V, V, V, U, U, U, U] rfl rfl rfl rfl (two_of HT_.out (by kernel_rfl)) (by decide) (by decide) (fun K hK => ?_) (fun K hK => ?_)
 {
 skip
 refine Kd.R_lit_step Kd.string _ 9 ?hg (N := 23) ?hd (xs := ([(⟨#[]⟩ : ByteArray), (⟨#[122, 122]⟩ : ByteArray), strOfNums y354] : List ByteArray)) (inner := [.string (⟨#[]⟩ : ByteArray), .string (⟨#[122, 122]⟩ : ByteArray), .string (strOfNums y354)]) (ok := fun _ => True) (okp := fun _ => True) ?hr ?hp (fun _ hk => hk) trivial (Below.refl _ _) (Nat.le_refl _) (by simp) ?_; (case hd => rfl); (case hg => rfl); (case hr => first | (go_simp; done) | (go_simp; rfl)); (case hp => exact (Reps.one (show Kd.M Kd.string _ _ _ (⟨#[]⟩ : ByteArray) [.string (⟨#[]⟩ : ByteArray)] from rfl) (Reps.one (show Kd.M Kd.string _ _ _ (⟨#[122, 122]⟩ : ByteArray) [.string (⟨#[122, 122]⟩ : ByteArray)] from rfl) (Reps.one (show Kd.M Kd.string _ _ _ (strOfNums y354) [.string (strOfNums y354)] from rfl) (Reps.none _ _)))))
 intro v358 w38 ho39 hb hg_ hnew_
 clear hg_ hnew_
 (first | rw [← Ny357.out] at ho39 | (simp only [Int.reduceToNat] at ho39; rw [← Ny357.out] at ho39))
 have n0_ := Aside0.mk (Kd.R_below z79d hb)
 have n1_ := Aside0.mk (Kd.R_below z79f hb)
 have n2_ := Aside0.mk (Kd.R_below z79g hb)
 have n3_ := Aside0.mk (Kd.R_lower ho39 (keep_size (w := w) (g := g) (row := none) z79b))
 have n4_ := Aside0.mk (IsS115.below z79a hb)
 have n5_ := Aside0.mk (KeepBut.trans z79b (KeepBut.of_below hb g none) (.inl rfl))
 have n6_ := Aside0.mk (below_step z79c hb)
 clear HO336
 clear HO356
 clear HO366
 clear HI0
 clear HK
 clear HB
 have HO336 := n0_
 have HO356 := n1_
 have HO366 := n2_
 have HO359 := n3_
 have HI0 := n4_
 have HK := n5_
 have HB := n6_
 clear n0_ n1_ n2_ n3_ n4_ n5_ n6_
 clear hb ho39
 obtain ⟨Ao40, co40, eo40⟩ := Kd.R_slice HO359.out
 subst eo40
 obtain ⟨ado40, fo40, _⟩ := Kd.at_string (Kd.R_reads' HO359.out).2.2 0 (by decide) (by rw [Ny357.out]; simp)
 cases fo40
 refine hK.out _ _ trivial (fun hHeld => ?_)
 clear hK K
 refine norm_ (a' := ?_) ?_ ?_
 rotate_left
 {
 show Act.put _ (some 23) _ = _
 simp only [Act.put, List.setIfInBounds_toArray, List.set_cons_zero, List.set_cons_succ, i64_w, i32_w]
 rfl
 }
 refine pure_ (i := 6) (N := some 26) (v := _) (a' := _) #[V, V, V, V, V, V, V, U, V, V, V, V, U, U, U, U, U] rfl rfl (any_of HT_.out (by kernel_rfl)) (fun _ _ _ h => h) (Or.inl ⟨by rfl, (by intro w'; go_simp; with_reducible rfl)⟩) z79k ?_
 exact norm_ z79e (hJ1_2_3_5_8_10 (v355, .slice (some ado40) y357.length co40, ado40, .slice (some adz_v365) y364.length co37, adz_v365) _ ⟨z79d, z79f, z79i, z79g, ⟨_, rfl⟩, ⟨_, rfl⟩, z79a, z79b, z79c⟩)
 }
 {
 skip
 (have p370 : 0 ≤ (t367 : Int) := of_decide_eq_true z79l; have q370 : t367 < (y364.length : Int) := of_decide_eq_true z79l; obtain ⟨ad370, e370, hx370_0⟩ := Kd.at_int (Kd.R_reads' HO366.out).2.2 t367 p370 q370; obtain rfl : adz_v365 = ad370 := (by injection e370))
 refine value_ (w1 := ?_) (v := ?_) (by rfl) rfl ?_ ?_
 rotate_left 2
 {
 go_simp
 constructor
 {
 rfl
 }
 {
 rfl
 }
 }
 clear hx370_0
 refine hK.out _ _ trivial (fun hHeld => ?_)
 clear hK K
 refine norm_ (a' := ?_) ?_ ?_
 rotate_left
 {
 show Act.put _ (some 32) _ = _
 simp only [Act.put, List.setIfInBounds_toArray, List.set_cons_zero, List.set_cons_succ, i64_w, i32_w]
 rfl
 }
 exact norm_ z79e (hJ1_2_5_8_10_12 (v355, .slice (some adz_v365) y364.length co37, adz_v365) _ ⟨z79d, z79f, z79g, ⟨_, rfl⟩, z79a, z79b, z79c⟩)
 }
 }
 }
 {
 skip
 rintro ⟨v355, v358, adz_v358⟩ w36 ⟨h0_, h1_, h2_, h3_, h4_, h5_, h6_⟩
 have n0_ : Aside0 (Kd.R k88 88 w36 w.heap.size (fun _ => True) (.slice Ao26 t334.length co26) t334) := ⟨h0_⟩
 have n1_ : Aside0 (Kd.R (Kd.int .u8) 5 w36 w.heap.size (fun _ => True) v355 y354) := ⟨h1_⟩
 have n2_ : Aside0 (Kd.R Kd.string 9 w36 w.heap.size (fun _ => True) v358 y357) := ⟨h2_⟩
 have n3_ : Aside0 (∃ c_, (v358 : Value) = .slice (some adz_v358) y357.length c_) := ⟨h3_⟩
 have n4_ : Aside0 (IsS115 w0 w36 g s0_0 t368 t369) := ⟨h4_⟩
 have n5_ : Aside0 (KeepBut w w36 g none) := ⟨h5_⟩
 have n6_ : Aside0 (Below w0.heap.size w0 w36) := ⟨h6_⟩
 clear HO336
 clear HI0
 clear HK
 clear HB
 clear h0_ h1_ h2_ h3_ h4_ h5_ h6_
 have HO336 := n0_
 have HO356 := n1_
 have HO359 := n2_
 have HA_HO359 := n3_
 have HI0 := n4_
 have HK := n5_
 have HB := n6_
 clear n0_ n1_ n2_ n3_ n4_ n5_ n6_
 have hHeld := trivial
 obtain ⟨co37, eo37⟩ := HA_HO359.out
 clear HA_HO359
 subst eo37
 refine norm_ (a' := ?_) ?_ ?_
 rotate_left
 exact z79j
 refine two_ (i := 7) (j := 8) (Ni := some 27) (Nj := some 28) #[V, V, V, V, V, V, V, V, U, V, V, U, U, U, U, U, U] #[V, V, V, V, V, V, V, U, V, V, V, U, U, U, U, U, U] rfl rfl rfl rfl (two_of HT_.out (by kernel_rfl)) (by decide) (by decide) (fun K hK => ?_) (fun K hK => ?_)
 {
 skip
 (have p363 : 0 ≤ (t360 : Int) := of_decide_eq_true z79l; have q363 : t360 < (y357.length : Int) := of_decide_eq_true z79l; obtain ⟨ad363, e363, hx363_0⟩ := Kd.at_string (Kd.R_reads' HO359.out).2.2 t360 p363 q363; obtain rfl : adz_v358 = ad363 := (by injection e363))
 refine value_ (w1 := ?_) (v := ?_) (by rfl) rfl ?_ ?_
 rotate_left 2
 {
 go_simp
 constructor
 {
 rfl
 }
 {
 rfl
 }
 }
 clear hx363_0
 refine hK.out _ _ trivial (fun hHeld => ?_)
 clear hK K
 refine norm_ (a' := ?_) ?_ ?_
 rotate_left
 {
 show Act.put _ (some 27) _ = _
 simp only [Act.put, List.setIfInBounds_toArray, List.set_cons_zero, List.set_cons_succ, i64_w, i32_w]
 rfl
 }
 exact norm_ z79e (hJ1_2_3_5_7_10 (v355, .slice (some adz_v358) y357.length co37, adz_v358) _ ⟨z79d, z79f, z79i, ⟨_, rfl⟩, z79a, z79b, z79c⟩)
 }
 {
 skip
 refine Kd.R_lit_step (Kd.int .i64) _ 2 ?hg (N := 28) ?hd (xs := ([0, 1, 1000000, 1000001] : List Int)) (inner := [.int .i64 0, .int .i64 1, .int .i64 1000000, .int .i64 1000001]) (ok := fun _ => True) (okp := fun _ => True) ?hr ?hp (fun _ hk => hk) trivial (Below.refl _ _) (Nat.le_refl _) (by simp) ?_; (case hd => rfl); (case hg => rfl); (case hr => first | (go_simp; done) | (go_simp; rfl)); (case hp => exact (Reps.one (show Kd.M (Kd.int .i64) _ _ _ 0 [.int .i64 0] from rfl) (Reps.one (show Kd.M (Kd.int .i64) _ _ _ 1 [.int .i64 1] from rfl) (Reps.one (show Kd.M (Kd.int .i64) _ _ _ 1000000 [.int .i64 1000000] from rfl) (Reps.one (show Kd.M (Kd.int .i64) _ _ _ 1000001 [.int .i64 1000001] from rfl) (Reps.none _ _))))))
 intro v365 w38 ho39 hb hg_ hnew_
 clear hg_ hnew_
 (first | rw [← Ny364.out] at ho39 | (simp only [Int.reduceToNat] at ho39; rw [← Ny364.out] at ho39))
 have n0_ := Aside0.mk (Kd.R_below z79d hb)
 have n1_ := Aside0.mk (Kd.R_below z79f hb)
 have n2_ := Aside0.mk (Kd.R_below z79i hb)
 have n3_ := Aside0.mk (Kd.R_lower ho39 (keep_size (w := w) (g := g) (row := none) z79b))
 have n4_ := Aside0.mk (IsS115.below z79a hb)
 have n5_ := Aside0.mk (KeepBut.trans z79b (KeepBut.of_below hb g none) (.inl rfl))
 have n6_ := Aside0.mk (below_step z79c hb)
 clear HO336
 clear HO356
 clear HO359
 clear HI0
 clear HK
 clear HB
 have HO336 := n0_
 have HO356 := n1_
 have HO359 := n2_
 have HO366 := n3_
 have HI0 := n4_
 have HK := n5_
 have HB := n6_
 clear n0_ n1_ n2_ n3_ n4_ n5_ n6_
 clear hb ho39
 obtain ⟨Ao40, co40, eo40⟩ := Kd.R_slice HO366.out
 subst eo40
 obtain ⟨ado40, fo40, _⟩ := Kd.at_int (Kd.R_reads' HO366.out).2.2 0 (by decide) (by rw [Ny364.out]; simp)
 cases fo40
 refine hK.out _ _ trivial (fun hHeld => ?_)
 clear hK K
 refine norm_ (a' := ?_) ?_ ?_
 rotate_left
 {
 show Act.put _ (some 28) _ = _
 simp only [Act.put, List.setIfInBounds_toArray, List.set_cons_zero, List.set_cons_succ, i64_w, i32_w]
 rfl
 }
 refine pure_ (i := 11) (N := some 31) (v := _) (a' := _) #[V, V, V, V, V, V, V, U, V, V, V, V, U, U, U, U, U] rfl rfl (any_of HT_.out (by kernel_rfl)) (fun _ _ _ h => h) (Or.inl ⟨by rfl, (by intro w'; go_simp; with_reducible rfl)⟩) z79k ?_
 exact norm_ z79e (hJ1_2_3_5_8_10 (v355, .slice (some adz_v358) y357.length co37, adz_v358, .slice (some ado40) y364.length co40, ado40) _ ⟨z79d, z79f, z79i, z79g, ⟨_, rfl⟩, ⟨_, rfl⟩, z79a, z79b, z79c⟩)
 }
 }
 }
 {
 skip
 rintro ⟨v355, v358, adz_v358, v365, adz_v365⟩ w38 ⟨h0_, h1_, h2_, h3_, h4_, h5_, h6_, h7_, h8_⟩
 have n0_ : Aside0 (Kd.R k88 88 w38 w.heap.size (fun _ => True) (.slice Ao26 t334.length co26) t334) := ⟨h0_⟩
 have n1_ : Aside0 (Kd.R (Kd.int .u8) 5 w38 w.heap.size (fun _ => True) v355 y354) := ⟨h1_⟩
 have n2_ : Aside0 (Kd.R Kd.string 9 w38 w.heap.size (fun _ => True) v358 y357) := ⟨h2_⟩
 have n3_ : Aside0 (Kd.R (Kd.int .i64) 2 w38 w.heap.size (fun _ => True) v365 y364) := ⟨h3_⟩
 have n4_ : Aside0 (∃ c_, (v358 : Value) = .slice (some adz_v358) y357.length c_) := ⟨h4_⟩
 have n5_ : Aside0 (∃ c_, (v365 : Value) = .slice (some adz_v365) y364.length c_) := ⟨h5_⟩
 have n6_ : Aside0 (IsS115 w0 w38 g s0_0 t361 t362) := ⟨h6_⟩
 have n7_ : Aside0 (KeepBut w w38 g none) := ⟨h7_⟩
 have n8_ : Aside0 (Below w0.heap.size w0 w38) := ⟨h8_⟩
 clear HO336
 clear HI0
 clear HK
 clear HB
 clear h0_ h1_ h2_ h3_ h4_ h5_ h6_ h7_ h8_
 have HO336 := n0_
 have HO356 := n1_
 have HO359 := n2_
 have HO366 := n3_
 have HA_HO359 := n4_
 have HA_HO366 := n5_
 have HI0 := n6_
 have HK := n7_
 have HB := n8_
 clear n0_ n1_ n2_ n3_ n4_ n5_ n6_ n7_ n8_
 have hHeld := trivial
 obtain ⟨co39, eo39⟩ := HA_HO359.out
 clear HA_HO359
 subst eo39
 obtain ⟨co40, eo40⟩ := HA_HO366.out
 clear HA_HO366
 subst eo40
 refine norm_ (a' := ?_) ?_ ?_
 rotate_left
 exact z79j
 refine two_ (i := 7) (j := 10) (Ni := some 27) (Nj := some 30) #[V, V, V, V, V, V, V, V, V, V, U, U, U, U, U, U, U] #[V, V, V, V, V, V, V, U, V, V, V, U, U, U, U, U, U] rfl rfl rfl rfl (two_of HT_.out (by kernel_rfl)) (by decide) (by decide) (fun K hK => ?_) (fun K hK => ?_)
 {
 skip
 (have p363 : 0 ≤ (t360 : Int) := of_decide_eq_true z79l; have q363 : t360 < (y357.length : Int) := of_decide_eq_true z79l; obtain ⟨ad363, e363, hx363_0⟩ := Kd.at_string (Kd.R_reads' HO359.out).2.2 t360 p363 q363; obtain rfl : adz_v358 = ad363 := (by injection e363))
 refine value_ (w1 := ?_) (v := ?_) (by rfl) rfl ?_ ?_
 rotate_left 2
 {
 go_simp
 constructor
 {
 rfl
 }
 {
 rfl
 }
 }
 clear hx363_0
 refine hK.out _ _ trivial (fun hHeld => ?_)
 clear hK K
 refine norm_ (a' := ?_) ?_ ?_
 rotate_left
 {
 show Act.put _ (some 27) _ = _
 simp only [Act.put, List.setIfInBounds_toArray, List.set_cons_zero, List.set_cons_succ, i64_w, i32_w]
 rfl
 }
 exact norm_ z79e (hJ1_2_3_5_7_8 (v355, .slice (some adz_v358) y357.length co39, adz_v358, .slice (some adz_v365) y364.length co40, adz_v365) _ ⟨z79d, z79f, z79i, z79g, ⟨_, rfl⟩, ⟨_, rfl⟩, z79a, z79b, z79c⟩)
 }
 {
 skip
 refine goes_ Try.func102 (by kernel_rfl) rfl #[.pointer (some ⟨g, 0, none⟩), .int .i64 4] (by rfl) rfl rfl z79h ?_
 with_reducible refine (spec_l1Below.calls g s0_0 t361 t362 4 t367 t368 t369 w0 _ ?side1 ?side2 A19.out).mono ?_
 (case side1 => exact z79a)
 (case side2 => exact z79c)
 rintro e w41 ⟨rfl, hi, hb, hk⟩
 refine ⟨_, rfl, ?_⟩
 have n0_ := Aside0.mk (Kd.R_mono (Kd.R_keep (IsS115.apart (show IsS115 w0 _ g s0_0 t361 t362 from z79a) z79d (by decide)) hk (fun _ h => h.2)) (fun _ h => h.1))
 have n1_ := Aside0.mk (Kd.R_mono (Kd.R_keep (IsS115.apart (show IsS115 w0 _ g s0_0 t361 t362 from z79a) z79f (by decide)) hk (fun _ h => h.2)) (fun _ h => h.1))
 have n2_ := Aside0.mk (Kd.R_mono (Kd.R_keep (IsS115.apart (show IsS115 w0 _ g s0_0 t361 t362 from z79a) z79i (by decide)) hk (fun _ h => h.2)) (fun _ h => h.1))
 have n3_ := Aside0.mk (Kd.R_mono (Kd.R_keep (IsS115.apart (show IsS115 w0 _ g s0_0 t361 t362 from z79a) z79g (by decide)) hk (fun _ h => h.2)) (fun _ h => h.1))
 have n4_ := Aside0.mk (KeepBut.trans z79b hk (.inl rfl))
 have n5_ := Aside0.mk (hb)
 have n6_ := Aside0.mk (hi)
 clear HO336
 clear HO356
 clear HO359
 clear HO366
 clear HK
 clear HB
 clear HI0
 have HO336 := n0_
 have HO356 := n1_
 have HO359 := n2_
 have HO366 := n3_
 have HK := n4_
 have HB := n5_
 have HI0 := n6_
 clear n0_ n1_ n2_ n3_ n4_ n5_ n6_
 (try clear hb)
 (try clear hb2)
 (try clear hk)
 (try clear hi)
 refine hK.out _ _ trivial (fun hHeld => ?_)
 clear hK K
 refine norm_ (a' := ?_) ?_ ?_
 rotate_left
 {
 show Act.put _ (some 30) _ = _
 simp only [Act.put, List.setIfInBounds_toArray, List.set_cons_zero, List.set_cons_succ, i64_w, i32_w]
 rfl
 }
 refine pure_ (i := 11) (N := some 31) (v := _) (a' := _) #[V, V, V, V, V, V, V, U, V, V, V, V, U, U, U, U, U] rfl rfl (any_of HT_.out (by kernel_rfl)) (fun _ _ _ h => h) (Or.inl ⟨by rfl, (by intro w'; go_simp; with_reducible rfl)⟩) z79k ?_
 exact norm_ z79e (hJ1_2_3_5_8_10 (v355, .slice (some adz_v358) y357.length co39, adz_v358, .slice (some adz_v365) y364.length co40, adz_v365) _ ⟨z79d, z79f, z79i, z79g, ⟨_, rfl⟩, ⟨_, rfl⟩, z79a, z79b, z79c⟩)
 }
 }
 }
 {
 skip
 rintro ⟨v355, v358, adz_v358⟩ w35 ⟨h0_, h1_, h2_, h3_, h4_, h5_, h6_⟩
 have n0_ : Aside0 (Kd.R k88 88 w35 w.heap.size (fun _ => True) (.slice Ao26 t334.length co26) t334) := ⟨h0_⟩
 have n1_ : Aside0 (Kd.R (Kd.int .u8) 5 w35 w.heap.size (fun _ => True) v355 y354) := ⟨h1_⟩
 have n2_ : Aside0 (Kd.R Kd.string 9 w35 w.heap.size (fun _ => True) v358 y357) := ⟨h2_⟩
 have n3_ : Aside0 (∃ c_, (v358 : Value) = .slice (some adz_v358) y357.length c_) := ⟨h3_⟩
 have n4_ : Aside0 (IsS115 w0 w35 g s0_0 t361 t362) := ⟨h4_⟩
 have n5_ : Aside0 (KeepBut w w35 g none) := ⟨h5_⟩
 have n6_ : Aside0 (Below w0.heap.size w0 w35) := ⟨h6_⟩
 clear HO336
 clear HI0
 clear HK
 clear HB
 clear h0_ h1_ h2_ h3_ h4_ h5_ h6_
 have HO336 := n0_
 have HO356 := n1_
 have HO359 := n2_
 have HA_HO359 := n3_
 have HI0 := n4_
 have HK := n5_
 have HB := n6_
 clear n0_ n1_ n2_ n3_ n4_ n5_ n6_
 have hHeld := trivial
 obtain ⟨co36, eo36⟩ := HA_HO359.out
 clear HA_HO359
 subst eo36
 refine norm_ (a' := ?_) ?_ ?_
 rotate_left
 exact z79j
 refine two_ (i := 8) (j := 10) (Ni := some 28) (Nj := some 30) #[V, V, V, V, V, V, V, V, V, V, U, U, U, U, U, U, U] #[V, V, V, V, V, V, V, V, U, V, V, U, U, U, U, U, U] rfl rfl rfl rfl (two_of HT_.out (by kernel_rfl)) (by decide) (by decide) (fun K hK => ?_) (fun K hK => ?_)
 {
 skip
 refine Kd.R_lit_step (Kd.int .i64) _ 2 ?hg (N := 28) ?hd (xs := ([0, 1, 1000000, 1000001] : List Int)) (inner := [.int .i64 0, .int .i64 1, .int .i64 1000000, .int .i64 1000001]) (ok := fun _ => True) (okp := fun _ => True) ?hr ?hp (fun _ hk => hk) trivial (Below.refl _ _) (Nat.le_refl _) (by simp) ?_; (case hd => rfl); (case hg => rfl); (case hr => first | (go_simp; done) | (go_simp; rfl)); (case hp => exact (Reps.one (show Kd.M (Kd.int .i64) _ _ _ 0 [.int .i64 0] from rfl) (Reps.one (show Kd.M (Kd.int .i64) _ _ _ 1 [.int .i64 1] from rfl) (Reps.one (show Kd.M (Kd.int .i64) _ _ _ 1000000 [.int .i64 1000000] from rfl) (Reps.one (show Kd.M (Kd.int .i64) _ _ _ 1000001 [.int .i64 1000001] from rfl) (Reps.none _ _))))))
 intro v365 w37 ho38 hb hg_ hnew_
 clear hg_ hnew_
 (first | rw [← Ny364.out] at ho38 | (simp only [Int.reduceToNat] at ho38; rw [← Ny364.out] at ho38))
 have n0_ := Aside0.mk (Kd.R_below z79d hb)
 have n1_ := Aside0.mk (Kd.R_below z79f hb)
 have n2_ := Aside0.mk (Kd.R_below z79i hb)
 have n3_ := Aside0.mk (Kd.R_lower ho38 (keep_size (w := w) (g := g) (row := none) z79b))
 have n4_ := Aside0.mk (IsS115.below z79a hb)
 have n5_ := Aside0.mk (KeepBut.trans z79b (KeepBut.of_below hb g none) (.inl rfl))
 have n6_ := Aside0.mk (below_step z79c hb)
 clear HO336
 clear HO356
 clear HO359
 clear HI0
 clear HK
 clear HB
 have HO336 := n0_
 have HO356 := n1_
 have HO359 := n2_
 have HO366 := n3_
 have HI0 := n4_
 have HK := n5_
 have HB := n6_
 clear n0_ n1_ n2_ n3_ n4_ n5_ n6_
 clear hb ho38
 obtain ⟨Ao39, co39, eo39⟩ := Kd.R_slice HO366.out
 subst eo39
 obtain ⟨ado39, fo39, _⟩ := Kd.at_int (Kd.R_reads' HO366.out).2.2 0 (by decide) (by rw [Ny364.out]; simp)
 cases fo39
 refine hK.out _ _ trivial (fun hHeld => ?_)
 clear hK K
 refine norm_ (a' := ?_) ?_ ?_
 rotate_left
 {
 show Act.put _ (some 28) _ = _
 simp only [Act.put, List.setIfInBounds_toArray, List.set_cons_zero, List.set_cons_succ, i64_w, i32_w]
 rfl
 }
 exact norm_ z79e (hJ1_2_3_5_7_8 (v355, .slice (some adz_v358) y357.length co36, adz_v358, .slice (some ado39) y364.length co39, ado39) _ ⟨z79d, z79f, z79i, z79g, ⟨_, rfl⟩, ⟨_, rfl⟩, z79a, z79b, z79c⟩)
 }
 {
 skip
 refine goes_ Try.func102 (by kernel_rfl) rfl #[.pointer (some ⟨g, 0, none⟩), .int .i64 4] (by rfl) rfl rfl z79h ?_
 with_reducible refine (spec_l1Below.calls g s0_0 t361 t362 4 t367 t368 t369 w0 _ ?side1 ?side2 A19.out).mono ?_
 (case side1 => exact z79a)
 (case side2 => exact z79c)
 rintro e w37 ⟨rfl, hi, hb, hk⟩
 refine ⟨_, rfl, ?_⟩
 have n0_ := Aside0.mk (Kd.R_mono (Kd.R_keep (IsS115.apart (show IsS115 w0 _ g s0_0 t361 t362 from z79a) z79d (by decide)) hk (fun _ h => h.2)) (fun _ h => h.1))
 have n1_ := Aside0.mk (Kd.R_mono (Kd.R_keep (IsS115.apart (show IsS115 w0 _ g s0_0 t361 t362 from z79a) z79f (by decide)) hk (fun _ h => h.2)) (fun _ h => h.1))
 have n2_ := Aside0.mk (Kd.R_mono (Kd.R_keep (IsS115.apart (show IsS115 w0 _ g s0_0 t361 t362 from z79a) z79i (by decide)) hk (fun _ h => h.2)) (fun _ h => h.1))
 have n3_ := Aside0.mk (KeepBut.trans z79b hk (.inl rfl))
 have n4_ := Aside0.mk (hb)
 have n5_ := Aside0.mk (hi)
 clear HO336
 clear HO356
 clear HO359
 clear HK
 clear HB
 clear HI0
 have HO336 := n0_
 have HO356 := n1_
 have HO359 := n2_
 have HK := n3_
 have HB := n4_
 have HI0 := n5_
 clear n0_ n1_ n2_ n3_ n4_ n5_
 (try clear hb)
 (try clear hb2)
 (try clear hk)
 (try clear hi)
 refine hK.out _ _ trivial (fun hHeld => ?_)
 clear hK K
 refine norm_ (a' := ?_) ?_ ?_
 rotate_left
 {
 show Act.put _ (some 30) _ = _
 simp only [Act.put, List.setIfInBounds_toArray, List.set_cons_zero, List.set_cons_succ, i64_w, i32_w]
 rfl
 }
 exact norm_ z79e (hJ1_2_3_5_7_10 (v355, .slice (some adz_v358) y357.length co36, adz_v358) _ ⟨z79d, z79f, z79i, ⟨_, rfl⟩, z79a, z79b, z79c⟩)
 }
 }
 }
 {
 skip
 rintro ⟨v355, v365, adz_v365⟩ w36 ⟨h0_, h1_, h2_, h3_, h4_, h5_, h6_⟩
 have n0_ : Aside0 (Kd.R k88 88 w36 w.heap.size (fun _ => True) (.slice Ao26 t334.length co26) t334) := ⟨h0_⟩
 have n1_ : Aside0 (Kd.R (Kd.int .u8) 5 w36 w.heap.size (fun _ => True) v355 y354) := ⟨h1_⟩
 have n2_ : Aside0 (Kd.R (Kd.int .i64) 2 w36 w.heap.size (fun _ => True) v365 y364) := ⟨h2_⟩
 have n3_ : Aside0 (∃ c_, (v365 : Value) = .slice (some adz_v365) y364.length c_) := ⟨h3_⟩
 have n4_ : Aside0 (IsS115 w0 w36 g s0_0 t368 t369) := ⟨h4_⟩
 have n5_ : Aside0 (KeepBut w w36 g none) := ⟨h5_⟩
 have n6_ : Aside0 (Below w0.heap.size w0 w36) := ⟨h6_⟩
 clear HO336
 clear HI0
 clear HK
 clear HB
 clear h0_ h1_ h2_ h3_ h4_ h5_ h6_
 have HO336 := n0_
 have HO356 := n1_
 have HO366 := n2_
 have HA_HO366 := n3_
 have HI0 := n4_
 have HK := n5_
 have HB := n6_
 clear n0_ n1_ n2_ n3_ n4_ n5_ n6_
 have hHeld := trivial
 obtain ⟨co37, eo37⟩ := HA_HO366.out
 clear HA_HO366
 subst eo37
 refine norm_ (a' := ?_) ?_ ?_
 rotate_left
 exact z79j
 refine one_ (i := 3) (N := some 23) #[V, V, V, V, V, V, U, U, V, V, V, V, V, U, U, U, U] rfl rfl (one_of HT_.out (by kernel_rfl)) (by decide) (fun K hK => ?_)
 refine Kd.R_lit_step Kd.string _ 9 ?hg (N := 23) ?hd (xs := ([(⟨#[]⟩ : ByteArray), (⟨#[122, 122]⟩ : ByteArray), strOfNums y354] : List ByteArray)) (inner := [.string (⟨#[]⟩ : ByteArray), .string (⟨#[122, 122]⟩ : ByteArray), .string (strOfNums y354)]) (ok := fun _ => True) (okp := fun _ => True) ?hr ?hp (fun _ hk => hk) trivial (Below.refl _ _) (Nat.le_refl _) (by simp) ?_; (case hd => rfl); (case hg => rfl); (case hr => first | (go_simp; done) | (go_simp; rfl)); (case hp => exact (Reps.one (show Kd.M Kd.string _ _ _ (⟨#[]⟩ : ByteArray) [.string (⟨#[]⟩ : ByteArray)] from rfl) (Reps.one (show Kd.M Kd.string _ _ _ (⟨#[122, 122]⟩ : ByteArray) [.string (⟨#[122, 122]⟩ : ByteArray)] from rfl) (Reps.one (show Kd.M Kd.string _ _ _ (strOfNums y354) [.string (strOfNums y354)] from rfl) (Reps.none _ _)))))
 intro v358 w38 ho39 hb hg_ hnew_
 clear hg_ hnew_
 (first | rw [← Ny357.out] at ho39 | (simp only [Int.reduceToNat] at ho39; rw [← Ny357.out] at ho39))
 have n0_ := Aside0.mk (Kd.R_below z79d hb)
 have n1_ := Aside0.mk (Kd.R_below z79f hb)
 have n2_ := Aside0.mk (Kd.R_below z79g hb)
 have n3_ := Aside0.mk (Kd.R_lower ho39 (keep_size (w := w) (g := g) (row := none) z79b))
 have n4_ := Aside0.mk (IsS115.below z79a hb)
 have n5_ := Aside0.mk (KeepBut.trans z79b (KeepBut.of_below hb g none) (.inl rfl))
 have n6_ := Aside0.mk (below_step z79c hb)
 clear HO336
 clear HO356
 clear HO366
 clear HI0
 clear HK
 clear HB
 have HO336 := n0_
 have HO356 := n1_
 have HO366 := n2_
 have HO359 := n3_
 have HI0 := n4_
 have HK := n5_
 have HB := n6_
 clear n0_ n1_ n2_ n3_ n4_ n5_ n6_
 clear hb ho39
 obtain ⟨Ao40, co40, eo40⟩ := Kd.R_slice HO359.out
 subst eo40
 obtain ⟨ado40, fo40, _⟩ := Kd.at_string (Kd.R_reads' HO359.out).2.2 0 (by decide) (by rw [Ny357.out]; simp)
 cases fo40
 refine hK.out _ _ trivial (fun hHeld => ?_)
 clear hK K
 refine norm_ (a' := ?_) ?_ ?_
 rotate_left
 {
 show Act.put _ (some 23) _ = _
 simp only [Act.put, List.setIfInBounds_toArray, List.set_cons_zero, List.set_cons_succ, i64_w, i32_w]
 rfl
 }
 refine pure_ (i := 6) (N := some 26) (v := _) (a' := _) #[V, V, V, V, V, V, V, U, V, V, V, V, V, U, U, U, U] rfl rfl (any_of HT_.out (by kernel_rfl)) (fun _ _ _ h => h) (Or.inl ⟨by rfl, (by intro w'; go_simp; with_reducible rfl)⟩) z79k ?_
 exact norm_ z79e (hJ1_2_3_5_8_10_12 (v355, .slice (some ado40) y357.length co40, ado40, .slice (some adz_v365) y364.length co37, adz_v365) _ ⟨z79d, z79f, z79i, z79g, ⟨_, rfl⟩, ⟨_, rfl⟩, z79a, z79b, z79c⟩)
 }
 }
 {
 skip
 rintro ⟨v355, v358, adz_v358, v365, adz_v365⟩ w39 ⟨h0_, h1_, h2_, h3_, h4_, h5_, h6_, h7_, h8_⟩
 have n0_ : Aside0 (Kd.R k88 88 w39 w.heap.size (fun _ => True) (.slice Ao26 t334.length co26) t334) := ⟨h0_⟩
 have n1_ : Aside0 (Kd.R (Kd.int .u8) 5 w39 w.heap.size (fun _ => True) v355 y354) := ⟨h1_⟩
 have n2_ : Aside0 (Kd.R Kd.string 9 w39 w.heap.size (fun _ => True) v358 y357) := ⟨h2_⟩
 have n3_ : Aside0 (Kd.R (Kd.int .i64) 2 w39 w.heap.size (fun _ => True) v365 y364) := ⟨h3_⟩
 have n4_ : Aside0 (∃ c_, (v358 : Value) = .slice (some adz_v358) y357.length c_) := ⟨h4_⟩
 have n5_ : Aside0 (∃ c_, (v365 : Value) = .slice (some adz_v365) y364.length c_) := ⟨h5_⟩
 have n6_ : Aside0 (IsS115 w0 w39 g s0_0 t368 t369) := ⟨h6_⟩
 have n7_ : Aside0 (KeepBut w w39 g none) := ⟨h7_⟩
 have n8_ : Aside0 (Below w0.heap.size w0 w39) := ⟨h8_⟩
 clear HO336
 clear HI0
 clear HK
 clear HB
 clear h0_ h1_ h2_ h3_ h4_ h5_ h6_ h7_ h8_
 have HO336 := n0_
 have HO356 := n1_
 have HO359 := n2_
 have HO366 := n3_
 have HA_HO359 := n4_
 have HA_HO366 := n5_
 have HI0 := n6_
 have HK := n7_
 have HB := n8_
 clear n0_ n1_ n2_ n3_ n4_ n5_ n6_ n7_ n8_
 have hHeld := trivial
 obtain ⟨co40, eo40⟩ := HA_HO359.out
 clear HA_HO359
 subst eo40
 obtain ⟨co41, eo41⟩ := HA_HO366.out
 clear HA_HO366
 subst eo41
 refine norm_ (a' := ?_) ?_ ?_
 rotate_left
 exact z79j
 refine two_ (i := 7) (j := 12) (Ni := some 27) (Nj := some 32) #[V, V, V, V, V, V, V, V, V, V, V, V, U, U, U, U, U] #[V, V, V, V, V, V, V, U, V, V, V, V, V, U, U, U, U] rfl rfl rfl rfl (two_of HT_.out (by kernel_rfl)) (by decide) (by decide) (fun K hK => ?_) (fun K hK => ?_)
 {
 skip
 (have p363 : 0 ≤ (t360 : Int) := of_decide_eq_true z79l; have q363 : t360 < (y357.length : Int) := of_decide_eq_true z79l; obtain ⟨ad363, e363, hx363_0⟩ := Kd.at_string (Kd.R_reads' HO359.out).2.2 t360 p363 q363; obtain rfl : adz_v358 = ad363 := (by injection e363))
 refine value_ (w1 := ?_) (v := ?_) (by rfl) rfl ?_ ?_
 rotate_left 2
 {
 go_simp
 constructor
 {
 rfl
 }
 {
 rfl
 }
 }
 clear hx363_0
 refine hK.out _ _ trivial (fun hHeld => ?_)
 clear hK K
 refine norm_ (a' := ?_) ?_ ?_
 rotate_left
 {
 show Act.put _ (some 27) _ = _
 simp only [Act.put, List.setIfInBounds_toArray, List.set_cons_zero, List.set_cons_succ, i64_w, i32_w]
 rfl
 }
 exact norm_ z79e (hJ1_2_3_5_7_8_10 (v355, .slice (some adz_v358) y357.length co40, adz_v358, .slice (some adz_v365) y364.length co41, adz_v365) _ ⟨z79d, z79f, z79i, z79g, ⟨_, rfl⟩, ⟨_, rfl⟩, z79a, z79b, z79c⟩)
 }
 {
 skip
 (have p370 : 0 ≤ (t367 : Int) := of_decide_eq_true z79l; have q370 : t367 < (y364.length : Int) := of_decide_eq_true z79l; obtain ⟨ad370, e370, hx370_0⟩ := Kd.at_int (Kd.R_reads' HO366.out).2.2 t367 p370 q370; obtain rfl : adz_v365 = ad370 := (by injection e370))
 refine value_ (w1 := ?_) (v := ?_) (by rfl) rfl ?_ ?_
 rotate_left 2
 {
 go_simp
 constructor
 {
 rfl
 }
 {
 rfl
 }
 }
 clear hx370_0
 refine hK.out _ _ trivial (fun hHeld => ?_)
 clear hK K
 refine norm_ (a' := ?_) ?_ ?_
 rotate_left
 {
 show Act.put _ (some 32) _ = _
 simp only [Act.put, List.setIfInBounds_toArray, List.set_cons_zero, List.set_cons_succ, i64_w, i32_w]
 rfl
 }
 exact norm_ z79e (hJ1_2_3_5_8_10_12 (v355, .slice (some adz_v358) y357.length co40, adz_v358, .slice (some adz_v365) y364.length co41, adz_v365) _ ⟨z79d, z79f, z79i, z79g, ⟨_, rfl⟩, ⟨_, rfl⟩, z79a, z79b, z79c⟩)
 }
 }
 }
 {
 skip
 rintro ⟨v355, v358, adz_v358⟩ w36 ⟨h0_, h1_, h2_, h3_, h4_, h5_, h6_⟩
 have n0_ : Aside0 (Kd.R k88 88 w36 w.heap.size (fun _ => True) (.slice Ao26 t334.length co26) t334) := ⟨h0_⟩
 have n1_ : Aside0 (Kd.R (Kd.int .u8) 5 w36 w.heap.size (fun _ => True) v355 y354) := ⟨h1_⟩
 have n2_ : Aside0 (Kd.R Kd.string 9 w36 w.heap.size (fun _ => True) v358 y357) := ⟨h2_⟩
 have n3_ : Aside0 (∃ c_, (v358 : Value) = .slice (some adz_v358) y357.length c_) := ⟨h3_⟩
 have n4_ : Aside0 (IsS115 w0 w36 g s0_0 t368 t369) := ⟨h4_⟩
 have n5_ : Aside0 (KeepBut w w36 g none) := ⟨h5_⟩
 have n6_ : Aside0 (Below w0.heap.size w0 w36) := ⟨h6_⟩
 clear HO336
 clear HI0
 clear HK
 clear HB
 clear h0_ h1_ h2_ h3_ h4_ h5_ h6_
 have HO336 := n0_
 have HO356 := n1_
 have HO359 := n2_
 have HA_HO359 := n3_
 have HI0 := n4_
 have HK := n5_
 have HB := n6_
 clear n0_ n1_ n2_ n3_ n4_ n5_ n6_
 have hHeld := trivial
 obtain ⟨co37, eo37⟩ := HA_HO359.out
 clear HA_HO359
 subst eo37
 refine norm_ (a' := ?_) ?_ ?_
 rotate_left
 exact z79j
 refine one_ (i := 8) (N := some 28) #[V, V, V, V, V, V, V, V, V, V, V, U, U, U, U, U, U] rfl rfl (one_of HT_.out (by kernel_rfl)) (by decide) (fun K hK => ?_)
 refine Kd.R_lit_step (Kd.int .i64) _ 2 ?hg (N := 28) ?hd (xs := ([0, 1, 1000000, 1000001] : List Int)) (inner := [.int .i64 0, .int .i64 1, .int .i64 1000000, .int .i64 1000001]) (ok := fun _ => True) (okp := fun _ => True) ?hr ?hp (fun _ hk => hk) trivial (Below.refl _ _) (Nat.le_refl _) (by simp) ?_; (case hd => rfl); (case hg => rfl); (case hr => first | (go_simp; done) | (go_simp; rfl)); (case hp => exact (Reps.one (show Kd.M (Kd.int .i64) _ _ _ 0 [.int .i64 0] from rfl) (Reps.one (show Kd.M (Kd.int .i64) _ _ _ 1 [.int .i64 1] from rfl) (Reps.one (show Kd.M (Kd.int .i64) _ _ _ 1000000 [.int .i64 1000000] from rfl) (Reps.one (show Kd.M (Kd.int .i64) _ _ _ 1000001 [.int .i64 1000001] from rfl) (Reps.none _ _))))))
 intro v365 w38 ho39 hb hg_ hnew_
 clear hg_ hnew_
 (first | rw [← Ny364.out] at ho39 | (simp only [Int.reduceToNat] at ho39; rw [← Ny364.out] at ho39))
 have n0_ := Aside0.mk (Kd.R_below z79d hb)
 have n1_ := Aside0.mk (Kd.R_below z79f hb)
 have n2_ := Aside0.mk (Kd.R_below z79i hb)
 have n3_ := Aside0.mk (Kd.R_lower ho39 (keep_size (w := w) (g := g) (row := none) z79b))
 have n4_ := Aside0.mk (IsS115.below z79a hb)
 have n5_ := Aside0.mk (KeepBut.trans z79b (KeepBut.of_below hb g none) (.inl rfl))
 have n6_ := Aside0.mk (below_step z79c hb)
 clear HO336
 clear HO356
 clear HO359
 clear HI0
 clear HK
 clear HB
 have HO336 := n0_
 have HO356 := n1_
 have HO359 := n2_
 have HO366 := n3_
 have HI0 := n4_
 have HK := n5_
 have HB := n6_
 clear n0_ n1_ n2_ n3_ n4_ n5_ n6_
 clear hb ho39
 obtain ⟨Ao40, co40, eo40⟩ := Kd.R_slice HO366.out
 subst eo40
 obtain ⟨ado40, fo40, _⟩ := Kd.at_int (Kd.R_reads' HO366.out).2.2 0 (by decide) (by rw [Ny364.out]; simp)
 cases fo40
 refine hK.out _ _ trivial (fun hHeld => ?_)
 clear hK K
 refine norm_ (a' := ?_) ?_ ?_
 rotate_left
 {
 show Act.put _ (some 28) _ = _
 simp only [Act.put, List.setIfInBounds_toArray, List.set_cons_zero, List.set_cons_succ, i64_w, i32_w]
 rfl
 }
 refine pure_ (i := 11) (N := some 31) (v := _) (a' := _) #[V, V, V, V, V, V, V, V, V, V, V, V, U, U, U, U, U] rfl rfl (any_of HT_.out (by kernel_rfl)) (fun _ _ _ h => h) (Or.inl ⟨by rfl, (by intro w'; go_simp; with_reducible rfl)⟩) z79k ?_
 exact norm_ z79e (hJ1_2_3_5_7_8_10 (v355, .slice (some adz_v358) y357.length co37, adz_v358, .slice (some ado40) y364.length co40, ado40) _ ⟨z79d, z79f, z79i, z79g, ⟨_, rfl⟩, ⟨_, rfl⟩, z79a, z79b, z79c⟩)
 }
 }
 {
 skip
 rintro ⟨v355, v358, adz_v358, v365, adz_v365⟩ w38 ⟨h0_, h1_, h2_, h3_, h4_, h5_, h6_, h7_, h8_⟩
 have n0_ : Aside0 (Kd.R k88 88 w38 w.heap.size (fun _ => True) (.slice Ao26 t334.length co26) t334) := ⟨h0_⟩
 have n1_ : Aside0 (Kd.R (Kd.int .u8) 5 w38 w.heap.size (fun _ => True) v355 y354) := ⟨h1_⟩
 have n2_ : Aside0 (Kd.R Kd.string 9 w38 w.heap.size (fun _ => True) v358 y357) := ⟨h2_⟩
 have n3_ : Aside0 (Kd.R (Kd.int .i64) 2 w38 w.heap.size (fun _ => True) v365 y364) := ⟨h3_⟩
 have n4_ : Aside0 (∃ c_, (v358 : Value) = .slice (some adz_v358) y357.length c_) := ⟨h4_⟩
 have n5_ : Aside0 (∃ c_, (v365 : Value) = .slice (some adz_v365) y364.length c_) := ⟨h5_⟩
 have n6_ : Aside0 (IsS115 w0 w38 g s0_0 t361 t362) := ⟨h6_⟩
 have n7_ : Aside0 (KeepBut w w38 g none) := ⟨h7_⟩
 have n8_ : Aside0 (Below w0.heap.size w0 w38) := ⟨h8_⟩
 clear HO336
 clear HI0
 clear HK
 clear HB
 clear h0_ h1_ h2_ h3_ h4_ h5_ h6_ h7_ h8_
 have HO336 := n0_
 have HO356 := n1_
 have HO359 := n2_
 have HO366 := n3_
 have HA_HO359 := n4_
 have HA_HO366 := n5_
 have HI0 := n6_
 have HK := n7_
 have HB := n8_
 clear n0_ n1_ n2_ n3_ n4_ n5_ n6_ n7_ n8_
 have hHeld := trivial
 obtain ⟨co39, eo39⟩ := HA_HO359.out
 clear HA_HO359
 subst eo39
 obtain ⟨co40, eo40⟩ := HA_HO366.out
 clear HA_HO366
 subst eo40
 refine norm_ (a' := ?_) ?_ ?_
 rotate_left
 exact z79j
 refine one_ (i := 10) (N := some 30) #[V, V, V, V, V, V, V, V, V, V, V, U, U, U, U, U, U] rfl rfl (one_of HT_.out (by kernel_rfl)) (by decide) (fun K hK => ?_)
 refine goes_ Try.func102 (by kernel_rfl) rfl #[.pointer (some ⟨g, 0, none⟩), .int .i64 4] (by rfl) rfl rfl z79h ?_
 with_reducible refine (spec_l1Below.calls g s0_0 t361 t362 4 t367 t368 t369 w0 _ ?side1 ?side2 A19.out).mono ?_
 (case side1 => exact z79a)
 (case side2 => exact z79c)
 rintro e w41 ⟨rfl, hi, hb, hk⟩
 refine ⟨_, rfl, ?_⟩
 have n0_ := Aside0.mk (Kd.R_mono (Kd.R_keep (IsS115.apart (show IsS115 w0 _ g s0_0 t361 t362 from z79a) z79d (by decide)) hk (fun _ h => h.2)) (fun _ h => h.1))
 have n1_ := Aside0.mk (Kd.R_mono (Kd.R_keep (IsS115.apart (show IsS115 w0 _ g s0_0 t361 t362 from z79a) z79f (by decide)) hk (fun _ h => h.2)) (fun _ h => h.1))
 have n2_ := Aside0.mk (Kd.R_mono (Kd.R_keep (IsS115.apart (show IsS115 w0 _ g s0_0 t361 t362 from z79a) z79i (by decide)) hk (fun _ h => h.2)) (fun _ h => h.1))
 have n3_ := Aside0.mk (Kd.R_mono (Kd.R_keep (IsS115.apart (show IsS115 w0 _ g s0_0 t361 t362 from z79a) z79g (by decide)) hk (fun _ h => h.2)) (fun _ h => h.1))
 have n4_ := Aside0.mk (KeepBut.trans z79b hk (.inl rfl))
 have n5_ := Aside0.mk (hb)
 have n6_ := Aside0.mk (hi)
 clear HO336
 clear HO356
 clear HO359
 clear HO366
 clear HK
 clear HB
 clear HI0
 have HO336 := n0_
 have HO356 := n1_
 have HO359 := n2_
 have HO366 := n3_
 have HK := n4_
 have HB := n5_
 have HI0 := n6_
 clear n0_ n1_ n2_ n3_ n4_ n5_ n6_
 (try clear hb)
 (try clear hb2)
 (try clear hk)
 (try clear hi)
 refine hK.out _ _ trivial (fun hHeld => ?_)
 clear hK K
 refine norm_ (a' := ?_) ?_ ?_
 rotate_left
 {
 show Act.put _ (some 30) _ = _
 simp only [Act.put, List.setIfInBounds_toArray, List.set_cons_zero, List.set_cons_succ, i64_w, i32_w]
 rfl
 }
 refine pure_ (i := 11) (N := some 31) (v := _) (a' := _) #[V, V, V, V, V, V, V, V, V, V, V, V, U, U, U, U, U] rfl rfl (any_of HT_.out (by kernel_rfl)) (fun _ _ _ h => h) (Or.inl ⟨by rfl, (by intro w'; go_simp; with_reducible rfl)⟩) z79k ?_
 exact norm_ z79e (hJ1_2_3_5_7_8_10 (v355, .slice (some adz_v358) y357.length co39, adz_v358, .slice (some adz_v365) y364.length co40, adz_v365) _ ⟨z79d, z79f, z79i, z79g, ⟨_, rfl⟩, ⟨_, rfl⟩, z79a, z79b, z79c⟩)
 }
 }
 {
 skip
 rintro ⟨v355, v358, adz_v358, v365, adz_v365⟩ w39 ⟨h0_, h1_, h2_, h3_, h4_, h5_, h6_, h7_, h8_⟩
 have n0_ : Aside0 (Kd.R k88 88 w39 w.heap.size (fun _ => True) (.slice Ao26 t334.length co26) t334) := ⟨h0_⟩
 have n1_ : Aside0 (Kd.R (Kd.int .u8) 5 w39 w.heap.size (fun _ => True) v355 y354) := ⟨h1_⟩
 have n2_ : Aside0 (Kd.R Kd.string 9 w39 w.heap.size (fun _ => True) v358 y357) := ⟨h2_⟩
 have n3_ : Aside0 (Kd.R (Kd.int .i64) 2 w39 w.heap.size (fun _ => True) v365 y364) := ⟨h3_⟩
 have n4_ : Aside0 (∃ c_, (v358 : Value) = .slice (some adz_v358) y357.length c_) := ⟨h4_⟩
 have n5_ : Aside0 (∃ c_, (v365 : Value) = .slice (some adz_v365) y364.length c_) := ⟨h5_⟩
 have n6_ : Aside0 (IsS115 w0 w39 g s0_0 t368 t369) := ⟨h6_⟩
 have n7_ : Aside0 (KeepBut w w39 g none) := ⟨h7_⟩
 have n8_ : Aside0 (Below w0.heap.size w0 w39) := ⟨h8_⟩
 clear HO336
 clear HI0
 clear HK
 clear HB
 clear h0_ h1_ h2_ h3_ h4_ h5_ h6_ h7_ h8_
 have HO336 := n0_
 have HO356 := n1_
 have HO359 := n2_
 have HO366 := n3_
 have HA_HO359 := n4_
 have HA_HO366 := n5_
 have HI0 := n6_
 have HK := n7_
 have HB := n8_
 clear n0_ n1_ n2_ n3_ n4_ n5_ n6_ n7_ n8_
 have hHeld := trivial
 obtain ⟨co40, eo40⟩ := HA_HO359.out
 clear HA_HO359
 subst eo40
 obtain ⟨co41, eo41⟩ := HA_HO366.out
 clear HA_HO366
 subst eo41
 refine norm_ (a' := ?_) ?_ ?_
 rotate_left
 exact z79j
 refine one_ (i := 7) (N := some 27) #[V, V, V, V, V, V, V, V, V, V, V, V, V, U, U, U, U] rfl rfl (one_of HT_.out (by kernel_rfl)) (by decide) (fun K hK => ?_)
 (have p363 : 0 ≤ (t360 : Int) := of_decide_eq_true z79l; have q363 : t360 < (y357.length : Int) := of_decide_eq_true z79l; obtain ⟨ad363, e363, hx363_0⟩ := Kd.at_string (Kd.R_reads' HO359.out).2.2 t360 p363 q363; obtain rfl : adz_v358 = ad363 := (by injection e363))
 refine value_ (w1 := ?_) (v := ?_) (by rfl) rfl ?_ ?_
 rotate_left 2
 {
 go_simp
 constructor
 {
 rfl
 }
 {
 rfl
 }
 }
 clear hx363_0
 refine hK.out _ _ trivial (fun hHeld => ?_)
 clear hK K
 refine norm_ (a' := ?_) ?_ ?_
 rotate_left
 {
 show Act.put _ (some 27) _ = _
 simp only [Act.put, List.setIfInBounds_toArray, List.set_cons_zero, List.set_cons_succ, i64_w, i32_w]
 rfl
 }
 exact norm_ z79e (hJ1_2_3_5_7_8_10_12 (v355, .slice (some adz_v358) y357.length co40, adz_v358, .slice (some adz_v365) y364.length co41, adz_v365) _ ⟨z79d, z79f, z79i, z79g, ⟨_, rfl⟩, ⟨_, rfl⟩, z79a, z79b, z79c⟩)
 }
 }
 {
 skip
 rintro ⟨v355, v358, adz_v358, v365, adz_v365⟩ w39 ⟨h0_, h1_, h2_, h3_, h4_, h5_, h6_, h7_, h8_⟩
 have n0_ : Aside0 (Kd.R k88 88 w39 w.heap.size (fun _ => True) (.slice Ao26 t334.length co26) t334) := ⟨h0_⟩
 have n1_ : Aside0 (Kd.R (Kd.int .u8) 5 w39 w.heap.size (fun _ => True) v355 y354) := ⟨h1_⟩
 have n2_ : Aside0 (Kd.R Kd.string 9 w39 w.heap.size (fun _ => True) v358 y357) := ⟨h2_⟩
 have n3_ : Aside0 (Kd.R (Kd.int .i64) 2 w39 w.heap.size (fun _ => True) v365 y364) := ⟨h3_⟩
 have n4_ : Aside0 (∃ c_, (v358 : Value) = .slice (some adz_v358) y357.length c_) := ⟨h4_⟩
 have n5_ : Aside0 (∃ c_, (v365 : Value) = .slice (some adz_v365) y364.length c_) := ⟨h5_⟩
 have n6_ : Aside0 (IsS115 w0 w39 g s0_0 t368 t369) := ⟨h6_⟩
 have n7_ : Aside0 (KeepBut w w39 g none) := ⟨h7_⟩
 have n8_ : Aside0 (Below w0.heap.size w0 w39) := ⟨h8_⟩
 clear HO336
 clear HI0
 clear HK
 clear HB
 clear h0_ h1_ h2_ h3_ h4_ h5_ h6_ h7_ h8_
 have HO336 := n0_
 have HO356 := n1_
 have HO359 := n2_
 have HO366 := n3_
 have HA_HO359 := n4_
 have HA_HO366 := n5_
 have HI0 := n6_
 have HK := n7_
 have HB := n8_
 clear n0_ n1_ n2_ n3_ n4_ n5_ n6_ n7_ n8_
 have hHeld := trivial
 obtain ⟨co40, eo40⟩ := HA_HO359.out
 clear HA_HO359
 subst eo40
 obtain ⟨co41, eo41⟩ := HA_HO366.out
 clear HA_HO366
 subst eo41
 refine norm_ (a' := ?_) ?_ ?_
 rotate_left
 exact z79j
 refine one_ (i := 12) (N := some 32) #[V, V, V, V, V, V, V, V, V, V, V, V, V, U, U, U, U] rfl rfl (one_of HT_.out (by kernel_rfl)) (by decide) (fun K hK => ?_)
 (have p370 : 0 ≤ (t367 : Int) := of_decide_eq_true z79l; have q370 : t367 < (y364.length : Int) := of_decide_eq_true z79l; obtain ⟨ad370, e370, hx370_0⟩ := Kd.at_int (Kd.R_reads' HO366.out).2.2 t367 p370 q370; obtain rfl : adz_v365 = ad370 := (by injection e370))
 refine value_ (w1 := ?_) (v := ?_) (by rfl) rfl ?_ ?_
 rotate_left 2
 {
 go_simp
 constructor
 {
 rfl
 }
 {
 rfl
 }
 }
 clear hx370_0
 refine hK.out _ _ trivial (fun hHeld => ?_)
 clear hK K
 refine norm_ (a' := ?_) ?_ ?_
 rotate_left
 {
 show Act.put _ (some 32) _ = _
 simp only [Act.put, List.setIfInBounds_toArray, List.set_cons_zero, List.set_cons_succ, i64_w, i32_w]
 rfl
 }
 exact norm_ z79e (hJ1_2_3_5_7_8_10_12 (v355, .slice (some adz_v358) y357.length co40, adz_v358, .slice (some adz_v365) y364.length co41, adz_v365) _ ⟨z79d, z79f, z79i, z79g, ⟨_, rfl⟩, ⟨_, rfl⟩, z79a, z79b, z79c⟩)
 }
 }
 rintro ⟨v355, v358, adz_v358, v365, adz_v365⟩ w39 ⟨h0_, h1_, h2_, h3_, h4_, h5_, h6_, h7_, h8_⟩
 have n0_ : Aside0 (Kd.R k88 88 w39 w.heap.size (fun _ => True) (.slice Ao26 t334.length co26) t334) := ⟨h0_⟩
 have n1_ : Aside0 (Kd.R (Kd.int .u8) 5 w39 w.heap.size (fun _ => True) v355 y354) := ⟨h1_⟩
 have n2_ : Aside0 (Kd.R Kd.string 9 w39 w.heap.size (fun _ => True) v358 y357) := ⟨h2_⟩
 have n3_ : Aside0 (Kd.R (Kd.int .i64) 2 w39 w.heap.size (fun _ => True) v365 y364) := ⟨h3_⟩
 have n4_ : Aside0 (∃ c_, (v358 : Value) = .slice (some adz_v358) y357.length c_) := ⟨h4_⟩
 have n5_ : Aside0 (∃ c_, (v365 : Value) = .slice (some adz_v365) y364.length c_) := ⟨h5_⟩
 have n6_ : Aside0 (IsS115 w0 w39 g s0_0 t368 t369) := ⟨h6_⟩
 have n7_ : Aside0 (KeepBut w w39 g none) := ⟨h7_⟩
 have n8_ : Aside0 (Below w0.heap.size w0 w39) := ⟨h8_⟩
 clear HO336
 clear HI0
 clear HK
 clear HB
 clear h0_ h1_ h2_ h3_ h4_ h5_ h6_ h7_ h8_
 have HO336 := n0_
 have HO356 := n1_
 have HO359 := n2_
 have HO366 := n3_
 have HA_HO359 := n4_
 have HA_HO366 := n5_
 have HI0 := n6_
 have HK := n7_
 have HB := n8_
 clear n0_ n1_ n2_ n3_ n4_ n5_ n6_ n7_ n8_
 have hHeld := trivial
 obtain ⟨co40, eo40⟩ := HA_HO359.out
 clear HA_HO359
 subst eo40
 obtain ⟨co41, eo41⟩ := HA_HO366.out
 clear HA_HO366
 subst eo41
 refine norm_ (a' := ?_) ?_ ?_
 rotate_left
 exact z79j
 refine pure_ (i := 13) (N := some 33) (v := _) (a' := _) #[V, V, V, V, V, V, V, V, V, V, V, V, V, V, U, U, U] rfl rfl (any_of HT_.out (by kernel_rfl)) (fun _ _ _ h => h) (Or.inl ⟨by rfl, (by intro w'; go_simp; with_reducible rfl)⟩) z79k ?_
 refine one_ (i := 14) (N := some 34) #[V, V, V, V, V, V, V, V, V, V, V, V, V, V, V, U, U] rfl rfl (one_of HT_.out (by kernel_rfl)) (by decide) (fun K hK => ?_)
 refine value_ (w1 := ?_) (v := ?_) (by rfl) rfl ?_ ?_
 rotate_left 2
 {
 go_simp
 constructor
 {
 rfl
 }
 {
 rfl
 }
 }
 refine hK.out _ _ trivial (fun hHeld => ?_)
 clear hK K
 refine norm_ (a' := ?_) ?_ ?_
 rotate_left
 {
 show Act.put _ (some 34) _ = _
 simp only [Act.put, List.setIfInBounds_toArray, List.set_cons_zero, List.set_cons_succ, i64_w, i32_w]
 rfl
 }
 refine one_ (i := 15) (N := some 35) #[V, V, V, V, V, V, V, V, V, V, V, V, V, V, V, V, U] rfl rfl (one_of HT_.out (by kernel_rfl)) (by decide) (fun K hK => ?_)
 refine Kd.R_append_step k88 w.heap.size (by rfl) (.tmp 20) (.tmp 34) 50 88 (.agg #[(.string ⟨#[]⟩), (.string ⟨#[]⟩), (.int .i64 0), (.bool false)]) 48 rfl Try.underlying50 info88 rfl (by decide) (by omega) (.slice Ao26 t334.length co26) t334 (⟨rdOf ByteArray.empty y357 t360, (⟨#[]⟩ : ByteArray), rd y364 t367, false⟩ : S88) [.string (rdOf ByteArray.empty y357 t360), .string (⟨#[]⟩ : ByteArray), .int .i64 (rd y364 t367), .bool false] (fun _ => True) (fun _ => False) rfl rfl ?aP (fun _ hk => hk.elim) ?aF ?aO (Below.refl _ _) ?aS ?aL ?_
 (case aP => exact k88_mkM _ _ _ (⟨rdOf ByteArray.empty y357 t360, (⟨#[]⟩ : ByteArray), rd y364 t367, false⟩ : S88))
 (case aF => exact (fun _ _ => trivial))
 (case aO => exact z79d)
 (case aS => exact (keep_size (w := w) (g := g) (row := none) z79b))
 (case aL => have := LMc22.out; omega)
 intro v372 w42 ho hb hg hat
 rw [← Ny371.out] at ho
 have n0_ := Aside0.mk (IsS115.grown z79a hg (IsS115.own_ne HI0.out HO336.out (by decide)))
 have n1_ := Aside0.mk (Kd.R_over' z79f (Kd.R_typed z79d) (by decide) hg)
 have n2_ := Aside0.mk (Kd.R_over' z79i (Kd.R_typed z79d) (by decide) hg)
 have n3_ := Aside0.mk (Kd.R_over' z79g (Kd.R_typed z79d) (by decide) hg)
 have n4_ := Aside0.mk (below_weaken z79c HL.out hb)
 have n5_ := Aside0.mk (KeepBut.trans z79b (KeepBut.of_grown hg g) (Kd.R_base2 HO336.out))
 have n6_ := Aside0.mk (ho)
 clear HI0
 clear HO356
 clear HO359
 clear HO366
 clear HB
 clear HK
 clear HO336
 have HI0 := n0_
 have HO356 := n1_
 have HO359 := n2_
 have HO366 := n3_
 have HB := n4_
 have HK := n5_
 have HO373 := n6_
 clear n0_ n1_ n2_ n3_ n4_ n5_ n6_
 clear ho hb hg hat
 refine hK.out _ _ trivial (fun hHeld => ?_)
 clear hK K
 refine norm_ (a' := ?_) ?_ ?_
 rotate_left
 {
 show Act.put _ (some 35) _ = _
 simp only [Act.put, List.setIfInBounds_toArray, List.set_cons_zero, List.set_cons_succ, i64_w, i32_w]
 rfl
 }
 refine pure_ (i := 16) (N := some 3) (v := _) (a' := _) #[V, V, V, V, V, V, V, V, V, V, V, V, V, V, V, V, V] rfl rfl (any_of HT_.out (by kernel_rfl)) (fun _ _ _ h => h) (Or.inl ⟨by rfl, (by intro w'; go_simp; with_reducible rfl)⟩) z79k ?_
 refine done_ (done_of HT_.out (by kernel_rfl)) ?_
 try go_wp2
 go_ret
 exact ⟨_, by first | rfl | (simp [errW_none, errW_some] <;> rfl) | (simp [*, errW_none, errW_some] <;> rfl), by (with_reducible repeat (first | apply Kd.R_alloc | apply Kd.R_drewN | apply Kd.R_drew)); exact HO373.out, by repeat (first | (with_reducible first | exact HI0.out | apply IsS115.alloc | apply IsS115.drewN | apply IsS115.drew | apply IsS115.set_1 | apply IsS115.set_2) | exact HI0.out), by repeat (first | (with_reducible first | exact HB.out | apply below_alloc | apply pw_below_drewN | apply below_drew1 | refine below_set ?_ (IsS115.ge HI0.out)) | exact HB.out), by repeat (first | (with_reducible first | exact HK.out | apply KeepBut.set_ | apply keep_drewN | apply keep_drew | apply keep_alloc) | exact HK.out)⟩
 }
 {
 rw [if_neg c22] at H
 exact absurd H (by simp)
 }
 }
 {
 rw [if_neg c21] at H
 exact absurd H (by simp)
 }
 }
 {
 rw [if_neg c20] at H
 exact absurd H (by simp)
 }
 }
 {
 rw [if_neg c18] at H
 exact absurd H (by simp)
 }
 }
 {
 rw [if_neg c17] at H
 exact absurd H (by simp)
 }
 }
 {
 rw [if_neg c15] at H
 exact absurd H (by simp)
 }
 }
 {
 rw [if_neg c14] at H
 have c14b0 : (t342 == 1) = false := beq_eq_false_iff_ne.mpr c14
 have c14b1 : (t342 != 1) = true := bne_iff_ne.mpr c14
 by_cases c43 : t342 = 2
 {
 rw [if_pos c43] at H
 have c43b0 : (t342 == 2) = true := beq_iff_eq.mpr c43
 have c43b1 : (t342 != 2) = false := bne_eq_false_iff_eq.mpr c43
 clear c43
 replace H := Option.bind_eq_some_iff.mp H
 obtain ⟨⟨t374, t375, t376⟩, A440, H⟩ := H
 replace H : (if 0 ≤ (wrap64 (200 + t374)) then (if (wrap64 (200 + t374) : Int).toNat ≤ 281474976710656 then ((spec_l1Once.f s0_0 t375 t376 2).bind fun bt380 => (if t334.length < 2932031007402 then (some ((t334 ++ [(⟨(⟨#[122, 122]⟩ : ByteArray), strOfNums (List.replicate (wrap64 (200 + t374) : Int).toNat 0), 1, bt380.1⟩ : S88)]), bt380.2.1, bt380.2.2)) else (none))) else (none)) else (none)) = some (r1, r2, r3) := H
 have A44 := Aside0.mk A440
 clear A440
 obtain ⟨ji45, hji45⟩ : ∃ j_ : Int, (wrap64 (200 + t374)) = j_ := ⟨_, rfl⟩
 replace H : (if 0 ≤ (ji45) then (if (ji45 : Int).toNat ≤ 281474976710656 then ((spec_l1Once.f s0_0 t375 t376 2).bind fun bt380 => (if t334.length < 2932031007402 then (some ((t334 ++ [(⟨(⟨#[122, 122]⟩ : ByteArray), strOfNums (List.replicate (ji45 : Int).toNat 0), 1, bt380.1⟩ : S88)]), bt380.2.1, bt380.2.2)) else (none))) else (none)) else (none)) = some (r1, r2, r3) := by first | (rw [hji45] at H; exact H) | (simp only [hji45] at H ⊢; exact H)
 (try rw [hji45])
 (try rw [hji45] at A2)
 (try rw [hji45] at A3)
 (try rw [hji45] at A5)
 (try rw [hji45] at A44)
 have hji45w : (IntKind.i64.wrap (200 + t374)) = ji45 := (i64_w _).trans hji45
 by_cases c46 : 0 ≤ (ji45)
 {
 rw [if_pos c46] at H
 have c46b0 := eq_true c46
 have c46b1 : decide (0 ≤ (ji45)) = true := decide_eq_true c46
 clear c46
 by_cases c47 : (ji45 : Int).toNat ≤ 281474976710656
 {
 rw [if_pos c47] at H
 have c47b0 := eq_true c47
 have c47b1 : decide ((ji45 : Int).toNat ≤ 281474976710656) = true := decide_eq_true c47
 clear c47
 obtain ⟨y377, hy377⟩ : ∃ y_ : List Int, y_ = (List.replicate (ji45 : Int).toNat 0) := ⟨_, rfl⟩
 replace H : ((spec_l1Once.f s0_0 t375 t376 2).bind fun bt380 => (if t334.length < 2932031007402 then (some ((t334 ++ [(⟨(⟨#[122, 122]⟩ : ByteArray), strOfNums y377, 1, bt380.1⟩ : S88)]), bt380.2.1, bt380.2.2)) else (none))) = some (r1, r2, r3) := by first | (rw [hy377]; with_reducible exact H) | (have H2_ := (Option.bind_some _ _).symm.trans H; rw [hy377]; with_reducible exact H2_) | (have H2_ := (Option.bind_some _ _).symm.trans H; with_reducible exact H2_) | with_reducible exact H | (rw [hy377]; exact H) | exact H
 have Ny377 := Aside0.mk hy377
 clear hy377
 replace H := Option.bind_eq_some_iff.mp H
 obtain ⟨⟨t380, t381, t382⟩, A480, H⟩ := H
 replace H : (if t334.length < 2932031007402 then (some ((t334 ++ [(⟨(⟨#[122, 122]⟩ : ByteArray), strOfNums y377, 1, t380⟩ : S88)]), t381, t382)) else (none)) = some (r1, r2, r3) := H
 have A48 := Aside0.mk A480
 clear A480
 by_cases c49 : t334.length < 2932031007402
 {
 rw [if_pos c49] at H
 have LMc49 := Aside0.mk c49
 clear c49
 obtain ⟨y383, hy383⟩ : ∃ y_ : List (S88), y_ = (t334 ++ [(⟨(⟨#[122, 122]⟩ : ByteArray), strOfNums y377, 1, t380⟩ : S88)]) := ⟨_, rfl⟩
 replace H : (some (y383, t381, t382)) = some (r1, r2, r3) := by first | (rw [hy383]; with_reducible exact H) | (have H2_ := (Option.bind_some _ _).symm.trans H; rw [hy383]; with_reducible exact H2_) | (have H2_ := (Option.bind_some _ _).symm.trans H; with_reducible exact H2_) | with_reducible exact H | (rw [hy383]; exact H) | exact H
 have Ny383 := Aside0.mk hy383
 clear hy383
 simp only [Option.some.injEq, Prod.mk.injEq] at H
 obtain ⟨rfl, rfl, rfl⟩ := H
 go_enter Try.func79, Try.ntmps79
 try go_wp2_with (first | ((with_reducible refine gate_callee (f := 100) rfl ?_); refine goesL_ (some 6) rfl rfl Try.func100 (by kernel_rfl) rfl #[.pointer (some ⟨g, 0, none⟩), .int .i64 1, .int .i64 10] rfl z79h ?_; (with_reducible refine (spec_l3DrawFrom.calls k g s0_0 s0_1 s0_2 1 10 t334 t337 t338 w0 _ ?side1 ?side2 A2.out).mono ?_); (case side1 => exact z79a); (case side2 => exact z79c); rintro e w50 ⟨v335, rfl, ho0, hi, hb, hk⟩; refine ⟨_, rfl, ?_⟩; have n0_ := Aside0.mk (Kd.R_lower ho0 (keep_size (w := w) (g := g) (row := none) z79b)); have n1_ := Aside0.mk (KeepBut.trans z79b hk (.inl rfl)); have n2_ := Aside0.mk (hb); have n3_ := Aside0.mk (hi); clear HK; clear HB; clear HI0; have HO336 := n0_; have HK := n1_; have HB := n2_; have HI0 := n3_; clear n0_ n1_ n2_ n3_; (try clear hb); (try clear hb2); (try clear hk); (try clear hi); (try clear ho0)) | ((with_reducible refine gate_callee (f := 101) rfl ?_); refine goesL_ (some 8) rfl rfl Try.func101 (by kernel_rfl) rfl #[.pointer (some ⟨g, 0, none⟩), .int .i64 12] rfl z79h ?_; (with_reducible refine (spec_l1Once.calls g s0_0 t337 t338 12 true t340 t341 w0 _ ?side1 ?side2 A3.out).mono ?_); (case side1 => exact z79a); (case side2 => exact z79c); rintro e w51 ⟨rfl, hi, hb, hk⟩; refine ⟨_, rfl, ?_⟩; have n0_ := Aside0.mk (Kd.R_mono (Kd.R_keep (IsS115.apart (show IsS115 w0 _ g s0_0 t337 t338 from z79a) z79d (by decide)) hk (fun _ h => h.2)) (fun _ h => h.1)); have n1_ := Aside0.mk (KeepBut.trans z79b hk (.inl rfl)); have n2_ := Aside0.mk (hb); have n3_ := Aside0.mk (hi); clear HO336; clear HK; clear HB; clear HI0; have HO336 := n0_; have HK := n1_; have HB := n2_; have HI0 := n3_; clear n0_ n1_ n2_ n3_; (try clear hb); (try clear hb2); (try clear hk); (try clear hi)) | ((with_reducible refine gate_callee (f := 102) rfl ?_); refine goesL_ (some 10) rfl rfl Try.func102 (by kernel_rfl) rfl #[.pointer (some ⟨g, 0, none⟩), .int .i64 4] rfl z79h ?_; (with_reducible refine (spec_l1Below.calls g s0_0 t340 t341 4 t342 t343 t344 w0 _ ?side1 ?side2 A5.out).mono ?_); (case side1 => exact z79a); (case side2 => exact z79c); rintro e w52 ⟨rfl, hi, hb, hk⟩; refine ⟨_, rfl, ?_⟩; have n0_ := Aside0.mk (Kd.R_mono (Kd.R_keep (IsS115.apart (show IsS115 w0 _ g s0_0 t340 t341 from z79a) z79d (by decide)) hk (fun _ h => h.2)) (fun _ h => h.1)); have n1_ := Aside0.mk (KeepBut.trans z79b hk (.inl rfl)); have n2_ := Aside0.mk (hb); have n3_ := Aside0.mk (hi); clear HO336; clear HK; clear HB; clear HI0; have HO336 := n0_; have HK := n1_; have HB := n2_; have HI0 := n3_; clear n0_ n1_ n2_ n3_; (try clear hb); (try clear hb2); (try clear hk); (try clear hi); obtain ⟨Ao53, co53, eo53⟩ := Kd.R_slice HO336.out; subst eo53))
 have n0_ := Aside0.mk (Kd.R_drew HO336.out)
 have n1_ := Aside0.mk (IsS115.drew HI0.out)
 have n2_ := Aside0.mk (keep_drew HK.out)
 have n3_ := Aside0.mk (below_drew1 HB.out)
 clear HO336
 clear HI0
 clear HK
 clear HB
 have HO336 := n0_
 have HI0 := n1_
 have HK := n2_
 have HB := n3_
 clear n0_ n1_ n2_ n3_
 refine start_ (n := 12) (S := fun w' => True) (ds := []) #[U, U, U, U, U, U, U, U, U, U, U, U] (by kernel_rfl) rfl rfl trivial (fun hHeld => ?_); refine with_tabW spec_l3DrawAny.tab9 spec_l3DrawAny.bits9 (fun HT_ HW_ => ?_)
 generalize w52.drew = w54 at HO336 HI0 HK HB hHeld ⊢
 refine pure_ (i := 0) (N := some 38) (v := _) (a' := _) #[V, U, U, U, U, U, U, U, U, U, U, U] rfl rfl (any_of HT_.out (by kernel_rfl)) (fun _ _ _ h => h) (Or.inl ⟨by rfl, (by intro w'; go_simp; with_reducible rfl)⟩) z79k ?_
 refine pure_ (i := 1) (N := some 39) (v := _) (a' := _) #[V, V, U, U, U, U, U, U, U, U, U, U] rfl rfl (any_of HT_.out (by kernel_rfl)) (fun _ _ _ h => h) (Or.inl ⟨by rfl, (by intro w'; go_simp; with_reducible rfl)⟩) z79k ?_
 refine pure_ (i := 6) (N := some 44) (v := _) (a' := _) #[V, V, U, U, U, U, V, U, U, U, U, U] rfl rfl (any_of HT_.out (by kernel_rfl)) (fun _ _ _ h => h) (Or.inl ⟨by rfl, (by intro w'; go_simp; with_reducible rfl)⟩) z79k ?_
 refine one_ (i := 2) (N := some 40) #[V, V, V, U, U, U, V, U, U, U, U, U] rfl rfl (one_of HT_.out (by kernel_rfl)) (by decide) (fun K hK => ?_)
 refine goes_ Try.func102 (by kernel_rfl) rfl #[.pointer (some ⟨g, 0, none⟩), .int .i64 2] (by rfl) rfl rfl z79h ?_
 with_reducible refine (spec_l1Below.calls g s0_0 t343 t344 2 t374 t375 t376 w0 _ ?side1 ?side2 A44.out).mono ?_
 (case side1 => exact z79a)
 (case side2 => exact z79c)
 rintro e w55 ⟨rfl, hi, hb, hk⟩
 refine ⟨_, rfl, ?_⟩
 have n0_ := Aside0.mk (Kd.R_mono (Kd.R_keep (IsS115.apart (show IsS115 w0 _ g s0_0 t343 t344 from z79a) z79d (by decide)) hk (fun _ h => h.2)) (fun _ h => h.1))
 have n1_ := Aside0.mk (KeepBut.trans z79b hk (.inl rfl))
 have n2_ := Aside0.mk (hb)
 have n3_ := Aside0.mk (hi)
 clear HO336
 clear HK
 clear HB
 clear HI0
 have HO336 := n0_
 have HK := n1_
 have HB := n2_
 have HI0 := n3_
 clear n0_ n1_ n2_ n3_
 (try clear hb)
 (try clear hb2)
 (try clear hk)
 (try clear hi)
 refine hK.out _ _ trivial (fun hHeld => ?_)
 clear hK K
 refine norm_ (a' := ?_) ?_ ?_
 rotate_left
 {
 show Act.put _ (some 40) _ = _
 simp only [Act.put, List.setIfInBounds_toArray, List.set_cons_zero, List.set_cons_succ, i64_w, i32_w]
 rfl
 }
 refine pure_ (i := 3) (N := some 41) (v := _) (a' := _) #[V, V, V, V, U, U, V, U, U, U, U, U] rfl rfl (any_of HT_.out (by kernel_rfl)) (fun _ _ _ h => h) (Or.inl ⟨by rfl, (by intro w'; go_simp; with_reducible rfl)⟩) z79k ?_
 refine join_ (σ := Value) 4 #[V, V, V, V, V, V, V, V, U, U, U, U] (fun s_ => [(42, s_), (43, .string (strOfNums y377)), (45, .bool t380)]) (fun s_ w' => (Kd.R k88 88 w' w.heap.size (fun _ => True) (.slice Ao53 t334.length co53) t334) ∧ (Kd.R (Kd.int .u8) 5 w' w.heap.size (fun _ => True) s_ y377) ∧ (IsS115 w0 w' g s0_0 t381 t382) ∧ (KeepBut w w' g none) ∧ (Below w0.heap.size w0 w')) ?_ ?_
 rotate_left
 {
 intro hCont
 refine two_ (i := 4) (j := 7) (Ni := some 42) (Nj := some 45) #[V, V, V, V, V, U, V, U, U, U, U, U] #[V, V, V, V, U, U, V, V, U, U, U, U] rfl rfl rfl rfl (two_of HT_.out (by kernel_rfl)) (by decide) (by decide) (fun K hK => ?_) (fun K hK => ?_)
 {
 skip
 refine Kd.R_make_step (Kd.int .u8) _ 5 (by rfl) (N := 42) rfl 59 _ _ rfl ji45 rfl rfl Try.underlying59 (.int .u8 0) 1 info5 rfl (by decide) (by omega) 0 (ok := fun _ => True) (okp := fun _ => True) rfl (fun _ hk => hk) trivial (of_decide_eq_true z79l) (Nat.le_trans (Nat.mul_le_mul_right _ (of_decide_eq_true z79l : ji45.toNat ≤ 281474976710656)) (by omega)) (Below.refl _ _) (Nat.le_refl _) ?_
 intro v378 w56 ho57 hb hg_ hnew_
 clear hg_ hnew_
 (first | rw [← Ny377.out] at ho57 | (simp only [Int.reduceToNat] at ho57; rw [← Ny377.out] at ho57))
 have n0_ := Aside0.mk (Kd.R_below z79d hb)
 have n1_ := Aside0.mk (Kd.R_lower ho57 (keep_size (w := w) (g := g) (row := none) z79b))
 have n2_ := Aside0.mk (IsS115.below z79a hb)
 have n3_ := Aside0.mk (KeepBut.trans z79b (KeepBut.of_below hb g none) (.inl rfl))
 have n4_ := Aside0.mk (below_step z79c hb)
 clear HO336
 clear HI0
 clear HK
 clear HB
 have HO336 := n0_
 have HO379 := n1_
 have HI0 := n2_
 have HK := n3_
 have HB := n4_
 clear n0_ n1_ n2_ n3_ n4_
 clear hb ho57
 refine hK.out _ _ trivial (fun hHeld => ?_)
 clear hK K
 refine norm_ (a' := ?_) ?_ ?_
 rotate_left
 {
 show Act.put _ (some 42) _ = _
 simp only [Act.put, List.setIfInBounds_toArray, List.set_cons_zero, List.set_cons_succ, i64_w, i32_w]
 rfl
 }
 refine two_ (i := 5) (j := 7) (Ni := some 43) (Nj := some 45) #[V, V, V, V, V, V, V, U, U, U, U, U] #[V, V, V, V, V, U, V, V, U, U, U, U] rfl rfl rfl rfl (two_of HT_.out (by kernel_rfl)) (by decide) (by decide) (fun K hK => ?_) (fun K hK => ?_)
 {
 skip
 have hcv58 := own_string (P := Try.prog) Try.underlying59 Try.underlying5 Try.underlying9 (Kd.own_of_R HO379.out)
 refine value_ (w1 := ?_) (v := ?_) (by rfl) rfl ?_ ?_
 rotate_left 2
 {
 go_simp
 constructor
 {
 rfl
 }
 {
 rfl
 }
 }
 clear hcv58
 refine hK.out _ _ trivial (fun hHeld => ?_)
 clear hK K
 refine norm_ (a' := ?_) ?_ ?_
 rotate_left
 {
 show Act.put _ (some 43) _ = _
 simp only [Act.put, List.setIfInBounds_toArray, List.set_cons_zero, List.set_cons_succ, i64_w, i32_w]
 rfl
 }
 refine one_ (i := 7) (N := some 45) #[V, V, V, V, V, V, V, V, U, U, U, U] rfl rfl (one_of HT_.out (by kernel_rfl)) (by decide) (fun K hK => ?_)
 refine goes_ Try.func101 (by kernel_rfl) rfl #[.pointer (some ⟨g, 0, none⟩), .int .i64 2] (by rfl) rfl rfl z79h ?_
 with_reducible refine (spec_l1Once.calls g s0_0 t375 t376 2 t380 t381 t382 w0 _ ?side1 ?side2 A48.out).mono ?_
 (case side1 => exact z79a)
 (case side2 => exact z79c)
 rintro e w59 ⟨rfl, hi, hb, hk⟩
 refine ⟨_, rfl, ?_⟩
 have n0_ := Aside0.mk (Kd.R_mono (Kd.R_keep (IsS115.apart (show IsS115 w0 _ g s0_0 t375 t376 from z79a) z79d (by decide)) hk (fun _ h => h.2)) (fun _ h => h.1))
 have n1_ := Aside0.mk (Kd.R_mono (Kd.R_keep (IsS115.apart (show IsS115 w0 _ g s0_0 t375 t376 from z79a) z79m (by decide)) hk (fun _ h => h.2)) (fun _ h => h.1))
 have n2_ := Aside0.mk (KeepBut.trans z79b hk (.inl rfl))
 have n3_ := Aside0.mk (hb)
 have n4_ := Aside0.mk (hi)
 clear HO336
 clear HO379
 clear HK
 clear HB
 clear HI0
 have HO336 := n0_
 have HO379 := n1_
 have HK := n2_
 have HB := n3_
 have HI0 := n4_
 clear n0_ n1_ n2_ n3_ n4_
 (try clear hb)
 (try clear hb2)
 (try clear hk)
 (try clear hi)
 refine hK.out _ _ trivial (fun hHeld => ?_)
 clear hK K
 refine norm_ (a' := ?_) ?_ ?_
 rotate_left
 {
 show Act.put _ (some 45) _ = _
 simp only [Act.put, List.setIfInBounds_toArray, List.set_cons_zero, List.set_cons_succ, i64_w, i32_w]
 rfl
 }
 exact norm_ (by simp only [putAll, Act.put, List.setIfInBounds_toArray, List.set_cons_zero, List.set_cons_succ]) (hCont (v378) _ ⟨z79d, z79m, z79a, z79b, z79c⟩)
 }
 {
 skip
 refine goes_ Try.func101 (by kernel_rfl) rfl #[.pointer (some ⟨g, 0, none⟩), .int .i64 2] (by rfl) rfl rfl z79h ?_
 with_reducible refine (spec_l1Once.calls g s0_0 t375 t376 2 t380 t381 t382 w0 _ ?side1 ?side2 A48.out).mono ?_
 (case side1 => exact z79a)
 (case side2 => exact z79c)
 rintro e w58 ⟨rfl, hi, hb, hk⟩
 refine ⟨_, rfl, ?_⟩
 have n0_ := Aside0.mk (Kd.R_mono (Kd.R_keep (IsS115.apart (show IsS115 w0 _ g s0_0 t375 t376 from z79a) z79d (by decide)) hk (fun _ h => h.2)) (fun _ h => h.1))
 have n1_ := Aside0.mk (Kd.R_mono (Kd.R_keep (IsS115.apart (show IsS115 w0 _ g s0_0 t375 t376 from z79a) z79m (by decide)) hk (fun _ h => h.2)) (fun _ h => h.1))
 have n2_ := Aside0.mk (KeepBut.trans z79b hk (.inl rfl))
 have n3_ := Aside0.mk (hb)
 have n4_ := Aside0.mk (hi)
 clear HO336
 clear HO379
 clear HK
 clear HB
 clear HI0
 have HO336 := n0_
 have HO379 := n1_
 have HK := n2_
 have HB := n3_
 have HI0 := n4_
 clear n0_ n1_ n2_ n3_ n4_
 (try clear hb)
 (try clear hb2)
 (try clear hk)
 (try clear hi)
 refine hK.out _ _ trivial (fun hHeld => ?_)
 clear hK K
 refine norm_ (a' := ?_) ?_ ?_
 rotate_left
 {
 show Act.put _ (some 45) _ = _
 simp only [Act.put, List.setIfInBounds_toArray, List.set_cons_zero, List.set_cons_succ, i64_w, i32_w]
 rfl
 }
 refine one_ (i := 5) (N := some 43) #[V, V, V, V, V, V, V, V, U, U, U, U] rfl rfl (one_of HT_.out (by kernel_rfl)) (by decide) (fun K hK => ?_)
 have hcv59 := own_string (P := Try.prog) Try.underlying59 Try.underlying5 Try.underlying9 (Kd.own_of_R HO379.out)
 refine value_ (w1 := ?_) (v := ?_) (by rfl) rfl ?_ ?_
 rotate_left 2
 {
 go_simp
 constructor
 {
 rfl
 }
 {
 rfl
 }
 }
 clear hcv59
 refine hK.out _ _ trivial (fun hHeld => ?_)
 clear hK K
 refine norm_ (a' := ?_) ?_ ?_
 rotate_left
 {
 show Act.put _ (some 43) _ = _
 simp only [Act.put, List.setIfInBounds_toArray, List.set_cons_zero, List.set_cons_succ, i64_w, i32_w]
 rfl
 }
 exact norm_ (by simp only [putAll, Act.put, List.setIfInBounds_toArray, List.set_cons_zero, List.set_cons_succ]) (hCont (v378) _ ⟨z79d, z79m, z79a, z79b, z79c⟩)
 }
 }
 {
 skip
 refine goes_ Try.func101 (by kernel_rfl) rfl #[.pointer (some ⟨g, 0, none⟩), .int .i64 2] (by rfl) rfl rfl z79h ?_
 with_reducible refine (spec_l1Once.calls g s0_0 t375 t376 2 t380 t381 t382 w0 _ ?side1 ?side2 A48.out).mono ?_
 (case side1 => exact z79a)
 (case side2 => exact z79c)
 rintro e w56 ⟨rfl, hi, hb, hk⟩
 refine ⟨_, rfl, ?_⟩
 have n0_ := Aside0.mk (Kd.R_mono (Kd.R_keep (IsS115.apart (show IsS115 w0 _ g s0_0 t375 t376 from z79a) z79d (by decide)) hk (fun _ h => h.2)) (fun _ h => h.1))
 have n1_ := Aside0.mk (KeepBut.trans z79b hk (.inl rfl))
 have n2_ := Aside0.mk (hb)
 have n3_ := Aside0.mk (hi)
 clear HO336
 clear HK
 clear HB
 clear HI0
 have HO336 := n0_
 have HK := n1_
 have HB := n2_
 have HI0 := n3_
 clear n0_ n1_ n2_ n3_
 (try clear hb)
 (try clear hb2)
 (try clear hk)
 (try clear hi)
 refine hK.out _ _ trivial (fun hHeld => ?_)
 clear hK K
 refine norm_ (a' := ?_) ?_ ?_
 rotate_left
 {
 show Act.put _ (some 45) _ = _
 simp only [Act.put, List.setIfInBounds_toArray, List.set_cons_zero, List.set_cons_succ, i64_w, i32_w]
 rfl
 }
 refine one_ (i := 4) (N := some 42) #[V, V, V, V, V, U, V, V, U, U, U, U] rfl rfl (one_of HT_.out (by kernel_rfl)) (by decide) (fun K hK => ?_)
 refine Kd.R_make_step (Kd.int .u8) _ 5 (by rfl) (N := 42) rfl 59 _ _ rfl ji45 rfl rfl Try.underlying59 (.int .u8 0) 1 info5 rfl (by decide) (by omega) 0 (ok := fun _ => True) (okp := fun _ => True) rfl (fun _ hk => hk) trivial (of_decide_eq_true z79l) (Nat.le_trans (Nat.mul_le_mul_right _ (of_decide_eq_true z79l : ji45.toNat ≤ 281474976710656)) (by omega)) (Below.refl _ _) (Nat.le_refl _) ?_
 intro v378 w57 ho58 hb hg_ hnew_
 clear hg_ hnew_
 (first | rw [← Ny377.out] at ho58 | (simp only [Int.reduceToNat] at ho58; rw [← Ny377.out] at ho58))
 have n0_ := Aside0.mk (Kd.R_below z79d hb)
 have n1_ := Aside0.mk (Kd.R_lower ho58 (keep_size (w := w) (g := g) (row := none) z79b))
 have n2_ := Aside0.mk (IsS115.below z79a hb)
 have n3_ := Aside0.mk (KeepBut.trans z79b (KeepBut.of_below hb g none) (.inl rfl))
 have n4_ := Aside0.mk (below_step z79c hb)
 clear HO336
 clear HI0
 clear HK
 clear HB
 have HO336 := n0_
 have HO379 := n1_
 have HI0 := n2_
 have HK := n3_
 have HB := n4_
 clear n0_ n1_ n2_ n3_ n4_
 clear hb ho58
 refine hK.out _ _ trivial (fun hHeld => ?_)
 clear hK K
 refine norm_ (a' := ?_) ?_ ?_
 rotate_left
 {
 show Act.put _ (some 42) _ = _
 simp only [Act.put, List.setIfInBounds_toArray, List.set_cons_zero, List.set_cons_succ, i64_w, i32_w]
 rfl
 }
 refine one_ (i := 5) (N := some 43) #[V, V, V, V, V, V, V, V, U, U, U, U] rfl rfl (one_of HT_.out (by kernel_rfl)) (by decide) (fun K hK => ?_)
 have hcv59 := own_string (P := Try.prog) Try.underlying59 Try.underlying5 Try.underlying9 (Kd.own_of_R HO379.out)
 refine value_ (w1 := ?_) (v := ?_) (by rfl) rfl ?_ ?_
 rotate_left 2
 {
 go_simp
 constructor
 {
 rfl
 }
 {
 rfl
 }
 }
 clear hcv59
 refine hK.out _ _ trivial (fun hHeld => ?_)
 clear hK K
 refine norm_ (a' := ?_) ?_ ?_
 rotate_left
 {
 show Act.put _ (some 43) _ = _
 simp only [Act.put, List.setIfInBounds_toArray, List.set_cons_zero, List.set_cons_succ, i64_w, i32_w]
 rfl
 }
 exact norm_ (by simp only [putAll, Act.put, List.setIfInBounds_toArray, List.set_cons_zero, List.set_cons_succ]) (hCont (v378) _ ⟨z79d, z79m, z79a, z79b, z79c⟩)
 }
 }
 rintro v378 w60 ⟨h0_, h1_, h2_, h3_, h4_⟩
 have n0_ : Aside0 (Kd.R k88 88 w60 w.heap.size (fun _ => True) (.slice Ao53 t334.length co53) t334) := ⟨h0_⟩
 have n1_ : Aside0 (Kd.R (Kd.int .u8) 5 w60 w.heap.size (fun _ => True) v378 y377) := ⟨h1_⟩
 have n2_ : Aside0 (IsS115 w0 w60 g s0_0 t381 t382) := ⟨h2_⟩
 have n3_ : Aside0 (KeepBut w w60 g none) := ⟨h3_⟩
 have n4_ : Aside0 (Below w0.heap.size w0 w60) := ⟨h4_⟩
 clear HO336
 clear HI0
 clear HK
 clear HB
 clear h0_ h1_ h2_ h3_ h4_
 have HO336 := n0_
 have HO379 := n1_
 have HI0 := n2_
 have HK := n3_
 have HB := n4_
 clear n0_ n1_ n2_ n3_ n4_
 have hHeld := trivial
 refine norm_ (a' := ?_) ?_ ?_
 rotate_left
 exact z79j
 refine pure_ (i := 8) (N := some 46) (v := _) (a' := _) #[V, V, V, V, V, V, V, V, V, U, U, U] rfl rfl (any_of HT_.out (by kernel_rfl)) (fun _ _ _ h => h) (Or.inl ⟨by rfl, (by intro w'; go_simp; with_reducible rfl)⟩) z79k ?_
 refine one_ (i := 9) (N := some 47) #[V, V, V, V, V, V, V, V, V, V, U, U] rfl rfl (one_of HT_.out (by kernel_rfl)) (by decide) (fun K hK => ?_)
 refine value_ (w1 := ?_) (v := ?_) (by rfl) rfl ?_ ?_
 rotate_left 2
 {
 go_simp
 constructor
 {
 rfl
 }
 {
 rfl
 }
 }
 refine hK.out _ _ trivial (fun hHeld => ?_)
 clear hK K
 refine norm_ (a' := ?_) ?_ ?_
 rotate_left
 {
 show Act.put _ (some 47) _ = _
 simp only [Act.put, List.setIfInBounds_toArray, List.set_cons_zero, List.set_cons_succ, i64_w, i32_w]
 rfl
 }
 refine one_ (i := 10) (N := some 48) #[V, V, V, V, V, V, V, V, V, V, V, U] rfl rfl (one_of HT_.out (by kernel_rfl)) (by decide) (fun K hK => ?_)
 refine Kd.R_append_step k88 w.heap.size (by rfl) (.tmp 38) (.tmp 47) 50 88 (.agg #[(.string ⟨#[]⟩), (.string ⟨#[]⟩), (.int .i64 0), (.bool false)]) 48 rfl Try.underlying50 info88 rfl (by decide) (by omega) (.slice Ao53 t334.length co53) t334 (⟨(⟨#[122, 122]⟩ : ByteArray), strOfNums y377, 1, t380⟩ : S88) [.string (⟨#[122, 122]⟩ : ByteArray), .string (strOfNums y377), .int .i64 1, .bool t380] (fun _ => True) (fun _ => False) rfl rfl ?aP (fun _ hk => hk.elim) ?aF ?aO (Below.refl _ _) ?aS ?aL ?_
 (case aP => exact k88_mkM _ _ _ (⟨(⟨#[122, 122]⟩ : ByteArray), strOfNums y377, 1, t380⟩ : S88))
 (case aF => exact (fun _ _ => trivial))
 (case aO => exact z79d)
 (case aS => exact (keep_size (w := w) (g := g) (row := none) z79b))
 (case aL => have := LMc49.out; omega)
 intro v384 w61 ho hb hg hat
 rw [← Ny383.out] at ho
 have n0_ := Aside0.mk (IsS115.grown z79a hg (IsS115.own_ne HI0.out HO336.out (by decide)))
 have n1_ := Aside0.mk (Kd.R_over' z79m (Kd.R_typed z79d) (by decide) hg)
 have n2_ := Aside0.mk (below_weaken z79c HL.out hb)
 have n3_ := Aside0.mk (KeepBut.trans z79b (KeepBut.of_grown hg g) (Kd.R_base2 HO336.out))
 have n4_ := Aside0.mk (ho)
 clear HI0
 clear HO379
 clear HB
 clear HK
 clear HO336
 have HI0 := n0_
 have HO379 := n1_
 have HB := n2_
 have HK := n3_
 have HO385 := n4_
 clear n0_ n1_ n2_ n3_ n4_
 clear ho hb hg hat
 refine hK.out _ _ trivial (fun hHeld => ?_)
 clear hK K
 refine norm_ (a' := ?_) ?_ ?_
 rotate_left
 {
 show Act.put _ (some 48) _ = _
 simp only [Act.put, List.setIfInBounds_toArray, List.set_cons_zero, List.set_cons_succ, i64_w, i32_w]
 rfl
 }
 refine pure_ (i := 11) (N := some 3) (v := _) (a' := _) #[V, V, V, V, V, V, V, V, V, V, V, V] rfl rfl (any_of HT_.out (by kernel_rfl)) (fun _ _ _ h => h) (Or.inl ⟨by rfl, (by intro w'; go_simp; with_reducible rfl)⟩) z79k ?_
 refine done_ (done_of HT_.out (by kernel_rfl)) ?_
 try go_wp2
 go_ret
 exact ⟨_, by first | rfl | (simp [errW_none, errW_some] <;> rfl) | (simp only [← hji45]; first | rfl | (simp [errW_none, errW_some] <;> rfl)) | (simp [*, errW_none, errW_some] <;> rfl), by (with_reducible repeat (first | apply Kd.R_alloc | apply Kd.R_drewN | apply Kd.R_drew)); exact HO385.out, by repeat (first | (with_reducible first | exact HI0.out | apply IsS115.alloc | apply IsS115.drewN | apply IsS115.drew | apply IsS115.set_1 | apply IsS115.set_2) | exact HI0.out), by repeat (first | (with_reducible first | exact HB.out | apply below_alloc | apply pw_below_drewN | apply below_drew1 | refine below_set ?_ (IsS115.ge HI0.out)) | exact HB.out), by repeat (first | (with_reducible first | exact HK.out | apply KeepBut.set_ | apply keep_drewN | apply keep_drew | apply keep_alloc) | exact HK.out)⟩
 }
 {
 rw [if_neg c49] at H
 exact absurd H (by simp)
 }
 }
 {
 rw [if_neg c47] at H
 exact absurd H (by simp)
 }
 }
 {
 rw [if_neg c46] at H
 exact absurd H (by simp)
 }
 }
 {
 rw [if_neg c43] at H
 have c43b0 : (t342 == 2) = false := beq_eq_false_iff_ne.mpr c43
 have c43b1 : (t342 != 2) = true := bne_iff_ne.mpr c43
 by_cases c62 : t342 = 3
 {
 rw [if_pos c62] at H
 have c62b0 : (t342 == 3) = true := beq_iff_eq.mpr c62
 have c62b1 : (t342 != 3) = false := bne_eq_false_iff_eq.mpr c62
 clear c62
 obtain ⟨y386, hy386⟩ : ∃ y_ : List (S88), y_ = (([] : List (S88))) := ⟨_, rfl⟩
 replace H : (spec_l3DrawAny.l0 k y386 0 s0_0 t343 t344) = some (r1, r2, r3) := by first | (rw [hy386]; with_reducible exact H) | (have H2_ := (Option.bind_some _ _).symm.trans H; rw [hy386]; with_reducible exact H2_) | (have H2_ := (Option.bind_some _ _).symm.trans H; with_reducible exact H2_) | with_reducible exact H | (rw [hy386]; exact H) | exact H
 have Ny386 := Aside0.mk hy386
 clear hy386
 have H' := Aside0.mk H
 clear H
 go_enter Try.func79, Try.ntmps79
 go_wp2_with (first | ((with_reducible refine gate_callee (f := 100) rfl ?_); refine goesL_ (some 6) rfl rfl Try.func100 (by kernel_rfl) rfl #[.pointer (some ⟨g, 0, none⟩), .int .i64 1, .int .i64 10] rfl z79h ?_; (with_reducible refine (spec_l3DrawFrom.calls k g s0_0 s0_1 s0_2 1 10 t334 t337 t338 w0 _ ?side1 ?side2 A2.out).mono ?_); (case side1 => exact z79a); (case side2 => exact z79c); rintro e w63 ⟨v335, rfl, ho0, hi, hb, hk⟩; refine ⟨_, rfl, ?_⟩; have n0_ := Aside0.mk (Kd.R_lower ho0 (keep_size (w := w) (g := g) (row := none) z79b)); have n1_ := Aside0.mk (KeepBut.trans z79b hk (.inl rfl)); have n2_ := Aside0.mk (hb); have n3_ := Aside0.mk (hi); clear HK; clear HB; clear HI0; have HO336 := n0_; have HK := n1_; have HB := n2_; have HI0 := n3_; clear n0_ n1_ n2_ n3_; (try clear hb); (try clear hb2); (try clear hk); (try clear hi); (try clear ho0)) | ((with_reducible refine gate_callee (f := 101) rfl ?_); refine goesL_ (some 8) rfl rfl Try.func101 (by kernel_rfl) rfl #[.pointer (some ⟨g, 0, none⟩), .int .i64 12] rfl z79h ?_; (with_reducible refine (spec_l1Once.calls g s0_0 t337 t338 12 true t340 t341 w0 _ ?side1 ?side2 A3.out).mono ?_); (case side1 => exact z79a); (case side2 => exact z79c); rintro e w64 ⟨rfl, hi, hb, hk⟩; refine ⟨_, rfl, ?_⟩; have n0_ := Aside0.mk (Kd.R_mono (Kd.R_keep (IsS115.apart (show IsS115 w0 _ g s0_0 t337 t338 from z79a) z79d (by decide)) hk (fun _ h => h.2)) (fun _ h => h.1)); have n1_ := Aside0.mk (KeepBut.trans z79b hk (.inl rfl)); have n2_ := Aside0.mk (hb); have n3_ := Aside0.mk (hi); clear HO336; clear HK; clear HB; clear HI0; have HO336 := n0_; have HK := n1_; have HB := n2_; have HI0 := n3_; clear n0_ n1_ n2_ n3_; (try clear hb); (try clear hb2); (try clear hk); (try clear hi)) | ((with_reducible refine gate_callee (f := 102) rfl ?_); refine goesL_ (some 10) rfl rfl Try.func102 (by kernel_rfl) rfl #[.pointer (some ⟨g, 0, none⟩), .int .i64 4] rfl z79h ?_; (with_reducible refine (spec_l1Below.calls g s0_0 t340 t341 4 t342 t343 t344 w0 _ ?side1 ?side2 A5.out).mono ?_); (case side1 => exact z79a); (case side2 => exact z79c); rintro e w65 ⟨rfl, hi, hb, hk⟩; refine ⟨_, rfl, ?_⟩; have n0_ := Aside0.mk (Kd.R_mono (Kd.R_keep (IsS115.apart (show IsS115 w0 _ g s0_0 t340 t341 from z79a) z79d (by decide)) hk (fun _ h => h.2)) (fun _ h => h.1)); have n1_ := Aside0.mk (KeepBut.trans z79b hk (.inl rfl)); have n2_ := Aside0.mk (hb); have n3_ := Aside0.mk (hi); clear HO336; clear HK; clear HB; clear HI0; have HO336 := n0_; have HK := n1_; have HB := n2_; have HI0 := n3_; clear n0_ n1_ n2_ n3_; (try clear hb); (try clear hb2); (try clear hk); (try clear hi)) | ((with_reducible refine gate_dst (N := 51) rfl ?_); refine Kd.R_lit k88 _ 88 ?hg (N := 51) ?hd (xs := ([] : List (S88))) (inner := []) (ok := fun _ => True) (okp := fun _ => True) ?hr ?hp (fun _ hk => hk) trivial (Below.refl _ _) (Nat.le_refl _) (by simp) ?_; (case hd => rfl); (case hg => rfl); (case hr => first | (go_simp; done) | (go_simp; rfl)); (case hp => exact (Reps.none _ _)); intro v387 w66 ho67 hb hg_ hnew_; clear hg_ hnew_; (first | rw [← Ny386.out] at ho67 | (simp only [Int.reduceToNat] at ho67; rw [← Ny386.out] at ho67)); have n0_ := Aside0.mk (Kd.R_elder' z79d (Kd.R_base ho67) hb); have n1_ := Aside0.mk (Kd.R_lower (Kd.R_new' ho67 (Kd.R_lt z79d)) (keep_size (w := w) (g := g) (row := none) z79b)); have n2_ := Aside0.mk (IsS115.below z79a hb); have n3_ := Aside0.mk (KeepBut.trans z79b (KeepBut.of_below hb g none) (.inl rfl)); have n4_ := Aside0.mk (below_step z79c hb); clear HO336; clear HI0; clear HK; clear HB; have HO336 := n0_; have HO388 := n1_; have HI0 := n2_; have HK := n3_; have HB := n4_; clear n0_ n1_ n2_ n3_ n4_; clear hb ho67))
 go_loopg [3, 4] k (fun kq v3 v4 w' => ∃ (x3_1 : List (S88)) (x4_1 : Int) (x1001_1 : Int) (x1002_1 : Int), v4 = .int .i64 x4_1 ∧ Aside0 (spec_l3DrawAny.l0 kq x3_1 x4_1 s0_0 x1001_1 x1002_1 = some (r1, r2, r3)) ∧ Aside0 (kq ≤ k) ∧ Aside0 (Kd.R k88 88 w' w.heap.size (fun _ => True) v3 x3_1) ∧ Aside0 (IsS115 w0 w' g s0_0 x1001_1 x1002_1) ∧ Aside0 (KeepBut w w' g none) ∧ Aside0 (Below w0.heap.size w0 w'))
 case atStart => exact ⟨(y386), (0), (t343), (t344), (by first | rfl | (simp; done) | (simp [*]; done)), H', ⟨Nat.le_refl _⟩, ⟨by (with_reducible repeat (first | apply Kd.R_alloc | apply Kd.R_drewN | apply Kd.R_drew)); exact Kd.R_mono HO388.out (fun _ hk => trivial)⟩, ⟨by repeat (first | (with_reducible first | exact HI0.out | apply IsS115.alloc | apply IsS115.drewN | apply IsS115.drew | apply IsS115.set_1 | apply IsS115.set_2) | exact HI0.out)⟩, ⟨by repeat (first | (with_reducible first | exact HK.out | apply KeepBut.set_ | apply keep_drewN | apply keep_drew | apply keep_alloc) | exact HK.out)⟩, ⟨by repeat (first | (with_reducible first | exact HB.out | apply below_alloc | apply pw_below_drewN | apply below_drew1 | refine below_set ?_ (IsS115.ge HI0.out)) | exact HB.out)⟩⟩
 case round =>
  clear H'
  try clear c1
  try clear c2
  try clear p2
  try clear p3
  try clear q3
  try clear hx3
  try clear c4
  try clear hcv5
  try clear c6
  try clear p6
  try clear c7
  try clear c10
  try clear c14
  try clear c14b0
  try clear c14b1
  try clear c15
  try clear c17
  try clear c18
  try clear c20
  try clear c21
  try clear c22
  try clear p37
  try clear q37
  try clear hx37
  try clear c43
  try clear c43b0
  try clear c43b1
  try clear c46
  try clear c46b0
  try clear c46b1
  try clear c47
  try clear c47b0
  try clear c47b1
  try clear c49
  try clear hcv58
  try clear hcv59
  try clear c62
  try clear c62b0
  try clear c62b1
  try clear p64
  try clear hx370_0
  try clear p370
  try clear q370
  obtain ⟨x3_1, x4_1, x1001_1, x1002_1, rfl, HA, HK1, HO_3, HI0, HK, HB⟩ := hrel
  cases gk with
  | zero => exact absurd HA.out (by simp [spec_l3DrawAny.l0])
  | succ k1 =>
   have H := HA.out
   clear HA
   simp only [spec_l3DrawAny.l0] at H
   replace H := Option.bind_eq_some_iff.mp H
   obtain ⟨⟨t389, t390, t391⟩, A680, H⟩ := H
   replace H : (if x4_1 < (wrap64 (300 + t389)) then (if x3_1.length < 2932031007402 then (spec_l3DrawAny.l0 k1 (x3_1 ++ [(⟨(⟨#[107]⟩ : ByteArray), (⟨#[]⟩ : ByteArray), wrap64 (1000 - x4_1), false⟩ : S88)]) (wrap64 (x4_1 + 1)) s0_0 t390 t391) else (none)) else (some (x3_1, t390, t391))) = some (r1, r2, r3) := H
   have A68 := Aside0.mk A680
   clear A680
   by_cases c69 : x4_1 < (wrap64 (300 + t389))
   {
   rw [if_pos c69] at H
   have c69b0 : decide (x4_1 < (wrap64 (300 + t389))) = true := decide_eq_true c69
   clear c69
   by_cases c70 : x3_1.length < 2932031007402
   {
   rw [if_pos c70] at H
   have LMc70 := Aside0.mk c70
   clear c70
   obtain ⟨y392, hy392⟩ : ∃ y_ : List (S88), y_ = (x3_1 ++ [(⟨(⟨#[107]⟩ : ByteArray), (⟨#[]⟩ : ByteArray), wrap64 (1000 - x4_1), false⟩ : S88)]) := ⟨_, rfl⟩
   replace H : (spec_l3DrawAny.l0 k1 y392 (wrap64 (x4_1 + 1)) s0_0 t390 t391) = some (r1, r2, r3) := by first | (rw [hy392]; with_reducible exact H) | (have H2_ := (Option.bind_some _ _).symm.trans H; rw [hy392]; with_reducible exact H2_) | (have H2_ := (Option.bind_some _ _).symm.trans H; with_reducible exact H2_) | with_reducible exact H | (rw [hy392]; exact H) | exact H
   have Ny392 := Aside0.mk hy392
   clear hy392
   have H' := Aside0.mk H
   clear H
   go_wp2_with (first | ((with_reducible refine gate_callee (f := 102) rfl ?_); refine goesL_ (some 54) rfl rfl Try.func102 (by kernel_rfl) rfl #[.pointer (some ⟨g, 0, none⟩), .int .i64 2] rfl z79h ?_; (with_reducible refine (spec_l1Below.calls g s0_0 x1001_1 x1002_1 2 t389 t390 t391 w0 _ ?side1 ?side2 A68.out).mono ?_); (case side1 => exact z79a); (case side2 => exact z79c); rintro e w71 ⟨rfl, hi, hb, hk⟩; refine ⟨_, rfl, ?_⟩; have n0_ := Aside0.mk (Kd.R_mono (Kd.R_keep (IsS115.apart (show IsS115 w0 _ g s0_0 x1001_1 x1002_1 from z79a) (by (with_reducible repeat (first | apply Kd.R_alloc | apply Kd.R_drewN | apply Kd.R_drew)); exact HO_3.out) (by decide)) hk (fun _ h => h.2)) (fun _ h => h.1)); have n1_ := Aside0.mk (KeepBut.trans z79b hk (.inl rfl)); have n2_ := Aside0.mk (hb); have n3_ := Aside0.mk (hi); clear HO_3; clear HK; clear HB; clear HI0; have HO_3 := n0_; have HK := n1_; have HB := n2_; have HI0 := n3_; clear n0_ n1_ n2_ n3_; (try clear hb); (try clear hb2); (try clear hk); (try clear hi)) | ((with_reducible refine gate_builtin (b := .append) (xs := #[.tmp 59, .tmp 63]) rfl ?_); at_builtin; refine Kd.R_append k88 w.heap.size rfl (.tmp 59) (.tmp 63) 50 88 (.agg #[(.string ⟨#[]⟩), (.string ⟨#[]⟩), (.int .i64 0), (.bool false)]) 48 rfl Try.underlying50 info88 rfl (by decide) (by omega) u3 x3_1 (⟨(⟨#[107]⟩ : ByteArray), (⟨#[]⟩ : ByteArray), wrap64 (1000 - x4_1), false⟩ : S88) [.string (⟨#[107]⟩ : ByteArray), .string (⟨#[]⟩ : ByteArray), .int .i64 (wrap64 (1000 - x4_1)), .bool false] (fun _ => True) (fun _ => False) rfl rfl ?aP (fun _ hk => hk.elim) ?aF ?aO (Below.refl _ _) ?aS ?aL ?_; (case aP => exact k88_mkM _ _ _ (⟨(⟨#[107]⟩ : ByteArray), (⟨#[]⟩ : ByteArray), wrap64 (1000 - x4_1), false⟩ : S88)); (case aF => exact (fun _ _ => trivial)); (case aO => exact (by (with_reducible repeat (first | apply Kd.R_alloc | apply Kd.R_drewN | apply Kd.R_drew)); exact HO_3.out)); (case aS => exact (keep_size (w := w) (g := g) (row := none) z79b)); (case aL => have := LMc70.out; omega); intro v393 w72 ho hb hg hat; rw [← Ny392.out] at ho; have n0_ := Aside0.mk (IsS115.grown z79a hg (IsS115.own_ne HI0.out HO_3.out (by decide))); have n1_ := Aside0.mk (below_weaken z79c HL.out hb); have n2_ := Aside0.mk (KeepBut.trans z79b (KeepBut.of_grown hg g) (Kd.R_base2 HO_3.out)); have n3_ := Aside0.mk (ho); clear HI0; clear HB; clear HK; clear HO_3; have HI0 := n0_; have HB := n1_; have HK := n2_; have HO394 := n3_; clear n0_ n1_ n2_ n3_; clear ho hb hg hat))
   go_roundg k1
   case measure => have := HK1.out; omega
   case rel => exact ⟨(y392), (wrap64 (x4_1 + 1)), (t390), (t391), (by first | rfl | (simp; done) | (simp [*]; done)), H', ⟨by have := HK1.out; omega⟩, ⟨by (with_reducible repeat (first | apply Kd.R_alloc | apply Kd.R_drewN | apply Kd.R_drew)); exact HO394.out⟩, ⟨by repeat (first | (with_reducible first | exact HI0.out | apply IsS115.alloc | apply IsS115.drewN | apply IsS115.drew | apply IsS115.set_1 | apply IsS115.set_2) | exact HI0.out)⟩, ⟨by repeat (first | (with_reducible first | exact HK.out | apply KeepBut.set_ | apply keep_drewN | apply keep_drew | apply keep_alloc) | exact HK.out)⟩, ⟨by repeat (first | (with_reducible first | exact HB.out | apply below_alloc | apply pw_below_drewN | apply below_drew1 | refine below_set ?_ (IsS115.ge HI0.out)) | exact HB.out)⟩⟩
   }
   {
   rw [if_neg c70] at H
   exact absurd H (by simp)
   }
   }
   {
   rw [if_neg c69] at H
   have c69b0 : decide (x4_1 < (wrap64 (300 + t389))) = false := decide_eq_false c69
   clear c69
   simp only [Option.some.injEq, Prod.mk.injEq] at H
   obtain ⟨rfl, rfl, rfl⟩ := H
   go_wp2_with (first | ((with_reducible refine gate_callee (f := 102) rfl ?_); refine goesL_ (some 54) rfl rfl Try.func102 (by kernel_rfl) rfl #[.pointer (some ⟨g, 0, none⟩), .int .i64 2] rfl z79h ?_; (with_reducible refine (spec_l1Below.calls g s0_0 x1001_1 x1002_1 2 t389 t390 t391 w0 _ ?side1 ?side2 A68.out).mono ?_); (case side1 => exact z79a); (case side2 => exact z79c); rintro e w73 ⟨rfl, hi, hb, hk⟩; refine ⟨_, rfl, ?_⟩; have n0_ := Aside0.mk (Kd.R_mono (Kd.R_keep (IsS115.apart (show IsS115 w0 _ g s0_0 x1001_1 x1002_1 from z79a) (by (with_reducible repeat (first | apply Kd.R_alloc | apply Kd.R_drewN | apply Kd.R_drew)); exact HO_3.out) (by decide)) hk (fun _ h => h.2)) (fun _ h => h.1)); have n1_ := Aside0.mk (KeepBut.trans z79b hk (.inl rfl)); have n2_ := Aside0.mk (hb); have n3_ := Aside0.mk (hi); clear HO_3; clear HK; clear HB; clear HI0; have HO_3 := n0_; have HK := n1_; have HB := n2_; have HI0 := n3_; clear n0_ n1_ n2_ n3_; (try clear hb); (try clear hb2); (try clear hk); (try clear hi)))
   go_ret
   exact ⟨_, by first | rfl | (simp [errW_none, errW_some] <;> rfl) | (simp [*, errW_none, errW_some] <;> rfl), by (with_reducible repeat (first | apply Kd.R_alloc | apply Kd.R_drewN | apply Kd.R_drew)); exact HO_3.out, by repeat (first | (with_reducible first | exact HI0.out | apply IsS115.alloc | apply IsS115.drewN | apply IsS115.drew | apply IsS115.set_1 | apply IsS115.set_2) | exact HI0.out), by repeat (first | (with_reducible first | exact HB.out | apply below_alloc | apply pw_below_drewN | apply below_drew1 | refine below_set ?_ (IsS115.ge HI0.out)) | exact HB.out), by repeat (first | (with_reducible first | exact HK.out | apply KeepBut.set_ | apply keep_drewN | apply keep_drew | apply keep_alloc) | exact HK.out)⟩
   }
 }
 {
 rw [if_neg c62] at H
 have c62b0 : (t342 == 3) = false := beq_eq_false_iff_ne.mpr c62
 have c62b1 : (t342 != 3) = true := bne_iff_ne.mpr c62
 simp only [Option.some.injEq, Prod.mk.injEq] at H
 obtain ⟨rfl, rfl, rfl⟩ := H
 go_enter Try.func79, Try.ntmps79
 go_wp2_with (first | ((with_reducible refine gate_callee (f := 100) rfl ?_); refine goesL_ (some 6) rfl rfl Try.func100 (by kernel_rfl) rfl #[.pointer (some ⟨g, 0, none⟩), .int .i64 1, .int .i64 10] rfl z79h ?_; (with_reducible refine (spec_l3DrawFrom.calls k g s0_0 s0_1 s0_2 1 10 t334 t337 t338 w0 _ ?side1 ?side2 A2.out).mono ?_); (case side1 => exact z79a); (case side2 => exact z79c); rintro e w74 ⟨v335, rfl, ho0, hi, hb, hk⟩; refine ⟨_, rfl, ?_⟩; have n0_ := Aside0.mk (Kd.R_lower ho0 (keep_size (w := w) (g := g) (row := none) z79b)); have n1_ := Aside0.mk (KeepBut.trans z79b hk (.inl rfl)); have n2_ := Aside0.mk (hb); have n3_ := Aside0.mk (hi); clear HK; clear HB; clear HI0; have HO336 := n0_; have HK := n1_; have HB := n2_; have HI0 := n3_; clear n0_ n1_ n2_ n3_; (try clear hb); (try clear hb2); (try clear hk); (try clear hi); (try clear ho0)) | ((with_reducible refine gate_callee (f := 101) rfl ?_); refine goesL_ (some 8) rfl rfl Try.func101 (by kernel_rfl) rfl #[.pointer (some ⟨g, 0, none⟩), .int .i64 12] rfl z79h ?_; (with_reducible refine (spec_l1Once.calls g s0_0 t337 t338 12 true t340 t341 w0 _ ?side1 ?side2 A3.out).mono ?_); (case side1 => exact z79a); (case side2 => exact z79c); rintro e w75 ⟨rfl, hi, hb, hk⟩; refine ⟨_, rfl, ?_⟩; have n0_ := Aside0.mk (Kd.R_mono (Kd.R_keep (IsS115.apart (show IsS115 w0 _ g s0_0 t337 t338 from z79a) z79d (by decide)) hk (fun _ h => h.2)) (fun _ h => h.1)); have n1_ := Aside0.mk (KeepBut.trans z79b hk (.inl rfl)); have n2_ := Aside0.mk (hb); have n3_ := Aside0.mk (hi); clear HO336; clear HK; clear HB; clear HI0; have HO336 := n0_; have HK := n1_; have HB := n2_; have HI0 := n3_; clear n0_ n1_ n2_ n3_; (try clear hb); (try clear hb2); (try clear hk); (try clear hi)) | ((with_reducible refine gate_callee (f := 102) rfl ?_); refine goesL_ (some 10) rfl rfl Try.func102 (by kernel_rfl) rfl #[.pointer (some ⟨g, 0, none⟩), .int .i64 4] rfl z79h ?_; (with_reducible refine (spec_l1Below.calls g s0_0 t340 t341 4 t342 t343 t344 w0 _ ?side1 ?side2 A5.out).mono ?_); (case side1 => exact z79a); (case side2 => exact z79c); rintro e w76 ⟨rfl, hi, hb, hk⟩; refine ⟨_, rfl, ?_⟩; have n0_ := Aside0.mk (Kd.R_mono (Kd.R_keep (IsS115.apart (show IsS115 w0 _ g s0_0 t340 t341 from z79a) z79d (by decide)) hk (fun _ h => h.2)) (fun _ h => h.1)); have n1_ := Aside0.mk (KeepBut.trans z79b hk (.inl rfl)); have n2_ := Aside0.mk (hb); have n3_ := Aside0.mk (hi); clear HO336; clear HK; clear HB; clear HI0; have HO336 := n0_; have HK := n1_; have HB := n2_; have HI0 := n3_; clear n0_ n1_ n2_ n3_; (try clear hb); (try clear hb2); (try clear hk); (try clear hi)))
 go_ret
 exact ⟨_, by first | rfl | (simp [errW_none, errW_some] <;> rfl) | (simp [*, errW_none, errW_some] <;> rfl), by (with_reducible repeat (first | apply Kd.R_alloc | apply Kd.R_drewN | apply Kd.R_drew)); exact HO336.out, by repeat (first | (with_reducible first | exact HI0.out | apply IsS115.alloc | apply IsS115.drewN | apply IsS115.drew | apply IsS115.set_1 | apply IsS115.set_2) | exact HI0.out), by repeat (first | (with_reducible first | exact HB.out | apply below_alloc | apply pw_below_drewN | apply below_drew1 | refine below_set ?_ (IsS115.ge HI0.out)) | exact HB.out), by repeat (first | (with_reducible first | exact HK.out | apply KeepBut.set_ | apply keep_drewN | apply keep_drew | apply keep_alloc) | exact HK.out)⟩
 }
 }
 }
 }
 }
 {
 replace c4 := Bool.eq_false_iff.mpr c4
 subst c4
 have H1 : (some (t334, t340, t341)) = some (r1, r2, r3) := by rw [if_neg (show ¬ (false = true) by decide)] at H; exact H
 clear H
 have H := H1
 clear H1
 simp only [Option.some.injEq, Prod.mk.injEq] at H
 obtain ⟨rfl, rfl, rfl⟩ := H
 go_enter Try.func79, Try.ntmps79
 go_wp2_with (first | ((with_reducible refine gate_callee (f := 100) rfl ?_); refine goesL_ (some 6) rfl rfl Try.func100 (by kernel_rfl) rfl #[.pointer (some ⟨g, 0, none⟩), .int .i64 1, .int .i64 10] rfl z79h ?_; (with_reducible refine (spec_l3DrawFrom.calls k g s0_0 s0_1 s0_2 1 10 t334 t337 t338 w0 _ ?side1 ?side2 A2.out).mono ?_); (case side1 => exact z79a); (case side2 => exact z79c); rintro e w77 ⟨v335, rfl, ho0, hi, hb, hk⟩; refine ⟨_, rfl, ?_⟩; have n0_ := Aside0.mk (Kd.R_lower ho0 (keep_size (w := w) (g := g) (row := none) z79b)); have n1_ := Aside0.mk (KeepBut.trans z79b hk (.inl rfl)); have n2_ := Aside0.mk (hb); have n3_ := Aside0.mk (hi); clear HK; clear HB; clear HI0; have HO336 := n0_; have HK := n1_; have HB := n2_; have HI0 := n3_; clear n0_ n1_ n2_ n3_; (try clear hb); (try clear hb2); (try clear hk); (try clear hi); (try clear ho0)) | ((with_reducible refine gate_callee (f := 101) rfl ?_); refine goesL_ (some 8) rfl rfl Try.func101 (by kernel_rfl) rfl #[.pointer (some ⟨g, 0, none⟩), .int .i64 12] rfl z79h ?_; (with_reducible refine (spec_l1Once.calls g s0_0 t337 t338 12 false t340 t341 w0 _ ?side1 ?side2 A3.out).mono ?_); (case side1 => exact z79a); (case side2 => exact z79c); rintro e w78 ⟨rfl, hi, hb, hk⟩; refine ⟨_, rfl, ?_⟩; have n0_ := Aside0.mk (Kd.R_mono (Kd.R_keep (IsS115.apart (show IsS115 w0 _ g s0_0 t337 t338 from z79a) z79d (by decide)) hk (fun _ h => h.2)) (fun _ h => h.1)); have n1_ := Aside0.mk (KeepBut.trans z79b hk (.inl rfl)); have n2_ := Aside0.mk (hb); have n3_ := Aside0.mk (hi); clear HO336; clear HK; clear HB; clear HI0; have HO336 := n0_; have HK := n1_; have HB := n2_; have HI0 := n3_; clear n0_ n1_ n2_ n3_; (try clear hb); (try clear hb2); (try clear hk); (try clear hi)))
 go_ret
 exact ⟨_, by first | rfl | (simp [errW_none, errW_some] <;> rfl) | (simp [*, errW_none, errW_some] <;> rfl), by (with_reducible repeat (first | apply Kd.R_alloc | apply Kd.R_drewN | apply Kd.R_drew)); exact HO336.out, by repeat (first | (with_reducible first | exact HI0.out | apply IsS115.alloc | apply IsS115.drewN | apply IsS115.drew | apply IsS115.set_1 | apply IsS115.set_2) | exact HI0.out), by repeat (first | (with_reducible first | exact HB.out | apply below_alloc | apply pw_below_drewN | apply below_drew1 | refine below_set ?_ (IsS115.ge HI0.out)) | exact HB.out), by repeat (first | (with_reducible first | exact HK.out | apply KeepBut.set_ | apply keep_drewN | apply keep_drew | apply keep_alloc) | exact HK.out)⟩
 
 }
end Go.Proofs.Ytajidjlbgpaaoaa.PFnSeens

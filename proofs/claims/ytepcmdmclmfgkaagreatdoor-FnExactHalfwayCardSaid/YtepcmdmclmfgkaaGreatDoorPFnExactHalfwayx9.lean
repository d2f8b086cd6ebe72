-- by a program of this session (wip/print/run.py) for this claim
import Derived.Test.YtepcmdmclmfgkaaGreatDoorLibPu
import Derived.Test.YtepcmdmclmfgkaaGreatDoorPFnExactHalfwayx0
import Derived.Test.YtepcmdmclmfgkaaGreatDoorPFnExactHalfwayx8
namespace Go.Proofs.YtepcmdmclmfgkaaGreatDoor.PFnExactHalfway
open Go.Proofs.YtepcmdmclmfgkaaGreatDoor.Lib Go.RowKit Go.Proofs.YtepcmdmclmfgkaaGreatDoorW.PrintWords Go.Proofs.YtepcmdmclmfgkaaGreatDoorW.PrintLast Go.Proofs.YtepcmdmclmfgkaaGreatDoorW.PrintMore
attribute [local go_sem] max2_int min2_int max_two min_two max_three min_three max_four min_four   -- for this text's walks alone
set_option linter.unusedVariables false
set_option linter.unusedSimpArgs false

def impl_Digest.l0 : Nat → ByteArray → Int → Int → Int → Option (Int)
 | 0, _, _, _, _ => none
 | k + 1, x0, x3, x6, x7 => if x7 < x6 then (if 0 ≤ x7 then (if x7 < (x0.size : Int) then (impl_Digest.l0 k x0 (Int.tmod (wrap64 ((wrap64 ((wrap64 (x3 * 1000003)) + (wrap64 (bt x0 x7)))) + 1)) 2147483647) x6 (wrap64 (x7 + 1))) else (none)) else (none)) else (some x3)
def impl_Digest.f (k : Nat) (a0 : ByteArray) : Option (Int) := impl_Digest.l0 k a0 1 (a0.size : Int) 0
set_option maxHeartbeats 8000000 in
set_option maxRecDepth 100000 in
theorem impl_Digest.calls (k : Nat) (a0 : ByteArray) (r : Int) (w : World) (h : impl_Digest.f k a0 = some r) :
  Calls Tryz.prog 57 #[.string a0] w fun e w' => e = .returned (.int .i64 r) ∧ Drawn0 w w' := by
 have H : (impl_Digest.l0 k a0 1 (a0.size : Int) 0) = some r := h
 clear h
 have H' := A_ H
 clear H
 go_enter Tryz.func57, Tryz.ntmps57
 go_wp2
 go_loopg [3, 7] k (fun kq v3 v7 w' => ∃ (x3_1 : Int) (x7_1 : Int), v3 = .int .i64 x3_1 ∧ v7 = .int .i64 x7_1 ∧ Aside0 (impl_Digest.l0 kq a0 x3_1 (a0.size : Int) x7_1 = some r) ∧ Aside0 (kq ≤ k) ∧ Drawn0 w w')
 case atStart => exact ⟨(1), (0), (by first | rfl | (simp; done) | (simp [*]; done)), (by first | rfl | (simp; done) | (simp [*]; done)), H', ⟨Nat.le_refl _⟩, by repeat (first | exact Drawn0.refl _ | apply Drawn0.step)⟩
 case round =>
  clear H'
  obtain ⟨x3_1, x7_1, rfl, rfl, HA, HK1, ⟨m1, rfl⟩⟩ := hrel
  cases gk with
  | zero => exact absurd HA.out (by simp [impl_Digest.l0])
  | succ k1 =>
   have H := HA.out
   clear HA
   simp only [impl_Digest.l0] at H
   by_cases c2 : x7_1 < (a0.size : Int)
   {
   rw [if_pos c2] at H
   have c2b0 : decide (x7_1 < (a0.size : Int)) = true := decide_eq_true c2
   clear c2
   by_cases c3 : 0 ≤ x7_1
   {
   rw [if_pos c3] at H
   have c3b0 : decide (0 ≤ x7_1) = true := decide_eq_true c3
   clear c3
   by_cases c4 : x7_1 < (a0.size : Int)
   {
   rw [if_pos c4] at H
   have c4b0 : decide (x7_1 < (a0.size : Int)) = true := decide_eq_true c4
   clear c4
   have H' := A_ H
   clear H
   have p5 : 0 ≤ (x7_1 : Int) := of_decide_eq_true (by first | (with_reducible assumption) | assumption)
   have q5 : x7_1 < (a0.size : Int) := of_decide_eq_true (by first | (with_reducible assumption) | assumption)
   have hx5 := bt_at a0 x7_1
   replace p5 := eq_true p5
   replace q5 := eq_true q5
   go_wp2
   go_roundg k1
   case measure => have := HK1.out; omega
   case rel => exact ⟨(Int.tmod (wrap64 ((wrap64 ((wrap64 (x3_1 * 1000003)) + (wrap64 (bt a0 x7_1)))) + 1)) 2147483647), (wrap64 (x7_1 + 1)), (by first | rfl | (simp; done) | (simp [*]; done)), (by first | rfl | (simp; done) | (simp [*]; done)), H', ⟨by have := HK1.out; omega⟩, by repeat (first | exact Drawn0.refl _ | apply Drawn0.step)⟩
   }
   {
   rw [if_neg c4] at H
   exact absurd H (by simp)
   }
   }
   {
   rw [if_neg c3] at H
   exact absurd H (by simp)
   }
   }
   {
   rw [if_neg c2] at H
   have c2b0 : decide (x7_1 < (a0.size : Int)) = false := decide_eq_false c2
   clear c2
   obtain rfl := Option.some.inj H
   go_wp2
   go_ret
   exact ⟨by first | rfl | (simp; done) | (simp [*]; done), by repeat (first | exact Drawn0.refl _ | apply Drawn0.step)⟩
   
   }
theorem z41a {p_ : Prop} (h_ : p_ := by (try simp only [List.map_toArray, List.map_cons, List.map_nil]); first | done | rfl | (simp only [List.length_drop, List.length_take]; rfl)) : p_ := h_
theorem z41b {p_ : Prop} (h_ : p_ := by repeat (first | (with_reducible first | exact HB.out | apply below_alloc | apply pw_below_drewN | apply below_drew1) | exact HB.out)) : p_ := h_
def impl_Slot.j0 : Nat → Int → ByteArray → Bool → Option (ByteArray)
 | 0, _, _, _ => none
 | k + 1, x0, x1, x12 => if x12 = true then (some (⟨#[]⟩ : ByteArray)) else ((impl_decimal.f x0).bind fun t293 => (if t293.size + 1 ≤ 9223372036854775807 then ((impl_Digest.f k x1).bind fun t294 => ((impl_decimal.f t294).bind fun t295 => (if (t293 ++ (⟨#[32]⟩ : ByteArray)).size + t295.size ≤ 9223372036854775807 then (if ((t293 ++ (⟨#[32]⟩ : ByteArray)) ++ t295).size + 1 ≤ 9223372036854775807 then (if (((t293 ++ (⟨#[32]⟩ : ByteArray)) ++ t295) ++ (⟨#[32]⟩ : ByteArray)).size + x1.size ≤ 9223372036854775807 then (some ((((t293 ++ (⟨#[32]⟩ : ByteArray)) ++ t295) ++ (⟨#[32]⟩ : ByteArray)) ++ x1)) else (none)) else (none)) else (none)))) else (none)))
def impl_Slot.f (k : Nat) (a0 : Int) (a1 : ByteArray) : Option (ByteArray) := (impl_within.f a0 1 1000000).bind fun t292 => (if t292 = true then (impl_Slot.j0 k a0 a1 (decide ((a1.size : Int) > 300))) else (impl_Slot.j0 k a0 a1 true))
set_option maxHeartbeats 8000000 in
set_option maxRecDepth 100000 in
theorem impl_Slot.calls (k : Nat) (a0 : Int) (a1 : ByteArray) (r : ByteArray) (w : World) (hT : Fmt.TabW w) (h : impl_Slot.f k a0 a1 = some r) :
  Calls Tryz.prog 41 #[.int .i64 a0, .string a1] w fun e w' => e = .returned (.string r) ∧ Below w.heap.size w w' := by
 have HB := A_ (Below.refl w.heap.size w)
 have HT := A_ hT
 clear hT
 have H : ((impl_within.f a0 1 1000000).bind fun t292 => (if t292 = true then (impl_Slot.j0 k a0 a1 (decide ((a1.size : Int) > 300))) else (impl_Slot.j0 k a0 a1 true))) = some r := h
 clear h
 have HC3 := A_ H
 clear H
 go_enter Tryz.func41, Tryz.ntmps41
 go_upto_region 1 with (fail)
 go_cut [12] (fun v12 wc => ∃ (kq : Nat) (x12_2 : Bool), v12 = .bool x12_2 ∧ Aside0 (impl_Slot.j0 kq a0 a1 x12_2 = some r) ∧ Aside0 (kq ≤ k) ∧ Aside0 (Below w.heap.size w wc))
 case first =>
  have H := HC3.out
  clear HC3
  replace H := Option.bind_eq_some_iff.mp H
  obtain ⟨t292, A40, H⟩ := H
  (try dsimp only at H)
  have A4 := A_ A40
  clear A40
  by_cases c5 : t292 = true
  {
  subst c5
  have H1 : (impl_Slot.j0 k a0 a1 (decide ((a1.size : Int) > 300))) = some r := by rw [if_pos rfl] at H; exact H
  clear H
  have H := H1
  clear H1
  have H' := A_ H
  clear H
  go_wp2_with (first | ((with_reducible refine gate_callee (f := 34) rfl ?_); refine goesL_ (some 6) rfl rfl Tryz.func34 (by kernel_rfl) rfl #[.int .i64 a0, .int .i64 1, .int .i64 1000000] rfl z41a ?_; (with_reducible refine (impl_within.calls a0 1 1000000 true _ A4.out).mono ?_); rintro e w' ⟨rfl, ⟨nd, rfl⟩⟩; refine ⟨_, rfl, ?_⟩))
  go_meet
  case rel => exact ⟨_, (decide ((a1.size : Int) > 300)), (by first | rfl | (simp; done) | (simp [*]; done)), H', ⟨by first | omega | exact Nat.le_refl _⟩, ⟨by repeat (first | (with_reducible first | exact HB.out | apply below_alloc | apply pw_below_drewN | apply below_drew1) | exact HB.out)⟩⟩
  }
  {
  replace c5 := Bool.eq_false_iff.mpr c5
  subst c5
  have H1 : (impl_Slot.j0 k a0 a1 true) = some r := by rw [if_neg (show ¬ (false = true) by decide)] at H; exact H
  clear H
  have H := H1
  clear H1
  have H' := A_ H
  clear H
  go_wp2_with (first | ((with_reducible refine gate_callee (f := 34) rfl ?_); refine goesL_ (some 6) rfl rfl Tryz.func34 (by kernel_rfl) rfl #[.int .i64 a0, .int .i64 1, .int .i64 1000000] rfl z41a ?_; (with_reducible refine (impl_within.calls a0 1 1000000 false _ A4.out).mono ?_); rintro e w' ⟨rfl, ⟨nd, rfl⟩⟩; refine ⟨_, rfl, ?_⟩))
  go_meet
  case rel => exact ⟨_, (true), (by first | rfl | (simp; done) | (simp [*]; done)), H', ⟨by first | omega | exact Nat.le_refl _⟩, ⟨by repeat (first | (with_reducible first | exact HB.out | apply below_alloc | apply pw_below_drewN | apply below_drew1) | exact HB.out)⟩⟩
  }
 case rest =>
  clear HC3
  try clear p2
  try clear c3
  try clear c4
  try clear c5
  obtain ⟨kq, x12_2, rfl, HA, HJ2, HB⟩ := hcut
  cases kq with
  | zero => exact absurd HA.out (by simp [impl_Slot.j0])
  | succ kj2 =>
   have H := HA.out
   clear HA
   simp only [impl_Slot.j0] at H
   by_cases c6 : x12_2 = true
   {
   subst c6
   have H1 : (some (⟨#[]⟩ : ByteArray)) = some r := by rw [if_pos rfl] at H; exact H
   clear H
   have H := H1
   clear H1
   obtain rfl := Option.some.inj H
   go_wp2
   go_ret
   exact ⟨by first | rfl | (simp [errW_none, errW_some] <;> rfl) | (simp [*, errW_none, errW_some] <;> rfl), by repeat (first | (with_reducible first | exact HB.out | apply below_alloc | apply pw_below_drewN | apply below_drew1) | exact HB.out)⟩
   }
   {
   replace c6 := Bool.eq_false_iff.mpr c6
   subst c6
   have H1 : ((impl_decimal.f a0).bind fun t293 => (if t293.size + 1 ≤ 9223372036854775807 then ((impl_Digest.f kj2 a1).bind fun t294 => ((impl_decimal.f t294).bind fun t295 => (if (t293 ++ (⟨#[32]⟩ : ByteArray)).size + t295.size ≤ 9223372036854775807 then (if ((t293 ++ (⟨#[32]⟩ : ByteArray)) ++ t295).size + 1 ≤ 9223372036854775807 then (if (((t293 ++ (⟨#[32]⟩ : ByteArray)) ++ t295) ++ (⟨#[32]⟩ : ByteArray)).size + a1.size ≤ 9223372036854775807 then (some ((((t293 ++ (⟨#[32]⟩ : ByteArray)) ++ t295) ++ (⟨#[32]⟩ : ByteArray)) ++ a1)) else (none)) else (none)) else (none)))) else (none))) = some r := by rw [if_neg (show ¬ (false = true) by decide)] at H; exact H
   clear H
   have H := H1
   clear H1
   replace H := Option.bind_eq_some_iff.mp H
   obtain ⟨t293, A70, H⟩ := H
   (try dsimp only at H)
   have A7 := A_ A70
   clear A70
   by_cases c8 : t293.size + 1 ≤ 9223372036854775807
   {
   rw [if_pos c8] at H
   have c8b0 := eq_true c8
   have c8b1 : decide (t293.size + 1 ≤ 9223372036854775807) = true := decide_eq_true c8
   try have c8b2 : (9223372036854775807 < t293.size + 1) = False := eq_false (Nat.not_lt.2 c8)
   replace H := Option.bind_eq_some_iff.mp H
   obtain ⟨t294, A90, H⟩ := H
   (try dsimp only at H)
   have A9 := A_ A90
   clear A90
   replace H := Option.bind_eq_some_iff.mp H
   obtain ⟨t295, A100, H⟩ := H
   (try dsimp only at H)
   have A10 := A_ A100
   clear A100
   by_cases c11 : (t293 ++ (⟨#[32]⟩ : ByteArray)).size + t295.size ≤ 9223372036854775807
   {
   rw [if_pos c11] at H
   have c11b0 := eq_true c11
   have c11b1 : decide ((t293 ++ (⟨#[32]⟩ : ByteArray)).size + t295.size ≤ 9223372036854775807) = true := decide_eq_true c11
   try have c11b2 : (9223372036854775807 < (t293 ++ (⟨#[32]⟩ : ByteArray)).size + t295.size) = False := eq_false (Nat.not_lt.2 c11)
   have c11b5 : (9223372036854775807 < t293.size + 1 + t295.size) = False := eq_false (by have hh := c11; simp only [ByteArray.size_append] at hh; have : (⟨#[32]⟩ : ByteArray).size = 1 := rfl; omega)
   by_cases c12 : ((t293 ++ (⟨#[32]⟩ : ByteArray)) ++ t295).size + 1 ≤ 9223372036854775807
   {
   rw [if_pos c12] at H
   have c12b0 := eq_true c12
   have c12b1 : decide (((t293 ++ (⟨#[32]⟩ : ByteArray)) ++ t295).size + 1 ≤ 9223372036854775807) = true := decide_eq_true c12
   try have c12b2 : (9223372036854775807 < ((t293 ++ (⟨#[32]⟩ : ByteArray)) ++ t295).size + 1) = False := eq_false (Nat.not_lt.2 c12)
   have c12b5 : (9223372036854775807 < t293.size + 1 + t295.size + 1) = False := eq_false (by have hh := c12; simp only [ByteArray.size_append] at hh; have : (⟨#[32]⟩ : ByteArray).size = 1 := rfl; omega)
   by_cases c13 : (((t293 ++ (⟨#[32]⟩ : ByteArray)) ++ t295) ++ (⟨#[32]⟩ : ByteArray)).size + a1.size ≤ 9223372036854775807
   {
   rw [if_pos c13] at H
   have c13b0 := eq_true c13
   have c13b1 : decide ((((t293 ++ (⟨#[32]⟩ : ByteArray)) ++ t295) ++ (⟨#[32]⟩ : ByteArray)).size + a1.size ≤ 9223372036854775807) = true := decide_eq_true c13
   try have c13b2 : (9223372036854775807 < (((t293 ++ (⟨#[32]⟩ : ByteArray)) ++ t295) ++ (⟨#[32]⟩ : ByteArray)).size + a1.size) = False := eq_false (Nat.not_lt.2 c13)
   have c13b5 : (9223372036854775807 < t293.size + 1 + t295.size + 1 + a1.size) = False := eq_false (by have hh := c13; simp only [ByteArray.size_append] at hh; have : (⟨#[32]⟩ : ByteArray).size = 1 := rfl; omega)
   obtain rfl := Option.some.inj H
   go_wp2_with (first | ((with_reducible refine gate_callee (f := 56) rfl ?_); refine goesL_ (some 14) rfl rfl Tryz.func56 (by kernel_rfl) rfl #[.int .i64 a0] rfl z41a ?_; (with_reducible refine (impl_decimal.calls a0 t293 _ (Fmt.TabW.below HT.out z41b) A7.out).mono ?_); rintro e w14 ⟨rfl, hb⟩; refine ⟨_, rfl, ?_⟩; replace HB := A_ (below_step z41b hb)) | ((with_reducible refine gate_callee (f := 57) rfl ?_); refine goesL_ (some 17) rfl rfl Tryz.func57 (by kernel_rfl) rfl #[.string a1] rfl z41a ?_; (with_reducible refine (impl_Digest.calls kj2 a1 t294 _ A9.out).mono ?_); rintro e w' ⟨rfl, ⟨nd, rfl⟩⟩; refine ⟨_, rfl, ?_⟩) | ((with_reducible refine gate_callee (f := 56) rfl ?_); refine goesL_ (some 18) rfl rfl Tryz.func56 (by kernel_rfl) rfl #[.int .i64 t294] rfl z41a ?_; (with_reducible refine (impl_decimal.calls t294 t295 _ (Fmt.TabW.below HT.out z41b) A10.out).mono ?_); rintro e w15 ⟨rfl, hb⟩; refine ⟨_, rfl, ?_⟩; replace HB := A_ (below_step z41b hb)))
   go_ret
   exact ⟨by first | rfl | (simp [errW_none, errW_some] <;> rfl) | (simp [*, errW_none, errW_some] <;> rfl), by repeat (first | (with_reducible first | exact HB.out | apply below_alloc | apply pw_below_drewN | apply below_drew1) | exact HB.out)⟩
   }
   {
   rw [if_neg c13] at H
   exact absurd H (by simp)
   }
   }
   {
   rw [if_neg c12] at H
   exact absurd H (by simp)
   }
   }
   {
   rw [if_neg c11] at H
   exact absurd H (by simp)
   }
   }
   {
   rw [if_neg c8] at H
   exact absurd H (by simp)
   
   }
   }
-- NOT PRINTED: function 93 (bytealg_IndexByteString)

-- NOT PRINTED: function 78 (stringslite_IndexByte)

-- NOT PRINTED: function 79 (bytealg_IndexString)

-- NOT PRINTED: function 80 (bytealg_Cutover)

-- NOT PRINTED: function 94 (bytealg_hashStr_string)

-- NOT PRINTED: function 81 (bytealg_IndexRabinKarp_string)

-- NOT PRINTED: function 70 (stringslite_Index)

-- NOT PRINTED: function 65 (stringslite_Cut)

def strings_Cut.f (a0 a1 : ByteArray) : Option (ByteArray × ByteArray × Bool) := if a0.size < 4294967281 then some (⟨(Lib.cut a0.data.toList a1.data.toList).1.toArray⟩, ⟨(Lib.cut a0.data.toList a1.data.toList).2.1.toArray⟩, (Lib.cut a0.data.toList a1.data.toList).2.2) else none
theorem strings_Cut.calls (a0 a1 : ByteArray) (r0 r1 : ByteArray) (r2 : Bool) (w : World) (hT : Fmt.TabW w) (h : strings_Cut.f a0 a1 = some (r0, r1, r2)) :
    Calls Tryz.prog 61 #[.string a0, .string a1] w fun e w' => e = .returned (.tuple #[.string r0, .string r1, .bool r2]) ∧ ∃ nd, w' = w.drewN nd := by
  unfold strings_Cut.f at h
  by_cases h2 : a0.size < 4294967281
  · rw [if_pos h2] at h
    simp only [Option.some.injEq, Prod.mk.injEq] at h
    obtain ⟨rfl, rfl, rfl⟩ := h
    exact Fmt.cut a0 a1 h2 w hT
  · rw [if_neg h2] at h; cases h

-- NOT PRINTED: function 82 (stringslite_HasPrefix)

-- NOT PRINTED: function 71 (stringslite_TrimPrefix)

-- NOT PRINTED: function 66 (strings_TrimPrefix)

-- NOT PRINTED: function 95 (strconv_lower)

-- NOT PRINTED: function 96 (strconv_underscoreOK)

-- NOT PRINTED: function 83 (strconv_ParseUint)

-- NOT PRINTED: function 72 (strconv_ParseInt_72)

-- NOT PRINTED: function 97 (stringslite_Clone)

-- NOT PRINTED: function 84 (strconv_syntaxError)

-- NOT PRINTED: function 85 (strconv_rangeError)

-- NOT PRINTED: function 98 (errors_New)

-- NOT PRINTED: function 102 (strconv_Itoa_102)

-- NOT PRINTED: function 99 (strconv_Itoa_99)

-- NOT PRINTED: function 86 (strconv_baseError)

-- NOT PRINTED: function 87 (strconv_bitSizeError)

-- NOT PRINTED: function 73 (strconv_toError)

-- NOT PRINTED: function 67 (strconv_ParseInt_67)

def impl_number.f (a0 : ByteArray) : Option (Int × Bool) :=
  if a0.size ≤ 281474976710656 then some (if 10 < (Lib.trimPrefix a0.data.toList [45]).length then (0, false) else (Fmt.parsed a0, Fmt.isOk a0 && ((⟨(Lib.itoa (Fmt.parsed a0)).toArray⟩ : ByteArray).toList == a0.toList))) else none
theorem impl_number.calls (a0 : ByteArray) (r0 : Int) (r1 : Bool) (w : World) (hT : Fmt.TabW w) (h : impl_number.f a0 = some (r0, r1)) :
    Calls Tryz.prog 62 #[.string a0] w fun e w' => e = .returned (.tuple #[.int .i64 r0, .bool r1]) ∧ Below w.heap.size w w' := by
  unfold impl_number.f at h
  by_cases h2 : a0.size ≤ 281474976710656
  · rw [if_pos h2] at h
    have hb : Fmt.isOk a0 = true → -9223372036854775808 ≤ Fmt.parsed a0 ∧ Fmt.parsed a0 ≤ 9223372036854775807 := by
      unfold Fmt.isOk Fmt.parsed
      cases e : Lib.parseIntB 64 a0.data.toList with
      | ok v => intro _; have := Lib.parseIntB_bounds e; simp only at this ⊢; omega
      | _ => intro h; cases h
    have hlen : ((⟨(Lib.trimPrefix a0.data.toList [45]).toArray⟩ : ByteArray).size : Int) = ((Lib.trimPrefix a0.data.toList [45]).length : Int) := by simp [ByteArray.size]
    generalize hn : (Lib.trimPrefix a0.data.toList [45]).length = n at h hlen
    generalize hp : Fmt.parsed a0 = p at h hb
    have htr : ∀ w, Calls Tryz.prog 66 #[.string a0, .string ⟨#[45]⟩] w fun e w' => e = .returned (.string ⟨(Lib.trimPrefix a0.data.toList [45]).toArray⟩) ∧ w' = w := fun w => Fmt.trim a0 ⟨#[45]⟩ w
    generalize (⟨(Lib.trimPrefix a0.data.toList [45]).toArray⟩ : ByteArray) = tr at hlen htr
    have hpa := fun w hT => Fmt.parseInt a0 h2 w hT
    rw [hp] at hpa
    generalize Fmt.isOk a0 = o at h hb hpa
    clear hn hp
    cases o with
    | false =>
      go_enter Tryz.func62, Tryz.ntmps62
      go_wp2_with (first | (go_at_call 66; refine (htr _).mono ?_; rintro e w' ⟨rfl, rfl⟩) | (go_at_call 67; refine (hpa _ hT).mono ?_; rintro e w1 ⟨v, rfl, hv1, hv2, hb1⟩; obtain ⟨ty, pp, rfl⟩ := hv2 (by trivial)))
      · rw [if_pos (by omega)] at h
        simp only [Option.some.injEq, Prod.mk.injEq] at h
        obtain ⟨rfl, rfl⟩ := h
        go_ret2
        exact ⟨rfl, Below.refl _ _⟩
      · rw [if_neg (by omega)] at h
        simp only [Option.some.injEq, Prod.mk.injEq, Bool.false_and] at h
        obtain ⟨rfl, rfl⟩ := h
        go_ret2
        exact ⟨rfl, hb1⟩
    | true =>
      have hdc : ∀ w, Fmt.TabW w → Calls Tryz.prog 56 #[.int .i64 p] w fun e w' => e = .returned (.string (⟨(Lib.itoa p).toArray⟩ : ByteArray)) ∧ Below w.heap.size w w' := fun w hT => impl_decimal.calls p _ w hT (if_pos (hb rfl))
      generalize (⟨(Lib.itoa p).toArray⟩ : ByteArray) = ds at h hdc
      go_enter Tryz.func62, Tryz.ntmps62
      go_wp2_with (first | (go_at_call 66; refine (htr _).mono ?_; rintro e w' ⟨rfl, rfl⟩) | (go_at_call 67; refine (hpa _ hT).mono ?_; rintro e w1 ⟨v, rfl, hv1, hv2, hb1⟩; obtain rfl := hv1 (by trivial)) | (go_at_call 56; refine (hdc _ (hT.below hb1)).mono ?_; rintro e w2 ⟨rfl, hb2⟩))
      · rw [if_pos (by omega)] at h
        simp only [Option.some.injEq, Prod.mk.injEq] at h
        obtain ⟨rfl, rfl⟩ := h
        go_ret2
        exact ⟨rfl, Below.refl _ _⟩
      · rw [if_neg (by omega)] at h
        simp only [Option.some.injEq, Prod.mk.injEq, Bool.true_and] at h
        obtain ⟨rfl, rfl⟩ := h
        go_ret2
        exact ⟨rfl, below_step hb1 hb2⟩
  · rw [if_neg h2] at h; cases h

theorem z54a {p_ : Prop} (h_ : p_ := by repeat (first | (with_reducible first | exact HB.out | apply below_alloc | apply pw_below_drewN | apply below_drew1) | exact HB.out)) : p_ := h_
theorem z54b {p_ : Prop} (h_ : p_ := by (try simp only [List.map_toArray, List.map_cons, List.map_nil]); first | done | rfl | (simp only [List.length_drop, List.length_take]; rfl)) : p_ := h_
def impl_ReadSlot.f (k : Nat) (a0 : ByteArray) : Option (Int × ByteArray × Bool) := (strings_Cut.f a0 (⟨#[32]⟩ : ByteArray)).bind fun bt296 => ((strings_Cut.f bt296.2.1 (⟨#[32]⟩ : ByteArray)).bind fun bt299 => ((impl_number.f bt296.1).bind fun bt302 => (if bt296.2.2 = true then (if bt299.2.2 = true then (if bt302.2 = true then ((impl_Slot.f k bt302.1 bt299.2.1).bind fun t304 => (if t304.toList = a0.toList then (some (bt302.1, bt299.2.1, true)) else (some (0, (⟨#[]⟩ : ByteArray), false)))) else (some (0, (⟨#[]⟩ : ByteArray), false))) else (some (0, (⟨#[]⟩ : ByteArray), false))) else (some (0, (⟨#[]⟩ : ByteArray), false)))))
set_option maxHeartbeats 8000000 in
set_option maxRecDepth 100000 in
theorem impl_ReadSlot.calls (k : Nat) (a0 : ByteArray) (r1 : Int) (r2 : ByteArray) (r3 : Bool) (w : World) (hT : Fmt.TabW w) (h : impl_ReadSlot.f k a0 = some (r1, r2, r3)) :
  Calls Tryz.prog 54 #[.string a0] w fun e w' => e = .returned (.tuple #[.int .i64 r1, .string r2, .bool r3]) ∧ Below w.heap.size w w' := by
 have HB := A_ (Below.refl w.heap.size w)
 have HT := A_ hT
 clear hT
 have H : ((strings_Cut.f a0 (⟨#[32]⟩ : ByteArray)).bind fun bt296 => ((strings_Cut.f bt296.2.1 (⟨#[32]⟩ : ByteArray)).bind fun bt299 => ((impl_number.f bt296.1).bind fun bt302 => (if bt296.2.2 = true then (if bt299.2.2 = true then (if bt302.2 = true then ((impl_Slot.f k bt302.1 bt299.2.1).bind fun t304 => (if t304.toList = a0.toList then (some (bt302.1, bt299.2.1, true)) else (some (0, (⟨#[]⟩ : ByteArray), false)))) else (some (0, (⟨#[]⟩ : ByteArray), false))) else (some (0, (⟨#[]⟩ : ByteArray), false))) else (some (0, (⟨#[]⟩ : ByteArray), false)))))) = some (r1, r2, r3) := h
 clear h
 replace H := Option.bind_eq_some_iff.mp H
 obtain ⟨⟨t296, t297, t298⟩, A20, H⟩ := H
 (try dsimp only at H)
 have A2 := A_ A20
 clear A20
 replace H := Option.bind_eq_some_iff.mp H
 obtain ⟨⟨t299, t300, t301⟩, A30, H⟩ := H
 (try dsimp only at H)
 have A3 := A_ A30
 clear A30
 replace H := Option.bind_eq_some_iff.mp H
 obtain ⟨⟨t302, t303⟩, A40, H⟩ := H
 (try dsimp only at H)
 have A4 := A_ A40
 clear A40
 by_cases c5 : t298 = true
 {
 subst c5
 have H1 : (if t301 = true then (if t303 = true then ((impl_Slot.f k t302 t300).bind fun t304 => (if t304.toList = a0.toList then (some (t302, t300, true)) else (some (0, (⟨#[]⟩ : ByteArray), false)))) else (some (0, (⟨#[]⟩ : ByteArray), false))) else (some (0, (⟨#[]⟩ : ByteArray), false))) = some (r1, r2, r3) := by rw [if_pos rfl] at H; exact H
 clear H
 have H := H1
 clear H1
 by_cases c6 : t301 = true
 {
 subst c6
 have H1 : (if t303 = true then ((impl_Slot.f k t302 t300).bind fun t304 => (if t304.toList = a0.toList then (some (t302, t300, true)) else (some (0, (⟨#[]⟩ : ByteArray), false)))) else (some (0, (⟨#[]⟩ : ByteArray), false))) = some (r1, r2, r3) := by rw [if_pos rfl] at H; exact H
 clear H
 have H := H1
 clear H1
 by_cases c7 : t303 = true
 {
 subst c7
 have H1 : ((impl_Slot.f k t302 t300).bind fun t304 => (if t304.toList = a0.toList then (some (t302, t300, true)) else (some (0, (⟨#[]⟩ : ByteArray), false)))) = some (r1, r2, r3) := by rw [if_pos rfl] at H; exact H
 clear H
 have H := H1
 clear H1
 replace H := Option.bind_eq_some_iff.mp H
 obtain ⟨t304, A80, H⟩ := H
 (try dsimp only at H)
 have A8 := A_ A80
 clear A80
 by_cases c9 : t304.toList = a0.toList
 {
 rw [if_pos c9] at H
 have c9b0 : (t304.toList == a0.toList) = true := beq_iff_eq.mpr c9
 have c9b1 : (t304.toList != a0.toList) = false := bne_eq_false_iff_eq.mpr c9
 clear c9
 simp only [Option.some.injEq, Prod.mk.injEq] at H
 obtain ⟨rfl, rfl, rfl⟩ := H
 go_enter Tryz.func54, Tryz.ntmps54
 go_wp2_with (first | ((with_reducible refine gate_callee (f := 61) rfl ?_); refine goesL_ (some 15) rfl rfl Tryz.func61 (by kernel_rfl) rfl #[.string a0, .string (⟨#[32]⟩ : ByteArray)] rfl z54b ?_; (with_reducible refine (strings_Cut.calls a0 (⟨#[32]⟩ : ByteArray) t296 t297 true _ (Fmt.TabW.below HT.out z54a) A2.out).mono ?_); rintro e w' ⟨rfl, ⟨nd, rfl⟩⟩; refine ⟨_, rfl, ?_⟩) | ((with_reducible refine gate_callee (f := 61) rfl ?_); refine goesL_ (some 21) rfl rfl Tryz.func61 (by kernel_rfl) rfl #[.string t297, .string (⟨#[32]⟩ : ByteArray)] rfl z54b ?_; (with_reducible refine (strings_Cut.calls t297 (⟨#[32]⟩ : ByteArray) t299 t300 true _ (Fmt.TabW.below HT.out z54a) A3.out).mono ?_); rintro e w' ⟨rfl, ⟨nd, rfl⟩⟩; refine ⟨_, rfl, ?_⟩) | ((with_reducible refine gate_callee (f := 62) rfl ?_); refine goesL_ (some 27) rfl rfl Tryz.func62 (by kernel_rfl) rfl #[.string t296] rfl z54b ?_; (with_reducible refine (impl_number.calls t296 t302 true _ (Fmt.TabW.below HT.out z54a) A4.out).mono ?_); rintro e w10 ⟨rfl, hb⟩; refine ⟨_, rfl, ?_⟩; replace HB := A_ (below_step z54a hb)) | (go_at_call 41; (with_reducible refine (impl_Slot.calls k t302 t300 t304 _ (Fmt.TabW.below HT.out z54a) A8.out).mono ?_); rintro e w11 ⟨rfl, hb⟩; replace HB := A_ (below_step z54a hb)))
 go_ret3
 exact ⟨by first | rfl | (simp [errW_none, errW_some] <;> rfl) | (simp [*, errW_none, errW_some] <;> rfl), by repeat (first | (with_reducible first | exact HB.out | apply below_alloc | apply pw_below_drewN | apply below_drew1) | exact HB.out)⟩
 }
 {
 rw [if_neg c9] at H
 have c9b0 : (t304.toList == a0.toList) = false := beq_eq_false_iff_ne.mpr c9
 have c9b1 : (t304.toList != a0.toList) = true := bne_iff_ne.mpr c9
 simp only [Option.some.injEq, Prod.mk.injEq] at H
 obtain ⟨rfl, rfl, rfl⟩ := H
 go_enter Tryz.func54, Tryz.ntmps54
 go_wp2_with (first | ((with_reducible refine gate_callee (f := 61) rfl ?_); refine goesL_ (some 15) rfl rfl Tryz.func61 (by kernel_rfl) rfl #[.string a0, .string (⟨#[32]⟩ : ByteArray)] rfl z54b ?_; (with_reducible refine (strings_Cut.calls a0 (⟨#[32]⟩ : ByteArray) t296 t297 true _ (Fmt.TabW.below HT.out z54a) A2.out).mono ?_); rintro e w' ⟨rfl, ⟨nd, rfl⟩⟩; refine ⟨_, rfl, ?_⟩) | ((with_reducible refine gate_callee (f := 61) rfl ?_); refine goesL_ (some 21) rfl rfl Tryz.func61 (by kernel_rfl) rfl #[.string t297, .string (⟨#[32]⟩ : ByteArray)] rfl z54b ?_; (with_reducible refine (strings_Cut.calls t297 (⟨#[32]⟩ : ByteArray) t299 t300 true _ (Fmt.TabW.below HT.out z54a) A3.out).mono ?_); rintro e w' ⟨rfl, ⟨nd, rfl⟩⟩; refine ⟨_, rfl, ?_⟩) | ((with_reducible refine gate_callee (f := 62) rfl ?_); refine goesL_ (some 27) rfl rfl Tryz.func62 (by kernel_rfl) rfl #[.string t296] rfl z54b ?_; (with_reducible refine (impl_number.calls t296 t302 true _ (Fmt.TabW.below HT.out z54a) A4.out).mono ?_); rintro e w12 ⟨rfl, hb⟩; refine ⟨_, rfl, ?_⟩; replace HB := A_ (below_step z54a hb)) | (go_at_call 41; (with_reducible refine (impl_Slot.calls k t302 t300 t304 _ (Fmt.TabW.below HT.out z54a) A8.out).mono ?_); rintro e w13 ⟨rfl, hb⟩; replace HB := A_ (below_step z54a hb)))
 go_ret3
 exact ⟨by first | rfl | (simp [errW_none, errW_some] <;> rfl) | (simp [*, errW_none, errW_some] <;> rfl), by repeat (first | (with_reducible first | exact HB.out | apply below_alloc | apply pw_below_drewN | apply below_drew1) | exact HB.out)⟩
 }
 }
 {
 replace c7 := Bool.eq_false_iff.mpr c7
 subst c7
 have H1 : (some (0, (⟨#[]⟩ : ByteArray), false)) = some (r1, r2, r3) := by rw [if_neg (show ¬ (false = true) by decide)] at H; exact H
 clear H
 have H := H1
 clear H1
 simp only [Option.some.injEq, Prod.mk.injEq] at H
 obtain ⟨rfl, rfl, rfl⟩ := H
 go_enter Tryz.func54, Tryz.ntmps54
 go_wp2_with (first | ((with_reducible refine gate_callee (f := 61) rfl ?_); refine goesL_ (some 15) rfl rfl Tryz.func61 (by kernel_rfl) rfl #[.string a0, .string (⟨#[32]⟩ : ByteArray)] rfl z54b ?_; (with_reducible refine (strings_Cut.calls a0 (⟨#[32]⟩ : ByteArray) t296 t297 true _ (Fmt.TabW.below HT.out z54a) A2.out).mono ?_); rintro e w' ⟨rfl, ⟨nd, rfl⟩⟩; refine ⟨_, rfl, ?_⟩) | ((with_reducible refine gate_callee (f := 61) rfl ?_); refine goesL_ (some 21) rfl rfl Tryz.func61 (by kernel_rfl) rfl #[.string t297, .string (⟨#[32]⟩ : ByteArray)] rfl z54b ?_; (with_reducible refine (strings_Cut.calls t297 (⟨#[32]⟩ : ByteArray) t299 t300 true _ (Fmt.TabW.below HT.out z54a) A3.out).mono ?_); rintro e w' ⟨rfl, ⟨nd, rfl⟩⟩; refine ⟨_, rfl, ?_⟩) | ((with_reducible refine gate_callee (f := 62) rfl ?_); refine goesL_ (some 27) rfl rfl Tryz.func62 (by kernel_rfl) rfl #[.string t296] rfl z54b ?_; (with_reducible refine (impl_number.calls t296 t302 false _ (Fmt.TabW.below HT.out z54a) A4.out).mono ?_); rintro e w14 ⟨rfl, hb⟩; refine ⟨_, rfl, ?_⟩; replace HB := A_ (below_step z54a hb)))
 go_ret3
 exact ⟨by first | rfl | (simp [errW_none, errW_some] <;> rfl) | (simp [*, errW_none, errW_some] <;> rfl), by repeat (first | (with_reducible first | exact HB.out | apply below_alloc | apply pw_below_drewN | apply below_drew1) | exact HB.out)⟩
 }
 }
 {
 replace c6 := Bool.eq_false_iff.mpr c6
 subst c6
 have H1 : (some (0, (⟨#[]⟩ : ByteArray), false)) = some (r1, r2, r3) := by rw [if_neg (show ¬ (false = true) by decide)] at H; exact H
 clear H
 have H := H1
 clear H1
 simp only [Option.some.injEq, Prod.mk.injEq] at H
 obtain ⟨rfl, rfl, rfl⟩ := H
 go_enter Tryz.func54, Tryz.ntmps54
 go_wp2_with (first | ((with_reducible refine gate_callee (f := 61) rfl ?_); refine goesL_ (some 15) rfl rfl Tryz.func61 (by kernel_rfl) rfl #[.string a0, .string (⟨#[32]⟩ : ByteArray)] rfl z54b ?_; (with_reducible refine (strings_Cut.calls a0 (⟨#[32]⟩ : ByteArray) t296 t297 true _ (Fmt.TabW.below HT.out z54a) A2.out).mono ?_); rintro e w' ⟨rfl, ⟨nd, rfl⟩⟩; refine ⟨_, rfl, ?_⟩) | ((with_reducible refine gate_callee (f := 61) rfl ?_); refine goesL_ (some 21) rfl rfl Tryz.func61 (by kernel_rfl) rfl #[.string t297, .string (⟨#[32]⟩ : ByteArray)] rfl z54b ?_; (with_reducible refine (strings_Cut.calls t297 (⟨#[32]⟩ : ByteArray) t299 t300 false _ (Fmt.TabW.below HT.out z54a) A3.out).mono ?_); rintro e w' ⟨rfl, ⟨nd, rfl⟩⟩; refine ⟨_, rfl, ?_⟩) | ((with_reducible refine gate_callee (f := 62) rfl ?_); refine goesL_ (some 27) rfl rfl Tryz.func62 (by kernel_rfl) rfl #[.string t296] rfl z54b ?_; (with_reducible refine (impl_number.calls t296 t302 t303 _ (Fmt.TabW.below HT.out z54a) A4.out).mono ?_); rintro e w15 ⟨rfl, hb⟩; refine ⟨_, rfl, ?_⟩; replace HB := A_ (below_step z54a hb)))
 go_ret3
 exact ⟨by first | rfl | (simp [errW_none, errW_some] <;> rfl) | (simp [*, errW_none, errW_some] <;> rfl), by repeat (first | (with_reducible first | exact HB.out | apply below_alloc | apply pw_below_drewN | apply below_drew1) | exact HB.out)⟩
 }
 }
 {
 replace c5 := Bool.eq_false_iff.mpr c5
 subst c5
 have H1 : (some (0, (⟨#[]⟩ : ByteArray), false)) = some (r1, r2, r3) := by rw [if_neg (show ¬ (false = true) by decide)] at H; exact H
 clear H
 have H := H1
 clear H1
 simp only [Option.some.injEq, Prod.mk.injEq] at H
 obtain ⟨rfl, rfl, rfl⟩ := H
 go_enter Tryz.func54, Tryz.ntmps54
 go_wp2_with (first | ((with_reducible refine gate_callee (f := 61) rfl ?_); refine goesL_ (some 15) rfl rfl Tryz.func61 (by kernel_rfl) rfl #[.string a0, .string (⟨#[32]⟩ : ByteArray)] rfl z54b ?_; (with_reducible refine (strings_Cut.calls a0 (⟨#[32]⟩ : ByteArray) t296 t297 false _ (Fmt.TabW.below HT.out z54a) A2.out).mono ?_); rintro e w' ⟨rfl, ⟨nd, rfl⟩⟩; refine ⟨_, rfl, ?_⟩) | ((with_reducible refine gate_callee (f := 61) rfl ?_); refine goesL_ (some 21) rfl rfl Tryz.func61 (by kernel_rfl) rfl #[.string t297, .string (⟨#[32]⟩ : ByteArray)] rfl z54b ?_; (with_reducible refine (strings_Cut.calls t297 (⟨#[32]⟩ : ByteArray) t299 t300 t301 _ (Fmt.TabW.below HT.out z54a) A3.out).mono ?_); rintro e w' ⟨rfl, ⟨nd, rfl⟩⟩; refine ⟨_, rfl, ?_⟩) | ((with_reducible refine gate_callee (f := 62) rfl ?_); refine goesL_ (some 27) rfl rfl Tryz.func62 (by kernel_rfl) rfl #[.string t296] rfl z54b ?_; (with_reducible refine (impl_number.calls t296 t302 t303 _ (Fmt.TabW.below HT.out z54a) A4.out).mono ?_); rintro e w16 ⟨rfl, hb⟩; refine ⟨_, rfl, ?_⟩; replace HB := A_ (below_step z54a hb)))
 go_ret3
 exact ⟨by first | rfl | (simp [errW_none, errW_some] <;> rfl) | (simp [*, errW_none, errW_some] <;> rfl), by repeat (first | (with_reducible first | exact HB.out | apply below_alloc | apply pw_below_drewN | apply below_drew1) | exact HB.out)⟩
 
 }
-- NOT PRINTED: function 68 (slices_Backward_Patch_1)

-- NOT PRINTED: function 63 (slices_Backward_Patch)

def Kp2 (n₀ Bs : Nat) (W W' : World) : Prop := Below n₀ W W' ∧ W'.heap[Bs]? = W.heap[Bs]?
theorem Kp2.refl (n₀ Bs : Nat) (W : World) : Kp2 n₀ Bs W W := ⟨Below.refl _ _, rfl⟩
theorem Kp2.trans {n₀ Bs : Nat} {A B C : World} (h : Kp2 n₀ Bs A B) (k : Kp2 n₀ Bs B C) : Kp2 n₀ Bs A C := ⟨h.1.trans k.1, k.2.trans h.2⟩
theorem Kp2.alloc {n₀ Bs : Nat} {W : World} (h1 : n₀ ≤ W.heap.size) (h2 : Bs < W.heap.size) (o : Obj) : Kp2 n₀ Bs W (W.alloc o) := ⟨(Below.refl _ _).alloc h1 _, Below.heap_alloc W o Bs h2⟩
theorem Kp2.put {B n₀ Bs : Nat} (h1 : n₀ ≤ B) (h2 : Bs < B) (W : World) (l : Nat) (o o' : Obj) (hl : B ≤ l) (ho : W.heap[l]? = some o) (hc : o.isCells = false) (hw : o.isWalk = false) : Kp2 n₀ Bs W (W.putObj l o') :=
  ⟨(Below.refl n₀ W).grown (grownBy_putObj' W l o') (by have := (Array.getElem?_eq_some_iff.1 ho).1; omega) (fun k e => by cases e; omega), World.putObj_heap_other (by omega)⟩
section
attribute [local go_sem] Oper.semAt_some
set_option maxRecDepth 100000 in
set_option maxHeartbeats 8000000 in
theorem bw_patch1 (n : Nat) (hn : 1 ≤ n) (l Bs : Nat) (A0 : Option Addr) (c0 : Nat) (xs : List S58) (w0 : World) (hr : Kd.C k58 w0 A0 xs.length xs) (J Jx : List (Int × S58) → World → Prop)
    (hY : ∀ pre x W1, J pre W1 → pre.length < xs.length → YieldAt Fence.wide (n - 1) Tryz.prog l #[.int .i64 x.1, .agg #[.int .i64 x.2.f0, .string x.2.f1]] W1 fun e W' =>
      (e = .returned (.bool true) ∧ J (pre ++ [x]) W' ∧ Kp2 w0.heap.size Bs W1 W') ∨ (e = .returned (.bool false) ∧ Jx (pre ++ [x]) W'))
    (W : World) (hb : Below w0.heap.size w0 W) (hBs : W.heap[Bs]? = some (.cells #[.slice A0 xs.length c0] 27 (0, 0))) (h0 : J [] W) :
    CallsIn Fence.wide n Tryz.prog 68 #[.func (.yield l) #[] #[], .pointer (some ⟨Bs, 0, none⟩)] W fun e W' => (∃ v, e = .returned v) ∧
      ((∃ ys, ys = Lib.bwd xs z58 0 ∧ J ys W') ∨ (∃ pre, (∃ k, k ≤ xs.length ∧ pre = Lib.bwd xs z58 k) ∧ Jx pre W')) := by
  have hbig : xs.length ≤ 9223372036854775807 := hr.2.1
  have HR := A_ hr
  have HB := A_ hb
  have HY := A_ hY
  have hc0 := blk_cell hBs 0
  have HBs := A_ hBs
  clear hr hb hY hBs
  refine callsIn_of_wp Tryz.func68 rfl trivial ?_ rfl
  simp only [Tryz.ntmps68, List.size_toArray, List.length_cons, List.length_nil, Nat.reduceAdd, Nat.reduceSub, Array.replicate_succ, Array.replicate_zero, List.push_toArray, List.append_toArray, List.nil_append, List.cons_append]
  gi_wp2
  gi_loopw [3] (fun i wr => ∃ k : Nat, k ≤ xs.length ∧ i = .int .i64 ((k : Int) - 1) ∧ J (Lib.bwd xs z58 k) wr ∧ Aside0 (Kp2 w0.heap.size Bs W wr))
    (fun i _ => (intOf i + 1).toNat)
  case atStart => exact ⟨xs.length, Nat.le_refl _, rfl, by rw [Lib.bwd_all]; exact h0, ⟨Kp2.refl _ _ _⟩⟩
  case round =>
    obtain ⟨k, hk, rfl, hJs, hnx⟩ := hrel
    cases k with
    | zero =>
      gi_wp2
      go_end0
      exact ⟨⟨_, rfl⟩, .inl ⟨_, rfl, hJs⟩⟩
    | succ k =>
      have ei : (((k + 1 : Nat) : Int) - 1) = (k : Int) := by omega
      rw [ei]
      have hcx : wr.cell? ⟨Bs, 0, none⟩ = some (.slice A0 xs.length c0) := by rw [blk_cell (hnx.out.2.trans HBs.out) 0]; rfl
      have hltz : (k : Int) < (xs.length : Int) := by omega
      obtain ⟨ad, e, hx, hx2⟩ := at_T58 (Kd.C_below HR.out (HB.out.trans hnx.out.1)) k (by omega) hltz
      cases e
      simp only [Int.toNat_natCast] at hx hx2
      obtain ⟨fn, tmps, assign, body, hy, hR⟩ := HY.out _ ((k : Int), rd_T58 xs k) wr hJs (by rw [Lib.bwd_length]; omega)
      dsimp only at hy
      have ES : Aside0 (Lib.bwd xs z58 k = Lib.bwd xs z58 (k + 1) ++ [((k : Int), rd_T58 xs k)]) := ⟨Lib.bwd_step xs z58 k (by omega)⟩
      clear ei
      gi_wp2
      refine hR.mono ?_
      rintro e W3 (⟨rfl, hJ3, hk3⟩ | ⟨rfl, hJx3⟩)
      · gi_wp2
        go_roundw
        case rel => exact ⟨k, by omega, rfl, by rw [ES.out]; exact hJ3, ⟨hnx.out.trans hk3⟩⟩
        case measure => first | (simp [intOf]; done) | (simp [intOf]; omega)
      · gi_wp2
        refine bodyPost_ret (results_none rfl _ _ _) rfl ?_
        exact ⟨⟨_, rfl⟩, .inr ⟨_, ⟨k, by omega, ES.out.symm⟩, hJx3⟩⟩

theorem bw_patch (n : Nat) (A0 : Option Addr) (c0 len : Nat) (w : World) :
    CallsIn Fence.wide n Tryz.prog 63 #[.slice A0 len c0] w fun e w' => e = .returned (.func (.func 68) #[] #[.pointer (some ⟨w.heap.size, 0, none⟩)]) ∧ w' = w.alloc (.cells #[.slice A0 len c0] 27) := by
  refine callsIn_of_wp Tryz.func63 rfl trivial ?_ rfl
  simp only [Tryz.ntmps63, List.size_toArray, List.length_cons, List.length_nil, Nat.reduceAdd, Nat.reduceSub, Array.replicate_succ, Array.replicate_zero, List.push_toArray, List.append_toArray, List.nil_append, List.cons_append]
  gi_wp2
  go_ret
  exact ⟨rfl, rfl⟩
theorem bw_patch_stops (n : Nat) (hn : 1 ≤ n) (Bs : Nat) (A0 : Option Addr) (c0 : Nat) (xs : List S58) (w0 w : World) (hr : Kd.C k58 w0 A0 xs.length xs) (hb : Below w0.heap.size w0 w) (hBs : w.heap[Bs]? = some (.cells #[.slice A0 xs.length c0] 27 (0, 0))) :
    SeqStopsK Fence.wide n Tryz.prog 68 #[.pointer (some ⟨Bs, 0, none⟩)] (fun x : Int × S58 => #[.int .i64 x.1, .agg #[.int .i64 x.2.f0, .string x.2.f1]]) (Kp2 w0.heap.size Bs) (fun ys => ys = Lib.bwd xs z58 0) (fun pre => ∃ k, k ≤ xs.length ∧ pre = Lib.bwd xs z58 k) xs.length w := fun l J Jx W hW _ _ hY h0 =>
  bw_patch1 n hn l Bs A0 c0 xs w0 hr J Jx hY W (hb.trans (hW.mono hb.size)) ((hW.block Bs (blk_lt hBs)).trans hBs) h0

def impl_Device_lies.f (l0 : List ByteArray) (l1 : List S58) (at_ : Int) : Option ByteArray :=
  match l1.reverse.find? (fun p => decide (p.f0 = at_)) with
  | some p => some p.f1
  | none => if 0 ≤ at_ then (if at_ < (l0.length : Int) then some (rdOf ByteArray.empty l0 at_) else none) else none
theorem four_new (w : World) (o0 o1 o2 o3 : Obj) : ((((w.alloc o0).alloc o1).alloc o2).alloc o3).heap[w.heap.size]? = some o0 ∧ ((((w.alloc o0).alloc o1).alloc o2).alloc o3).heap[w.heap.size + 1]? = some o1 ∧ ((((w.alloc o0).alloc o1).alloc o2).alloc o3).heap[w.heap.size + 1 + 1]? = some o2 ∧ ((((w.alloc o0).alloc o1).alloc o2).alloc o3).heap[w.heap.size + 1 + 1 + 1]? = some o3 := by
  have e1 : (w.alloc o0).heap.size = w.heap.size + 1 := by simp
  have e2 : ((w.alloc o0).alloc o1).heap.size = w.heap.size + 1 + 1 := by simp
  have e3 : (((w.alloc o0).alloc o1).alloc o2).heap.size = w.heap.size + 1 + 1 + 1 := by simp
  refine ⟨?_, ?_, ?_, ?_⟩
  · rw [Below.heap_alloc _ _ _ (by omega), Below.heap_alloc _ _ _ (by omega), Below.heap_alloc _ _ _ (by omega)]; exact World.alloc_heap_new w _
  · rw [Below.heap_alloc _ _ _ (by omega), Below.heap_alloc _ _ _ (by omega), ← e1]; exact World.alloc_heap_new _ _
  · rw [Below.heap_alloc _ _ _ (by omega), ← e2]; exact World.alloc_heap_new _ _
  · rw [← e3]; exact World.alloc_heap_new _ _
theorem keepb {X Y : World} {B : Nat} {cs : Array Value} {t : TypeId} {m : Nat × Nat} {row : Option Nat} (h : X.heap[B]? = some (.cells cs t m)) (hg : X.grownBy Y row) (hr : ∀ r, row = some r → ∃ o, X.heap[r]? = some o ∧ o.isCells = false) : Y.heap[B]? = some (.cells cs t m) :=
  blk_grown h hg (fun e => by obtain ⟨o, ho, hc⟩ := hr B e.symm; rw [h] at ho; cases ho; cases hc)
set_option maxRecDepth 100000 in
set_option maxHeartbeats 8000000 in
theorem lies_in (A0 : Option Addr) (c0 : Nat) (l0 : List ByteArray) (A1 : Option Addr) (c1 : Nat) (l1 : List S58) (at_ : Int) (r : ByteArray) (w : World) (hr0 : Kd.C Kd.string w A0 l0.length l0) (hr1 : Kd.C k58 w A1 l1.length l1) (h : impl_Device_lies.f l0 l1 at_ = some r) :
    CallsIn Fence.wide 5 Tryz.prog 55 #[.agg #[.slice A0 l0.length c0, .slice A1 l1.length c1], .int .i64 at_] w fun e w' => e = .returned (.string r) ∧ Below w.heap.size w w' := by
  have hu := Tryz.underlying29
  have HR0 := A_ hr0
  have HR1 := A_ hr1
  have HF := A_ h
  clear hr0 hr1 h
  refine callsIn_of_wp_marks Tryz.func55 rfl trivial ?_ rfl
  simp only [Tryz.ntmps55, List.size_toArray, List.length_cons, List.length_nil, Nat.reduceAdd, Nat.reduceSub, Array.replicate_succ, Array.replicate_zero, List.push_toArray, List.append_toArray, List.nil_append, List.cons_append]
  have fB : Fence.wide.fn 63 := trivial
  gi_wp2_with (first | (gi_at_call 63; refine (bw_patch _ _ _ _ _).mono ?_; rintro e w' ⟨rfl, rfl⟩))
  have hB0 : Below w.heap.size w ((((w.alloc (.cells #[.slice A0 l0.length c0, .slice A1 l1.length c1] 29)).alloc (.cells #[.int .i64 at_] 2)).alloc (.cells #[.string ⟨#[]⟩] 9)).alloc (.cells #[.slice A1 l1.length c1] 27)) := ((((Below.refl _ w).alloc (Nat.le_refl _) _).alloc (by simp) _).alloc (by simp; omega) _).alloc (by simp; omega) _
  obtain ⟨q0, q1, q2, q3⟩ := four_new w (.cells #[.slice A0 l0.length c0, .slice A1 l1.length c1] 29) (.cells #[.int .i64 at_] 2) (.cells #[.string ⟨#[]⟩] 9) (.cells #[.slice A1 l1.length c1] 27)
  obtain ⟨W0, hW0⟩ : ∃ W0, (((w.alloc (.cells #[.slice A0 l0.length c0, .slice A1 l1.length c1] 29)).alloc (.cells #[.int .i64 at_] 2)).alloc (.cells #[.string ⟨#[]⟩] 9)).alloc (.cells #[.slice A1 l1.length c1] 27) = W0 := ⟨_, rfl⟩
  have hsz : W0.heap.size = w.heap.size + 4 := by rw [← hW0]; simp
  rw [hW0] at hB0 q0 q1 q2 q3 ⊢
  clear hW0
  refine wpIn_rangeFunc_ownH rfl (by omega) (gf := 68) (lb := #[.pointer (some ⟨w.heap.size + 1 + 1 + 1, 0, none⟩)]) rfl trivial (enters_of Tryz.func68 (by kernel_rfl) rfl)
    (bw_patch_stops 4 (by omega) (w.heap.size + 1 + 1 + 1) A1 c1 l1 w W0 HR1.out hB0 q3) Kp2.trans (Kp2.put (B := W0.heap.size) (by omega) (by omega)) (Below.refl _ _) (fun _ => rfl)
    (fun pre W => ((w.heap.size + 4 ≤ W.heap.size ∧ ∀ y ∈ pre, y.2.f0 ≠ at_) ∧ W.heap[w.heap.size]? = some (.cells #[.slice A0 l0.length c0, .slice A1 l1.length c1] 29 (0, 0)) ∧ W.heap[w.heap.size + 1]? = some (.cells #[.int .i64 at_] 2 (0, 0)) ∧ W.heap[w.heap.size + 1 + 1]? = some (.cells #[.string ⟨#[]⟩] 9 (0, 0))) ∧ Below w.heap.size w W)
    (fun c pre W => (c = .ret ∧ ∃ pre' x, pre = pre' ++ [x] ∧ (∀ y ∈ pre', y.2.f0 ≠ at_) ∧ x.2.f0 = at_ ∧ W.heap[w.heap.size + 1 + 1]? = some (.cells #[.string x.2.f1] 9 (0, 0))) ∧ Below w.heap.size w W)
    (OwnFrom.and (Own.from (fun s A B row hs hg hr => ⟨⟨Nat.le_trans hs.1.1 hg.size, hs.1.2⟩, keepb hs.2.1 hg hr, keepb hs.2.2.1 hg hr, keepb hs.2.2.2 hg hr⟩) _) (ownFrom_below (Nat.le_refl _) (by omega)))
    (fun c => OwnFrom.and (Own.from (fun s A B row hs hg hr => ⟨hs.1, by obtain ⟨_, pre', x, e1, e2, e3, e4⟩ := hs; exact ⟨pre', x, e1, e2, e3, keepb e4 hg hr⟩⟩) _) (ownFrom_below (Nat.le_refl _) (by omega)))
    ⟨⟨⟨by omega, by simp⟩, q0, q1, q2⟩, hB0⟩
    (fun x a' W => ∃ Bx, w.heap.size + 3 < Bx ∧ W.heap[Bx]? = some (.cells #[.int .i64 x.2.f0, .string x.2.f1] 58 (0, 0)) ∧ a' = { tmps := #[.agg #[.slice A0 l0.length c0, .slice A1 l1.length c1], .int .i64 at_, .pointer (some ⟨w.heap.size, 0, none⟩), .pointer (some ⟨w.heap.size + 1, 0, none⟩), .pointer (some ⟨w.heap.size + 1 + 1, 0, none⟩), undef, .pointer (some ⟨Bx, 0, none⟩), .pointer (some ⟨w.heap.size, 1, none⟩), .slice A1 l1.length c1, .func (.func 68) #[] #[.pointer (some ⟨w.heap.size + 1 + 1 + 1, 0, none⟩)], .int .i64 x.1, .agg #[.int .i64 x.2.f0, .string x.2.f1], undef, undef, undef, undef, undef, undef, undef, undef, undef, undef, undef], defers := [] })
    (fun x a' _ X Y row hs hg hr => by obtain ⟨Bx, h1, h2, h3⟩ := hs; exact ⟨Bx, h1, keepb h2 hg (fun r e => (hr r e).2), h3⟩)
    ?assign ?body ?done ?stop
  case assign =>
    rintro l pre x W K ⟨⟨i1, i2, i3, i4⟩, hB1⟩ hK
    gi_wp2
    exact hK _ _ ((KeepsOthers.alloc _ _).from _) (Kp2.alloc hB1.size (by omega) _) ⟨⟨⟨by have := i1.1; simp; omega, i1.2⟩, (Below.heap_alloc _ _ _ (by omega)).trans i2, (Below.heap_alloc _ _ _ (by omega)).trans i3, (Below.heap_alloc _ _ _ (by omega)).trans i4⟩, hB1.alloc hB1.size _⟩ ⟨W.heap.size, by omega, World.alloc_heap_new W _, rfl⟩
  case body =>
    rintro l pre x a' W hl ⟨r, hr⟩ ⟨⟨i1, i2, i3, i4⟩, hB1⟩ ⟨Bx, hBx, bX, rfl⟩ hlt
    have x0 : W.cell? ⟨Bx, 0, none⟩ = some (.int .i64 x.2.f0) := by rw [blk_cell bX 0]; rfl
    have x1 : W.cell? ⟨Bx, 1, none⟩ = some (.string x.2.f1) := by rw [blk_cell bX 1]; rfl
    have x2 : W.cell? ⟨w.heap.size + 1, 0, none⟩ = some (.int .i64 at_) := by rw [blk_cell i3 0]; rfl
    have x3 := blk_frozen i4 0
    have x4 : W.cell? ⟨w.heap.size + 1 + 1, 0, none⟩ = some (.string ⟨#[]⟩) := by rw [blk_cell i4 0]; rfl
    have X1 := A_ i1
    have X2 := A_ i2
    have X3 := A_ i3
    have X4 := A_ i4
    have XB := A_ bX
    clear i1 i2 i3 i4 bX
    by_cases hc : x.2.f0 = at_
    · have hcb : (x.2.f0 == at_) = true := beq_iff_eq.mpr hc
      have HC := A_ hc
      clear hc
      gi_wp2
      exact ⟨(KeepsOthers.setCell _ _ _).from _, ⟨rfl, pre, x, rfl, X1.out.2, HC.out, by simpa using blk_set X4.out 0 (.string x.2.f1)⟩, hB1.setCell (p := ⟨w.heap.size + 1 + 1, 0, none⟩) (by simp; omega) _⟩
    · have hcb : (x.2.f0 == at_) = false := beq_eq_false_iff_ne.mpr hc
      have HC := A_ hc
      clear hc
      gi_wp2
      exact ⟨KeepsFrom.refl _ _, Kp2.refl _ _ _, ⟨⟨X1.out.1, fun y hy => (List.mem_append.1 hy).elim (X1.out.2 y) (fun e => by rw [List.mem_singleton.1 e]; exact HC.out)⟩, X2.out, X3.out, X4.out⟩, hB1⟩
  case done =>
    rintro D zs W hD rfl ⟨⟨i1, i2, i3, i4⟩, hB1⟩ hK
    have hno : l1.reverse.find? (fun p => decide (p.f0 = at_)) = none := by
      have e := Lib.bwd_vals l1 z58 0 (Nat.zero_le _)
      rw [List.drop_zero] at e
      rw [← e, List.find?_eq_none]
      intro p hp
      obtain ⟨y, hy, rfl⟩ := List.mem_map.1 hp
      simpa using i1.2 y hy
    have hF := HF.out
    unfold impl_Device_lies.f at hF
    rw [hno] at hF
    by_cases h0 : 0 ≤ at_
    · simp only [if_pos h0] at hF
      by_cases h1 : at_ < (l0.length : Int)
      · rw [if_pos h1] at hF
        obtain rfl := Option.some.inj hF
        obtain ⟨ad, e, hx⟩ := Kd.at_string (Kd.C_below HR0.out hB1) at_ h0 h1
        cases e
        have x0 : W.cell? ⟨w.heap.size, 0, none⟩ = some (.slice (some ad) l0.length c0) := by rw [blk_cell i2 0]; rfl
        have x2 : W.cell? ⟨w.heap.size + 1, 0, none⟩ = some (.int .i64 at_) := by rw [blk_cell i3 0]; rfl
        have x3 := blk_frozen i4 0
        have x4 : W.cell? ⟨w.heap.size + 1 + 1, 0, none⟩ = some (.string ⟨#[]⟩) := by rw [blk_cell i4 0]; rfl
        have X4 := A_ i4
        clear i1 i2 i3 i4 hF hno
        have p0 : (0 ≤ at_) = True := eq_true h0
        have p1 : (at_ < (l0.length : Int)) = True := eq_true h1
        gi_wp2
        have hK' := (KeepsOthers.setCell W ⟨w.heap.size + 1 + 1, 0, none⟩ (.string (rdOf ByteArray.empty l0 at_))).same D _ hK rfl
        refine ⟨by simp, .inl ⟨_, _, rfl, run_takeDeferred hK', ?_⟩⟩
        have hc5 := cell_kept (World.cell?_setCell_same' W ⟨w.heap.size + 1 + 1, 0, none⟩ (.string (rdOf ByteArray.empty l0 at_)) (by rw [x4]; rfl)) (grownBy_putObj' _ D (.deferred none)) (fun r e => by cases e; exact ⟨_, hK', rfl⟩)
        refine ⟨.string (rdOf ByteArray.empty l0 at_), ?_, rfl, (hB1.setCell (p := ⟨w.heap.size + 1 + 1, 0, none⟩) (by simp; omega) _).trans (belowK_b (w := W0) (by omega) _ D _ _ hD hK' rfl rfl)⟩
        simp [results, Tryz.f55, go_sem, hc5]
      · rw [if_neg h1] at hF; cases hF
    · simp only [if_neg h0] at hF; cases hF
  case stop =>
    rintro D c pre W hD hpre ⟨⟨rfl, pre', x, e1, e2, e3, e4⟩, hB1⟩ hK
    have hyes : l1.reverse.find? (fun p => decide (p.f0 = at_)) = some x.2 := by
      obtain ⟨k, hk, e⟩ := hpre
      have e5 := Lib.bwd_vals l1 z58 k hk
      rw [← e, e1] at e5
      have e6 : l1.reverse = (l1.drop k).reverse ++ (l1.take k).reverse := by rw [← List.reverse_append, List.take_append_drop]
      rw [e6, ← e5, List.find?_append, List.map_append, List.find?_append]
      have : (pre'.map (·.2)).find? (fun p => decide (p.f0 = at_)) = none := by
        rw [List.find?_eq_none]
        intro p hp
        obtain ⟨y, hy, rfl⟩ := List.mem_map.1 hp
        simpa using e2 y hy
      rw [this]
      simp [e3]
    have hF := HF.out
    unfold impl_Device_lies.f at hF
    rw [hyes] at hF
    obtain rfl := Option.some.inj hF
    clear hF
    gi_wp2
    refine ⟨by simp, .inl ⟨_, _, rfl, run_takeDeferred hK, ?_⟩⟩
    have hc5 := cell_kept (show W.cell? ⟨w.heap.size + 1 + 1, 0, none⟩ = some (.string x.2.f1) by rw [blk_cell e4 0]; rfl) (grownBy_putObj' _ D (.deferred none)) (fun r e => by cases e; exact ⟨_, hK, rfl⟩)
    refine ⟨.string x.2.f1, ?_, rfl, hB1.trans (belowK_b (w := W0) (by omega) W D _ _ hD hK rfl rfl)⟩
    simp [results, Tryz.f55, go_sem, hc5]

theorem impl_Device_lies.calls (A0 : Option Addr) (c0 : Nat) (l0 : List ByteArray) (A1 : Option Addr) (c1 : Nat) (l1 : List S58) (at_ : Int) (r : ByteArray) (w : World) (hr0 : Kd.C Kd.string w A0 l0.length l0) (hc0 : l0.length ≤ c0) (hr1 : Kd.C k58 w A1 l1.length l1) (hc1 : l1.length ≤ c1) (h : impl_Device_lies.f l0 l1 at_ = some r) :
    Calls Tryz.prog 55 #[.agg #[.slice A0 l0.length c0, .slice A1 l1.length c1], .int .i64 at_] w fun e w' => e = .returned (.string r) ∧ Below w.heap.size w w' :=
  callsIn_wide.1 (lies_in A0 c0 l0 A1 c1 l1 at_ r w hr0 hr1 h)
end

theorem z40a {p_ : Prop} (h_ : p_ := by repeat (first | (with_reducible first | exact HB.out | apply below_alloc | apply pw_below_drewN | apply below_drew1 | refine below_set ?_ GE305.out) | exact HB.out)) : p_ := h_
theorem z40b {p_ : Prop} (h_ : p_ := by (try simp only [List.map_toArray, List.map_cons, List.map_nil]); first | done | rfl | (simp only [List.length_drop, List.length_take]; rfl)) : p_ := h_
theorem z40c {p_ : Prop} (h_ : p_ := by first | rfl | (simp; done) | (simp [*]; done)) : p_ := h_
theorem z40d {p_ : Prop} (h_ : p_ := by (with_reducible repeat (first | refine blk_drewN ?_ _ | refine blk_drew ?_ | refine blk_alloc ?_ _)); exact BK305.out) : p_ := h_
def impl_Device_root.l0 : Nat → Int → Int → ByteArray → Int → List ByteArray → List (S58) → Option (Int × Int × ByteArray)
 | 0, _, _, _, _, _, _ => none
 | k + 1, x5, x6, x7, x12, x306000, x306001 => if x12 < 2 then ((impl_Device_lies.f x306000 x306001 x12).bind fun t306 => ((impl_ReadSlot.f k t306).bind fun bt307 => (if bt307.2.2 = true then (if bt307.1 > x6 then (impl_Device_root.l0 k x12 bt307.1 bt307.2.1 (wrap64 (x12 + 1)) x306000 x306001) else (impl_Device_root.l0 k x5 x6 x7 (wrap64 (x12 + 1)) x306000 x306001)) else (impl_Device_root.l0 k x5 x6 x7 (wrap64 (x12 + 1)) x306000 x306001)))) else (some (x5, x6, x7))
def impl_Device_root.f (k : Nat) (l0_0 : List ByteArray) (l0_1 : List (S58)) : Option (Int × Int × ByteArray) := impl_Device_root.l0 k (-1) 0 (⟨#[]⟩ : ByteArray) 0 l0_0 l0_1
set_option maxHeartbeats 8000000 in
set_option maxRecDepth 100000 in
theorem impl_Device_root.calls (k : Nat) (A0_0 : Option Addr) (c0_0 : Nat) (l0_0 : List ByteArray) (A0_1 : Option Addr) (c0_1 : Nat) (l0_1 : List (S58)) (r1 : Int) (r2 : Int) (r3 : ByteArray) (w : World) (hr0_0 : Kd.C Kd.string w A0_0 l0_0.length l0_0) (hc0_0 : l0_0.length ≤ c0_0) (hr0_1 : Kd.C k58 w A0_1 l0_1.length l0_1) (hc0_1 : l0_1.length ≤ c0_1) (hT : Fmt.TabW w) (h : impl_Device_root.f k l0_0 l0_1 = some (r1, r2, r3)) :
  Calls Tryz.prog 40 #[.agg #[.slice A0_0 l0_0.length c0_0, .slice A0_1 l0_1.length c0_1]] w fun e w' => e = .returned (.tuple #[.int .i64 r1, .int .i64 r2, .string r3]) ∧ Below w.heap.size w w' := by
 have hu29 := Tryz.underlying29
 have HR0_0 := A_ hr0_0
 have HC0_0 := A_ hc0_0
 clear hr0_0 hc0_0
 have HR0_1 := A_ hr0_1
 have HC0_1 := A_ hc0_1
 clear hr0_1 hc0_1
 have HB := A_ (Below.refl w.heap.size w)
 have HT := A_ hT
 clear hT
 have H : (impl_Device_root.l0 k (-1) 0 (⟨#[]⟩ : ByteArray) 0 l0_0 l0_1) = some (r1, r2, r3) := h
 clear h
 have H' := A_ H
 clear H
 go_enter Tryz.func40, Tryz.ntmps40
 go_wp2_with (first | ((with_reducible refine gate_dst (N := 1) rfl ?_); refine box_event ?hg (N := 1) ?hd (cs := #[.slice A0_0 l0_0.length c0_0, .slice A0_1 l0_1.length c0_1]) (t := 29) ?hr ?_; (case hd => rfl); (case hg => rfl); (case hr => first | (go_simp; done) | (go_simp; rfl)); intro gb305 hg w2 hbox hb; have n0_ := A_ (below_step (by repeat (first | (with_reducible first | exact HB.out | apply below_alloc | apply pw_below_drewN | apply below_drew1) | exact HB.out)) hb); have n1_ := A_ (hbox); have n2_ := A_ ((by rw [hg]; exact (below_size (by repeat (first | (with_reducible first | exact HB.out | apply below_alloc | apply pw_below_drewN | apply below_drew1) | exact HB.out))) : w.heap.size ≤ gb305)); have n3_ := A_ ((by rw [hg]; exact (below_size (by repeat (first | (with_reducible first | exact HB.out | apply below_alloc | apply pw_below_drewN | apply below_drew1) | exact HB.out))) : w.heap.size ≤ gb305)); clear HB; have HB := n0_; have BK305 := n1_; have GW305 := n2_; have GE305 := n3_; clear n0_ n1_ n2_ n3_; clear hb hbox hg))
 go_loopg [5, 6, 7, 12] k (fun kq v5 v6 v7 v12 w' => ∃ (x5_1 : Int) (x6_1 : Int) (x7_1 : ByteArray) (x12_1 : Int), v5 = .int .i64 x5_1 ∧ v6 = .int .i64 x6_1 ∧ v7 = .string x7_1 ∧ v12 = .int .i64 x12_1 ∧ Aside0 (impl_Device_root.l0 kq x5_1 x6_1 x7_1 x12_1 l0_0 l0_1 = some (r1, r2, r3)) ∧ Aside0 (kq ≤ k) ∧ Aside0 (w'.heap[gb305]? = some (.cells #[(.slice A0_0 l0_0.length c0_0), (.slice A0_1 l0_1.length c0_1)] 29 (0, 0))) ∧ Aside0 (Below w.heap.size w w'))
 case atStart => exact ⟨((-1)), (0), ((⟨#[]⟩ : ByteArray)), (0), z40c, z40c, z40c, z40c, H', ⟨Nat.le_refl _⟩, ⟨by (with_reducible repeat (first | refine blk_drewN ?_ _ | refine blk_drew ?_ | refine blk_alloc ?_ _)); exact BK305.out⟩, ⟨by repeat (first | (with_reducible first | exact HB.out | apply below_alloc | apply pw_below_drewN | apply below_drew1 | refine below_set ?_ GE305.out) | exact HB.out)⟩⟩
 case round =>
  clear H'
  try clear p2
  obtain ⟨x5_1, x6_1, x7_1, x12_1, rfl, rfl, rfl, rfl, HA, HK1, BK305, HB⟩ := hrel
  cases gk with
  | zero => exact absurd HA.out (by simp [impl_Device_root.l0])
  | succ k1 =>
   have H := HA.out
   clear HA
   simp only [impl_Device_root.l0] at H
   by_cases c3 : x12_1 < 2
   {
   rw [if_pos c3] at H
   have c3b0 : decide (x12_1 < 2) = true := decide_eq_true c3
   clear c3
   replace H := Option.bind_eq_some_iff.mp H
   obtain ⟨t306, A40, H⟩ := H
   (try dsimp only at H)
   have A4 := A_ A40
   clear A40
   replace H := Option.bind_eq_some_iff.mp H
   obtain ⟨⟨t307, t308, t309⟩, A50, H⟩ := H
   (try dsimp only at H)
   have A5 := A_ A50
   clear A50
   by_cases c6 : t309 = true
   {
   subst c6
   have H1 : (if t307 > x6_1 then (impl_Device_root.l0 k1 x12_1 t307 t308 (wrap64 (x12_1 + 1)) l0_0 l0_1) else (impl_Device_root.l0 k1 x5_1 x6_1 x7_1 (wrap64 (x12_1 + 1)) l0_0 l0_1)) = some (r1, r2, r3) := by rw [if_pos rfl] at H; exact H
   clear H
   have H := H1
   clear H1
   by_cases c7 : t307 > x6_1
   {
   rw [if_pos c7] at H
   have c7b0 : decide (x6_1 < t307) = true := decide_eq_true c7
   clear c7
   have H' := A_ H
   clear H
   have hcz8_0 : wr.cell? ⟨gb305, 0, none⟩ = some (.slice A0_0 l0_0.length c0_0) := (blk_cell BK305.out 0).trans rfl
   have hcz8_1 : wr.cell? ⟨gb305, 1, none⟩ = some (.slice A0_1 l0_1.length c0_1) := (blk_cell BK305.out 1).trans rfl
   have hfz8_0 := blk_frozen BK305.out 0
   have hfz8_1 := blk_frozen BK305.out 1
   go_wp2_with (first | ((with_reducible refine gate_callee (f := 55) rfl ?_); refine goesL_ (some 18) rfl rfl Tryz.func55 (by kernel_rfl) rfl #[.agg #[.slice A0_0 l0_0.length c0_0, .slice A0_1 l0_1.length c0_1], .int .i64 x12_1] rfl z40b ?_; (with_reducible refine (impl_Device_lies.calls _ _ l0_0 _ _ l0_1 x12_1 t306 _ ?side1 ?side2 ?side3 ?side4 A4.out).mono ?_); (case side1 => exact (by repeat (first | exact (Kd.C_below HR0_0.out HB.out) | (with_reducible refine Kd.C_alloc ?_ _) | (with_reducible refine Kd.C_drewN ?_ _) | (with_reducible refine Kd.C_drew ?_)))); (case side2 => exact HC0_0.out); (case side3 => exact (by repeat (first | exact (Kd.C_below HR0_1.out HB.out) | (with_reducible refine Kd.C_alloc ?_ _) | (with_reducible refine Kd.C_drewN ?_ _) | (with_reducible refine Kd.C_drew ?_)))); (case side4 => exact HC0_1.out); rintro e w9 ⟨rfl, hb⟩; refine ⟨_, rfl, ?_⟩; replace BK305 := A_ (blk_below (g := gb305) (o := .cells #[.slice A0_0 l0_0.length c0_0, .slice A0_1 l0_1.length c0_1] 29 (0, 0)) z40d hb); replace HB := A_ (below_step z40a hb)) | ((with_reducible refine gate_callee (f := 54) rfl ?_); refine goesL_ (some 19) rfl rfl Tryz.func54 (by kernel_rfl) rfl #[.string t306] rfl z40b ?_; (with_reducible refine (impl_ReadSlot.calls k1 t306 t307 t308 true _ (Fmt.TabW.below HT.out z40a) A5.out).mono ?_); rintro e w10 ⟨rfl, hb⟩; refine ⟨_, rfl, ?_⟩; replace BK305 := A_ (blk_below (g := gb305) (o := .cells #[.slice A0_0 l0_0.length c0_0, .slice A0_1 l0_1.length c0_1] 29 (0, 0)) z40d hb); replace HB := A_ (below_step z40a hb)))
   go_roundg k1
   case measure => have := HK1.out; omega
   case rel => exact ⟨(x12_1), (t307), (t308), (wrap64 (x12_1 + 1)), z40c, z40c, z40c, z40c, H', ⟨by have := HK1.out; omega⟩, ⟨by (with_reducible repeat (first | refine blk_drewN ?_ _ | refine blk_drew ?_ | refine blk_alloc ?_ _)); exact BK305.out⟩, ⟨by repeat (first | (with_reducible first | exact HB.out | apply below_alloc | apply pw_below_drewN | apply below_drew1 | refine below_set ?_ GE305.out) | exact HB.out)⟩⟩
   }
   {
   rw [if_neg c7] at H
   have c7b0 : decide (x6_1 < t307) = false := decide_eq_false c7
   clear c7
   have H' := A_ H
   clear H
   have hcz11_0 : wr.cell? ⟨gb305, 0, none⟩ = some (.slice A0_0 l0_0.length c0_0) := (blk_cell BK305.out 0).trans rfl
   have hcz11_1 : wr.cell? ⟨gb305, 1, none⟩ = some (.slice A0_1 l0_1.length c0_1) := (blk_cell BK305.out 1).trans rfl
   have hfz11_0 := blk_frozen BK305.out 0
   have hfz11_1 := blk_frozen BK305.out 1
   go_wp2_with (first | ((with_reducible refine gate_callee (f := 55) rfl ?_); refine goesL_ (some 18) rfl rfl Tryz.func55 (by kernel_rfl) rfl #[.agg #[.slice A0_0 l0_0.length c0_0, .slice A0_1 l0_1.length c0_1], .int .i64 x12_1] rfl z40b ?_; (with_reducible refine (impl_Device_lies.calls _ _ l0_0 _ _ l0_1 x12_1 t306 _ ?side1 ?side2 ?side3 ?side4 A4.out).mono ?_); (case side1 => exact (by repeat (first | exact (Kd.C_below HR0_0.out HB.out) | (with_reducible refine Kd.C_alloc ?_ _) | (with_reducible refine Kd.C_drewN ?_ _) | (with_reducible refine Kd.C_drew ?_)))); (case side2 => exact HC0_0.out); (case side3 => exact (by repeat (first | exact (Kd.C_below HR0_1.out HB.out) | (with_reducible refine Kd.C_alloc ?_ _) | (with_reducible refine Kd.C_drewN ?_ _) | (with_reducible refine Kd.C_drew ?_)))); (case side4 => exact HC0_1.out); rintro e w12 ⟨rfl, hb⟩; refine ⟨_, rfl, ?_⟩; replace BK305 := A_ (blk_below (g := gb305) (o := .cells #[.slice A0_0 l0_0.length c0_0, .slice A0_1 l0_1.length c0_1] 29 (0, 0)) z40d hb); replace HB := A_ (below_step z40a hb)) | ((with_reducible refine gate_callee (f := 54) rfl ?_); refine goesL_ (some 19) rfl rfl Tryz.func54 (by kernel_rfl) rfl #[.string t306] rfl z40b ?_; (with_reducible refine (impl_ReadSlot.calls k1 t306 t307 t308 true _ (Fmt.TabW.below HT.out z40a) A5.out).mono ?_); rintro e w13 ⟨rfl, hb⟩; refine ⟨_, rfl, ?_⟩; replace BK305 := A_ (blk_below (g := gb305) (o := .cells #[.slice A0_0 l0_0.length c0_0, .slice A0_1 l0_1.length c0_1] 29 (0, 0)) z40d hb); replace HB := A_ (below_step z40a hb)))
   go_roundg k1
   case measure => have := HK1.out; omega
   case rel => exact ⟨(x5_1), (x6_1), (x7_1), (wrap64 (x12_1 + 1)), z40c, z40c, z40c, z40c, H', ⟨by have := HK1.out; omega⟩, ⟨by (with_reducible repeat (first | refine blk_drewN ?_ _ | refine blk_drew ?_ | refine blk_alloc ?_ _)); exact BK305.out⟩, ⟨by repeat (first | (with_reducible first | exact HB.out | apply below_alloc | apply pw_below_drewN | apply below_drew1 | refine below_set ?_ GE305.out) | exact HB.out)⟩⟩
   }
   }
   {
   replace c6 := Bool.eq_false_iff.mpr c6
   subst c6
   have H1 : (impl_Device_root.l0 k1 x5_1 x6_1 x7_1 (wrap64 (x12_1 + 1)) l0_0 l0_1) = some (r1, r2, r3) := by rw [if_neg (show ¬ (false = true) by decide)] at H; exact H
   clear H
   have H := H1
   clear H1
   have H' := A_ H
   clear H
   have hcz14_0 : wr.cell? ⟨gb305, 0, none⟩ = some (.slice A0_0 l0_0.length c0_0) := (blk_cell BK305.out 0).trans rfl
   have hcz14_1 : wr.cell? ⟨gb305, 1, none⟩ = some (.slice A0_1 l0_1.length c0_1) := (blk_cell BK305.out 1).trans rfl
   have hfz14_0 := blk_frozen BK305.out 0
   have hfz14_1 := blk_frozen BK305.out 1
   go_wp2_with (first | ((with_reducible refine gate_callee (f := 55) rfl ?_); refine goesL_ (some 18) rfl rfl Tryz.func55 (by kernel_rfl) rfl #[.agg #[.slice A0_0 l0_0.length c0_0, .slice A0_1 l0_1.length c0_1], .int .i64 x12_1] rfl z40b ?_; (with_reducible refine (impl_Device_lies.calls _ _ l0_0 _ _ l0_1 x12_1 t306 _ ?side1 ?side2 ?side3 ?side4 A4.out).mono ?_); (case side1 => exact (by repeat (first | exact (Kd.C_below HR0_0.out HB.out) | (with_reducible refine Kd.C_alloc ?_ _) | (with_reducible refine Kd.C_drewN ?_ _) | (with_reducible refine Kd.C_drew ?_)))); (case side2 => exact HC0_0.out); (case side3 => exact (by repeat (first | exact (Kd.C_below HR0_1.out HB.out) | (with_reducible refine Kd.C_alloc ?_ _) | (with_reducible refine Kd.C_drewN ?_ _) | (with_reducible refine Kd.C_drew ?_)))); (case side4 => exact HC0_1.out); rintro e w15 ⟨rfl, hb⟩; refine ⟨_, rfl, ?_⟩; replace BK305 := A_ (blk_below (g := gb305) (o := .cells #[.slice A0_0 l0_0.length c0_0, .slice A0_1 l0_1.length c0_1] 29 (0, 0)) z40d hb); replace HB := A_ (below_step z40a hb)) | ((with_reducible refine gate_callee (f := 54) rfl ?_); refine goesL_ (some 19) rfl rfl Tryz.func54 (by kernel_rfl) rfl #[.string t306] rfl z40b ?_; (with_reducible refine (impl_ReadSlot.calls k1 t306 t307 t308 false _ (Fmt.TabW.below HT.out z40a) A5.out).mono ?_); rintro e w16 ⟨rfl, hb⟩; refine ⟨_, rfl, ?_⟩; replace BK305 := A_ (blk_below (g := gb305) (o := .cells #[.slice A0_0 l0_0.length c0_0, .slice A0_1 l0_1.length c0_1] 29 (0, 0)) z40d hb); replace HB := A_ (below_step z40a hb)))
   go_roundg k1
   case measure => have := HK1.out; omega
   case rel => exact ⟨(x5_1), (x6_1), (x7_1), (wrap64 (x12_1 + 1)), z40c, z40c, z40c, z40c, H', ⟨by have := HK1.out; omega⟩, ⟨by (with_reducible repeat (first | refine blk_drewN ?_ _ | refine blk_drew ?_ | refine blk_alloc ?_ _)); exact BK305.out⟩, ⟨by repeat (first | (with_reducible first | exact HB.out | apply below_alloc | apply pw_below_drewN | apply below_drew1 | refine below_set ?_ GE305.out) | exact HB.out)⟩⟩
   }
   }
   {
   rw [if_neg c3] at H
   have c3b0 : decide (x12_1 < 2) = false := decide_eq_false c3
   clear c3
   simp only [Option.some.injEq, Prod.mk.injEq] at H
   obtain ⟨rfl, rfl, rfl⟩ := H
   go_wp2
   go_ret3
   exact ⟨by first | rfl | (simp [errW_none, errW_some] <;> rfl) | (simp [*, errW_none, errW_some] <;> rfl), by repeat (first | (with_reducible first | exact HB.out | apply below_alloc | apply pw_below_drewN | apply below_drew1 | refine below_set ?_ GE305.out) | exact HB.out)⟩
   
   }
end Go.Proofs.YtepcmdmclmfgkaaGreatDoor.PFnExactHalfway

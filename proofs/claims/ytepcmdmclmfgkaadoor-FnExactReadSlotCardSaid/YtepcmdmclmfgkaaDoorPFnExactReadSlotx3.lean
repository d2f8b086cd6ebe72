-- by a program of this session (wip/print/run.py) for this claim
import Derived.Test.YtepcmdmclmfgkaaDoorPFnExactReadSlotx0
import Derived.Test.YtepcmdmclmfgkaaDoorPFnExactReadSlotx2
namespace Go.Proofs.YtepcmdmclmfgkaaDoor.PFnExactReadSlot
open Go.RowKit Go.Proofs.YtepcmdmclmfgkaaDoorW.PrintWords Go.Proofs.YtepcmdmclmfgkaaDoorW.PrintLast Go.Proofs.YtepcmdmclmfgkaaDoorW.PrintMore
attribute [local go_sem] max2_int min2_int max_two min_two max_three min_three max_four min_four   -- for this text's walks alone
set_option linter.unusedVariables false
set_option linter.unusedSimpArgs false

/-! ### impl_Digest: function 25 -/
def impl_Digest.l0 : Nat → ByteArray → Int → Int → Int → Option (Int)
 | 0, _, _, _, _ => none
 | k + 1, x0, x3, x6, x7 => if x7 < x6 then (if 0 ≤ x7 then (if x7 < (x0.size : Int) then (impl_Digest.l0 k x0 (Int.tmod (wrap64 ((wrap64 ((wrap64 (x3 * 1000003)) + (wrap64 (bt x0 x7)))) + 1)) 2147483647) x6 (wrap64 (x7 + 1))) else (none)) else (none)) else (some x3)
def impl_Digest.f (k : Nat) (a0 : ByteArray) : Option (Int) := impl_Digest.l0 k a0 1 (a0.size : Int) 0
theorem impl_Digest.mono_l : ∀ k, (∀ y0 y1 y2 y3, LeO (impl_Digest.l0 k y0 y1 y2 y3) (impl_Digest.l0 (k + 1) y0 y1 y2 y3))
 | 0 => fun _ _ _ _ r h => by simp [impl_Digest.l0] at h
 | k + 1 => by
  have ih0 := impl_Digest.mono_l k
  {
  intro y0 y1 y2 y3
  unfold impl_Digest.l0
  repeat' first
  | (with_reducible exact ih0 _ _ _ _)
  | (with_reducible exact LeO.refl _)
  | (with_reducible exact LeO.none _)
  | (with_reducible refine LeO.ite ?_ ?_)
  | (with_reducible refine LeO.bind ?_ (fun _ => ?_))
  | exact ih0 _ _ _ _
  | exact LeO.none _
  | refine LeO.ite ?_ ?_
  | refine LeO.bind ?_ (fun _ => ?_)
  }
theorem impl_Digest.mono : ∀ a0 k, LeO (impl_Digest.f k a0) (impl_Digest.f (k + 1) a0) := by
 intro a0 k
 have ih0 := impl_Digest.mono_l k
 unfold impl_Digest.f
 repeat' first
   | (with_reducible exact ih0 _ _ _ _)
   | (with_reducible exact LeO.refl _)
   | (with_reducible exact LeO.none _)
   | (with_reducible refine LeO.ite ?_ ?_)
   | (with_reducible refine LeO.bind ?_ (fun _ => ?_))
   | exact ih0 _ _ _ _
   | exact LeO.none _
   | refine LeO.ite ?_ ?_
   | refine LeO.bind ?_ (fun _ => ?_)
set_option maxHeartbeats 8000000 in
set_option maxRecDepth 100000 in
theorem impl_Digest.calls (k : Nat) (a0 : ByteArray) (r : Int) (w : World) (h : impl_Digest.f k a0 = some r) :
  Calls Tryd.prog 25 #[.string a0] w fun e w' => e = .returned (.int .i64 r) ∧ Drawn0 w w' := by
 have H : (impl_Digest.l0 k a0 1 (a0.size : Int) 0) = some r := h
 clear h
 have H' := Aside0.mk H
 clear H
 go_enter Tryd.func25, Tryd.ntmps25
 go_wp2
 go_loopg [3, 7] k (fun kq v3 v7 w' => ∃ (x3_1 : Int) (x7_1 : Int), v3 = .int .i64 x3_1 ∧ v7 = .int .i64 x7_1 ∧ Aside0 (impl_Digest.l0 kq a0 x3_1 (a0.size : Int) x7_1 = some r) ∧ Aside0 (kq ≤ k) ∧ Drawn0 w w')
 case atStart => exact ⟨(1), (0), (by first | rfl | (simp; done) | (simp [*]; done)), (by first | rfl | (simp; done) | (simp [*]; done)), H', ⟨Nat.le_refl _⟩, by repeat (first | exact Drawn0.refl _ | apply Drawn0.step)⟩
 case round =>
  clear H'
  obtain ⟨x3_1, x7_1, rfl, rfl, HA, HK1, ⟨m1, rfl⟩⟩ := hrel
  cases gk with
  | zero => exact absurd HA.out (by simp [impl_Digest.l0])
  | succ k1 =>
   have H := HA.out
   clear HA
   simp only [impl_Digest.l0] at H
   by_cases c2 : x7_1 < (a0.size : Int)
   {
   rw [if_pos c2] at H
   have c2b0 : decide (x7_1 < (a0.size : Int)) = true := decide_eq_true c2
   clear c2
   by_cases c3 : 0 ≤ x7_1
   {
   rw [if_pos c3] at H
   have c3b0 : decide (0 ≤ x7_1) = true := decide_eq_true c3
   clear c3
   by_cases c4 : x7_1 < (a0.size : Int)
   {
   rw [if_pos c4] at H
   have c4b0 : decide (x7_1 < (a0.size : Int)) = true := decide_eq_true c4
   clear c4
   have H' := Aside0.mk H
   clear H
   have p5 : 0 ≤ (x7_1 : Int) := of_decide_eq_true (by first | (with_reducible assumption) | assumption)
   have q5 : x7_1 < (a0.size : Int) := of_decide_eq_true (by first | (with_reducible assumption) | assumption)
   have hx5 := bt_at a0 x7_1
   replace p5 := eq_true p5
   replace q5 := eq_true q5
   go_wp2
   go_roundg k1
   case measure => have := HK1.out; omega
   case rel => exact ⟨(Int.tmod (wrap64 ((wrap64 ((wrap64 (x3_1 * 1000003)) + (wrap64 (bt a0 x7_1)))) + 1)) 2147483647), (wrap64 (x7_1 + 1)), (by first | rfl | (simp; done) | (simp [*]; done)), (by first | rfl | (simp; done) | (simp [*]; done)), H', ⟨by have := HK1.out; omega⟩, by repeat (first | exact Drawn0.refl _ | apply Drawn0.step)⟩
   }
   {
   rw [if_neg c4] at H
   exact absurd H (by simp)
   }
   }
   {
   rw [if_neg c3] at H
   exact absurd H (by simp)
   }
   }
   {
   rw [if_neg c2] at H
   have c2b0 : decide (x7_1 < (a0.size : Int)) = false := decide_eq_false c2
   clear c2
   obtain rfl := Option.some.inj H
   go_wp2
   go_ret
   exact ⟨by first | rfl | (simp; done) | (simp [*]; done), by repeat (first | exact Drawn0.refl _ | apply Drawn0.step)⟩
   
   }
-- NOT PRINTED: function 83 (strconv_small)

-- NOT PRINTED: function 98 (strconv_log10Pow2)

-- NOT PRINTED: function 99 (bits_Len64)

-- NOT PRINTED: function 100 (strconv_bool2_int)

-- NOT PRINTED: function 84 (strconv_numDigits)

-- NOT PRINTED: function 85 (strconv_formatBase10)

-- NOT PRINTED: function 101 (strconv_isPowerOfTwo)

-- NOT PRINTED: function 110 (bits_TrailingZeros32)

-- NOT PRINTED: function 111 (bits_TrailingZeros64)

-- NOT PRINTED: function 102 (bits_TrailingZeros)

-- NOT PRINTED: function 86 (strconv_formatBits)

-- NOT PRINTED: function 75 (strconv_FormatInt_75)

-- NOT PRINTED: function 59 (strconv_FormatInt_59)

/-! ### impl_decimal: function 35 -/
def impl_decimal.f (a0 : Int) : Option ByteArray := if -9223372036854775808 ≤ a0 ∧ a0 ≤ 9223372036854775807 then some (⟨(Lib.itoa a0).toArray⟩ : ByteArray) else none
theorem impl_decimal.calls (a0 : Int) (r : ByteArray) (w : World) (hT : Fmt.TabW w) (h : impl_decimal.f a0 = some r) :
    Calls Tryd.prog 35 #[.int .i64 a0] w fun e w' => e = .returned (.string r) ∧ Below w.heap.size w w' := by
  unfold impl_decimal.f at h
  by_cases h2 : -9223372036854775808 ≤ a0 ∧ a0 ≤ 9223372036854775807
  · rw [if_pos h2] at h
    obtain rfl := Option.some.inj h
    go_enter Tryd.func35, Tryd.ntmps35
    go_wp2_with (first | (go_at_call 59; refine (Fmt.formatInt10 a0 h2.1 h2.2 _ hT).mono ?_; rintro e w' ⟨rfl, hb⟩))
    go_ret
    exact ⟨rfl, hb⟩
  · rw [if_neg h2] at h; cases h

/-! ### impl_within: function 39 -/
def impl_within.f (a0 : Int) (a1 : Int) (a2 : Int) : Option (Bool) := if a0 ≥ a1 then (some (decide (a0 ≤ a2))) else (some false)
set_option maxHeartbeats 8000000 in
set_option maxRecDepth 100000 in
theorem impl_within.calls (a0 : Int) (a1 : Int) (a2 : Int) (r : Bool) (w : World) (h : impl_within.f a0 a1 a2 = some r) :
  Calls Tryd.prog 39 #[.int .i64 a0, .int .i64 a1, .int .i64 a2] w fun e w' => e = .returned (.bool r) ∧ Drawn0 w w' := by
 have H : (if a0 ≥ a1 then (some (decide (a0 ≤ a2))) else (some false)) = some r := h
 clear h
 by_cases c4 : a0 ≥ a1
 {
 rw [if_pos c4] at H
 have c4b0 : decide (a1 ≤ a0) = true := decide_eq_true c4
 clear c4
 obtain rfl := Option.some.inj H
 go_enter Tryd.func39, Tryd.ntmps39
 go_wp2
 go_ret
 exact ⟨by first | rfl | (simp; done) | (simp [*]; done), by repeat (first | exact Drawn0.refl _ | apply Drawn0.step)⟩
 }
 {
 rw [if_neg c4] at H
 have c4b0 : decide (a1 ≤ a0) = false := decide_eq_false c4
 clear c4
 obtain rfl := Option.some.inj H
 go_enter Tryd.func39, Tryd.ntmps39
 go_wp2
 go_ret
 exact ⟨by first | rfl | (simp; done) | (simp [*]; done), by repeat (first | exact Drawn0.refl _ | apply Drawn0.step)⟩
 
 }
/-! ### impl_Slot: function 17 -/
theorem z17a {p_ : Prop} (h_ : p_ := by (try simp only [List.map_toArray, List.map_cons, List.map_nil]); first | done | rfl | (simp only [List.length_drop, List.length_take]; rfl)) : p_ := h_
theorem z17b {p_ : Prop} (h_ : p_ := by repeat (first | (with_reducible first | exact HB.out | apply below_alloc | apply pw_below_drewN | apply below_drew1) | exact HB.out)) : p_ := h_
def impl_Slot.j0 : Nat → Int → ByteArray → Bool → Option (ByteArray)
 | 0, _, _, _ => none
 | k + 1, x0, x1, x12 => if x12 = true then (some (⟨#[]⟩ : ByteArray)) else ((impl_decimal.f x0).bind fun t130 => (if t130.size + 1 ≤ 9223372036854775807 then ((impl_Digest.f k x1).bind fun t131 => ((impl_decimal.f t131).bind fun t132 => (if (t130 ++ (⟨#[32]⟩ : ByteArray)).size + t132.size ≤ 9223372036854775807 then (if ((t130 ++ (⟨#[32]⟩ : ByteArray)) ++ t132).size + 1 ≤ 9223372036854775807 then (if (((t130 ++ (⟨#[32]⟩ : ByteArray)) ++ t132) ++ (⟨#[32]⟩ : ByteArray)).size + x1.size ≤ 9223372036854775807 then (some ((((t130 ++ (⟨#[32]⟩ : ByteArray)) ++ t132) ++ (⟨#[32]⟩ : ByteArray)) ++ x1)) else (none)) else (none)) else (none)))) else (none)))
def impl_Slot.f (k : Nat) (a0 : Int) (a1 : ByteArray) : Option (ByteArray) := (impl_within.f a0 1 1000000).bind fun t129 => (if t129 = true then (impl_Slot.j0 k a0 a1 (decide ((a1.size : Int) > 300))) else (impl_Slot.j0 k a0 a1 true))
theorem impl_Slot.mono_l : ∀ k, (∀ y0 y1 y2, LeO (impl_Slot.j0 k y0 y1 y2) (impl_Slot.j0 (k + 1) y0 y1 y2))
 | 0 => fun _ _ _ r h => by simp [impl_Slot.j0] at h
 | k + 1 => by
  have ih0 := impl_Slot.mono_l k
  {
  intro y0 y1 y2
  unfold impl_Slot.j0
  repeat' first
  | (with_reducible exact ih0 _ _ _)
  | (with_reducible exact impl_Digest.mono _ _)
  | (with_reducible exact LeO.refl _)
  | (with_reducible exact LeO.none _)
  | (with_reducible refine LeO.ite ?_ ?_)
  | (with_reducible refine LeO.bind ?_ (fun _ => ?_))
  | exact ih0 _ _ _
  | exact impl_Digest.mono _ _
  | exact LeO.none _
  | refine LeO.ite ?_ ?_
  | refine LeO.bind ?_ (fun _ => ?_)
  }
theorem impl_Slot.mono : ∀ a0 a1 k, LeO (impl_Slot.f k a0 a1) (impl_Slot.f (k + 1) a0 a1) := by
 intro a0 a1 k
 have ih0 := impl_Slot.mono_l k
 unfold impl_Slot.f
 repeat' first
   | (with_reducible exact ih0 _ _ _)
   | (with_reducible exact impl_Digest.mono _ _)
   | (with_reducible exact LeO.refl _)
   | (with_reducible exact LeO.none _)
   | (with_reducible refine LeO.ite ?_ ?_)
   | (with_reducible refine LeO.bind ?_ (fun _ => ?_))
   | exact ih0 _ _ _
   | exact impl_Digest.mono _ _
   | exact LeO.none _
   | refine LeO.ite ?_ ?_
   | refine LeO.bind ?_ (fun _ => ?_)
set_option maxHeartbeats 8000000 in
set_option maxRecDepth 100000 in
theorem impl_Slot.calls (k : Nat) (a0 : Int) (a1 : ByteArray) (r : ByteArray) (w : World) (hT : Fmt.TabW w) (h : impl_Slot.f k a0 a1 = some r) :
  Calls Tryd.prog 17 #[.int .i64 a0, .string a1] w fun e w' => e = .returned (.string r) ∧ Below w.heap.size w w' := by
 have HB := Aside0.mk (Below.refl w.heap.size w)
 have HT := Aside0.mk hT
 clear hT
 have H : ((impl_within.f a0 1 1000000).bind fun t129 => (if t129 = true then (impl_Slot.j0 k a0 a1 (decide ((a1.size : Int) > 300))) else (impl_Slot.j0 k a0 a1 true))) = some r := h
 clear h
 have HC3 := Aside0.mk H
 clear H
 go_enter Tryd.func17, Tryd.ntmps17
 go_upto_region 1 with (fail)
 go_cut [12] (fun v12 wc => ∃ (kq : Nat) (x12_2 : Bool), v12 = .bool x12_2 ∧ Aside0 (impl_Slot.j0 kq a0 a1 x12_2 = some r) ∧ Aside0 (kq ≤ k) ∧ Aside0 (Below w.heap.size w wc))
 case first =>
  have H := HC3.out
  clear HC3
  replace H := Option.bind_eq_some_iff.mp H
  obtain ⟨t129, A40, H⟩ := H
  replace H : (if t129 = true then (impl_Slot.j0 k a0 a1 (decide ((a1.size : Int) > 300))) else (impl_Slot.j0 k a0 a1 true)) = some r := H
  have A4 := Aside0.mk A40
  clear A40
  by_cases c5 : t129 = true
  {
  subst c5
  have H1 : (impl_Slot.j0 k a0 a1 (decide ((a1.size : Int) > 300))) = some r := by rw [if_pos rfl] at H; exact H
  clear H
  have H := H1
  clear H1
  have H' := Aside0.mk H
  clear H
  go_wp2_with (first | ((with_reducible refine gate_callee (f := 39) rfl ?_); refine goesL_ (some 6) rfl rfl Tryd.func39 (by kernel_rfl) rfl #[.int .i64 a0, .int .i64 1, .int .i64 1000000] rfl z17a ?_; (with_reducible refine (impl_within.calls a0 1 1000000 true _ A4.out).mono ?_); rintro e w' ⟨rfl, ⟨nd, rfl⟩⟩; refine ⟨_, rfl, ?_⟩))
  go_meet
  case rel => exact ⟨_, (decide ((a1.size : Int) > 300)), (by first | rfl | (simp; done) | (simp [*]; done)), H', ⟨by first | omega | exact Nat.le_refl _⟩, ⟨by repeat (first | (with_reducible first | exact HB.out | apply below_alloc | apply pw_below_drewN | apply below_drew1) | exact HB.out)⟩⟩
  }
  {
  replace c5 := Bool.eq_false_iff.mpr c5
  subst c5
  have H1 : (impl_Slot.j0 k a0 a1 true) = some r := by rw [if_neg (show ¬ (false = true) by decide)] at H; exact H
  clear H
  have H := H1
  clear H1
  have H' := Aside0.mk H
  clear H
  go_wp2_with (first | ((with_reducible refine gate_callee (f := 39) rfl ?_); refine goesL_ (some 6) rfl rfl Tryd.func39 (by kernel_rfl) rfl #[.int .i64 a0, .int .i64 1, .int .i64 1000000] rfl z17a ?_; (with_reducible refine (impl_within.calls a0 1 1000000 false _ A4.out).mono ?_); rintro e w' ⟨rfl, ⟨nd, rfl⟩⟩; refine ⟨_, rfl, ?_⟩))
  go_meet
  case rel => exact ⟨_, (true), (by first | rfl | (simp; done) | (simp [*]; done)), H', ⟨by first | omega | exact Nat.le_refl _⟩, ⟨by repeat (first | (with_reducible first | exact HB.out | apply below_alloc | apply pw_below_drewN | apply below_drew1) | exact HB.out)⟩⟩
  }
 case rest =>
  clear HC3
  try clear c1
  try clear p2
  try clear c3
  try clear c5
  obtain ⟨kq, x12_2, rfl, HA, HJ2, HB⟩ := hcut
  cases kq with
  | zero => exact absurd HA.out (by simp [impl_Slot.j0])
  | succ kj2 =>
   have H := HA.out
   clear HA
   simp only [impl_Slot.j0] at H
   by_cases c6 : x12_2 = true
   {
   subst c6
   have H1 : (some (⟨#[]⟩ : ByteArray)) = some r := by rw [if_pos rfl] at H; exact H
   clear H
   have H := H1
   clear H1
   obtain rfl := Option.some.inj H
   go_wp2
   go_ret
   exact ⟨by first | rfl | (simp [errW_none, errW_some] <;> rfl) | (simp [*, errW_none, errW_some] <;> rfl), by repeat (first | (with_reducible first | exact HB.out | apply below_alloc | apply pw_below_drewN | apply below_drew1) | exact HB.out)⟩
   }
   {
   replace c6 := Bool.eq_false_iff.mpr c6
   subst c6
   have H1 : ((impl_decimal.f a0).bind fun t130 => (if t130.size + 1 ≤ 9223372036854775807 then ((impl_Digest.f kj2 a1).bind fun t131 => ((impl_decimal.f t131).bind fun t132 => (if (t130 ++ (⟨#[32]⟩ : ByteArray)).size + t132.size ≤ 9223372036854775807 then (if ((t130 ++ (⟨#[32]⟩ : ByteArray)) ++ t132).size + 1 ≤ 9223372036854775807 then (if (((t130 ++ (⟨#[32]⟩ : ByteArray)) ++ t132) ++ (⟨#[32]⟩ : ByteArray)).size + a1.size ≤ 9223372036854775807 then (some ((((t130 ++ (⟨#[32]⟩ : ByteArray)) ++ t132) ++ (⟨#[32]⟩ : ByteArray)) ++ a1)) else (none)) else (none)) else (none)))) else (none))) = some r := by rw [if_neg (show ¬ (false = true) by decide)] at H; exact H
   clear H
   have H := H1
   clear H1
   replace H := Option.bind_eq_some_iff.mp H
   obtain ⟨t130, A70, H⟩ := H
   replace H : (if t130.size + 1 ≤ 9223372036854775807 then ((impl_Digest.f kj2 a1).bind fun t131 => ((impl_decimal.f t131).bind fun t132 => (if (t130 ++ (⟨#[32]⟩ : ByteArray)).size + t132.size ≤ 9223372036854775807 then (if ((t130 ++ (⟨#[32]⟩ : ByteArray)) ++ t132).size + 1 ≤ 9223372036854775807 then (if (((t130 ++ (⟨#[32]⟩ : ByteArray)) ++ t132) ++ (⟨#[32]⟩ : ByteArray)).size + a1.size ≤ 9223372036854775807 then (some ((((t130 ++ (⟨#[32]⟩ : ByteArray)) ++ t132) ++ (⟨#[32]⟩ : ByteArray)) ++ a1)) else (none)) else (none)) else (none)))) else (none)) = some r := H
   have A7 := Aside0.mk A70
   clear A70
   by_cases c8 : t130.size + 1 ≤ 9223372036854775807
   {
   rw [if_pos c8] at H
   have c8b0 := eq_true c8
   have c8b1 : decide (t130.size + 1 ≤ 9223372036854775807) = true := decide_eq_true c8
   try have c8b2 : (9223372036854775807 < t130.size + 1) = False := eq_false (Nat.not_lt.2 c8)
   replace H := Option.bind_eq_some_iff.mp H
   obtain ⟨t131, A90, H⟩ := H
   replace H : ((impl_decimal.f t131).bind fun t132 => (if (t130 ++ (⟨#[32]⟩ : ByteArray)).size + t132.size ≤ 9223372036854775807 then (if ((t130 ++ (⟨#[32]⟩ : ByteArray)) ++ t132).size + 1 ≤ 9223372036854775807 then (if (((t130 ++ (⟨#[32]⟩ : ByteArray)) ++ t132) ++ (⟨#[32]⟩ : ByteArray)).size + a1.size ≤ 9223372036854775807 then (some ((((t130 ++ (⟨#[32]⟩ : ByteArray)) ++ t132) ++ (⟨#[32]⟩ : ByteArray)) ++ a1)) else (none)) else (none)) else (none))) = some r := H
   have A9 := Aside0.mk A90
   clear A90
   replace H := Option.bind_eq_some_iff.mp H
   obtain ⟨t132, A100, H⟩ := H
   replace H : (if (t130 ++ (⟨#[32]⟩ : ByteArray)).size + t132.size ≤ 9223372036854775807 then (if ((t130 ++ (⟨#[32]⟩ : ByteArray)) ++ t132).size + 1 ≤ 9223372036854775807 then (if (((t130 ++ (⟨#[32]⟩ : ByteArray)) ++ t132) ++ (⟨#[32]⟩ : ByteArray)).size + a1.size ≤ 9223372036854775807 then (some ((((t130 ++ (⟨#[32]⟩ : ByteArray)) ++ t132) ++ (⟨#[32]⟩ : ByteArray)) ++ a1)) else (none)) else (none)) else (none)) = some r := H
   have A10 := Aside0.mk A100
   clear A100
   by_cases c11 : (t130 ++ (⟨#[32]⟩ : ByteArray)).size + t132.size ≤ 9223372036854775807
   {
   rw [if_pos c11] at H
   have c11b0 := eq_true c11
   have c11b1 : decide ((t130 ++ (⟨#[32]⟩ : ByteArray)).size + t132.size ≤ 9223372036854775807) = true := decide_eq_true c11
   try have c11b2 : (9223372036854775807 < (t130 ++ (⟨#[32]⟩ : ByteArray)).size + t132.size) = False := eq_false (Nat.not_lt.2 c11)
   have c11b5 : (9223372036854775807 < t130.size + 1 + t132.size) = False := eq_false (by have hh := c11; simp only [ByteArray.size_append] at hh; have : (⟨#[32]⟩ : ByteArray).size = 1 := rfl; omega)
   by_cases c12 : ((t130 ++ (⟨#[32]⟩ : ByteArray)) ++ t132).size + 1 ≤ 9223372036854775807
   {
   rw [if_pos c12] at H
   have c12b0 := eq_true c12
   have c12b1 : decide (((t130 ++ (⟨#[32]⟩ : ByteArray)) ++ t132).size + 1 ≤ 9223372036854775807) = true := decide_eq_true c12
   try have c12b2 : (9223372036854775807 < ((t130 ++ (⟨#[32]⟩ : ByteArray)) ++ t132).size + 1) = False := eq_false (Nat.not_lt.2 c12)
   have c12b5 : (9223372036854775807 < t130.size + 1 + t132.size + 1) = False := eq_false (by have hh := c12; simp only [ByteArray.size_append] at hh; have : (⟨#[32]⟩ : ByteArray).size = 1 := rfl; omega)
   by_cases c13 : (((t130 ++ (⟨#[32]⟩ : ByteArray)) ++ t132) ++ (⟨#[32]⟩ : ByteArray)).size + a1.size ≤ 9223372036854775807
   {
   rw [if_pos c13] at H
   have c13b0 := eq_true c13
   have c13b1 : decide ((((t130 ++ (⟨#[32]⟩ : ByteArray)) ++ t132) ++ (⟨#[32]⟩ : ByteArray)).size + a1.size ≤ 9223372036854775807) = true := decide_eq_true c13
   try have c13b2 : (9223372036854775807 < (((t130 ++ (⟨#[32]⟩ : ByteArray)) ++ t132) ++ (⟨#[32]⟩ : ByteArray)).size + a1.size) = False := eq_false (Nat.not_lt.2 c13)
   have c13b5 : (9223372036854775807 < t130.size + 1 + t132.size + 1 + a1.size) = False := eq_false (by have hh := c13; simp only [ByteArray.size_append] at hh; have : (⟨#[32]⟩ : ByteArray).size = 1 := rfl; omega)
   obtain rfl := Option.some.inj H
   go_wp2_with (first | ((with_reducible refine gate_callee (f := 35) rfl ?_); refine goesL_ (some 14) rfl rfl Tryd.func35 (by kernel_rfl) rfl #[.int .i64 a0] rfl z17a ?_; (with_reducible refine (impl_decimal.calls a0 t130 _ (Fmt.TabW.below HT.out z17b) A7.out).mono ?_); rintro e w14 ⟨rfl, hb⟩; refine ⟨_, rfl, ?_⟩; have n0_ := Aside0.mk (below_step z17b hb); clear HB; have HB := n0_; clear n0_; (try clear hb); (try clear hb2); (try clear hk); (try clear hi)) | ((with_reducible refine gate_callee (f := 25) rfl ?_); refine goesL_ (some 17) rfl rfl Tryd.func25 (by kernel_rfl) rfl #[.string a1] rfl z17a ?_; (with_reducible refine (impl_Digest.calls kj2 a1 t131 _ A9.out).mono ?_); rintro e w' ⟨rfl, ⟨nd, rfl⟩⟩; refine ⟨_, rfl, ?_⟩) | ((with_reducible refine gate_callee (f := 35) rfl ?_); refine goesL_ (some 18) rfl rfl Tryd.func35 (by kernel_rfl) rfl #[.int .i64 t131] rfl z17a ?_; (with_reducible refine (impl_decimal.calls t131 t132 _ (Fmt.TabW.below HT.out z17b) A10.out).mono ?_); rintro e w15 ⟨rfl, hb⟩; refine ⟨_, rfl, ?_⟩; have n0_ := Aside0.mk (below_step z17b hb); clear HB; have HB := n0_; clear n0_; (try clear hb); (try clear hb2); (try clear hk); (try clear hi)))
   go_ret
   exact ⟨by first | rfl | (simp [errW_none, errW_some] <;> rfl) | (simp [*, errW_none, errW_some] <;> rfl), by repeat (first | (with_reducible first | exact HB.out | apply below_alloc | apply pw_below_drewN | apply below_drew1) | exact HB.out)⟩
   }
   {
   rw [if_neg c13] at H
   exact absurd H (by simp)
   }
   }
   {
   rw [if_neg c12] at H
   exact absurd H (by simp)
   }
   }
   {
   rw [if_neg c11] at H
   exact absurd H (by simp)
   }
   }
   {
   rw [if_neg c8] at H
   exact absurd H (by simp)
   
   }
   }
-- NOT PRINTED: function 103 (bytealg_IndexByteString)

-- NOT PRINTED: function 87 (stringslite_IndexByte)

-- NOT PRINTED: function 88 (bytealg_IndexString)

-- NOT PRINTED: function 89 (bytealg_Cutover)

-- NOT PRINTED: function 104 (bytealg_hashStr_string)

-- NOT PRINTED: function 90 (bytealg_IndexRabinKarp_string)

-- NOT PRINTED: function 76 (stringslite_Index)

-- NOT PRINTED: function 61 (stringslite_Cut)

/-! ### strings_Cut: function 48 -/
def strings_Cut.f (a0 a1 : ByteArray) : Option (ByteArray × ByteArray × Bool) := if a0.size < 4294967281 then some (⟨(Lib.cut a0.data.toList a1.data.toList).1.toArray⟩, ⟨(Lib.cut a0.data.toList a1.data.toList).2.1.toArray⟩, (Lib.cut a0.data.toList a1.data.toList).2.2) else none
theorem strings_Cut.calls (a0 a1 : ByteArray) (r0 r1 : ByteArray) (r2 : Bool) (w : World) (hT : Fmt.TabW w) (h : strings_Cut.f a0 a1 = some (r0, r1, r2)) :
    Calls Tryd.prog 48 #[.string a0, .string a1] w fun e w' => e = .returned (.tuple #[.string r0, .string r1, .bool r2]) ∧ ∃ nd, w' = w.drewN nd := by
  unfold strings_Cut.f at h
  by_cases h2 : a0.size < 4294967281
  · rw [if_pos h2] at h
    simp only [Option.some.injEq, Prod.mk.injEq] at h
    obtain ⟨rfl, rfl, rfl⟩ := h
    exact Fmt.cut a0 a1 h2 w hT
  · rw [if_neg h2] at h; cases h

-- NOT PRINTED: function 91 (stringslite_HasPrefix)

-- NOT PRINTED: function 77 (stringslite_TrimPrefix)

-- NOT PRINTED: function 62 (strings_TrimPrefix)

-- NOT PRINTED: function 105 (strconv_lower)

-- NOT PRINTED: function 106 (strconv_underscoreOK)

-- NOT PRINTED: function 92 (strconv_ParseUint)

-- NOT PRINTED: function 78 (strconv_ParseInt_78)

-- NOT PRINTED: function 107 (stringslite_Clone)

-- NOT PRINTED: function 93 (strconv_syntaxError)

-- NOT PRINTED: function 94 (strconv_rangeError)

-- NOT PRINTED: function 108 (errors_New)

-- NOT PRINTED: function 112 (strconv_Itoa_112)

-- NOT PRINTED: function 109 (strconv_Itoa_109)

-- NOT PRINTED: function 95 (strconv_baseError)

-- NOT PRINTED: function 96 (strconv_bitSizeError)

-- NOT PRINTED: function 79 (strconv_toError)

-- NOT PRINTED: function 63 (strconv_ParseInt_63)

/-! ### impl_number: function 49 -/
def impl_number.f (a0 : ByteArray) : Option (Int × Bool) :=
  if a0.size ≤ 281474976710656 then some (if 10 < (Lib.trimPrefix a0.data.toList [45]).length then (0, false) else (Fmt.parsed a0, Fmt.isOk a0 && ((⟨(Lib.itoa (Fmt.parsed a0)).toArray⟩ : ByteArray).toList == a0.toList))) else none
theorem impl_number.calls (a0 : ByteArray) (r0 : Int) (r1 : Bool) (w : World) (hT : Fmt.TabW w) (h : impl_number.f a0 = some (r0, r1)) :
    Calls Tryd.prog 49 #[.string a0] w fun e w' => e = .returned (.tuple #[.int .i64 r0, .bool r1]) ∧ Below w.heap.size w w' := by
  unfold impl_number.f at h
  by_cases h2 : a0.size ≤ 281474976710656
  · rw [if_pos h2] at h
    have hb : Fmt.isOk a0 = true → -9223372036854775808 ≤ Fmt.parsed a0 ∧ Fmt.parsed a0 ≤ 9223372036854775807 := by
      unfold Fmt.isOk Fmt.parsed
      cases e : Lib.parseIntB 64 a0.data.toList with
      | ok v => intro _; have := Lib.parseIntB_bounds e; simp only at this ⊢; omega
      | _ => intro h; cases h
    have hlen : ((⟨(Lib.trimPrefix a0.data.toList [45]).toArray⟩ : ByteArray).size : Int) = ((Lib.trimPrefix a0.data.toList [45]).length : Int) := by simp [ByteArray.size]
    generalize hn : (Lib.trimPrefix a0.data.toList [45]).length = n at h hlen
    generalize hp : Fmt.parsed a0 = p at h hb
    have htr : ∀ w, Calls Tryd.prog 62 #[.string a0, .string ⟨#[45]⟩] w fun e w' => e = .returned (.string ⟨(Lib.trimPrefix a0.data.toList [45]).toArray⟩) ∧ w' = w := fun w => Fmt.trim a0 ⟨#[45]⟩ w
    generalize (⟨(Lib.trimPrefix a0.data.toList [45]).toArray⟩ : ByteArray) = tr at hlen htr
    have hpa := fun w hT => Fmt.parseInt a0 h2 w hT
    rw [hp] at hpa
    generalize Fmt.isOk a0 = o at h hb hpa
    clear hn hp
    cases o with
    | false =>
      go_enter Tryd.func49, Tryd.ntmps49
      go_wp2_with (first | (go_at_call 62; refine (htr _).mono ?_; rintro e w' ⟨rfl, rfl⟩) | (go_at_call 63; refine (hpa _ hT).mono ?_; rintro e w1 ⟨v, rfl, hv1, hv2, hb1⟩; obtain ⟨ty, pp, rfl⟩ := hv2 (by trivial)))
      · rw [if_pos (by omega)] at h
        simp only [Option.some.injEq, Prod.mk.injEq] at h
        obtain ⟨rfl, rfl⟩ := h
        go_ret2
        exact ⟨rfl, Below.refl _ _⟩
      · rw [if_neg (by omega)] at h
        simp only [Option.some.injEq, Prod.mk.injEq, Bool.false_and] at h
        obtain ⟨rfl, rfl⟩ := h
        go_ret2
        exact ⟨rfl, hb1⟩
    | true =>
      have hdc : ∀ w, Fmt.TabW w → Calls Tryd.prog 35 #[.int .i64 p] w fun e w' => e = .returned (.string (⟨(Lib.itoa p).toArray⟩ : ByteArray)) ∧ Below w.heap.size w w' := fun w hT => impl_decimal.calls p _ w hT (if_pos (hb rfl))
      generalize (⟨(Lib.itoa p).toArray⟩ : ByteArray) = ds at h hdc
      go_enter Tryd.func49, Tryd.ntmps49
      go_wp2_with (first | (go_at_call 62; refine (htr _).mono ?_; rintro e w' ⟨rfl, rfl⟩) | (go_at_call 63; refine (hpa _ hT).mono ?_; rintro e w1 ⟨v, rfl, hv1, hv2, hb1⟩; obtain rfl := hv1 (by trivial)) | (go_at_call 35; refine (hdc _ (hT.below hb1)).mono ?_; rintro e w2 ⟨rfl, hb2⟩))
      · rw [if_pos (by omega)] at h
        simp only [Option.some.injEq, Prod.mk.injEq] at h
        obtain ⟨rfl, rfl⟩ := h
        go_ret2
        exact ⟨rfl, Below.refl _ _⟩
      · rw [if_neg (by omega)] at h
        simp only [Option.some.injEq, Prod.mk.injEq, Bool.true_and] at h
        obtain ⟨rfl, rfl⟩ := h
        go_ret2
        exact ⟨rfl, below_step hb1 hb2⟩
  · rw [if_neg h2] at h; cases h

/-! ### impl_ReadSlot: function 28 -/
theorem z28a {p_ : Prop} (h_ : p_ := by repeat (first | (with_reducible first | exact HB.out | apply below_alloc | apply pw_below_drewN | apply below_drew1) | exact HB.out)) : p_ := h_
theorem z28b {p_ : Prop} (h_ : p_ := by (try simp only [List.map_toArray, List.map_cons, List.map_nil]); first | done | rfl | (simp only [List.length_drop, List.length_take]; rfl)) : p_ := h_
def impl_ReadSlot.f (k : Nat) (a0 : ByteArray) : Option (Int × ByteArray × Bool) := (strings_Cut.f a0 (⟨#[32]⟩ : ByteArray)).bind fun bt133 => ((strings_Cut.f bt133.2.1 (⟨#[32]⟩ : ByteArray)).bind fun bt136 => ((impl_number.f bt133.1).bind fun bt139 => (if bt133.2.2 = true then (if bt136.2.2 = true then (if bt139.2 = true then ((impl_Slot.f k bt139.1 bt136.2.1).bind fun t141 => (if t141.toList = a0.toList then (some (bt139.1, bt136.2.1, true)) else (some (0, (⟨#[]⟩ : ByteArray), false)))) else (some (0, (⟨#[]⟩ : ByteArray), false))) else (some (0, (⟨#[]⟩ : ByteArray), false))) else (some (0, (⟨#[]⟩ : ByteArray), false)))))
theorem impl_ReadSlot.mono : ∀ a0 k, LeO (impl_ReadSlot.f k a0) (impl_ReadSlot.f (k + 1) a0) := by
 intro a0 k
 unfold impl_ReadSlot.f
 repeat' first
   | (with_reducible exact impl_Slot.mono _ _ _)
   | (with_reducible exact LeO.refl _)
   | (with_reducible exact LeO.none _)
   | (with_reducible refine LeO.ite ?_ ?_)
   | (with_reducible refine LeO.bind ?_ (fun _ => ?_))
   | exact impl_Slot.mono _ _ _
   | exact LeO.none _
   | refine LeO.ite ?_ ?_
   | refine LeO.bind ?_ (fun _ => ?_)
set_option maxHeartbeats 8000000 in
set_option maxRecDepth 100000 in
theorem impl_ReadSlot.calls (k : Nat) (a0 : ByteArray) (r1 : Int) (r2 : ByteArray) (r3 : Bool) (w : World) (hT : Fmt.TabW w) (h : impl_ReadSlot.f k a0 = some (r1, r2, r3)) :
  Calls Tryd.prog 28 #[.string a0] w fun e w' => e = .returned (.tuple #[.int .i64 r1, .string r2, .bool r3]) ∧ Below w.heap.size w w' := by
 have HB := Aside0.mk (Below.refl w.heap.size w)
 have HT := Aside0.mk hT
 clear hT
 have H : ((strings_Cut.f a0 (⟨#[32]⟩ : ByteArray)).bind fun bt133 => ((strings_Cut.f bt133.2.1 (⟨#[32]⟩ : ByteArray)).bind fun bt136 => ((impl_number.f bt133.1).bind fun bt139 => (if bt133.2.2 = true then (if bt136.2.2 = true then (if bt139.2 = true then ((impl_Slot.f k bt139.1 bt136.2.1).bind fun t141 => (if t141.toList = a0.toList then (some (bt139.1, bt136.2.1, true)) else (some (0, (⟨#[]⟩ : ByteArray), false)))) else (some (0, (⟨#[]⟩ : ByteArray), false))) else (some (0, (⟨#[]⟩ : ByteArray), false))) else (some (0, (⟨#[]⟩ : ByteArray), false)))))) = some (r1, r2, r3) := h
 clear h
 replace H := Option.bind_eq_some_iff.mp H
 obtain ⟨⟨t133, t134, t135⟩, A20, H⟩ := H
 replace H : ((strings_Cut.f t134 (⟨#[32]⟩ : ByteArray)).bind fun bt136 => ((impl_number.f t133).bind fun bt139 => (if t135 = true then (if bt136.2.2 = true then (if bt139.2 = true then ((impl_Slot.f k bt139.1 bt136.2.1).bind fun t141 => (if t141.toList = a0.toList then (some (bt139.1, bt136.2.1, true)) else (some (0, (⟨#[]⟩ : ByteArray), false)))) else (some (0, (⟨#[]⟩ : ByteArray), false))) else (some (0, (⟨#[]⟩ : ByteArray), false))) else (some (0, (⟨#[]⟩ : ByteArray), false))))) = some (r1, r2, r3) := H
 have A2 := Aside0.mk A20
 clear A20
 replace H := Option.bind_eq_some_iff.mp H
 obtain ⟨⟨t136, t137, t138⟩, A30, H⟩ := H
 replace H : ((impl_number.f t133).bind fun bt139 => (if t135 = true then (if t138 = true then (if bt139.2 = true then ((impl_Slot.f k bt139.1 t137).bind fun t141 => (if t141.toList = a0.toList then (some (bt139.1, t137, true)) else (some (0, (⟨#[]⟩ : ByteArray), false)))) else (some (0, (⟨#[]⟩ : ByteArray), false))) else (some (0, (⟨#[]⟩ : ByteArray), false))) else (some (0, (⟨#[]⟩ : ByteArray), false)))) = some (r1, r2, r3) := H
 have A3 := Aside0.mk A30
 clear A30
 replace H := Option.bind_eq_some_iff.mp H
 obtain ⟨⟨t139, t140⟩, A40, H⟩ := H
 replace H : (if t135 = true then (if t138 = true then (if t140 = true then ((impl_Slot.f k t139 t137).bind fun t141 => (if t141.toList = a0.toList then (some (t139, t137, true)) else (some (0, (⟨#[]⟩ : ByteArray), false)))) else (some (0, (⟨#[]⟩ : ByteArray), false))) else (some (0, (⟨#[]⟩ : ByteArray), false))) else (some (0, (⟨#[]⟩ : ByteArray), false))) = some (r1, r2, r3) := H
 have A4 := Aside0.mk A40
 clear A40
 by_cases c5 : t135 = true
 {
 subst c5
 have H1 : (if t138 = true then (if t140 = true then ((impl_Slot.f k t139 t137).bind fun t141 => (if t141.toList = a0.toList then (some (t139, t137, true)) else (some (0, (⟨#[]⟩ : ByteArray), false)))) else (some (0, (⟨#[]⟩ : ByteArray), false))) else (some (0, (⟨#[]⟩ : ByteArray), false))) = some (r1, r2, r3) := by rw [if_pos rfl] at H; exact H
 clear H
 have H := H1
 clear H1
 by_cases c6 : t138 = true
 {
 subst c6
 have H1 : (if t140 = true then ((impl_Slot.f k t139 t137).bind fun t141 => (if t141.toList = a0.toList then (some (t139, t137, true)) else (some (0, (⟨#[]⟩ : ByteArray), false)))) else (some (0, (⟨#[]⟩ : ByteArray), false))) = some (r1, r2, r3) := by rw [if_pos rfl] at H; exact H
 clear H
 have H := H1
 clear H1
 by_cases c7 : t140 = true
 {
 subst c7
 have H1 : ((impl_Slot.f k t139 t137).bind fun t141 => (if t141.toList = a0.toList then (some (t139, t137, true)) else (some (0, (⟨#[]⟩ : ByteArray), false)))) = some (r1, r2, r3) := by rw [if_pos rfl] at H; exact H
 clear H
 have H := H1
 clear H1
 replace H := Option.bind_eq_some_iff.mp H
 obtain ⟨t141, A80, H⟩ := H
 replace H : (if t141.toList = a0.toList then (some (t139, t137, true)) else (some (0, (⟨#[]⟩ : ByteArray), false))) = some (r1, r2, r3) := H
 have A8 := Aside0.mk A80
 clear A80
 by_cases c9 : t141.toList = a0.toList
 {
 rw [if_pos c9] at H
 have c9b0 : (t141.toList == a0.toList) = true := beq_iff_eq.mpr c9
 have c9b1 : (t141.toList != a0.toList) = false := bne_eq_false_iff_eq.mpr c9
 clear c9
 simp only [Option.some.injEq, Prod.mk.injEq] at H
 obtain ⟨rfl, rfl, rfl⟩ := H
 go_enter Tryd.func28, Tryd.ntmps28
 go_wp2_with (first | ((with_reducible refine gate_callee (f := 48) rfl ?_); refine goesL_ (some 15) rfl rfl Tryd.func48 (by kernel_rfl) rfl #[.string a0, .string (⟨#[32]⟩ : ByteArray)] rfl z28b ?_; (with_reducible refine (strings_Cut.calls a0 (⟨#[32]⟩ : ByteArray) t133 t134 true _ (Fmt.TabW.below HT.out z28a) A2.out).mono ?_); rintro e w' ⟨rfl, ⟨nd, rfl⟩⟩; refine ⟨_, rfl, ?_⟩) | ((with_reducible refine gate_callee (f := 48) rfl ?_); refine goesL_ (some 21) rfl rfl Tryd.func48 (by kernel_rfl) rfl #[.string t134, .string (⟨#[32]⟩ : ByteArray)] rfl z28b ?_; (with_reducible refine (strings_Cut.calls t134 (⟨#[32]⟩ : ByteArray) t136 t137 true _ (Fmt.TabW.below HT.out z28a) A3.out).mono ?_); rintro e w' ⟨rfl, ⟨nd, rfl⟩⟩; refine ⟨_, rfl, ?_⟩) | ((with_reducible refine gate_callee (f := 49) rfl ?_); refine goesL_ (some 27) rfl rfl Tryd.func49 (by kernel_rfl) rfl #[.string t133] rfl z28b ?_; (with_reducible refine (impl_number.calls t133 t139 true _ (Fmt.TabW.below HT.out z28a) A4.out).mono ?_); rintro e w10 ⟨rfl, hb⟩; refine ⟨_, rfl, ?_⟩; have n0_ := Aside0.mk (below_step z28a hb); clear HB; have HB := n0_; clear n0_; (try clear hb); (try clear hb2); (try clear hk); (try clear hi)) | (go_at_call 17; (with_reducible refine (impl_Slot.calls k t139 t137 t141 _ (Fmt.TabW.below HT.out z28a) A8.out).mono ?_); rintro e w11 ⟨rfl, hb⟩; have n0_ := Aside0.mk (below_step z28a hb); clear HB; have HB := n0_; clear n0_; (try clear hb); (try clear hb2); (try clear hk); (try clear hi)))
 go_ret3
 exact ⟨by first | rfl | (simp [errW_none, errW_some] <;> rfl) | (simp [*, errW_none, errW_some] <;> rfl), by repeat (first | (with_reducible first | exact HB.out | apply below_alloc | apply pw_below_drewN | apply below_drew1) | exact HB.out)⟩
 }
 {
 rw [if_neg c9] at H
 have c9b0 : (t141.toList == a0.toList) = false := beq_eq_false_iff_ne.mpr c9
 have c9b1 : (t141.toList != a0.toList) = true := bne_iff_ne.mpr c9
 simp only [Option.some.injEq, Prod.mk.injEq] at H
 obtain ⟨rfl, rfl, rfl⟩ := H
 go_enter Tryd.func28, Tryd.ntmps28
 go_wp2_with (first | ((with_reducible refine gate_callee (f := 48) rfl ?_); refine goesL_ (some 15) rfl rfl Tryd.func48 (by kernel_rfl) rfl #[.string a0, .string (⟨#[32]⟩ : ByteArray)] rfl z28b ?_; (with_reducible refine (strings_Cut.calls a0 (⟨#[32]⟩ : ByteArray) t133 t134 true _ (Fmt.TabW.below HT.out z28a) A2.out).mono ?_); rintro e w' ⟨rfl, ⟨nd, rfl⟩⟩; refine ⟨_, rfl, ?_⟩) | ((with_reducible refine gate_callee (f := 48) rfl ?_); refine goesL_ (some 21) rfl rfl Tryd.func48 (by kernel_rfl) rfl #[.string t134, .string (⟨#[32]⟩ : ByteArray)] rfl z28b ?_; (with_reducible refine (strings_Cut.calls t134 (⟨#[32]⟩ : ByteArray) t136 t137 true _ (Fmt.TabW.below HT.out z28a) A3.out).mono ?_); rintro e w' ⟨rfl, ⟨nd, rfl⟩⟩; refine ⟨_, rfl, ?_⟩) | ((with_reducible refine gate_callee (f := 49) rfl ?_); refine goesL_ (some 27) rfl rfl Tryd.func49 (by kernel_rfl) rfl #[.string t133] rfl z28b ?_; (with_reducible refine (impl_number.calls t133 t139 true _ (Fmt.TabW.below HT.out z28a) A4.out).mono ?_); rintro e w12 ⟨rfl, hb⟩; refine ⟨_, rfl, ?_⟩; have n0_ := Aside0.mk (below_step z28a hb); clear HB; have HB := n0_; clear n0_; (try clear hb); (try clear hb2); (try clear hk); (try clear hi)) | (go_at_call 17; (with_reducible refine (impl_Slot.calls k t139 t137 t141 _ (Fmt.TabW.below HT.out z28a) A8.out).mono ?_); rintro e w13 ⟨rfl, hb⟩; have n0_ := Aside0.mk (below_step z28a hb); clear HB; have HB := n0_; clear n0_; (try clear hb); (try clear hb2); (try clear hk); (try clear hi)))
 go_ret3
 exact ⟨by first | rfl | (simp [errW_none, errW_some] <;> rfl) | (simp [*, errW_none, errW_some] <;> rfl), by repeat (first | (with_reducible first | exact HB.out | apply below_alloc | apply pw_below_drewN | apply below_drew1) | exact HB.out)⟩
 }
 }
 {
 replace c7 := Bool.eq_false_iff.mpr c7
 subst c7
 have H1 : (some (0, (⟨#[]⟩ : ByteArray), false)) = some (r1, r2, r3) := by rw [if_neg (show ¬ (false = true) by decide)] at H; exact H
 clear H
 have H := H1
 clear H1
 simp only [Option.some.injEq, Prod.mk.injEq] at H
 obtain ⟨rfl, rfl, rfl⟩ := H
 go_enter Tryd.func28, Tryd.ntmps28
 go_wp2_with (first | ((with_reducible refine gate_callee (f := 48) rfl ?_); refine goesL_ (some 15) rfl rfl Tryd.func48 (by kernel_rfl) rfl #[.string a0, .string (⟨#[32]⟩ : ByteArray)] rfl z28b ?_; (with_reducible refine (strings_Cut.calls a0 (⟨#[32]⟩ : ByteArray) t133 t134 true _ (Fmt.TabW.below HT.out z28a) A2.out).mono ?_); rintro e w' ⟨rfl, ⟨nd, rfl⟩⟩; refine ⟨_, rfl, ?_⟩) | ((with_reducible refine gate_callee (f := 48) rfl ?_); refine goesL_ (some 21) rfl rfl Tryd.func48 (by kernel_rfl) rfl #[.string t134, .string (⟨#[32]⟩ : ByteArray)] rfl z28b ?_; (with_reducible refine (strings_Cut.calls t134 (⟨#[32]⟩ : ByteArray) t136 t137 true _ (Fmt.TabW.below HT.out z28a) A3.out).mono ?_); rintro e w' ⟨rfl, ⟨nd, rfl⟩⟩; refine ⟨_, rfl, ?_⟩) | ((with_reducible refine gate_callee (f := 49) rfl ?_); refine goesL_ (some 27) rfl rfl Tryd.func49 (by kernel_rfl) rfl #[.string t133] rfl z28b ?_; (with_reducible refine (impl_number.calls t133 t139 false _ (Fmt.TabW.below HT.out z28a) A4.out).mono ?_); rintro e w14 ⟨rfl, hb⟩; refine ⟨_, rfl, ?_⟩; have n0_ := Aside0.mk (below_step z28a hb); clear HB; have HB := n0_; clear n0_; (try clear hb); (try clear hb2); (try clear hk); (try clear hi)))
 go_ret3
 exact ⟨by first | rfl | (simp [errW_none, errW_some] <;> rfl) | (simp [*, errW_none, errW_some] <;> rfl), by repeat (first | (with_reducible first | exact HB.out | apply below_alloc | apply pw_below_drewN | apply below_drew1) | exact HB.out)⟩
 }
 }
 {
 replace c6 := Bool.eq_false_iff.mpr c6
 subst c6
 have H1 : (some (0, (⟨#[]⟩ : ByteArray), false)) = some (r1, r2, r3) := by rw [if_neg (show ¬ (false = true) by decide)] at H; exact H
 clear H
 have H := H1
 clear H1
 simp only [Option.some.injEq, Prod.mk.injEq] at H
 obtain ⟨rfl, rfl, rfl⟩ := H
 go_enter Tryd.func28, Tryd.ntmps28
 go_wp2_with (first | ((with_reducible refine gate_callee (f := 48) rfl ?_); refine goesL_ (some 15) rfl rfl Tryd.func48 (by kernel_rfl) rfl #[.string a0, .string (⟨#[32]⟩ : ByteArray)] rfl z28b ?_; (with_reducible refine (strings_Cut.calls a0 (⟨#[32]⟩ : ByteArray) t133 t134 true _ (Fmt.TabW.below HT.out z28a) A2.out).mono ?_); rintro e w' ⟨rfl, ⟨nd, rfl⟩⟩; refine ⟨_, rfl, ?_⟩) | ((with_reducible refine gate_callee (f := 48) rfl ?_); refine goesL_ (some 21) rfl rfl Tryd.func48 (by kernel_rfl) rfl #[.string t134, .string (⟨#[32]⟩ : ByteArray)] rfl z28b ?_; (with_reducible refine (strings_Cut.calls t134 (⟨#[32]⟩ : ByteArray) t136 t137 false _ (Fmt.TabW.below HT.out z28a) A3.out).mono ?_); rintro e w' ⟨rfl, ⟨nd, rfl⟩⟩; refine ⟨_, rfl, ?_⟩) | ((with_reducible refine gate_callee (f := 49) rfl ?_); refine goesL_ (some 27) rfl rfl Tryd.func49 (by kernel_rfl) rfl #[.string t133] rfl z28b ?_; (with_reducible refine (impl_number.calls t133 t139 t140 _ (Fmt.TabW.below HT.out z28a) A4.out).mono ?_); rintro e w15 ⟨rfl, hb⟩; refine ⟨_, rfl, ?_⟩; have n0_ := Aside0.mk (below_step z28a hb); clear HB; have HB := n0_; clear n0_; (try clear hb); (try clear hb2); (try clear hk); (try clear hi)))
 go_ret3
 exact ⟨by first | rfl | (simp [errW_none, errW_some] <;> rfl) | (simp [*, errW_none, errW_some] <;> rfl), by repeat (first | (with_reducible first | exact HB.out | apply below_alloc | apply pw_below_drewN | apply below_drew1) | exact HB.out)⟩
 }
 }
 {
 replace c5 := Bool.eq_false_iff.mpr c5
 subst c5
 have H1 : (some (0, (⟨#[]⟩ : ByteArray), false)) = some (r1, r2, r3) := by rw [if_neg (show ¬ (false = true) by decide)] at H; exact H
 clear H
 have H := H1
 clear H1
 simp only [Option.some.injEq, Prod.mk.injEq] at H
 obtain ⟨rfl, rfl, rfl⟩ := H
 go_enter Tryd.func28, Tryd.ntmps28
 go_wp2_with (first | ((with_reducible refine gate_callee (f := 48) rfl ?_); refine goesL_ (some 15) rfl rfl Tryd.func48 (by kernel_rfl) rfl #[.string a0, .string (⟨#[32]⟩ : ByteArray)] rfl z28b ?_; (with_reducible refine (strings_Cut.calls a0 (⟨#[32]⟩ : ByteArray) t133 t134 false _ (Fmt.TabW.below HT.out z28a) A2.out).mono ?_); rintro e w' ⟨rfl, ⟨nd, rfl⟩⟩; refine ⟨_, rfl, ?_⟩) | ((with_reducible refine gate_callee (f := 48) rfl ?_); refine goesL_ (some 21) rfl rfl Tryd.func48 (by kernel_rfl) rfl #[.string t134, .string (⟨#[32]⟩ : ByteArray)] rfl z28b ?_; (with_reducible refine (strings_Cut.calls t134 (⟨#[32]⟩ : ByteArray) t136 t137 t138 _ (Fmt.TabW.below HT.out z28a) A3.out).mono ?_); rintro e w' ⟨rfl, ⟨nd, rfl⟩⟩; refine ⟨_, rfl, ?_⟩) | ((with_reducible refine gate_callee (f := 49) rfl ?_); refine goesL_ (some 27) rfl rfl Tryd.func49 (by kernel_rfl) rfl #[.string t133] rfl z28b ?_; (with_reducible refine (impl_number.calls t133 t139 t140 _ (Fmt.TabW.below HT.out z28a) A4.out).mono ?_); rintro e w16 ⟨rfl, hb⟩; refine ⟨_, rfl, ?_⟩; have n0_ := Aside0.mk (below_step z28a hb); clear HB; have HB := n0_; clear n0_; (try clear hb); (try clear hb2); (try clear hk); (try clear hi)))
 go_ret3
 exact ⟨by first | rfl | (simp [errW_none, errW_some] <;> rfl) | (simp [*, errW_none, errW_some] <;> rfl), by repeat (first | (with_reducible first | exact HB.out | apply below_alloc | apply pw_below_drewN | apply below_drew1) | exact HB.out)⟩
 
 }
/-! ### laws_FnExactReadSlot: function 8 -/
theorem z8a {p_ : Prop} (h_ : p_ := by repeat (first | (with_reducible first | exact HB.out | apply below_alloc | apply pw_below_drewN | apply below_drew1) | exact HB.out)) : p_ := h_
theorem z8b {p_ : Prop} (h_ : p_ := by (try simp only [List.map_toArray, List.map_cons, List.map_nil]); first | done | rfl | (simp only [List.length_drop, List.length_take]; rfl)) : p_ := h_
def laws_FnExactReadSlot.f (k : Nat) (a0 : ByteArray) : Option (Bool) := if (a0.size : Int) > 1048576 then (some true) else ((spec_ReadSlot.f k a0).bind fun bt142 => ((impl_ReadSlot.f k a0).bind fun bt145 => (if bt145.1 = bt142.1 then (if bt145.2.1.toList = bt142.2.1.toList then (if (bt145.2.2 != bt142.2.2) = true then (some false) else (some true)) else (some false)) else (some false))))
theorem laws_FnExactReadSlot.mono : ∀ a0 k, LeO (laws_FnExactReadSlot.f k a0) (laws_FnExactReadSlot.f (k + 1) a0) := by
 intro a0 k
 unfold laws_FnExactReadSlot.f
 repeat' first
   | (with_reducible exact impl_ReadSlot.mono _ _)
   | (with_reducible exact spec_ReadSlot.mono _ _)
   | (with_reducible exact LeO.refl _)
   | (with_reducible exact LeO.none _)
   | (with_reducible refine LeO.ite ?_ ?_)
   | (with_reducible refine LeO.bind ?_ (fun _ => ?_))
   | exact impl_ReadSlot.mono _ _
   | exact spec_ReadSlot.mono _ _
   | exact LeO.none _
   | refine LeO.ite ?_ ?_
   | refine LeO.bind ?_ (fun _ => ?_)
set_option maxHeartbeats 8000000 in
set_option maxRecDepth 100000 in
theorem laws_FnExactReadSlot.calls (k : Nat) (a0 : ByteArray) (r : Bool) (w : World) (hT : Fmt.TabW w) (h : laws_FnExactReadSlot.f k a0 = some r) :
  Calls Tryd.prog 8 #[.string a0] w fun e w' => e = .returned (.bool r) ∧ Below w.heap.size w w' := by
 have HB := Aside0.mk (Below.refl w.heap.size w)
 have HT := Aside0.mk hT
 clear hT
 have H : (if (a0.size : Int) > 1048576 then (some true) else ((spec_ReadSlot.f k a0).bind fun bt142 => ((impl_ReadSlot.f k a0).bind fun bt145 => (if bt145.1 = bt142.1 then (if bt145.2.1.toList = bt142.2.1.toList then (if (bt145.2.2 != bt142.2.2) = true then (some false) else (some true)) else (some false)) else (some false))))) = some r := h
 clear h
 by_cases c2 : (a0.size : Int) > 1048576
 {
 rw [if_pos c2] at H
 have c2b0 : decide (1048576 < (a0.size : Int)) = true := decide_eq_true c2
 have c2b1 : decide (1048576 < a0.size) = true := decide_eq_true (by omega)
 clear c2
 obtain rfl := Option.some.inj H
 go_enter Tryd.func8, Tryd.ntmps8
 go_wp2
 go_ret
 exact ⟨by first | rfl | (simp [errW_none, errW_some] <;> rfl) | (simp [*, errW_none, errW_some] <;> rfl), by repeat (first | (with_reducible first | exact HB.out | apply below_alloc | apply pw_below_drewN | apply below_drew1) | exact HB.out)⟩
 }
 {
 rw [if_neg c2] at H
 have c2b0 : decide (1048576 < (a0.size : Int)) = false := decide_eq_false c2
 have c2b1 : decide (1048576 < a0.size) = false := decide_eq_false (by omega)
 clear c2
 replace H := Option.bind_eq_some_iff.mp H
 obtain ⟨⟨t142, t143, t144⟩, A30, H⟩ := H
 replace H : ((impl_ReadSlot.f k a0).bind fun bt145 => (if bt145.1 = t142 then (if bt145.2.1.toList = t143.toList then (if (bt145.2.2 != t144) = true then (some false) else (some true)) else (some false)) else (some false))) = some r := H
 have A3 := Aside0.mk A30
 clear A30
 replace H := Option.bind_eq_some_iff.mp H
 obtain ⟨⟨t145, t146, t147⟩, A40, H⟩ := H
 replace H : (if t145 = t142 then (if t146.toList = t143.toList then (if (t147 != t144) = true then (some false) else (some true)) else (some false)) else (some false)) = some r := H
 have A4 := Aside0.mk A40
 clear A40
 by_cases c5 : t145 = t142
 {
 rw [if_pos c5] at H
 have c5b0 : (t145 == t142) = true := beq_iff_eq.mpr c5
 have c5b1 : (t145 != t142) = false := bne_eq_false_iff_eq.mpr c5
 clear c5
 by_cases c6 : t146.toList = t143.toList
 {
 rw [if_pos c6] at H
 have c6b0 : (t146.toList == t143.toList) = true := beq_iff_eq.mpr c6
 have c6b1 : (t146.toList != t143.toList) = false := bne_eq_false_iff_eq.mpr c6
 clear c6
 by_cases c7 : (t147 != t144) = true
 {
 rw [if_pos c7] at H
 have c7b0 : (t147 != t144) = true := c7
 (try (have c7b1 : decide (t147 = t144) = false := by simpa using c7))
 (try (have c7b2 : (t147 == t144) = false := by simpa using c7))
 (try (have c7b3 : ¬ (t147 = t144) := by simpa using c7))
 clear c7
 obtain rfl := Option.some.inj H
 go_enter Tryd.func8, Tryd.ntmps8
 go_wp2_with (first | ((with_reducible refine gate_callee (f := 27) rfl ?_); refine goesL_ (some 14) rfl rfl Tryd.func27 (by kernel_rfl) rfl #[.string a0] rfl z8b ?_; (with_reducible refine (spec_ReadSlot.calls k a0 t142 t143 t144 _ A3.out).mono ?_); rintro e w8 ⟨rfl, hb⟩; refine ⟨_, rfl, ?_⟩; have n0_ := Aside0.mk (below_step z8a hb); clear HB; have HB := n0_; clear n0_; (try clear hb); (try clear hb2); (try clear hk); (try clear hi)) | ((with_reducible refine gate_callee (f := 28) rfl ?_); refine goesL_ (some 20) rfl rfl Tryd.func28 (by kernel_rfl) rfl #[.string a0] rfl z8b ?_; (with_reducible refine (impl_ReadSlot.calls k a0 t145 t146 t147 _ (Fmt.TabW.below HT.out z8a) A4.out).mono ?_); rintro e w9 ⟨rfl, hb⟩; refine ⟨_, rfl, ?_⟩; have n0_ := Aside0.mk (below_step z8a hb); clear HB; have HB := n0_; clear n0_; (try clear hb); (try clear hb2); (try clear hk); (try clear hi)))
 go_ret
 exact ⟨by first | rfl | (simp [errW_none, errW_some] <;> rfl) | (simp [*, errW_none, errW_some] <;> rfl), by repeat (first | (with_reducible first | exact HB.out | apply below_alloc | apply pw_below_drewN | apply below_drew1) | exact HB.out)⟩
 }
 {
 rw [if_neg c7] at H
 have c7b0 : (t147 != t144) = false := by simpa using c7
 (try (have c7b1 : decide (t147 = t144) = true := by simpa using c7))
 (try (have c7b2 : (t147 == t144) = true := by simpa using c7))
 clear c7
 obtain rfl := Option.some.inj H
 go_enter Tryd.func8, Tryd.ntmps8
 go_wp2_with (first | ((with_reducible refine gate_callee (f := 27) rfl ?_); refine goesL_ (some 14) rfl rfl Tryd.func27 (by kernel_rfl) rfl #[.string a0] rfl z8b ?_; (with_reducible refine (spec_ReadSlot.calls k a0 t142 t143 t144 _ A3.out).mono ?_); rintro e w10 ⟨rfl, hb⟩; refine ⟨_, rfl, ?_⟩; have n0_ := Aside0.mk (below_step z8a hb); clear HB; have HB := n0_; clear n0_; (try clear hb); (try clear hb2); (try clear hk); (try clear hi)) | ((with_reducible refine gate_callee (f := 28) rfl ?_); refine goesL_ (some 20) rfl rfl Tryd.func28 (by kernel_rfl) rfl #[.string a0] rfl z8b ?_; (with_reducible refine (impl_ReadSlot.calls k a0 t145 t146 t147 _ (Fmt.TabW.below HT.out z8a) A4.out).mono ?_); rintro e w11 ⟨rfl, hb⟩; refine ⟨_, rfl, ?_⟩; have n0_ := Aside0.mk (below_step z8a hb); clear HB; have HB := n0_; clear n0_; (try clear hb); (try clear hb2); (try clear hk); (try clear hi)))
 go_ret
 exact ⟨by first | rfl | (simp [errW_none, errW_some] <;> rfl) | (simp [*, errW_none, errW_some] <;> rfl), by repeat (first | (with_reducible first | exact HB.out | apply below_alloc | apply pw_below_drewN | apply below_drew1) | exact HB.out)⟩
 }
 }
 {
 rw [if_neg c6] at H
 have c6b0 : (t146.toList == t143.toList) = false := beq_eq_false_iff_ne.mpr c6
 have c6b1 : (t146.toList != t143.toList) = true := bne_iff_ne.mpr c6
 obtain rfl := Option.some.inj H
 go_enter Tryd.func8, Tryd.ntmps8
 go_wp2_with (first | ((with_reducible refine gate_callee (f := 27) rfl ?_); refine goesL_ (some 14) rfl rfl Tryd.func27 (by kernel_rfl) rfl #[.string a0] rfl z8b ?_; (with_reducible refine (spec_ReadSlot.calls k a0 t142 t143 t144 _ A3.out).mono ?_); rintro e w12 ⟨rfl, hb⟩; refine ⟨_, rfl, ?_⟩; have n0_ := Aside0.mk (below_step z8a hb); clear HB; have HB := n0_; clear n0_; (try clear hb); (try clear hb2); (try clear hk); (try clear hi)) | ((with_reducible refine gate_callee (f := 28) rfl ?_); refine goesL_ (some 20) rfl rfl Tryd.func28 (by kernel_rfl) rfl #[.string a0] rfl z8b ?_; (with_reducible refine (impl_ReadSlot.calls k a0 t145 t146 t147 _ (Fmt.TabW.below HT.out z8a) A4.out).mono ?_); rintro e w13 ⟨rfl, hb⟩; refine ⟨_, rfl, ?_⟩; have n0_ := Aside0.mk (below_step z8a hb); clear HB; have HB := n0_; clear n0_; (try clear hb); (try clear hb2); (try clear hk); (try clear hi)))
 go_ret
 exact ⟨by first | rfl | (simp [errW_none, errW_some] <;> rfl) | (simp [*, errW_none, errW_some] <;> rfl), by repeat (first | (with_reducible first | exact HB.out | apply below_alloc | apply pw_below_drewN | apply below_drew1) | exact HB.out)⟩
 }
 }
 {
 rw [if_neg c5] at H
 have c5b0 : (t145 == t142) = false := beq_eq_false_iff_ne.mpr c5
 have c5b1 : (t145 != t142) = true := bne_iff_ne.mpr c5
 obtain rfl := Option.some.inj H
 go_enter Tryd.func8, Tryd.ntmps8
 go_wp2_with (first | ((with_reducible refine gate_callee (f := 27) rfl ?_); refine goesL_ (some 14) rfl rfl Tryd.func27 (by kernel_rfl) rfl #[.string a0] rfl z8b ?_; (with_reducible refine (spec_ReadSlot.calls k a0 t142 t143 t144 _ A3.out).mono ?_); rintro e w14 ⟨rfl, hb⟩; refine ⟨_, rfl, ?_⟩; have n0_ := Aside0.mk (below_step z8a hb); clear HB; have HB := n0_; clear n0_; (try clear hb); (try clear hb2); (try clear hk); (try clear hi)) | ((with_reducible refine gate_callee (f := 28) rfl ?_); refine goesL_ (some 20) rfl rfl Tryd.func28 (by kernel_rfl) rfl #[.string a0] rfl z8b ?_; (with_reducible refine (impl_ReadSlot.calls k a0 t145 t146 t147 _ (Fmt.TabW.below HT.out z8a) A4.out).mono ?_); rintro e w15 ⟨rfl, hb⟩; refine ⟨_, rfl, ?_⟩; have n0_ := Aside0.mk (below_step z8a hb); clear HB; have HB := n0_; clear n0_; (try clear hb); (try clear hb2); (try clear hk); (try clear hi)))
 go_ret
 exact ⟨by first | rfl | (simp [errW_none, errW_some] <;> rfl) | (simp [*, errW_none, errW_some] <;> rfl), by repeat (first | (with_reducible first | exact HB.out | apply below_alloc | apply pw_below_drewN | apply below_drew1) | exact HB.out)⟩
 
 }
 }
/-- THE ONE PURE STATEMENT of laws_FnExactReadSlot: yours. -/
def laws_FnExactReadSlot.Pure : Prop := ∀ (a0 : ByteArray), a0.size ≤ 140737488351232 → ∃ k, laws_FnExactReadSlot.f k a0 = some true

end Go.Proofs.YtepcmdmclmfgkaaDoor.PFnExactReadSlot

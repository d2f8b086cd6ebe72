-- by a program of this session (wip/print/run.py) for this claim
import Derived.Test.YthkhfmomibfkjaaLibPu
import Derived.Test.YthkhfmomibfkjaaPFnPackedx0
namespace Go.Proofs.Ythkhfmomibfkjaa.PFnPacked
open Go.Proofs.Ythkhfmomibfkjaa.Lib Go.RowKit Go.Proofs.YthkhfmomibfkjaaW.PrintWords Go.Proofs.YthkhfmomibfkjaaW.PrintLast Go.Proofs.YthkhfmomibfkjaaW.PrintMore
attribute [local go_sem] max2_int min2_int max_two min_two max_three min_three max_four min_four   -- for this text's walks alone
set_option linter.unusedVariables false
set_option linter.unusedSimpArgs false

theorem z58a {p_ : Prop} (h_ : p_ := by first | (with_reducible assumption) | assumption) : p_ := h_
mutual
def spec_ReadNumber.l0 : Nat → List Int → Int → Int → Int → Option (Int × Int)
 | 0, _, _, _, _ => none
 | k + 1, x0, x4, x5, x6 => if x6 < (x0.length : Int) then (spec_ReadNumber.j1 k x0 x4 x5 x6 (decide (x6 < 6))) else (spec_ReadNumber.j1 k x0 x4 x5 x6 false)
def spec_ReadNumber.j1 : Nat → List Int → Int → Int → Int → Bool → Option (Int × Int)
 | 0, _, _, _, _, _ => none
 | k + 1, x0, x4, x5, x6, x15 => if x15 = true then (if 0 ≤ x6 then (if x6 < (x0.length : Int) then (if (wrap64 (rd x0 x6)) < 128 then (if (wrap64 (x4 + (wrap64 ((Int.tmod (wrap64 (rd x0 x6)) 128) * x5)))) > 1099511627776 then (some (0, 0)) else (if x6 > 0 then (if (wrap64 (rd x0 x6)) = 0 then (some (0, 0)) else (some (wrap64 (x4 + (wrap64 ((Int.tmod (wrap64 (rd x0 x6)) 128) * x5))), wrap64 (x6 + 1)))) else (some (wrap64 (x4 + (wrap64 ((Int.tmod (wrap64 (rd x0 x6)) 128) * x5))), wrap64 (x6 + 1))))) else (spec_ReadNumber.l0 k x0 (wrap64 (x4 + (wrap64 ((Int.tmod (wrap64 (rd x0 x6)) 128) * x5)))) (wrap64 (x5 * 128)) (wrap64 (x6 + 1)))) else (none)) else (none)) else (some (0, 0))
end
def spec_ReadNumber.f (k : Nat) (l0 : List Int) : Option (Int × Int) := spec_ReadNumber.l0 k l0 0 1 0
set_option maxHeartbeats 8000000 in
set_option maxRecDepth 100000 in
theorem spec_ReadNumber.calls (k : Nat) (A0 : Option Addr) (c0 : Nat) (l0 : List Int) (r1 : Int) (r2 : Int) (w : World) (hr0 : Kd.C (Kd.int .u8) w A0 l0.length l0) (hc0 : l0.length ≤ c0) (h : spec_ReadNumber.f k l0 = some (r1, r2)) :
  Calls Try.prog 58 #[.slice A0 l0.length c0] w fun e w' => e = .returned (.tuple #[.int .i64 r1, .int .i64 r2]) ∧ Drawn0 w w' := by
 have HR0 := A_ hr0
 have HC0 := A_ hc0
 clear hr0 hc0
 have H : (spec_ReadNumber.l0 k l0 0 1 0) = some (r1, r2) := h
 clear h
 have H' := A_ H
 clear H
 go_enter Try.func58, Try.ntmps58
 go_wp2
 go_loopg [4, 5, 6] k (fun kq v4 v5 v6 w' => ∃ (x4_1 : Int) (x5_1 : Int) (x6_1 : Int), v4 = .int .i64 x4_1 ∧ v5 = .int .i64 x5_1 ∧ v6 = .int .i64 x6_1 ∧ Aside0 (spec_ReadNumber.l0 kq l0 x4_1 x5_1 x6_1 = some (r1, r2)) ∧ Aside0 (kq ≤ k) ∧ Drawn0 w w')
 case atStart => exact ⟨(0), (1), (0), (by first | rfl | (simp; done) | (simp [*]; done)), (by first | rfl | (simp; done) | (simp [*]; done)), (by first | rfl | (simp; done) | (simp [*]; done)), H', ⟨Nat.le_refl _⟩, by repeat (first | exact Drawn0.refl _ | apply Drawn0.step)⟩
 case round =>
  clear H'
  obtain ⟨x4_1, x5_1, x6_1, rfl, rfl, rfl, HA, HK1, ⟨m1, rfl⟩⟩ := hrel
  cases gk with
  | zero => exact absurd HA.out (by simp [spec_ReadNumber.l0])
  | succ k1 =>
   have H := HA.out
   clear HA
   simp only [spec_ReadNumber.l0] at H
   have HC2 := A_ H
   clear H
   go_upto_region 4 with (fail)
   go_cut [15] (fun v15 wc => ∃ (kq : Nat) (x15_1 : Bool), v15 = .bool x15_1 ∧ Aside0 (spec_ReadNumber.j1 kq l0 x4_1 x5_1 x6_1 x15_1 = some (r1, r2)) ∧ Aside0 (kq ≤ k1) ∧ Drawn0 w wc)
   case first =>
    have H := HC2.out
    clear HC2
    by_cases c3 : x6_1 < (l0.length : Int)
    {
    rw [if_pos c3] at H
    have c3b0 : decide (x6_1 < (l0.length : Int)) = true := decide_eq_true c3
    clear c3
    (first | rw [c3b0] | (simp only [i64_w, i32_w]; rw [c3b0]) | skip)
    have H' := A_ H
    clear H
    go_wp2
    go_meet
    case rel => exact ⟨_, (decide (x6_1 < 6)), (by first | rfl | (simp; done) | (simp [*]; done)), H', ⟨by have := HK1.out; first | omega | exact Nat.le_refl _⟩, by repeat (first | exact Drawn0.refl _ | apply Drawn0.step)⟩
    }
    {
    rw [if_neg c3] at H
    have c3b0 : decide (x6_1 < (l0.length : Int)) = false := decide_eq_false c3
    clear c3
    (first | rw [c3b0] | (simp only [i64_w, i32_w]; rw [c3b0]) | skip)
    have H' := A_ H
    clear H
    go_wp2
    go_meet
    case rel => exact ⟨_, (false), (by first | rfl | (simp; done) | (simp [*]; done)), H', ⟨by have := HK1.out; first | omega | exact Nat.le_refl _⟩, by repeat (first | exact Drawn0.refl _ | apply Drawn0.step)⟩
    }
   case rest =>
    clear HC2
    try clear p2
    try clear c3
    try clear c3b0
    obtain ⟨kq, x15_1, rfl, HA, HJ1, ⟨mc1, rfl⟩⟩ := hcut
    cases kq with
    | zero => exact absurd HA.out (by simp [spec_ReadNumber.j1])
    | succ kj1 =>
     have H := HA.out
     clear HA
     simp only [spec_ReadNumber.j1] at H
     by_cases c4 : x15_1 = true
     {
     subst c4
     rw [if_pos rfl] at H
     by_cases c5 : 0 ≤ x6_1
     {
     rw [if_pos c5] at H
     have c5b0 : decide (0 ≤ x6_1) = true := decide_eq_true c5
     clear c5
     by_cases c6 : x6_1 < (l0.length : Int)
     {
     rw [if_pos c6] at H
     have c6b0 : decide (x6_1 < (l0.length : Int)) = true := decide_eq_true c6
     clear c6
     by_cases c7 : (wrap64 (rd l0 x6_1)) < 128
     {
     rw [if_pos c7] at H
     have c7b0 : decide ((wrap64 (rd l0 x6_1)) < 128) = true := decide_eq_true c7
     clear c7
     by_cases c8 : (wrap64 (x4_1 + (wrap64 ((Int.tmod (wrap64 (rd l0 x6_1)) 128) * x5_1)))) > 1099511627776
     {
     rw [if_pos c8] at H
     have c8b0 : decide (1099511627776 < (wrap64 (x4_1 + (wrap64 ((Int.tmod (wrap64 (rd l0 x6_1)) 128) * x5_1))))) = true := decide_eq_true c8
     clear c8
     simp only [Option.some.injEq, Prod.mk.injEq] at H
     obtain ⟨rfl, rfl⟩ := H
     have p237 : 0 ≤ (x6_1 : Int) := of_decide_eq_true z58a
     have q237 : x6_1 < (l0.length : Int) := of_decide_eq_true z58a
     obtain ⟨ad237, e237, hx237_0⟩ := Kd.at_int HR0.out x6_1 p237 q237
     cases e237
     replace p237 := eq_true p237
     replace q237 := eq_true q237
     go_wp2
     go_ret2
     exact ⟨by first | rfl | (simp; done) | (simp [*]; done), by repeat (first | exact Drawn0.refl _ | apply Drawn0.step)⟩
     }
     {
     rw [if_neg c8] at H
     have c8b0 : decide (1099511627776 < (wrap64 (x4_1 + (wrap64 ((Int.tmod (wrap64 (rd l0 x6_1)) 128) * x5_1))))) = false := decide_eq_false c8
     clear c8
     by_cases c9 : x6_1 > 0
     {
     rw [if_pos c9] at H
     have c9b0 : decide (0 < x6_1) = true := decide_eq_true c9
     clear c9
     by_cases c10 : (wrap64 (rd l0 x6_1)) = 0
     {
     rw [if_pos c10] at H
     have c10b0 : ((wrap64 (rd l0 x6_1)) == 0) = true := beq_iff_eq.mpr c10
     have c10b1 : ((wrap64 (rd l0 x6_1)) != 0) = false := bne_eq_false_iff_eq.mpr c10
     clear c10
     simp only [Option.some.injEq, Prod.mk.injEq] at H
     obtain ⟨rfl, rfl⟩ := H
     have p237 : 0 ≤ (x6_1 : Int) := of_decide_eq_true z58a
     have q237 : x6_1 < (l0.length : Int) := of_decide_eq_true z58a
     obtain ⟨ad237, e237, hx237_0⟩ := Kd.at_int HR0.out x6_1 p237 q237
     cases e237
     replace p237 := eq_true p237
     replace q237 := eq_true q237
     go_wp2
     go_ret2
     exact ⟨by first | rfl | (simp; done) | (simp [*]; done), by repeat (first | exact Drawn0.refl _ | apply Drawn0.step)⟩
     }
     {
     rw [if_neg c10] at H
     have c10b0 : ((wrap64 (rd l0 x6_1)) == 0) = false := beq_eq_false_iff_ne.mpr c10
     have c10b1 : ((wrap64 (rd l0 x6_1)) != 0) = true := bne_iff_ne.mpr c10
     simp only [Option.some.injEq, Prod.mk.injEq] at H
     obtain ⟨rfl, rfl⟩ := H
     have p237 : 0 ≤ (x6_1 : Int) := of_decide_eq_true z58a
     have q237 : x6_1 < (l0.length : Int) := of_decide_eq_true z58a
     obtain ⟨ad237, e237, hx237_0⟩ := Kd.at_int HR0.out x6_1 p237 q237
     cases e237
     replace p237 := eq_true p237
     replace q237 := eq_true q237
     go_wp2
     go_ret2
     exact ⟨by first | rfl | (simp; done) | (simp [*]; done), by repeat (first | exact Drawn0.refl _ | apply Drawn0.step)⟩
     }
     }
     {
     rw [if_neg c9] at H
     have c9b0 : decide (0 < x6_1) = false := decide_eq_false c9
     clear c9
     simp only [Option.some.injEq, Prod.mk.injEq] at H
     obtain ⟨rfl, rfl⟩ := H
     have p237 : 0 ≤ (x6_1 : Int) := of_decide_eq_true z58a
     have q237 : x6_1 < (l0.length : Int) := of_decide_eq_true z58a
     obtain ⟨ad237, e237, hx237_0⟩ := Kd.at_int HR0.out x6_1 p237 q237
     cases e237
     replace p237 := eq_true p237
     replace q237 := eq_true q237
     go_wp2
     go_ret2
     exact ⟨by first | rfl | (simp; done) | (simp [*]; done), by repeat (first | exact Drawn0.refl _ | apply Drawn0.step)⟩
     }
     }
     }
     {
     rw [if_neg c7] at H
     have c7b0 : decide ((wrap64 (rd l0 x6_1)) < 128) = false := decide_eq_false c7
     clear c7
     have H' := A_ H
     clear H
     have p237 : 0 ≤ (x6_1 : Int) := of_decide_eq_true z58a
     have q237 : x6_1 < (l0.length : Int) := of_decide_eq_true z58a
     obtain ⟨ad237, e237, hx237_0⟩ := Kd.at_int HR0.out x6_1 p237 q237
     cases e237
     replace p237 := eq_true p237
     replace q237 := eq_true q237
     go_wp2
     go_roundg kj1
     case measure => have := HK1.out; have := HJ1.out; omega
     case rel => exact ⟨(wrap64 (x4_1 + (wrap64 ((Int.tmod (wrap64 (rd l0 x6_1)) 128) * x5_1)))), (wrap64 (x5_1 * 128)), (wrap64 (x6_1 + 1)), (by first | rfl | (simp; done) | (simp [*]; done)), (by first | rfl | (simp; done) | (simp [*]; done)), (by first | rfl | (simp; done) | (simp [*]; done)), H', ⟨by have := HK1.out; have := HJ1.out; omega⟩, by repeat (first | exact Drawn0.refl _ | apply Drawn0.step)⟩
     }
     }
     {
     rw [if_neg c6] at H
     exact absurd H (by simp)
     }
     }
     {
     rw [if_neg c5] at H
     exact absurd H (by simp)
     }
     }
     {
     replace c4 := Bool.eq_false_iff.mpr c4
     subst c4
     rw [if_neg Bool.false_ne_true] at H
     simp only [Option.some.injEq, Prod.mk.injEq] at H
     obtain ⟨rfl, rfl⟩ := H
     go_wp2
     go_ret2
     exact ⟨by first | rfl | (simp; done) | (simp [*]; done), by repeat (first | exact Drawn0.refl _ | apply Drawn0.step)⟩
     
     }
theorem z24a {p_ : Prop} (h_ : p_ := by repeat (first | exact HR0.out | (with_reducible refine Kd.C_alloc ?_ _) | (with_reducible refine Kd.C_drewN ?_ _) | (with_reducible refine Kd.C_drew ?_))) : p_ := h_
theorem z24b {p_ : Prop} (h_ : p_ := by (try simp only [List.map_toArray, List.map_cons, List.map_nil]); first | done | rfl | (simp only [List.length_drop, List.length_take]; rfl)) : p_ := h_
def spec_ReadText.f (k : Nat) (l0 : List Int) : Option (ByteArray × Int) := (spec_ReadNumber.f k l0).bind fun bt238 => (if bt238.2 = 0 then (some ((⟨#[]⟩ : ByteArray), 0)) else (if bt238.1 > 3000 then (some ((⟨#[]⟩ : ByteArray), 0)) else (if bt238.1 > (wrap64 ((l0.length : Int) - bt238.2)) then (some ((⟨#[]⟩ : ByteArray), 0)) else (if 0 ≤ bt238.2 then (if bt238.2 ≤ (wrap64 (bt238.2 + bt238.1)) then (if (wrap64 (bt238.2 + bt238.1)) ≤ (l0.length : Int) then (some (strOfNums ((l0.take ((wrap64 (bt238.2 + bt238.1)) : Int).toNat).drop (bt238.2 : Int).toNat), wrap64 (bt238.2 + bt238.1))) else (none)) else (none)) else (none)))))
set_option maxHeartbeats 8000000 in
set_option maxRecDepth 100000 in
theorem spec_ReadText.calls (k : Nat) (A0 : Option Addr) (c0 : Nat) (l0 : List Int) (r1 : ByteArray) (r2 : Int) (w : World) (hr0 : Kd.C (Kd.int .u8) w A0 l0.length l0) (hc0 : l0.length ≤ c0) (h : spec_ReadText.f k l0 = some (r1, r2)) :
  Calls Try.prog 24 #[.slice A0 l0.length c0] w fun e w' => e = .returned (.tuple #[.string r1, .int .i64 r2]) ∧ Drawn0 w w' := by
 have HR0 := A_ hr0
 have HC0 := A_ hc0
 clear hr0 hc0
 have H : ((spec_ReadNumber.f k l0).bind fun bt238 => (if bt238.2 = 0 then (some ((⟨#[]⟩ : ByteArray), 0)) else (if bt238.1 > 3000 then (some ((⟨#[]⟩ : ByteArray), 0)) else (if bt238.1 > (wrap64 ((l0.length : Int) - bt238.2)) then (some ((⟨#[]⟩ : ByteArray), 0)) else (if 0 ≤ bt238.2 then (if bt238.2 ≤ (wrap64 (bt238.2 + bt238.1)) then (if (wrap64 (bt238.2 + bt238.1)) ≤ (l0.length : Int) then (some (strOfNums ((l0.take ((wrap64 (bt238.2 + bt238.1)) : Int).toNat).drop (bt238.2 : Int).toNat), wrap64 (bt238.2 + bt238.1))) else (none)) else (none)) else (none)))))) = some (r1, r2) := h
 clear h
 replace H := Option.bind_eq_some_iff.mp H
 obtain ⟨⟨t238, t239⟩, A20, H⟩ := H
 (try dsimp only at H)
 have A2 := A_ A20
 clear A20
 by_cases c3 : t239 = 0
 {
 rw [if_pos c3] at H
 have c3b0 : (t239 == 0) = true := beq_iff_eq.mpr c3
 have c3b1 : (t239 != 0) = false := bne_eq_false_iff_eq.mpr c3
 clear c3
 simp only [Option.some.injEq, Prod.mk.injEq] at H
 obtain ⟨rfl, rfl⟩ := H
 go_enter Try.func24, Try.ntmps24
 go_wp2_with (first | ((with_reducible refine gate_callee (f := 58) rfl ?_); refine goesL_ (some 8) rfl rfl Try.func58 (by kernel_rfl) rfl #[.slice A0 l0.length c0] rfl z24b ?_; (with_reducible refine (spec_ReadNumber.calls k _ _ l0 t238 t239 _ ?side1 ?side2 A2.out).mono ?_); (case side1 => exact z24a); (case side2 => exact HC0.out); rintro e w' ⟨rfl, ⟨nd, rfl⟩⟩; refine ⟨_, rfl, ?_⟩))
 go_ret2
 exact ⟨by first | rfl | (simp; done) | (simp [*]; done), by repeat (first | exact Drawn0.refl _ | apply Drawn0.step)⟩
 }
 {
 rw [if_neg c3] at H
 have c3b0 : (t239 == 0) = false := beq_eq_false_iff_ne.mpr c3
 have c3b1 : (t239 != 0) = true := bne_iff_ne.mpr c3
 by_cases c4 : t238 > 3000
 {
 rw [if_pos c4] at H
 have c4b0 : decide (3000 < t238) = true := decide_eq_true c4
 clear c4
 simp only [Option.some.injEq, Prod.mk.injEq] at H
 obtain ⟨rfl, rfl⟩ := H
 go_enter Try.func24, Try.ntmps24
 go_wp2_with (first | ((with_reducible refine gate_callee (f := 58) rfl ?_); refine goesL_ (some 8) rfl rfl Try.func58 (by kernel_rfl) rfl #[.slice A0 l0.length c0] rfl z24b ?_; (with_reducible refine (spec_ReadNumber.calls k _ _ l0 t238 t239 _ ?side1 ?side2 A2.out).mono ?_); (case side1 => exact z24a); (case side2 => exact HC0.out); rintro e w' ⟨rfl, ⟨nd, rfl⟩⟩; refine ⟨_, rfl, ?_⟩))
 go_ret2
 exact ⟨by first | rfl | (simp; done) | (simp [*]; done), by repeat (first | exact Drawn0.refl _ | apply Drawn0.step)⟩
 }
 {
 rw [if_neg c4] at H
 have c4b0 : decide (3000 < t238) = false := decide_eq_false c4
 clear c4
 by_cases c5 : t238 > (wrap64 ((l0.length : Int) - t239))
 {
 rw [if_pos c5] at H
 have c5b0 : decide ((wrap64 ((l0.length : Int) - t239)) < t238) = true := decide_eq_true c5
 clear c5
 simp only [Option.some.injEq, Prod.mk.injEq] at H
 obtain ⟨rfl, rfl⟩ := H
 go_enter Try.func24, Try.ntmps24
 go_wp2_with (first | ((with_reducible refine gate_callee (f := 58) rfl ?_); refine goesL_ (some 8) rfl rfl Try.func58 (by kernel_rfl) rfl #[.slice A0 l0.length c0] rfl z24b ?_; (with_reducible refine (spec_ReadNumber.calls k _ _ l0 t238 t239 _ ?side1 ?side2 A2.out).mono ?_); (case side1 => exact z24a); (case side2 => exact HC0.out); rintro e w' ⟨rfl, ⟨nd, rfl⟩⟩; refine ⟨_, rfl, ?_⟩))
 go_ret2
 exact ⟨by first | rfl | (simp; done) | (simp [*]; done), by repeat (first | exact Drawn0.refl _ | apply Drawn0.step)⟩
 }
 {
 rw [if_neg c5] at H
 have c5b0 : decide ((wrap64 ((l0.length : Int) - t239)) < t238) = false := decide_eq_false c5
 clear c5
 by_cases c6 : 0 ≤ t239
 {
 rw [if_pos c6] at H
 have c6b0 := eq_true c6
 have c6b1 : decide (0 ≤ t239) = true := decide_eq_true c6
 clear c6
 by_cases c7 : t239 ≤ (wrap64 (t239 + t238))
 {
 rw [if_pos c7] at H
 have c7b0 := eq_true c7
 have c7b1 : decide (t239 ≤ (wrap64 (t239 + t238))) = true := decide_eq_true c7
 by_cases c8 : (wrap64 (t239 + t238)) ≤ (l0.length : Int)
 {
 rw [if_pos c8] at H
 have c8b0 := eq_true c8
 have c8b1 : decide ((wrap64 (t239 + t238)) ≤ (l0.length : Int)) = true := decide_eq_true c8
 simp only [Option.some.injEq, Prod.mk.injEq] at H
 obtain ⟨rfl, rfl⟩ := H
 go_enter Try.func24, Try.ntmps24
 go_wp2_with (first | ((with_reducible refine gate_callee (f := 58) rfl ?_); refine goesL_ (some 8) rfl rfl Try.func58 (by kernel_rfl) rfl #[.slice A0 l0.length c0] rfl z24b ?_; (with_reducible refine (spec_ReadNumber.calls k _ _ l0 t238 t239 _ ?side1 ?side2 A2.out).mono ?_); (case side1 => exact z24a); (case side2 => exact HC0.out); rintro e w' ⟨rfl, ⟨nd, rfl⟩⟩; refine ⟨_, rfl, ?_⟩; obtain ⟨i09, hi09, _, hsz9, _⟩ := info_parts info5; obtain ⟨A9, hcut9, hA9, hC9⟩ := print_mid_of (P := Try.prog) (Value.int .u8) 0 22 5 .i64 .i64 Try.underlying22 hi09 hsz9 A0 c0 l0 t239 (wrap64 (t239 + t238)) (of_decide_eq_true (by first | (with_reducible assumption) | assumption)) (by first | omega | exact of_decide_eq_true (by first | (with_reducible assumption) | assumption)) (of_decide_eq_true (by first | (with_reducible assumption) | assumption)) HC0.out; have HR240 := A_ (Kd.C_of_reads (h1 := fun _ => rfl) (hA9 _ (Kd.reads_of_C HR0.out))); have HC240 := A_ hC9; clear hA9 hC9 hi09 hsz9; have hcv10 := Kd.C_string (P := Try.prog) (A := A9) (c := (c0 - t239.toNat)) Try.underlying22 Try.underlying5 Try.underlying9 HR240.out; have hcvd11 := fun (nq_ : Nat) => Kd.C_string (P := Try.prog) (A := A9) (c := (c0 - t239.toNat)) Try.underlying22 Try.underlying5 Try.underlying9 (Kd.C_drewN HR240.out nq_); have hcvn11 := hcvd11; rw [show ((l0.take ((wrap64 (t239 + t238)) : Int).toNat).drop (t239 : Int).toNat).length = ((wrap64 (t239 + t238)) : Int).toNat - (t239 : Int).toNat by simp only [List.length_drop, List.length_take]; omega] at hcvn11))
 go_ret2
 exact ⟨by first | rfl | (simp; done) | (simp [*]; done), by repeat (first | exact Drawn0.refl _ | apply Drawn0.step)⟩
 }
 {
 rw [if_neg c8] at H
 exact absurd H (by simp)
 }
 }
 {
 rw [if_neg c7] at H
 exact absurd H (by simp)
 }
 }
 {
 rw [if_neg c6] at H
 exact absurd H (by simp)
 
 }
 }
 }
 }
end Go.Proofs.Ythkhfmomibfkjaa.PFnPacked

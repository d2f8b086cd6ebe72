-- by a program of this session (wip/print/run.py) for this claim
import Derived.Test.YtepcmdmclmfgkaaGreatDoorLibPu
import Derived.Test.YtepcmdmclmfgkaaGreatDoorPFnExactHalfwayx0
import Derived.Test.YtepcmdmclmfgkaaGreatDoorPFnExactHalfwayx3
namespace Go.Proofs.YtepcmdmclmfgkaaGreatDoor.PFnExactHalfway
open Go.Proofs.YtepcmdmclmfgkaaGreatDoor.Lib Go.RowKit Go.Proofs.YtepcmdmclmfgkaaGreatDoorW.PrintWords Go.Proofs.YtepcmdmclmfgkaaGreatDoorW.PrintLast Go.Proofs.YtepcmdmclmfgkaaGreatDoorW.PrintMore
attribute [local go_sem] max2_int min2_int max_two min_two max_three min_three max_four min_four   -- for this text's walks alone
set_option linter.unusedVariables false
set_option linter.unusedSimpArgs false

theorem z60a {p_ : Prop} (h_ : p_ := by first | (with_reducible assumption) | assumption) : p_ := h_
theorem z60b {p_ : Prop} (h_ : p_ := by first | rfl | (simp; done) | (simp [*]; done)) : p_ := h_
mutual
def spec_l2Number.j0 : Nat → ByteArray → Int → Bool → Bool → Option (Int × Bool)
 | 0, _, _, _, _ => none
 | k + 1, x0, x4, x5, x14 => if x14 = true then (spec_l2Number.j1 k x0 1 true) else (spec_l2Number.j1 k x0 x4 x5)
def spec_l2Number.j1 : Nat → ByteArray → Int → Bool → Option (Int × Bool)
 | 0, _, _, _ => none
 | k + 1, x0, x4, x5 => if (wrap64 ((x0.size : Int) - x4)) < 1 then (spec_l2Number.j2 k x0 x4 x5 0 true) else (spec_l2Number.j2 k x0 x4 x5 0 (decide ((wrap64 ((x0.size : Int) - x4)) > 10)))
def spec_l2Number.j2 : Nat → ByteArray → Int → Bool → Int → Bool → Option (Int × Bool)
 | 0, _, _, _, _, _ => none
 | k + 1, x0, x4, x5, x6, x26 => if x26 = true then (some (0, false)) else (spec_l2Number.l0 k x0 x4 x5 x6 x4)
def spec_l2Number.l0 : Nat → ByteArray → Int → Bool → Int → Int → Option (Int × Bool)
 | 0, _, _, _, _, _ => none
 | k + 1, x0, x4, x5, x6, x7 => if x7 < (x0.size : Int) then (if 0 ≤ x7 then (if (bt x0 x7) < 48 then (some (0, false)) else (if (bt x0 x7) > 57 then (some (0, false)) else (spec_l2Number.l0 k x0 x4 x5 (wrap64 ((wrap64 (x6 * 10)) + (((bt x0 x7) - 48) % 256))) (wrap64 (x7 + 1))))) else (none)) else (if 0 ≤ x4 then (if x4 < (x0.size : Int) then (if (bt x0 x4) = 48 then (if x5 = true then (spec_l2Number.j4 k x5 x6 true) else (spec_l2Number.j4 k x5 x6 (decide ((x0.size : Int) > 1)))) else (spec_l2Number.j4 k x5 x6 false)) else (none)) else (none))
def spec_l2Number.j4 : Nat → Bool → Int → Bool → Option (Int × Bool)
 | 0, _, _, _ => none
 | k + 1, x5, x6, x63 => if x63 = true then (some (0, false)) else (if x5 = true then (some (wrap64 (-x6), true)) else (some (x6, true)))
end
def spec_l2Number.f (k : Nat) (a0 : ByteArray) : Option (Int × Bool) := if a0.toList = ([] : List UInt8) then (spec_l2Number.j0 k a0 0 false false) else (if 0 < (a0.size : Int) then (spec_l2Number.j0 k a0 0 false ((bt a0 0) == 45)) else (none))
set_option maxHeartbeats 8000000 in
set_option maxRecDepth 100000 in
theorem spec_l2Number.calls (k : Nat) (a0 : ByteArray) (r1 : Int) (r2 : Bool) (w : World) (h : spec_l2Number.f k a0 = some (r1, r2)) :
  Calls Tryz.prog 60 #[.string a0] w fun e w' => e = .returned (.tuple #[.int .i64 r1, .bool r2]) ∧ Drawn0 w w' := by
 have H : (if a0.toList = ([] : List UInt8) then (spec_l2Number.j0 k a0 0 false false) else (if 0 < (a0.size : Int) then (spec_l2Number.j0 k a0 0 false ((bt a0 0) == 45)) else (none))) = some (r1, r2) := h
 clear h
 have HC2 := A_ H
 clear H
 go_enter Tryz.func60, Tryz.ntmps60
 go_upto_region 3 with (fail)
 go_cut [14] (fun v14 wc => ∃ (kq : Nat) (x14_1 : Bool), v14 = .bool x14_1 ∧ Aside0 (spec_l2Number.j0 kq a0 0 false x14_1 = some (r1, r2)) ∧ Aside0 (kq ≤ k) ∧ Drawn0 w wc)
 case first =>
  have H := HC2.out
  clear HC2
  by_cases c3 : a0.toList = ([] : List UInt8)
  {
  rw [if_pos c3] at H
  have c3b0 : (a0.toList == ([] : List UInt8)) = true := beq_iff_eq.mpr c3
  have c3b1 : (a0.toList != ([] : List UInt8)) = false := bne_eq_false_iff_eq.mpr c3
  clear c3
  (first | rw [c3b0] | (simp only [i64_w, i32_w]; rw [c3b0]) | skip)
  have H' := A_ H
  clear H
  go_wp2
  go_meet
  case rel => exact ⟨_, (false), z60b, H', ⟨by first | omega | exact Nat.le_refl _⟩, by repeat (first | exact Drawn0.refl _ | apply Drawn0.step)⟩
  }
  {
  rw [if_neg c3] at H
  have c3b0 : (a0.toList == ([] : List UInt8)) = false := beq_eq_false_iff_ne.mpr c3
  have c3b1 : (a0.toList != ([] : List UInt8)) = true := bne_iff_ne.mpr c3
  (first | rw [c3b0] | (simp only [i64_w, i32_w]; rw [c3b0]) | skip)
  by_cases c4 : 0 < (a0.size : Int)
  {
  rw [if_pos c4] at H
  have c4b0 : decide (0 < (a0.size : Int)) = true := decide_eq_true c4
  have c4b1 : decide (0 < a0.size) = true := decide_eq_true (by omega)
  clear c4
  have H' := A_ H
  clear H
  have p5 : 0 ≤ (0 : Int) := (by omega)
  have q5 : 0 < a0.size := (by have : (0 : Int) < (a0.size : Int) := of_decide_eq_true z60a; omega)
  have hx5 : ∀ h : 0 < a0.size, ((a0[0]'h).toNat : Int) = bt a0 0 := bt_at a0 0
  clear p5
  have qi5 : (0 < (a0.size : Int)) = True := eq_true (of_decide_eq_true z60a)
  replace q5 := eq_true q5
  go_wp2
  go_meet
  case rel => exact ⟨_, (((bt a0 0) == 45)), z60b, H', ⟨by first | omega | exact Nat.le_refl _⟩, by repeat (first | exact Drawn0.refl _ | apply Drawn0.step)⟩
  }
  {
  rw [if_neg c4] at H
  exact absurd H (by simp)
  }
  }
 case rest =>
  clear HC2
  try clear p2
  try clear c3
  try clear c3b0
  try clear c3b1
  try clear c4
  try clear c4b0
  try clear c4b1
  try clear p5
  try clear q5
  try clear hx5
  try clear qi5
  try clear p5
  try clear q5
  obtain ⟨kq, x14_1, rfl, HA, HJ1, ⟨mc1, rfl⟩⟩ := hcut
  cases kq with
  | zero => exact absurd HA.out (by simp [spec_l2Number.j0])
  | succ kj1 =>
   have H := HA.out
   clear HA
   simp only [spec_l2Number.j0] at H
   have HC6 := A_ H
   clear H
   go_upto_if 14 with (fail)
   go_cut [4, 5] (fun v4 v5 wc => ∃ (kq : Nat) (x4_5 : Int) (x5_5 : Bool), v4 = .int .i64 x4_5 ∧ v5 = .bool x5_5 ∧ Aside0 (spec_l2Number.j1 kq a0 x4_5 x5_5 = some (r1, r2)) ∧ Aside0 (kq ≤ kj1) ∧ Drawn0 w wc)
   case first =>
    have H := HC6.out
    clear HC6
    by_cases c7 : x14_1 = true
    {
    subst c7
    have H1 : (spec_l2Number.j1 kj1 a0 1 true) = some (r1, r2) := by rw [if_pos rfl] at H; exact H
    clear H
    have H := H1
    clear H1
    have H' := A_ H
    clear H
    go_wp2
    go_meet
    case rel => exact ⟨_, (1), (true), z60b, z60b, H', ⟨by have := HJ1.out; first | omega | exact Nat.le_refl _⟩, by repeat (first | exact Drawn0.refl _ | apply Drawn0.step)⟩
    }
    {
    replace c7 := Bool.eq_false_iff.mpr c7
    subst c7
    have H1 : (spec_l2Number.j1 kj1 a0 0 false) = some (r1, r2) := by rw [if_neg (show ¬ (false = true) by decide)] at H; exact H
    clear H
    have H := H1
    clear H1
    have H' := A_ H
    clear H
    go_wp2
    go_meet
    case rel => exact ⟨_, (0), (false), z60b, z60b, H', ⟨by have := HJ1.out; first | omega | exact Nat.le_refl _⟩, by repeat (first | exact Drawn0.refl _ | apply Drawn0.step)⟩
    }
   case rest =>
    clear HC6
    try clear c1
    try clear p2
    try clear c3
    try clear c3b0
    try clear c3b1
    try clear c4
    try clear c4b0
    try clear c4b1
    try clear p5
    try clear q5
    try clear hx5
    try clear qi5
    try clear c6
    try clear c7
    try clear p2
    try clear p5
    try clear q5
    obtain ⟨kq, x4_5, x5_5, rfl, rfl, HA, HJ5, ⟨mc5, rfl⟩⟩ := hcut
    cases kq with
    | zero => exact absurd HA.out (by simp [spec_l2Number.j1])
    | succ kj5 =>
     have H := HA.out
     clear HA
     simp only [spec_l2Number.j1] at H
     have HC8 := A_ H
     clear H
     go_upto_region 7 with (fail)
     go_cut [26] (fun v26 wc => ∃ (kq : Nat) (x26_7 : Bool), v26 = .bool x26_7 ∧ Aside0 (spec_l2Number.j2 kq a0 x4_5 x5_5 0 x26_7 = some (r1, r2)) ∧ Aside0 (kq ≤ kj5) ∧ Drawn0 w wc)
     case first =>
      have H := HC8.out
      clear HC8
      by_cases c9 : (wrap64 ((a0.size : Int) - x4_5)) < 1
      {
      rw [if_pos c9] at H
      have c9b0 : decide ((wrap64 ((a0.size : Int) - x4_5)) < 1) = true := decide_eq_true c9
      clear c9
      (first | rw [c9b0] | (simp only [i64_w, i32_w]; rw [c9b0]) | skip)
      have H' := A_ H
      clear H
      go_wp2
      go_meet
      case rel => exact ⟨_, (true), z60b, H', ⟨by have := HJ1.out; have := HJ5.out; first | omega | exact Nat.le_refl _⟩, by repeat (first | exact Drawn0.refl _ | apply Drawn0.step)⟩
      }
      {
      rw [if_neg c9] at H
      have c9b0 : decide ((wrap64 ((a0.size : Int) - x4_5)) < 1) = false := decide_eq_false c9
      clear c9
      (first | rw [c9b0] | (simp only [i64_w, i32_w]; rw [c9b0]) | skip)
      have H' := A_ H
      clear H
      go_wp2
      go_meet
      case rel => exact ⟨_, (decide ((wrap64 ((a0.size : Int) - x4_5)) > 10)), z60b, H', ⟨by have := HJ1.out; have := HJ5.out; first | omega | exact Nat.le_refl _⟩, by repeat (first | exact Drawn0.refl _ | apply Drawn0.step)⟩
      }
     case rest =>
      clear HC8
      try clear c1
      try clear p2
      try clear c3
      try clear c3b0
      try clear c3b1
      try clear c4
      try clear c4b0
      try clear c4b1
      try clear c5
      try clear p5
      try clear q5
      try clear hx5
      try clear qi5
      try clear c6
      try clear p6
      try clear c7
      try clear c9
      try clear c9b0
      try clear p2
      try clear p5
      try clear q5
      obtain ⟨kq, x26_7, rfl, HA, HJ7, ⟨mc7, rfl⟩⟩ := hcut
      cases kq with
      | zero => exact absurd HA.out (by simp [spec_l2Number.j2])
      | succ kj7 =>
       have H := HA.out
       clear HA
       simp only [spec_l2Number.j2] at H
       by_cases c10 : x26_7 = true
       {
       subst c10
       have H1 : (some (0, false)) = some (r1, r2) := by rw [if_pos rfl] at H; exact H
       clear H
       have H := H1
       clear H1
       simp only [Option.some.injEq, Prod.mk.injEq] at H
       obtain ⟨rfl, rfl⟩ := H
       go_wp2
       go_ret2
       exact ⟨by first | rfl | (simp; done) | (simp [*]; done), by repeat (first | exact Drawn0.refl _ | apply Drawn0.step)⟩
       }
       {
       replace c10 := Bool.eq_false_iff.mpr c10
       subst c10
       have H1 : (spec_l2Number.l0 kj7 a0 x4_5 x5_5 0 x4_5) = some (r1, r2) := by rw [if_neg (show ¬ (false = true) by decide)] at H; exact H
       clear H
       have H := H1
       clear H1
       have H' := A_ H
       clear H
       go_wp2
       go_loopg [6, 7] kj7 (fun kq v6 v7 w' => ∃ (x6_4 : Int) (x7_4 : Int), v6 = .int .i64 x6_4 ∧ v7 = .int .i64 x7_4 ∧ Aside0 (spec_l2Number.l0 kq a0 x4_5 x5_5 x6_4 x7_4 = some (r1, r2)) ∧ Aside0 (kq ≤ kj7) ∧ Drawn0 w w')
       case atStart => exact ⟨(0), (x4_5), z60b, z60b, H', ⟨Nat.le_refl _⟩, by repeat (first | exact Drawn0.refl _ | apply Drawn0.step)⟩
       case round =>
        clear H'
        try clear c1
        try clear p2
        try clear c3
        try clear c3b0
        try clear c3b1
        try clear c4
        try clear c4b0
        try clear c4b1
        try clear c5
        try clear p5
        try clear q5
        try clear hx5
        try clear qi5
        try clear c6
        try clear p6
        try clear c7
        try clear c9
        try clear c9b0
        try clear c10
        try clear p2
        try clear p5
        try clear p6
        try clear q5
        obtain ⟨x6_4, x7_4, rfl, rfl, HA, HK4, ⟨m4, rfl⟩⟩ := hrel
        cases gk with
        | zero => exact absurd HA.out (by simp [spec_l2Number.l0])
        | succ k4 =>
         have H := HA.out
         clear HA
         simp only [spec_l2Number.l0] at H
         by_cases c11 : x7_4 < (a0.size : Int)
         {
         rw [if_pos c11] at H
         have c11b0 : decide (x7_4 < (a0.size : Int)) = true := decide_eq_true c11
         clear c11
         by_cases c12 : 0 ≤ x7_4
         {
         rw [if_pos c12] at H
         have c12b0 : decide (0 ≤ x7_4) = true := decide_eq_true c12
         clear c12
         by_cases c14 : (bt a0 x7_4) < 48
         {
         rw [if_pos c14] at H
         have c14b0 : decide ((bt a0 x7_4) < 48) = true := decide_eq_true c14
         clear c14
         simp only [Option.some.injEq, Prod.mk.injEq] at H
         obtain ⟨rfl, rfl⟩ := H
         have p13 : 0 ≤ (x7_4 : Int) := of_decide_eq_true z60a
         have q13 : x7_4 < (a0.size : Int) := of_decide_eq_true z60a
         have hx13 := bt_at a0 x7_4
         replace p13 := eq_true p13
         replace q13 := eq_true q13
         go_wp2
         go_ret2
         exact ⟨by first | rfl | (simp; done) | (simp [*]; done), by repeat (first | exact Drawn0.refl _ | apply Drawn0.step)⟩
         }
         {
         rw [if_neg c14] at H
         have c14b0 : decide ((bt a0 x7_4) < 48) = false := decide_eq_false c14
         clear c14
         by_cases c16 : (bt a0 x7_4) > 57
         {
         rw [if_pos c16] at H
         have c16b0 : decide (57 < (bt a0 x7_4)) = true := decide_eq_true c16
         clear c16
         simp only [Option.some.injEq, Prod.mk.injEq] at H
         obtain ⟨rfl, rfl⟩ := H
         have p13 : 0 ≤ (x7_4 : Int) := of_decide_eq_true z60a
         have q13 : x7_4 < (a0.size : Int) := of_decide_eq_true z60a
         have hx13 := bt_at a0 x7_4
         replace p13 := eq_true p13
         replace q13 := eq_true q13
         have p15 : 0 ≤ (x7_4 : Int) := of_decide_eq_true z60a
         have q15 : x7_4 < (a0.size : Int) := of_decide_eq_true z60a
         have hx15 := bt_at a0 x7_4
         replace p15 := eq_true p15
         replace q15 := eq_true q15
         go_wp2
         go_ret2
         exact ⟨by first | rfl | (simp; done) | (simp [*]; done), by repeat (first | exact Drawn0.refl _ | apply Drawn0.step)⟩
         }
         {
         rw [if_neg c16] at H
         have c16b0 : decide (57 < (bt a0 x7_4)) = false := decide_eq_false c16
         clear c16
         have H' := A_ H
         clear H
         have p13 : 0 ≤ (x7_4 : Int) := of_decide_eq_true z60a
         have q13 : x7_4 < (a0.size : Int) := of_decide_eq_true z60a
         have hx13 := bt_at a0 x7_4
         replace p13 := eq_true p13
         replace q13 := eq_true q13
         have p15 : 0 ≤ (x7_4 : Int) := of_decide_eq_true z60a
         have q15 : x7_4 < (a0.size : Int) := of_decide_eq_true z60a
         have hx15 := bt_at a0 x7_4
         replace p15 := eq_true p15
         replace q15 := eq_true q15
         have p17 : 0 ≤ (x7_4 : Int) := of_decide_eq_true z60a
         have q17 : x7_4 < (a0.size : Int) := of_decide_eq_true z60a
         have hx17 := bt_at a0 x7_4
         replace p17 := eq_true p17
         replace q17 := eq_true q17
         go_wp2
         go_roundg k4
         case measure => have := HJ1.out; have := HJ5.out; have := HJ7.out; have := HK4.out; omega
         case rel => exact ⟨(wrap64 ((wrap64 (x6_4 * 10)) + (((bt a0 x7_4) - 48) % 256))), (wrap64 (x7_4 + 1)), z60b, z60b, H', ⟨by have := HJ1.out; have := HJ5.out; have := HJ7.out; have := HK4.out; omega⟩, by repeat (first | exact Drawn0.refl _ | apply Drawn0.step)⟩
         }
         }
         }
         {
         rw [if_neg c12] at H
         exact absurd H (by simp)
         }
         }
         {
         rw [if_neg c11] at H
         have c11b0 : decide (x7_4 < (a0.size : Int)) = false := decide_eq_false c11
         clear c11
         have HC18 := A_ H
         clear H
         go_upto_region 15 with (fail)
         go_cut [63] (fun v63 wc => ∃ (kq : Nat) (x63_17 : Bool), v63 = .bool x63_17 ∧ Aside0 (spec_l2Number.j4 kq x5_5 x6_4 x63_17 = some (r1, r2)) ∧ Aside0 (kq ≤ k4) ∧ Drawn0 w wc)
         case first =>
          have H := HC18.out
          clear HC18
          by_cases c19 : 0 ≤ x4_5
          {
          rw [if_pos c19] at H
          have c19b0 : decide (0 ≤ x4_5) = true := decide_eq_true c19
          clear c19
          (first | rw [c19b0] | (simp only [i64_w, i32_w]; rw [c19b0]) | skip)
          by_cases c20 : x4_5 < (a0.size : Int)
          {
          rw [if_pos c20] at H
          have c20b0 : decide (x4_5 < (a0.size : Int)) = true := decide_eq_true c20
          clear c20
          by_cases c22 : (bt a0 x4_5) = 48
          {
          rw [if_pos c22] at H
          have c22b0 : ((bt a0 x4_5) == 48) = true := beq_iff_eq.mpr c22
          have c22b1 : ((bt a0 x4_5) != 48) = false := bne_eq_false_iff_eq.mpr c22
          clear c22
          by_cases c23 : x5_5 = true
          {
          subst c23
          have H1 : (spec_l2Number.j4 k4 true x6_4 true) = some (r1, r2) := by rw [if_pos rfl] at H; exact H
          clear H
          have H := H1
          clear H1
          have H' := A_ H
          clear H
          have p21 : 0 ≤ (x4_5 : Int) := of_decide_eq_true z60a
          have q21 : x4_5 < (a0.size : Int) := of_decide_eq_true z60a
          have hx21 := bt_at a0 x4_5
          replace p21 := eq_true p21
          replace q21 := eq_true q21
          go_wp2
          go_meet
          case rel => exact ⟨_, (true), z60b, H', ⟨by have := HJ1.out; have := HJ5.out; have := HJ7.out; have := HK4.out; first | omega | exact Nat.le_refl _⟩, by repeat (first | exact Drawn0.refl _ | apply Drawn0.step)⟩
          }
          {
          replace c23 := Bool.eq_false_iff.mpr c23
          subst c23
          have H1 : (spec_l2Number.j4 k4 false x6_4 (decide ((a0.size : Int) > 1))) = some (r1, r2) := by rw [if_neg (show ¬ (false = true) by decide)] at H; exact H
          clear H
          have H := H1
          clear H1
          have H' := A_ H
          clear H
          have p21 : 0 ≤ (x4_5 : Int) := of_decide_eq_true z60a
          have q21 : x4_5 < (a0.size : Int) := of_decide_eq_true z60a
          have hx21 := bt_at a0 x4_5
          replace p21 := eq_true p21
          replace q21 := eq_true q21
          go_wp2
          go_meet
          case rel => exact ⟨_, (decide ((a0.size : Int) > 1)), z60b, H', ⟨by have := HJ1.out; have := HJ5.out; have := HJ7.out; have := HK4.out; first | omega | exact Nat.le_refl _⟩, by repeat (first | exact Drawn0.refl _ | apply Drawn0.step)⟩
          }
          }
          {
          rw [if_neg c22] at H
          have c22b0 : ((bt a0 x4_5) == 48) = false := beq_eq_false_iff_ne.mpr c22
          have c22b1 : ((bt a0 x4_5) != 48) = true := bne_iff_ne.mpr c22
          have H' := A_ H
          clear H
          have p21 : 0 ≤ (x4_5 : Int) := of_decide_eq_true z60a
          have q21 : x4_5 < (a0.size : Int) := of_decide_eq_true z60a
          have hx21 := bt_at a0 x4_5
          replace p21 := eq_true p21
          replace q21 := eq_true q21
          go_wp2
          go_meet
          case rel => exact ⟨_, (false), z60b, H', ⟨by have := HJ1.out; have := HJ5.out; have := HJ7.out; have := HK4.out; first | omega | exact Nat.le_refl _⟩, by repeat (first | exact Drawn0.refl _ | apply Drawn0.step)⟩
          }
          }
          {
          rw [if_neg c20] at H
          exact absurd H (by simp)
          }
          }
          {
          rw [if_neg c19] at H
          exact absurd H (by simp)
          }
         case rest =>
          clear HC18
          try clear c1
          try clear p1
          try clear q1
          try clear hx1
          try clear c2
          try clear p2
          try clear q2
          try clear hx2
          try clear c3
          try clear c3b0
          try clear c3b1
          try clear c4
          try clear c4b0
          try clear c4b1
          try clear c5
          try clear p5
          try clear q5
          try clear hx5
          try clear qi5
          try clear c6
          try clear p6
          try clear c7
          try clear c9
          try clear c9b0
          try clear c10
          try clear c11
          try clear c11b0
          try clear c12
          try clear c12b0
          try clear p13
          try clear q13
          try clear hx13
          try clear c14
          try clear c14b0
          try clear p15
          try clear q15
          try clear hx15
          try clear c16
          try clear c16b0
          try clear p17
          try clear q17
          try clear hx17
          try clear c19
          try clear c19b0
          try clear c20
          try clear c20b0
          try clear p21
          try clear q21
          try clear hx21
          try clear c22
          try clear c22b0
          try clear c22b1
          try clear c23
          try clear p13
          try clear p15
          try clear p17
          try clear p2
          try clear p21
          try clear p5
          try clear p6
          try clear q13
          try clear q15
          try clear q17
          try clear q21
          try clear q5
          obtain ⟨kq, x63_17, rfl, HA, HJ17, ⟨mc17, rfl⟩⟩ := hcut
          cases kq with
          | zero => exact absurd HA.out (by simp [spec_l2Number.j4])
          | succ kj17 =>
           have H := HA.out
           clear HA
           simp only [spec_l2Number.j4] at H
           by_cases c24 : x63_17 = true
           {
           subst c24
           have H1 : (some (0, false)) = some (r1, r2) := by rw [if_pos rfl] at H; exact H
           clear H
           have H := H1
           clear H1
           simp only [Option.some.injEq, Prod.mk.injEq] at H
           obtain ⟨rfl, rfl⟩ := H
           go_wp2
           go_ret2
           exact ⟨by first | rfl | (simp; done) | (simp [*]; done), by repeat (first | exact Drawn0.refl _ | apply Drawn0.step)⟩
           }
           {
           replace c24 := Bool.eq_false_iff.mpr c24
           subst c24
           have H1 : (if x5_5 = true then (some (wrap64 (-x6_4), true)) else (some (x6_4, true))) = some (r1, r2) := by rw [if_neg (show ¬ (false = true) by decide)] at H; exact H
           clear H
           have H := H1
           clear H1
           by_cases c25 : x5_5 = true
           {
           subst c25
           have H1 : (some (wrap64 (-x6_4), true)) = some (r1, r2) := by rw [if_pos rfl] at H; exact H
           clear H
           have H := H1
           clear H1
           simp only [Option.some.injEq, Prod.mk.injEq] at H
           obtain ⟨rfl, rfl⟩ := H
           go_wp2
           go_ret2
           exact ⟨by first | rfl | (simp; done) | (simp [*]; done), by repeat (first | exact Drawn0.refl _ | apply Drawn0.step)⟩
           }
           {
           replace c25 := Bool.eq_false_iff.mpr c25
           subst c25
           have H1 : (some (x6_4, true)) = some (r1, r2) := by rw [if_neg (show ¬ (false = true) by decide)] at H; exact H
           clear H
           have H := H1
           clear H1
           simp only [Option.some.injEq, Prod.mk.injEq] at H
           obtain ⟨rfl, rfl⟩ := H
           go_wp2
           go_ret2
           exact ⟨by first | rfl | (simp; done) | (simp [*]; done), by repeat (first | exact Drawn0.refl _ | apply Drawn0.step)⟩
           
           }
           }
         }
       }
theorem z47a {p_ : Prop} (h_ : p_ := by repeat (first | (with_reducible first | exact HB.out | apply below_alloc | apply pw_below_drewN | apply below_drew1) | exact HB.out)) : p_ := h_
theorem z47b {p_ : Prop} (h_ : p_ := by first | (with_reducible assumption) | assumption) : p_ := h_
theorem z47c {p_ : Prop} (h_ : p_ := by (with_reducible repeat (first | apply Kd.R_alloc | apply Kd.R_drewN | apply Kd.R_drew)); exact HO134.out) : p_ := h_
def spec_ReadSlot.f (k : Nat) (a0 : ByteArray) : Option (Int × ByteArray × Bool) := (spec_l2Words.f k a0).bind fun t132 => (if (t132.length : Int) < 3 then (some (0, (⟨#[]⟩ : ByteArray), false)) else (if 0 < (t132.length : Int) then ((spec_l2Number.f k (rdOf ByteArray.empty t132 0)).bind fun bt136 => (if 1 < (t132.length : Int) then (if 0 ≤ (wrap64 ((wrap64 (((rdOf ByteArray.empty t132 0).size : Int) + ((rdOf ByteArray.empty t132 1).size : Int))) + 2)) then (if (wrap64 ((wrap64 (((rdOf ByteArray.empty t132 0).size : Int) + ((rdOf ByteArray.empty t132 1).size : Int))) + 2)) ≤ (a0.size : Int) then ((spec_Slot.f k bt136.1 (a0.extract ((wrap64 ((wrap64 (((rdOf ByteArray.empty t132 0).size : Int) + ((rdOf ByteArray.empty t132 1).size : Int))) + 2)) : Int).toNat a0.size)).bind fun t140 => (if t140.toList = a0.toList then (some (bt136.1, a0.extract ((wrap64 ((wrap64 (((rdOf ByteArray.empty t132 0).size : Int) + ((rdOf ByteArray.empty t132 1).size : Int))) + 2)) : Int).toNat a0.size, true)) else (some (0, (⟨#[]⟩ : ByteArray), false)))) else (none)) else (none)) else (none))) else (none)))
set_option maxHeartbeats 8000000 in
set_option maxRecDepth 100000 in
theorem spec_ReadSlot.calls (k : Nat) (a0 : ByteArray) (r1 : Int) (r2 : ByteArray) (r3 : Bool) (w : World) (h : spec_ReadSlot.f k a0 = some (r1, r2, r3)) :
  Calls Tryz.prog 47 #[.string a0] w fun e w' => e = .returned (.tuple #[.int .i64 r1, .string r2, .bool r3]) ∧ Below w.heap.size w w' := by
 have HB := A_ (Below.refl w.heap.size w)
 have H : ((spec_l2Words.f k a0).bind fun t132 => (if (t132.length : Int) < 3 then (some (0, (⟨#[]⟩ : ByteArray), false)) else (if 0 < (t132.length : Int) then ((spec_l2Number.f k (rdOf ByteArray.empty t132 0)).bind fun bt136 => (if 1 < (t132.length : Int) then (if 0 ≤ (wrap64 ((wrap64 (((rdOf ByteArray.empty t132 0).size : Int) + ((rdOf ByteArray.empty t132 1).size : Int))) + 2)) then (if (wrap64 ((wrap64 (((rdOf ByteArray.empty t132 0).size : Int) + ((rdOf ByteArray.empty t132 1).size : Int))) + 2)) ≤ (a0.size : Int) then ((spec_Slot.f k bt136.1 (a0.extract ((wrap64 ((wrap64 (((rdOf ByteArray.empty t132 0).size : Int) + ((rdOf ByteArray.empty t132 1).size : Int))) + 2)) : Int).toNat a0.size)).bind fun t140 => (if t140.toList = a0.toList then (some (bt136.1, a0.extract ((wrap64 ((wrap64 (((rdOf ByteArray.empty t132 0).size : Int) + ((rdOf ByteArray.empty t132 1).size : Int))) + 2)) : Int).toNat a0.size, true)) else (some (0, (⟨#[]⟩ : ByteArray), false)))) else (none)) else (none)) else (none))) else (none)))) = some (r1, r2, r3) := h
 clear h
 replace H := Option.bind_eq_some_iff.mp H
 obtain ⟨t132, A20, H⟩ := H
 (try dsimp only at H)
 have A2 := A_ A20
 clear A20
 by_cases c3 : (t132.length : Int) < 3
 {
 rw [if_pos c3] at H
 have c3b0 : decide ((t132.length : Int) < 3) = true := decide_eq_true c3
 have c3b1 : decide (t132.length < 3) = true := decide_eq_true (by omega)
 clear c3
 simp only [Option.some.injEq, Prod.mk.injEq] at H
 obtain ⟨rfl, rfl, rfl⟩ := H
 go_enter Tryz.func47, Tryz.ntmps47
 go_wp2_with (first | (go_at_call 59; (with_reducible refine (spec_l2Words.calls k a0 t132 _ A2.out).mono ?_); rintro e w4 ⟨v133, rfl, ho0, hb⟩; have n0_ := A_ (Kd.R_lower ho0 (below_size z47a)); have n1_ := A_ (below_step z47a hb); clear HB; have HO134 := n0_; have HB := n1_; clear n0_ n1_; obtain ⟨Ao5, co5, eo5⟩ := Kd.R_slice HO134.out; subst eo5))
 repeat (go_quiet (first | (go_at_call 59; (with_reducible refine (spec_l2Words.calls k a0 t132 _ A2.out).mono ?_); rintro e w4 ⟨v133, rfl, ho0, hb⟩; have n0_ := A_ (Kd.R_lower ho0 (below_size z47a)); have n1_ := A_ (below_step z47a hb); clear HB; have HO134 := n0_; have HB := n1_; clear n0_ n1_; obtain ⟨Ao5, co5, eo5⟩ := Kd.R_slice HO134.out; subst eo5)); try go_wp2_with (first | (go_at_call 59; (with_reducible refine (spec_l2Words.calls k a0 t132 _ A2.out).mono ?_); rintro e w4 ⟨v133, rfl, ho0, hb⟩; have n0_ := A_ (Kd.R_lower ho0 (below_size z47a)); have n1_ := A_ (below_step z47a hb); clear HB; have HO134 := n0_; have HB := n1_; clear n0_ n1_; obtain ⟨Ao5, co5, eo5⟩ := Kd.R_slice HO134.out; subst eo5)))
 go_ret3
 exact ⟨by first | rfl | (simp [errW_none, errW_some] <;> rfl) | (simp [*, errW_none, errW_some] <;> rfl), by repeat (first | (with_reducible first | exact HB.out | apply below_alloc | apply pw_below_drewN | apply below_drew1) | exact HB.out)⟩
 }
 {
 rw [if_neg c3] at H
 have c3b0 : decide ((t132.length : Int) < 3) = false := decide_eq_false c3
 have c3b1 : decide (t132.length < 3) = false := decide_eq_false (by omega)
 clear c3
 by_cases c6 : 0 < (t132.length : Int)
 {
 rw [if_pos c6] at H
 have c6b0 : decide (0 < (t132.length : Int)) = true := decide_eq_true c6
 have c6b1 : decide (0 < t132.length) = true := decide_eq_true (by omega)
 clear c6
 replace H := Option.bind_eq_some_iff.mp H
 obtain ⟨⟨t136, t137⟩, A70, H⟩ := H
 (try dsimp only at H)
 have A7 := A_ A70
 clear A70
 by_cases c8 : 1 < (t132.length : Int)
 {
 rw [if_pos c8] at H
 have c8b0 : decide (1 < (t132.length : Int)) = true := decide_eq_true c8
 have c8b1 : decide (1 < t132.length) = true := decide_eq_true (by omega)
 clear c8
 obtain ⟨ji9, hji9⟩ : ∃ j_ : Int, (wrap64 ((wrap64 (((rdOf ByteArray.empty t132 0).size : Int) + ((rdOf ByteArray.empty t132 1).size : Int))) + 2)) = j_ := ⟨_, rfl⟩
 replace H : (if 0 ≤ (ji9) then (if (ji9) ≤ (a0.size : Int) then ((spec_Slot.f k t136 (a0.extract ((ji9) : Int).toNat a0.size)).bind fun t140 => (if t140.toList = a0.toList then (some (t136, a0.extract ((ji9) : Int).toNat a0.size, true)) else (some (0, (⟨#[]⟩ : ByteArray), false)))) else (none)) else (none)) = some (r1, r2, r3) := by first | (rw [hji9] at H; exact H) | (simp only [hji9] at H ⊢; exact H)
 (try rw [hji9])
 (try rw [hji9] at A2)
 (try rw [hji9] at A7)
 have hji9w : (IntKind.i64.wrap ((wrap64 (((rdOf ByteArray.empty t132 0).size : Int) + ((rdOf ByteArray.empty t132 1).size : Int))) + 2)) = ji9 := (i64_w _).trans hji9
 by_cases c10 : 0 ≤ (ji9)
 {
 rw [if_pos c10] at H
 have c10b0 := eq_true c10
 have c10b1 : decide (0 ≤ (ji9)) = true := decide_eq_true c10
 clear c10
 by_cases c11 : (ji9) ≤ (a0.size : Int)
 {
 rw [if_pos c11] at H
 have c11b0 := eq_true c11
 have c11b1 : decide ((ji9) ≤ (a0.size : Int)) = true := decide_eq_true c11
 clear c11
 replace H := Option.bind_eq_some_iff.mp H
 obtain ⟨t140, A120, H⟩ := H
 (try dsimp only at H)
 have A12 := A_ A120
 clear A120
 by_cases c13 : t140.toList = a0.toList
 {
 rw [if_pos c13] at H
 have c13b0 : (t140.toList == a0.toList) = true := beq_iff_eq.mpr c13
 have c13b1 : (t140.toList != a0.toList) = false := bne_eq_false_iff_eq.mpr c13
 clear c13
 simp only [Option.some.injEq, Prod.mk.injEq] at H
 obtain ⟨rfl, rfl, rfl⟩ := H
 go_enter Tryz.func47, Tryz.ntmps47
 go_wp2_with (first | (go_at_call 59; (with_reducible refine (spec_l2Words.calls k a0 t132 _ A2.out).mono ?_); rintro e w14 ⟨v133, rfl, ho0, hb⟩; have n0_ := A_ (Kd.R_lower ho0 (below_size z47a)); have n1_ := A_ (below_step z47a hb); clear HB; have HO134 := n0_; have HB := n1_; clear n0_ n1_; obtain ⟨Ao15, co15, eo15⟩ := Kd.R_slice HO134.out; subst eo15; have p135 : 0 ≤ (0 : Int) := (by omega); have q135 : 0 < (t132.length : Int) := of_decide_eq_true z47b; obtain ⟨ad135, e135, hx135_0⟩ := Kd.at_string (Kd.R_reads' HO134.out).2.2 0 p135 q135; cases e135; have qi135 : (0 < t132.length) = True := eq_true (by omega); (try rw [show ((0 : Int)).toNat = 0 from rfl] at hx135_0); (try rw [Addr.add_zero'] at hx135_0); replace p135 := eq_true p135; replace q135 := eq_true q135) | (go_at_call 60; (with_reducible refine (spec_l2Number.calls k (rdOf ByteArray.empty t132 0) t136 t137 _ A7.out).mono ?_); rintro e w' ⟨rfl, ⟨nd, rfl⟩⟩; (try first | exact ⟨rfl, _, World.drewN_drewN _ _ _⟩ | exact ⟨rfl, _, Eq.trans (World.drewN_drewN _ _ _) (congrArg (World.drewN _) (Nat.add_assoc _ _ _))⟩); have p138 : 0 ≤ (0 : Int) := (by omega); have q138 : 0 < (t132.length : Int) := of_decide_eq_true z47b; obtain ⟨ad138, e138, hx138_0⟩ := Kd.at_string (Kd.R_reads' HO134.out).2.2 0 p138 q138; obtain rfl : ad135 = ad138 := (by injection e138); have qi138 : (0 < t132.length) = True := eq_true (by omega); (try rw [show ((0 : Int)).toNat = 0 from rfl] at hx138_0); (try rw [Addr.add_zero'] at hx138_0); replace p138 := eq_true p138; replace q138 := eq_true q138; have p139 : 0 ≤ (1 : Int) := (by omega); have q139 : 1 < (t132.length : Int) := of_decide_eq_true z47b; obtain ⟨ad139, e139, hx139_0⟩ := Kd.at_string (Kd.R_reads' HO134.out).2.2 1 p139 q139; obtain rfl : ad135 = ad139 := (by injection e139); (try simp only [show (1 : Int).toNat = 1 from rfl, Nat.reduceMul, Nat.reduceEqDiff, Go.Addr.add, ↓reduceIte] at hx139_0); have qi139 : (1 < t132.length) = True := eq_true (by omega); (try rw [show ((1 : Int)).toNat = 1 from rfl] at hx139_0); replace p139 := eq_true p139; replace q139 := eq_true q139) | (go_at_call 30; (with_reducible refine (spec_Slot.calls k t136 (a0.extract ((ji9) : Int).toNat a0.size) t140 _ A12.out).mono ?_); rintro e w16 ⟨rfl, hb⟩; replace HO134 := A_ (Kd.R_below z47c hb); replace HB := A_ (below_step z47a hb)))
 repeat (go_quiet (first | (go_at_call 59; (with_reducible refine (spec_l2Words.calls k a0 t132 _ A2.out).mono ?_); rintro e w14 ⟨v133, rfl, ho0, hb⟩; have n0_ := A_ (Kd.R_lower ho0 (below_size z47a)); have n1_ := A_ (below_step z47a hb); clear HB; have HO134 := n0_; have HB := n1_; clear n0_ n1_; obtain ⟨Ao15, co15, eo15⟩ := Kd.R_slice HO134.out; subst eo15; have p135 : 0 ≤ (0 : Int) := (by omega); have q135 : 0 < (t132.length : Int) := of_decide_eq_true z47b; obtain ⟨ad135, e135, hx135_0⟩ := Kd.at_string (Kd.R_reads' HO134.out).2.2 0 p135 q135; cases e135; have qi135 : (0 < t132.length) = True := eq_true (by omega); (try rw [show ((0 : Int)).toNat = 0 from rfl] at hx135_0); (try rw [Addr.add_zero'] at hx135_0); replace p135 := eq_true p135; replace q135 := eq_true q135) | (go_at_call 60; (with_reducible refine (spec_l2Number.calls k (rdOf ByteArray.empty t132 0) t136 t137 _ A7.out).mono ?_); rintro e w' ⟨rfl, ⟨nd, rfl⟩⟩; (try first | exact ⟨rfl, _, World.drewN_drewN _ _ _⟩ | exact ⟨rfl, _, Eq.trans (World.drewN_drewN _ _ _) (congrArg (World.drewN _) (Nat.add_assoc _ _ _))⟩); have p138 : 0 ≤ (0 : Int) := (by omega); have q138 : 0 < (t132.length : Int) := of_decide_eq_true z47b; obtain ⟨ad138, e138, hx138_0⟩ := Kd.at_string (Kd.R_reads' HO134.out).2.2 0 p138 q138; obtain rfl : ad135 = ad138 := (by injection e138); have qi138 : (0 < t132.length) = True := eq_true (by omega); (try rw [show ((0 : Int)).toNat = 0 from rfl] at hx138_0); (try rw [Addr.add_zero'] at hx138_0); replace p138 := eq_true p138; replace q138 := eq_true q138; have p139 : 0 ≤ (1 : Int) := (by omega); have q139 : 1 < (t132.length : Int) := of_decide_eq_true z47b; obtain ⟨ad139, e139, hx139_0⟩ := Kd.at_string (Kd.R_reads' HO134.out).2.2 1 p139 q139; obtain rfl : ad135 = ad139 := (by injection e139); (try simp only [show (1 : Int).toNat = 1 from rfl, Nat.reduceMul, Nat.reduceEqDiff, Go.Addr.add, ↓reduceIte] at hx139_0); have qi139 : (1 < t132.length) = True := eq_true (by omega); (try rw [show ((1 : Int)).toNat = 1 from rfl] at hx139_0); replace p139 := eq_true p139; replace q139 := eq_true q139) | (go_at_call 30; (with_reducible refine (spec_Slot.calls k t136 (a0.extract ((ji9) : Int).toNat a0.size) t140 _ A12.out).mono ?_); rintro e w16 ⟨rfl, hb⟩; replace HO134 := A_ (Kd.R_below z47c hb); replace HB := A_ (below_step z47a hb))); try go_wp2_with (first | (go_at_call 59; (with_reducible refine (spec_l2Words.calls k a0 t132 _ A2.out).mono ?_); rintro e w14 ⟨v133, rfl, ho0, hb⟩; have n0_ := A_ (Kd.R_lower ho0 (below_size z47a)); have n1_ := A_ (below_step z47a hb); clear HB; have HO134 := n0_; have HB := n1_; clear n0_ n1_; obtain ⟨Ao15, co15, eo15⟩ := Kd.R_slice HO134.out; subst eo15; have p135 : 0 ≤ (0 : Int) := (by omega); have q135 : 0 < (t132.length : Int) := of_decide_eq_true z47b; obtain ⟨ad135, e135, hx135_0⟩ := Kd.at_string (Kd.R_reads' HO134.out).2.2 0 p135 q135; cases e135; have qi135 : (0 < t132.length) = True := eq_true (by omega); (try rw [show ((0 : Int)).toNat = 0 from rfl] at hx135_0); (try rw [Addr.add_zero'] at hx135_0); replace p135 := eq_true p135; replace q135 := eq_true q135) | (go_at_call 60; (with_reducible refine (spec_l2Number.calls k (rdOf ByteArray.empty t132 0) t136 t137 _ A7.out).mono ?_); rintro e w' ⟨rfl, ⟨nd, rfl⟩⟩; (try first | exact ⟨rfl, _, World.drewN_drewN _ _ _⟩ | exact ⟨rfl, _, Eq.trans (World.drewN_drewN _ _ _) (congrArg (World.drewN _) (Nat.add_assoc _ _ _))⟩); have p138 : 0 ≤ (0 : Int) := (by omega); have q138 : 0 < (t132.length : Int) := of_decide_eq_true z47b; obtain ⟨ad138, e138, hx138_0⟩ := Kd.at_string (Kd.R_reads' HO134.out).2.2 0 p138 q138; obtain rfl : ad135 = ad138 := (by injection e138); have qi138 : (0 < t132.length) = True := eq_true (by omega); (try rw [show ((0 : Int)).toNat = 0 from rfl] at hx138_0); (try rw [Addr.add_zero'] at hx138_0); replace p138 := eq_true p138; replace q138 := eq_true q138; have p139 : 0 ≤ (1 : Int) := (by omega); have q139 : 1 < (t132.length : Int) := of_decide_eq_true z47b; obtain ⟨ad139, e139, hx139_0⟩ := Kd.at_string (Kd.R_reads' HO134.out).2.2 1 p139 q139; obtain rfl : ad135 = ad139 := (by injection e139); (try simp only [show (1 : Int).toNat = 1 from rfl, Nat.reduceMul, Nat.reduceEqDiff, Go.Addr.add, ↓reduceIte] at hx139_0); have qi139 : (1 < t132.length) = True := eq_true (by omega); (try rw [show ((1 : Int)).toNat = 1 from rfl] at hx139_0); replace p139 := eq_true p139; replace q139 := eq_true q139) | (go_at_call 30; (with_reducible refine (spec_Slot.calls k t136 (a0.extract ((ji9) : Int).toNat a0.size) t140 _ A12.out).mono ?_); rintro e w16 ⟨rfl, hb⟩; replace HO134 := A_ (Kd.R_below z47c hb); replace HB := A_ (below_step z47a hb))))
 go_ret3
 exact ⟨by first | rfl | (simp [errW_none, errW_some] <;> rfl) | (simp only [← hji9]; first | rfl | (simp [errW_none, errW_some] <;> rfl)) | (simp [*, errW_none, errW_some] <;> rfl), by repeat (first | (with_reducible first | exact HB.out | apply below_alloc | apply pw_below_drewN | apply below_drew1) | exact HB.out)⟩
 }
 {
 rw [if_neg c13] at H
 have c13b0 : (t140.toList == a0.toList) = false := beq_eq_false_iff_ne.mpr c13
 have c13b1 : (t140.toList != a0.toList) = true := bne_iff_ne.mpr c13
 simp only [Option.some.injEq, Prod.mk.injEq] at H
 obtain ⟨rfl, rfl, rfl⟩ := H
 go_enter Tryz.func47, Tryz.ntmps47
 go_wp2_with (first | (go_at_call 59; (with_reducible refine (spec_l2Words.calls k a0 t132 _ A2.out).mono ?_); rintro e w17 ⟨v133, rfl, ho0, hb⟩; have n0_ := A_ (Kd.R_lower ho0 (below_size z47a)); have n1_ := A_ (below_step z47a hb); clear HB; have HO134 := n0_; have HB := n1_; clear n0_ n1_; obtain ⟨Ao18, co18, eo18⟩ := Kd.R_slice HO134.out; subst eo18; have p135 : 0 ≤ (0 : Int) := (by omega); have q135 : 0 < (t132.length : Int) := of_decide_eq_true z47b; obtain ⟨ad135, e135, hx135_0⟩ := Kd.at_string (Kd.R_reads' HO134.out).2.2 0 p135 q135; cases e135; have qi135 : (0 < t132.length) = True := eq_true (by omega); (try rw [show ((0 : Int)).toNat = 0 from rfl] at hx135_0); (try rw [Addr.add_zero'] at hx135_0); replace p135 := eq_true p135; replace q135 := eq_true q135) | (go_at_call 60; (with_reducible refine (spec_l2Number.calls k (rdOf ByteArray.empty t132 0) t136 t137 _ A7.out).mono ?_); rintro e w' ⟨rfl, ⟨nd, rfl⟩⟩; (try first | exact ⟨rfl, _, World.drewN_drewN _ _ _⟩ | exact ⟨rfl, _, Eq.trans (World.drewN_drewN _ _ _) (congrArg (World.drewN _) (Nat.add_assoc _ _ _))⟩); have p138 : 0 ≤ (0 : Int) := (by omega); have q138 : 0 < (t132.length : Int) := of_decide_eq_true z47b; obtain ⟨ad138, e138, hx138_0⟩ := Kd.at_string (Kd.R_reads' HO134.out).2.2 0 p138 q138; obtain rfl : ad135 = ad138 := (by injection e138); have qi138 : (0 < t132.length) = True := eq_true (by omega); (try rw [show ((0 : Int)).toNat = 0 from rfl] at hx138_0); (try rw [Addr.add_zero'] at hx138_0); replace p138 := eq_true p138; replace q138 := eq_true q138; have p139 : 0 ≤ (1 : Int) := (by omega); have q139 : 1 < (t132.length : Int) := of_decide_eq_true z47b; obtain ⟨ad139, e139, hx139_0⟩ := Kd.at_string (Kd.R_reads' HO134.out).2.2 1 p139 q139; obtain rfl : ad135 = ad139 := (by injection e139); (try simp only [show (1 : Int).toNat = 1 from rfl, Nat.reduceMul, Nat.reduceEqDiff, Go.Addr.add, ↓reduceIte] at hx139_0); have qi139 : (1 < t132.length) = True := eq_true (by omega); (try rw [show ((1 : Int)).toNat = 1 from rfl] at hx139_0); replace p139 := eq_true p139; replace q139 := eq_true q139) | (go_at_call 30; (with_reducible refine (spec_Slot.calls k t136 (a0.extract ((ji9) : Int).toNat a0.size) t140 _ A12.out).mono ?_); rintro e w19 ⟨rfl, hb⟩; replace HO134 := A_ (Kd.R_below z47c hb); replace HB := A_ (below_step z47a hb)))
 repeat (go_quiet (first | (go_at_call 59; (with_reducible refine (spec_l2Words.calls k a0 t132 _ A2.out).mono ?_); rintro e w17 ⟨v133, rfl, ho0, hb⟩; have n0_ := A_ (Kd.R_lower ho0 (below_size z47a)); have n1_ := A_ (below_step z47a hb); clear HB; have HO134 := n0_; have HB := n1_; clear n0_ n1_; obtain ⟨Ao18, co18, eo18⟩ := Kd.R_slice HO134.out; subst eo18; have p135 : 0 ≤ (0 : Int) := (by omega); have q135 : 0 < (t132.length : Int) := of_decide_eq_true z47b; obtain ⟨ad135, e135, hx135_0⟩ := Kd.at_string (Kd.R_reads' HO134.out).2.2 0 p135 q135; cases e135; have qi135 : (0 < t132.length) = True := eq_true (by omega); (try rw [show ((0 : Int)).toNat = 0 from rfl] at hx135_0); (try rw [Addr.add_zero'] at hx135_0); replace p135 := eq_true p135; replace q135 := eq_true q135) | (go_at_call 60; (with_reducible refine (spec_l2Number.calls k (rdOf ByteArray.empty t132 0) t136 t137 _ A7.out).mono ?_); rintro e w' ⟨rfl, ⟨nd, rfl⟩⟩; (try first | exact ⟨rfl, _, World.drewN_drewN _ _ _⟩ | exact ⟨rfl, _, Eq.trans (World.drewN_drewN _ _ _) (congrArg (World.drewN _) (Nat.add_assoc _ _ _))⟩); have p138 : 0 ≤ (0 : Int) := (by omega); have q138 : 0 < (t132.length : Int) := of_decide_eq_true z47b; obtain ⟨ad138, e138, hx138_0⟩ := Kd.at_string (Kd.R_reads' HO134.out).2.2 0 p138 q138; obtain rfl : ad135 = ad138 := (by injection e138); have qi138 : (0 < t132.length) = True := eq_true (by omega); (try rw [show ((0 : Int)).toNat = 0 from rfl] at hx138_0); (try rw [Addr.add_zero'] at hx138_0); replace p138 := eq_true p138; replace q138 := eq_true q138; have p139 : 0 ≤ (1 : Int) := (by omega); have q139 : 1 < (t132.length : Int) := of_decide_eq_true z47b; obtain ⟨ad139, e139, hx139_0⟩ := Kd.at_string (Kd.R_reads' HO134.out).2.2 1 p139 q139; obtain rfl : ad135 = ad139 := (by injection e139); (try simp only [show (1 : Int).toNat = 1 from rfl, Nat.reduceMul, Nat.reduceEqDiff, Go.Addr.add, ↓reduceIte] at hx139_0); have qi139 : (1 < t132.length) = True := eq_true (by omega); (try rw [show ((1 : Int)).toNat = 1 from rfl] at hx139_0); replace p139 := eq_true p139; replace q139 := eq_true q139) | (go_at_call 30; (with_reducible refine (spec_Slot.calls k t136 (a0.extract ((ji9) : Int).toNat a0.size) t140 _ A12.out).mono ?_); rintro e w19 ⟨rfl, hb⟩; replace HO134 := A_ (Kd.R_below z47c hb); replace HB := A_ (below_step z47a hb))); try go_wp2_with (first | (go_at_call 59; (with_reducible refine (spec_l2Words.calls k a0 t132 _ A2.out).mono ?_); rintro e w17 ⟨v133, rfl, ho0, hb⟩; have n0_ := A_ (Kd.R_lower ho0 (below_size z47a)); have n1_ := A_ (below_step z47a hb); clear HB; have HO134 := n0_; have HB := n1_; clear n0_ n1_; obtain ⟨Ao18, co18, eo18⟩ := Kd.R_slice HO134.out; subst eo18; have p135 : 0 ≤ (0 : Int) := (by omega); have q135 : 0 < (t132.length : Int) := of_decide_eq_true z47b; obtain ⟨ad135, e135, hx135_0⟩ := Kd.at_string (Kd.R_reads' HO134.out).2.2 0 p135 q135; cases e135; have qi135 : (0 < t132.length) = True := eq_true (by omega); (try rw [show ((0 : Int)).toNat = 0 from rfl] at hx135_0); (try rw [Addr.add_zero'] at hx135_0); replace p135 := eq_true p135; replace q135 := eq_true q135) | (go_at_call 60; (with_reducible refine (spec_l2Number.calls k (rdOf ByteArray.empty t132 0) t136 t137 _ A7.out).mono ?_); rintro e w' ⟨rfl, ⟨nd, rfl⟩⟩; (try first | exact ⟨rfl, _, World.drewN_drewN _ _ _⟩ | exact ⟨rfl, _, Eq.trans (World.drewN_drewN _ _ _) (congrArg (World.drewN _) (Nat.add_assoc _ _ _))⟩); have p138 : 0 ≤ (0 : Int) := (by omega); have q138 : 0 < (t132.length : Int) := of_decide_eq_true z47b; obtain ⟨ad138, e138, hx138_0⟩ := Kd.at_string (Kd.R_reads' HO134.out).2.2 0 p138 q138; obtain rfl : ad135 = ad138 := (by injection e138); have qi138 : (0 < t132.length) = True := eq_true (by omega); (try rw [show ((0 : Int)).toNat = 0 from rfl] at hx138_0); (try rw [Addr.add_zero'] at hx138_0); replace p138 := eq_true p138; replace q138 := eq_true q138; have p139 : 0 ≤ (1 : Int) := (by omega); have q139 : 1 < (t132.length : Int) := of_decide_eq_true z47b; obtain ⟨ad139, e139, hx139_0⟩ := Kd.at_string (Kd.R_reads' HO134.out).2.2 1 p139 q139; obtain rfl : ad135 = ad139 := (by injection e139); (try simp only [show (1 : Int).toNat = 1 from rfl, Nat.reduceMul, Nat.reduceEqDiff, Go.Addr.add, ↓reduceIte] at hx139_0); have qi139 : (1 < t132.length) = True := eq_true (by omega); (try rw [show ((1 : Int)).toNat = 1 from rfl] at hx139_0); replace p139 := eq_true p139; replace q139 := eq_true q139) | (go_at_call 30; (with_reducible refine (spec_Slot.calls k t136 (a0.extract ((ji9) : Int).toNat a0.size) t140 _ A12.out).mono ?_); rintro e w19 ⟨rfl, hb⟩; replace HO134 := A_ (Kd.R_below z47c hb); replace HB := A_ (below_step z47a hb))))
 go_ret3
 exact ⟨by first | rfl | (simp [errW_none, errW_some] <;> rfl) | (simp only [← hji9]; first | rfl | (simp [errW_none, errW_some] <;> rfl)) | (simp [*, errW_none, errW_some] <;> rfl), by repeat (first | (with_reducible first | exact HB.out | apply below_alloc | apply pw_below_drewN | apply below_drew1) | exact HB.out)⟩
 }
 }
 {
 rw [if_neg c11] at H
 exact absurd H (by simp)
 }
 }
 {
 rw [if_neg c10] at H
 exact absurd H (by simp)
 }
 }
 {
 rw [if_neg c8] at H
 exact absurd H (by simp)
 }
 }
 {
 rw [if_neg c6] at H
 exact absurd H (by simp)
 
 }
 }
end Go.Proofs.YtepcmdmclmfgkaaGreatDoor.PFnExactHalfway

-- by a program of this session (wip/print/run.py) for this claim
import Derived.Test.YtaiggfjkikfcbaaLibPu
import Derived.Test.YtaiggfjkikfcbaaPFnExactEntriesx0
namespace Go.Proofs.Ytaiggfjkikfcbaa.PFnExactEntries
open Go.Proofs.Ytaiggfjkikfcbaa.Lib Go.RowKit Go.Proofs.YtaiggfjkikfcbaaW.PrintWords Go.Proofs.YtaiggfjkikfcbaaW.PrintLast Go.Proofs.YtaiggfjkikfcbaaW.PrintMore
attribute [local go_sem] max2_int min2_int max_two min_two max_three min_three max_four min_four   -- for this text's walks alone
set_option linter.unusedVariables false
set_option linter.unusedSimpArgs false

def impl_ReadNumber.l0 : Nat → Int → List Int → Int → Int → Option (Int × Int)
 | 0, _, _, _, _ => none
 | k + 1, x4, x7, x8, x9 => if x9 < x8 then (if 0 ≤ x9 then (if x9 < (x7.length : Int) then (if x9 > 5 then (some (0, 0)) else (if 0 ≤ (wrap64 (7 * x9)) then (if (rd x7 x9) < 128 then (if x9 > 0 then (if (rd x7 x9) = 0 then (some (0, 0)) else (if (Go.bits .or .i64 x4 (shl .i64 (wrap64 (Go.bits .and .u8 (rd x7 x9) 127)) (wrap64 (7 * x9)))) > 1099511627776 then (some (0, 0)) else (some (Go.bits .or .i64 x4 (shl .i64 (wrap64 (Go.bits .and .u8 (rd x7 x9) 127)) (wrap64 (7 * x9))), wrap64 (x9 + 1))))) else (if (Go.bits .or .i64 x4 (shl .i64 (wrap64 (Go.bits .and .u8 (rd x7 x9) 127)) (wrap64 (7 * x9)))) > 1099511627776 then (some (0, 0)) else (some (Go.bits .or .i64 x4 (shl .i64 (wrap64 (Go.bits .and .u8 (rd x7 x9) 127)) (wrap64 (7 * x9))), wrap64 (x9 + 1))))) else (impl_ReadNumber.l0 k (Go.bits .or .i64 x4 (shl .i64 (wrap64 (Go.bits .and .u8 (rd x7 x9) 127)) (wrap64 (7 * x9)))) x7 x8 (wrap64 (x9 + 1)))) else (none))) else (none)) else (none)) else (some (0, 0))
def impl_ReadNumber.f (k : Nat) (l0 : List Int) : Option (Int × Int) := impl_ReadNumber.l0 k 0 l0 (l0.length : Int) 0
set_option maxHeartbeats 8000000 in
set_option maxRecDepth 100000 in
theorem impl_ReadNumber.calls (k : Nat) (A0 : Option Addr) (c0 : Nat) (l0 : List Int) (r1 : Int) (r2 : Int) (w : World) (hr0 : Kd.C (Kd.int .u8) w A0 l0.length l0) (hc0 : l0.length ≤ c0) (h : impl_ReadNumber.f k l0 = some (r1, r2)) :
  Calls Try.prog 161 #[.slice A0 l0.length c0] w fun e w' => e = .returned (.tuple #[.int .i64 r1, .int .i64 r2]) ∧ Drawn0 w w' := by
 have HR0 := A_ hr0
 have HC0 := A_ hc0
 clear hr0 hc0
 have H : (impl_ReadNumber.l0 k 0 l0 (l0.length : Int) 0) = some (r1, r2) := h
 clear h
 have H' := A_ H
 clear H
 go_enter Try.func161, Try.ntmps161
 go_wp2
 go_loopg [4, 9] k (fun kq v4 v9 w' => ∃ (x4_1 : Int) (x9_1 : Int), v4 = .int .i64 x4_1 ∧ v9 = .int .i64 x9_1 ∧ Aside0 (impl_ReadNumber.l0 kq x4_1 l0 (l0.length : Int) x9_1 = some (r1, r2)) ∧ Aside0 (kq ≤ k) ∧ Drawn0 w w')
 case atStart => exact ⟨(0), (0), (zs), (zs), H', ⟨Nat.le_refl _⟩, by repeat (first | exact Drawn0.refl _ | apply Drawn0.step)⟩
 case round =>
  clear H'
  try clear c1
  obtain ⟨x4_1, x9_1, rfl, rfl, HA, HK1, ⟨m1, rfl⟩⟩ := hrel
  cases gk with
  | zero => exact absurd HA.out (by simp [impl_ReadNumber.l0])
  | succ k1 =>
   have H := HA.out
   clear HA
   simp only [impl_ReadNumber.l0] at H
   by_cases c2 : x9_1 < (l0.length : Int)
   {
   rw [if_pos c2] at H
   have c2b0 : decide (x9_1 < (l0.length : Int)) = true := decide_eq_true c2
   clear c2
   by_cases c3 : 0 ≤ x9_1
   {
   rw [if_pos c3] at H
   have c3b0 : decide (0 ≤ x9_1) = true := decide_eq_true c3
   clear c3
   by_cases c4 : x9_1 < (l0.length : Int)
   {
   rw [if_pos c4] at H
   have c4b0 : decide (x9_1 < (l0.length : Int)) = true := decide_eq_true c4
   clear c4
   by_cases c5 : x9_1 > 5
   {
   rw [if_pos c5] at H
   have c5b0 : decide (5 < x9_1) = true := decide_eq_true c5
   clear c5
   simp only [Option.some.injEq, Prod.mk.injEq] at H
   obtain ⟨rfl, rfl⟩ := H
   have p474 : 0 ≤ (x9_1 : Int) := of_decide_eq_true zg2
   have q474 : x9_1 < (l0.length : Int) := of_decide_eq_true zg2
   obtain ⟨ad474, e474, hx474_0⟩ := Kd.at_int HR0.out x9_1 p474 q474
   cases e474
   replace p474 := eq_true p474
   replace q474 := eq_true q474
   go_wp2
   go_ret2
   exact ⟨zs, by repeat (first | exact Drawn0.refl _ | apply Drawn0.step)⟩
   }
   {
   rw [if_neg c5] at H
   have c5b0 : decide (5 < x9_1) = false := decide_eq_false c5
   clear c5
   obtain ⟨ji6, hji6⟩ : ∃ j_ : Int, (wrap64 (7 * x9_1)) = j_ := ⟨_, rfl⟩
   replace H : (if 0 ≤ (ji6) then (if (rd l0 x9_1) < 128 then (if x9_1 > 0 then (if (rd l0 x9_1) = 0 then (some (0, 0)) else (if (Go.bits .or .i64 x4_1 (shl .i64 (wrap64 (Go.bits .and .u8 (rd l0 x9_1) 127)) (ji6))) > 1099511627776 then (some (0, 0)) else (some (Go.bits .or .i64 x4_1 (shl .i64 (wrap64 (Go.bits .and .u8 (rd l0 x9_1) 127)) (ji6)), wrap64 (x9_1 + 1))))) else (if (Go.bits .or .i64 x4_1 (shl .i64 (wrap64 (Go.bits .and .u8 (rd l0 x9_1) 127)) (ji6))) > 1099511627776 then (some (0, 0)) else (some (Go.bits .or .i64 x4_1 (shl .i64 (wrap64 (Go.bits .and .u8 (rd l0 x9_1) 127)) (ji6)), wrap64 (x9_1 + 1))))) else (impl_ReadNumber.l0 k1 (Go.bits .or .i64 x4_1 (shl .i64 (wrap64 (Go.bits .and .u8 (rd l0 x9_1) 127)) (ji6))) l0 (l0.length : Int) (wrap64 (x9_1 + 1)))) else (none)) = some (r1, r2) := by first | (rw [hji6] at H; exact H) | (simp only [hji6] at H ⊢; exact H)
   (try rw [hji6])
   have hji6w : (IntKind.i64.wrap (7 * x9_1)) = ji6 := (i64_w _).trans hji6
   by_cases c7 : 0 ≤ (ji6)
   {
   rw [if_pos c7] at H
   have c7b0 := eq_true c7
   have c7b1 : decide (0 ≤ (ji6)) = true := decide_eq_true c7
   clear c7
   obtain ⟨ji8, hji8⟩ : ∃ j_ : Int, (shl .i64 (wrap64 (Go.bits .and .u8 (rd l0 x9_1) 127)) (ji6)) = j_ := ⟨_, rfl⟩
   replace H : (if (rd l0 x9_1) < 128 then (if x9_1 > 0 then (if (rd l0 x9_1) = 0 then (some (0, 0)) else (if (Go.bits .or .i64 x4_1 (ji8)) > 1099511627776 then (some (0, 0)) else (some (Go.bits .or .i64 x4_1 (ji8), wrap64 (x9_1 + 1))))) else (if (Go.bits .or .i64 x4_1 (ji8)) > 1099511627776 then (some (0, 0)) else (some (Go.bits .or .i64 x4_1 (ji8), wrap64 (x9_1 + 1))))) else (impl_ReadNumber.l0 k1 (Go.bits .or .i64 x4_1 (ji8)) l0 (l0.length : Int) (wrap64 (x9_1 + 1)))) = some (r1, r2) := by first | (rw [hji8] at H; exact H) | (simp only [hji8] at H ⊢; exact H)
   have hji8_ : (IntKind.i64.wrap ((wrap64 (Go.bits .and .u8 (rd l0 x9_1) 127)) * 2 ^ min (ji6).toNat 64)) = ji8 := hji8
   have hji8z : (ji6) ≤ 64 → (IntKind.i64.wrap ((wrap64 (Go.bits .and .u8 (rd l0 x9_1) 127)) * 2 ^ (ji6).toNat)) = ji8 := shl_small hji8
   have hji8y : (wrap64 ((wrap64 (Go.bits .and .u8 (rd l0 x9_1) 127)) * 2 ^ min (ji6).toNat 64)) = ji8 := (i64_w _).symm.trans hji8_
   have hji8x : (ji6) ≤ 64 → (wrap64 ((wrap64 (Go.bits .and .u8 (rd l0 x9_1) 127)) * 2 ^ (ji6).toNat)) = ji8 := fun h_ => (i64_w _).symm.trans (hji8z h_)
   by_cases c9 : (rd l0 x9_1) < 128
   {
   rw [if_pos c9] at H
   have c9b0 : decide ((rd l0 x9_1) < 128) = true := decide_eq_true c9
   clear c9
   by_cases c10 : x9_1 > 0
   {
   rw [if_pos c10] at H
   have c10b0 : decide (0 < x9_1) = true := decide_eq_true c10
   clear c10
   by_cases c11 : (rd l0 x9_1) = 0
   {
   rw [if_pos c11] at H
   have c11b0 : ((rd l0 x9_1) == 0) = true := beq_iff_eq.mpr c11
   have c11b1 : ((rd l0 x9_1) != 0) = false := bne_eq_false_iff_eq.mpr c11
   clear c11
   simp only [Option.some.injEq, Prod.mk.injEq] at H
   obtain ⟨rfl, rfl⟩ := H
   have p474 : 0 ≤ (x9_1 : Int) := of_decide_eq_true zg2
   have q474 : x9_1 < (l0.length : Int) := of_decide_eq_true zg2
   obtain ⟨ad474, e474, hx474_0⟩ := Kd.at_int HR0.out x9_1 p474 q474
   cases e474
   replace p474 := eq_true p474
   replace q474 := eq_true q474
   go_wp2
   go_ret2
   exact ⟨by first | rfl | (simp; done) | (simp only [← hji6, ← hji8] <;> (first | rfl | simp)) | (simp [*]; done), by repeat (first | exact Drawn0.refl _ | apply Drawn0.step)⟩
   }
   {
   rw [if_neg c11] at H
   have c11b0 : ((rd l0 x9_1) == 0) = false := beq_eq_false_iff_ne.mpr c11
   have c11b1 : ((rd l0 x9_1) != 0) = true := bne_iff_ne.mpr c11
   by_cases c12 : (Go.bits .or .i64 x4_1 (ji8)) > 1099511627776
   {
   rw [if_pos c12] at H
   have c12b0 : decide (1099511627776 < (Go.bits .or .i64 x4_1 (ji8))) = true := decide_eq_true c12
   clear c12
   simp only [Option.some.injEq, Prod.mk.injEq] at H
   obtain ⟨rfl, rfl⟩ := H
   have p474 : 0 ≤ (x9_1 : Int) := of_decide_eq_true zg2
   have q474 : x9_1 < (l0.length : Int) := of_decide_eq_true zg2
   obtain ⟨ad474, e474, hx474_0⟩ := Kd.at_int HR0.out x9_1 p474 q474
   cases e474
   replace p474 := eq_true p474
   replace q474 := eq_true q474
   go_wp2
   go_ret2
   exact ⟨by first | rfl | (simp; done) | (simp only [← hji6, ← hji8] <;> (first | rfl | simp)) | (simp [*]; done), by repeat (first | exact Drawn0.refl _ | apply Drawn0.step)⟩
   }
   {
   rw [if_neg c12] at H
   have c12b0 : decide (1099511627776 < (Go.bits .or .i64 x4_1 (ji8))) = false := decide_eq_false c12
   clear c12
   simp only [Option.some.injEq, Prod.mk.injEq] at H
   obtain ⟨rfl, rfl⟩ := H
   have p474 : 0 ≤ (x9_1 : Int) := of_decide_eq_true zg2
   have q474 : x9_1 < (l0.length : Int) := of_decide_eq_true zg2
   obtain ⟨ad474, e474, hx474_0⟩ := Kd.at_int HR0.out x9_1 p474 q474
   cases e474
   replace p474 := eq_true p474
   replace q474 := eq_true q474
   go_wp2
   go_ret2
   exact ⟨by first | rfl | (simp; done) | (simp only [← hji6, ← hji8] <;> (first | rfl | simp)) | (simp [*]; done), by repeat (first | exact Drawn0.refl _ | apply Drawn0.step)⟩
   }
   }
   }
   {
   rw [if_neg c10] at H
   have c10b0 : decide (0 < x9_1) = false := decide_eq_false c10
   clear c10
   by_cases c13 : (Go.bits .or .i64 x4_1 (ji8)) > 1099511627776
   {
   rw [if_pos c13] at H
   have c13b0 : decide (1099511627776 < (Go.bits .or .i64 x4_1 (ji8))) = true := decide_eq_true c13
   clear c13
   simp only [Option.some.injEq, Prod.mk.injEq] at H
   obtain ⟨rfl, rfl⟩ := H
   have p474 : 0 ≤ (x9_1 : Int) := of_decide_eq_true zg2
   have q474 : x9_1 < (l0.length : Int) := of_decide_eq_true zg2
   obtain ⟨ad474, e474, hx474_0⟩ := Kd.at_int HR0.out x9_1 p474 q474
   cases e474
   replace p474 := eq_true p474
   replace q474 := eq_true q474
   go_wp2
   go_ret2
   exact ⟨by first | rfl | (simp; done) | (simp only [← hji6, ← hji8] <;> (first | rfl | simp)) | (simp [*]; done), by repeat (first | exact Drawn0.refl _ | apply Drawn0.step)⟩
   }
   {
   rw [if_neg c13] at H
   have c13b0 : decide (1099511627776 < (Go.bits .or .i64 x4_1 (ji8))) = false := decide_eq_false c13
   clear c13
   simp only [Option.some.injEq, Prod.mk.injEq] at H
   obtain ⟨rfl, rfl⟩ := H
   have p474 : 0 ≤ (x9_1 : Int) := of_decide_eq_true zg2
   have q474 : x9_1 < (l0.length : Int) := of_decide_eq_true zg2
   obtain ⟨ad474, e474, hx474_0⟩ := Kd.at_int HR0.out x9_1 p474 q474
   cases e474
   replace p474 := eq_true p474
   replace q474 := eq_true q474
   go_wp2
   go_ret2
   exact ⟨by first | rfl | (simp; done) | (simp only [← hji6, ← hji8] <;> (first | rfl | simp)) | (simp [*]; done), by repeat (first | exact Drawn0.refl _ | apply Drawn0.step)⟩
   }
   }
   }
   {
   rw [if_neg c9] at H
   have c9b0 : decide ((rd l0 x9_1) < 128) = false := decide_eq_false c9
   clear c9
   have H' := A_ H
   clear H
   have p474 : 0 ≤ (x9_1 : Int) := of_decide_eq_true zg2
   have q474 : x9_1 < (l0.length : Int) := of_decide_eq_true zg2
   obtain ⟨ad474, e474, hx474_0⟩ := Kd.at_int HR0.out x9_1 p474 q474
   cases e474
   replace p474 := eq_true p474
   replace q474 := eq_true q474
   go_wp2
   go_roundg k1
   case measure => have := HK1.out; omega
   case rel => exact ⟨(Go.bits .or .i64 x4_1 (ji8)), (wrap64 (x9_1 + 1)), (by first | rfl | (simp; done) | (simp only [← hji8] <;> (first | rfl | simp)) | (simp [*]; done)), (zs), H', ⟨by have := HK1.out; omega⟩, by repeat (first | exact Drawn0.refl _ | apply Drawn0.step)⟩
   }
   }
   {
   rw [if_neg c7] at H
   exact absurd H (by simp)
   }
   }
   }
   {
   rw [if_neg c4] at H
   exact absurd H (by simp)
   }
   }
   {
   rw [if_neg c3] at H
   exact absurd H (by simp)
   }
   }
   {
   rw [if_neg c2] at H
   have c2b0 : decide (x9_1 < (l0.length : Int)) = false := decide_eq_false c2
   clear c2
   simp only [Option.some.injEq, Prod.mk.injEq] at H
   obtain ⟨rfl, rfl⟩ := H
   go_wp2
   go_ret2
   exact ⟨zs, by repeat (first | exact Drawn0.refl _ | apply Drawn0.step)⟩
   
   }
/-- A state of type 145 at block g of W; what its slices lead to came in by w0. -/
def IsS145 (w0 W : World) (g : Nat) (f0 : List Int) (f1 : Bool) : Prop := ∃ A0 c0, W.heap[g]? = some (.cells #[.slice A0 f0.length c0, .bool f1] 145 (0, 0)) ∧ w0.heap.size ≤ g ∧ (Kd.C (Kd.int .u8) w0 A0 f0.length f0 ∧ f0.length ≤ c0)
theorem IsS145.grown {w0 W : World} {g : Nat} {f0 : List Int} {f1 : Bool} {W1 : World} {row : Option Nat} (h : IsS145 w0 W g f0 f1) (hw : W.grownBy W1 row) (hne : some g ≠ row) : IsS145 w0 W1 g f0 f1 := by
  obtain ⟨A0, c0, hb, hg, hr0⟩ := h
  exact ⟨A0, c0, blk_grown hb hw hne, hg, hr0⟩
theorem IsS145.below {w0 W : World} {g : Nat} {f0 : List Int} {f1 : Bool} {W1 : World} (h : IsS145 w0 W g f0 f1) (hw : Below W.heap.size W W1) : IsS145 w0 W1 g f0 f1 := h.grown (grown_of_below hw none) (by simp)
theorem IsS145.alloc {w0 W : World} {g : Nat} {f0 : List Int} {f1 : Bool} (h : IsS145 w0 W g f0 f1) (o : Obj) : IsS145 w0 (W.alloc o) g f0 f1 := h.below (below_alloc (Below.refl _ _) o)
theorem IsS145.drewN {w0 W : World} {g : Nat} {f0 : List Int} {f1 : Bool} (h : IsS145 w0 W g f0 f1) (m : Nat) : IsS145 w0 (W.drewN m) g f0 f1 := h
theorem IsS145.drew {w0 W : World} {g : Nat} {f0 : List Int} {f1 : Bool} (h : IsS145 w0 W g f0 f1) : IsS145 w0 W.drew g f0 f1 := h
theorem IsS145.apart {w0 W : World} {g : Nat} {f0 : List Int} {f1 : Bool} {α : Type} {d : Kd α} {e : Nat} {base : Nat} {ok : Nat → Prop} {v : Value} {xs : List α} (h : IsS145 w0 W g f0 f1) (ho : d.R e W base ok v xs) (ht : ∀ q, q ∈ e :: d.E → q ≠ 145) : d.R e W base (fun k => ok k ∧ k ≠ g) v xs := by
  obtain ⟨A0, c0, hb, hg, hr0⟩ := h
  exact Kd.R_types ho hb ht
theorem IsS145.own_ne {w0 W : World} {g : Nat} {f0 : List Int} {f1 : Bool} {α : Type} {d : Kd α} {e : Nat} {base : Nat} {ok : Nat → Prop} {v : Value} {xs : List α} (h : IsS145 w0 W g f0 f1) (ho : d.R e W base ok v xs) (ht : e ≠ 145) : some g ≠ v.ownBlock := by
  obtain ⟨A0, c0, hb, hg, hr0⟩ := h
  exact Kd.R_ne ho hb ht
theorem IsS145.ge {w0 W : World} {g : Nat} {f0 : List Int} {f1 : Bool} (h : IsS145 w0 W g f0 f1) : w0.heap.size ≤ g := by
  obtain ⟨A0, c0, hb, hg, hr0⟩ := h
  exact hg
theorem cellS145_0 {W : World} {g : Nat} {A0 : Option Addr} {c0 : Nat} {f0 : List Int} {f1 : Bool} (h : W.heap[g]? = some (.cells #[.slice A0 f0.length c0, .bool f1] 145 (0, 0))) : W.cell? ⟨g, 0, none⟩ = some (.slice A0 f0.length c0) := (blk_cell h 0).trans rfl
theorem cellS145_1 {W : World} {g : Nat} {A0 : Option Addr} {c0 : Nat} {f0 : List Int} {f1 : Bool} (h : W.heap[g]? = some (.cells #[.slice A0 f0.length c0, .bool f1] 145 (0, 0))) : W.cell? ⟨g, 1, none⟩ = some (.bool f1) := (blk_cell h 1).trans rfl
theorem IsS145.set_1 {w0 W : World} {g : Nat} {f0 : List Int} {f1 : Bool} (h : IsS145 w0 W g f0 f1) (x : Bool) : IsS145 w0 (W.setCell ⟨g, 1, none⟩ (.bool x)) g f0 x := by
  obtain ⟨A0, c0, hb, hg, hr0⟩ := h
  exact ⟨A0, c0, by simpa using blk_set hb 1 (.bool x), hg, hr0⟩
def impl_cursor_goes.f (s0_0 : List Int) (s0_1 : Bool) (a1 : Int) : Option (List Int × Bool) := if 0 ≤ a1 then (if a1 ≤ (s0_0.length : Int) then some (s0_0.drop a1.toNat, (s0_1 || a1 == 0)) else none) else none
/-- The slice in the state's cell 0 is another one, which reads as f. -/
theorem IsS145.moves {w0 W : World} {g : Nat} {f0 f : List Int} {f1 : Bool} {A : Option Addr} {n c : Nat} (h : IsS145 w0 W g f0 f1) (hn : n = f.length) (hc : n ≤ c) (hr : Kd.C (Kd.int .u8) w0 A n f) : IsS145 w0 (W.setCell ⟨g, 0, none⟩ (.slice A n c)) g f f1 := by
  subst hn
  obtain ⟨A0, c0, hb, hg, hr0⟩ := h
  exact ⟨A, c, by simpa using blk_set hb 0 (.slice A f.length c), hg, hr, hc⟩
set_option maxHeartbeats 8000000 in
set_option maxRecDepth 100000 in
theorem impl_cursor_goes.calls (g : Nat) (s0_0 : List Int) (s0_1 : Bool) (a1 : Int) (r1 : List Int) (r2 : Bool) (w0 w : World) (hI : IsS145 w0 w g s0_0 s0_1) (hB : Below w0.heap.size w0 w) (h : impl_cursor_goes.f s0_0 s0_1 a1 = some (r1, r2)) :
    Calls Try.prog 162 #[.pointer (some ⟨g, 0, none⟩), .int .i64 a1] w fun e w' => e = .returned (.tuple #[]) ∧ IsS145 w0 w' g r1 r2 ∧ Below w0.heap.size w0 w' ∧ KeepBut w w' g none := by
  unfold impl_cursor_goes.f at h
  by_cases h0 : 0 ≤ a1
  · rw [if_pos h0] at h
    by_cases h1 : a1 ≤ (s0_0.length : Int)
    · rw [if_pos h1] at h
      simp only [Option.some.injEq, Prod.mk.injEq] at h
      obtain ⟨rfl, rfl⟩ := h
      obtain ⟨m, rfl⟩ : ∃ m : Nat, a1 = m := ⟨a1.toNat, by omega⟩
      have HI := A_ hI
      have HB := A_ hB
      have HK := A_ (KeepBut.refl w g none)
      obtain ⟨A0, c0, HG, hg, hr0, hc0⟩ := hI
      have hc_0 := cellS145_0 HG
      have hc_1 := cellS145_1 HG
      have hf_0 := blk_frozen HG 0
      have hf_1 := blk_frozen HG 1
      obtain ⟨i0, hi0, hsz, _⟩ : ∃ i, Try.prog.info? 5 = some i ∧ i.size = 1 ∧ True := ⟨_, rfl, rfl, trivial⟩
      obtain ⟨A', hcut, hA'⟩ := print_cut_of (P := Try.prog) (Value.int .u8) 0 36 5 .i64 Try.underlying36 hi0 hsz A0 s0_0.length c0 m (by omega)
      have hC' := A_ (Kd.C_of_reads (h1 := fun _ => rfl) (hA' _ s0_0 hc0 (Kd.reads_of_C hr0)))
      have HC := A_ hc0
      have HM := A_ h1
      clear hA' hi0 hsz hr0 hc0 hB h0 h1 HG hg
      cases s0_1
      all_goals
        go_enter Try.func162, Try.ntmps162
        go_wp2
        go_end0
        exact ⟨rfl, IsS145.moves (IsS145.set_1 HI.out _) (by simp) (by have := HC.out; omega) hC'.out, below_set (below_set HB.out (IsS145.ge HI.out)) (IsS145.ge HI.out), KeepBut.set_ (KeepBut.set_ HK.out _ _) _ _⟩
    · rw [if_neg h1] at h; cases h
  · rw [if_neg h0] at h; cases h

def impl_cursor_number.f (k : Nat) (s0_0 : List Int) (s0_1 : Bool) : Option (Int × List Int × Bool) := (impl_ReadNumber.f k s0_0).bind fun b => ((impl_cursor_goes.f s0_0 s0_1 b.2).bind fun c => (some (b.1, c.1, c.2)))
set_option maxHeartbeats 8000000 in
set_option maxRecDepth 100000 in
theorem impl_cursor_number.calls (k : Nat) (g : Nat) (s0_0 : List Int) (s0_1 : Bool) (r1 : Int) (r2 : List Int) (r3 : Bool) (w0 w : World) (hI : IsS145 w0 w g s0_0 s0_1) (hB : Below w0.heap.size w0 w) (h : impl_cursor_number.f k s0_0 s0_1 = some (r1, r2, r3)) :
    Calls Try.prog 143 #[.pointer (some ⟨g, 0, none⟩)] w fun e w' => e = .returned (.int .i64 r1) ∧ IsS145 w0 w' g r2 r3 ∧ Below w0.heap.size w0 w' ∧ KeepBut w w' g none := by
  unfold impl_cursor_number.f at h
  obtain ⟨⟨n, t⟩, hA, h⟩ := Option.bind_eq_some_iff.1 h
  obtain ⟨⟨xs, b⟩, hG, h⟩ := Option.bind_eq_some_iff.1 h
  simp only [Option.some.injEq, Prod.mk.injEq] at h
  obtain ⟨rfl, rfl, rfl⟩ := h
  have HI := A_ hI
  have HB := A_ hB
  have A1 := A_ hA
  have A2 := A_ hG
  obtain ⟨A0, c0, HG, hg, hr0, hc0⟩ := hI
  have hc_0 := cellS145_0 HG
  have HR := A_ (Kd.C_below hr0 hB)
  have HC := A_ hc0
  clear hA hG HG hg hr0 hc0 hB
  go_enter Try.func143, Try.ntmps143
  go_wp2_with (first | (go_at_call 161; refine (impl_ReadNumber.calls k _ _ s0_0 n t _ HR.out HC.out A1.out).mono ?_; rintro e w' ⟨rfl, ⟨nd, rfl⟩⟩) | (go_at_call 162; refine (impl_cursor_goes.calls g s0_0 s0_1 t xs b w0 _ (IsS145.drewN HI.out nd) (pw_below_drewN HB.out nd) A2.out).mono ?_; rintro e w2 ⟨rfl, hi, hb, hk⟩; have HI2 := A_ hi; have HB2 := A_ hb; have HK2 := A_ hk; clear hi hb hk))
  go_ret
  exact ⟨rfl, HI2.out, HB2.out, KeepBut.trans (keep_drewN (KeepBut.refl w g none) nd) HK2.out (.inl rfl)⟩

def impl_ReadText.f (k : Nat) (l0 : List Int) : Option (ByteArray × Int) := (impl_ReadNumber.f k l0).bind fun bt475 => (if bt475.2 = 0 then (some ((⟨#[]⟩ : ByteArray), 0)) else (if bt475.1 > 3000 then (some ((⟨#[]⟩ : ByteArray), 0)) else (if bt475.1 > (wrap64 ((l0.length : Int) - bt475.2)) then (some ((⟨#[]⟩ : ByteArray), 0)) else (if 0 ≤ bt475.2 then (if bt475.2 ≤ (wrap64 (bt475.2 + bt475.1)) then (if (wrap64 (bt475.2 + bt475.1)) ≤ (l0.length : Int) then (some (strOfNums ((l0.take ((wrap64 (bt475.2 + bt475.1)) : Int).toNat).drop (bt475.2 : Int).toNat), wrap64 (bt475.2 + bt475.1))) else (none)) else (none)) else (none)))))
set_option maxHeartbeats 8000000 in
set_option maxRecDepth 100000 in
theorem impl_ReadText.calls (k : Nat) (A0 : Option Addr) (c0 : Nat) (l0 : List Int) (r1 : ByteArray) (r2 : Int) (w : World) (hr0 : Kd.C (Kd.int .u8) w A0 l0.length l0) (hc0 : l0.length ≤ c0) (h : impl_ReadText.f k l0 = some (r1, r2)) :
  Calls Try.prog 163 #[.slice A0 l0.length c0] w fun e w' => e = .returned (.tuple #[.string r1, .int .i64 r2]) ∧ Drawn0 w w' := by
 have HR0 := A_ hr0
 have HC0 := A_ hc0
 clear hr0 hc0
 have H : ((impl_ReadNumber.f k l0).bind fun bt475 => (if bt475.2 = 0 then (some ((⟨#[]⟩ : ByteArray), 0)) else (if bt475.1 > 3000 then (some ((⟨#[]⟩ : ByteArray), 0)) else (if bt475.1 > (wrap64 ((l0.length : Int) - bt475.2)) then (some ((⟨#[]⟩ : ByteArray), 0)) else (if 0 ≤ bt475.2 then (if bt475.2 ≤ (wrap64 (bt475.2 + bt475.1)) then (if (wrap64 (bt475.2 + bt475.1)) ≤ (l0.length : Int) then (some (strOfNums ((l0.take ((wrap64 (bt475.2 + bt475.1)) : Int).toNat).drop (bt475.2 : Int).toNat), wrap64 (bt475.2 + bt475.1))) else (none)) else (none)) else (none)))))) = some (r1, r2) := h
 clear h
 replace H := Option.bind_eq_some_iff.mp H
 obtain ⟨⟨t475, t476⟩, A20, H⟩ := H
 (try dsimp only at H)
 have A2 := A_ A20
 clear A20
 by_cases c3 : t476 = 0
 {
 rw [if_pos c3] at H
 have c3b0 : (t476 == 0) = true := beq_iff_eq.mpr c3
 have c3b1 : (t476 != 0) = false := bne_eq_false_iff_eq.mpr c3
 clear c3
 simp only [Option.some.injEq, Prod.mk.injEq] at H
 obtain ⟨rfl, rfl⟩ := H
 go_enter Try.func163, Try.ntmps163
 go_wp2_with (first | ((with_reducible refine gate_callee (f := 161) rfl ?_); refine goesL_ (some 8) rfl rfl Try.func161 (by kernel_rfl) rfl #[.slice A0 l0.length c0] rfl zg7 ?_; (with_reducible refine (impl_ReadNumber.calls k _ _ l0 t475 t476 _ ?side1 ?side2 A2.out).mono ?_); (case side1 => exact zg9); (case side2 => exact HC0.out); rintro e w' ⟨rfl, ⟨nd, rfl⟩⟩; refine ⟨_, rfl, ?_⟩))
 go_ret2
 exact ⟨zs, by repeat (first | exact Drawn0.refl _ | apply Drawn0.step)⟩
 }
 {
 rw [if_neg c3] at H
 have c3b0 : (t476 == 0) = false := beq_eq_false_iff_ne.mpr c3
 have c3b1 : (t476 != 0) = true := bne_iff_ne.mpr c3
 by_cases c4 : t475 > 3000
 {
 rw [if_pos c4] at H
 have c4b0 : decide (3000 < t475) = true := decide_eq_true c4
 clear c4
 simp only [Option.some.injEq, Prod.mk.injEq] at H
 obtain ⟨rfl, rfl⟩ := H
 go_enter Try.func163, Try.ntmps163
 go_wp2_with (first | ((with_reducible refine gate_callee (f := 161) rfl ?_); refine goesL_ (some 8) rfl rfl Try.func161 (by kernel_rfl) rfl #[.slice A0 l0.length c0] rfl zg7 ?_; (with_reducible refine (impl_ReadNumber.calls k _ _ l0 t475 t476 _ ?side1 ?side2 A2.out).mono ?_); (case side1 => exact zg9); (case side2 => exact HC0.out); rintro e w' ⟨rfl, ⟨nd, rfl⟩⟩; refine ⟨_, rfl, ?_⟩))
 go_ret2
 exact ⟨zs, by repeat (first | exact Drawn0.refl _ | apply Drawn0.step)⟩
 }
 {
 rw [if_neg c4] at H
 have c4b0 : decide (3000 < t475) = false := decide_eq_false c4
 clear c4
 by_cases c5 : t475 > (wrap64 ((l0.length : Int) - t476))
 {
 rw [if_pos c5] at H
 have c5b0 : decide ((wrap64 ((l0.length : Int) - t476)) < t475) = true := decide_eq_true c5
 clear c5
 simp only [Option.some.injEq, Prod.mk.injEq] at H
 obtain ⟨rfl, rfl⟩ := H
 go_enter Try.func163, Try.ntmps163
 go_wp2_with (first | ((with_reducible refine gate_callee (f := 161) rfl ?_); refine goesL_ (some 8) rfl rfl Try.func161 (by kernel_rfl) rfl #[.slice A0 l0.length c0] rfl zg7 ?_; (with_reducible refine (impl_ReadNumber.calls k _ _ l0 t475 t476 _ ?side1 ?side2 A2.out).mono ?_); (case side1 => exact zg9); (case side2 => exact HC0.out); rintro e w' ⟨rfl, ⟨nd, rfl⟩⟩; refine ⟨_, rfl, ?_⟩))
 go_ret2
 exact ⟨zs, by repeat (first | exact Drawn0.refl _ | apply Drawn0.step)⟩
 }
 {
 rw [if_neg c5] at H
 have c5b0 : decide ((wrap64 ((l0.length : Int) - t476)) < t475) = false := decide_eq_false c5
 clear c5
 by_cases c6 : 0 ≤ t476
 {
 rw [if_pos c6] at H
 have c6b0 := eq_true c6
 have c6b1 : decide (0 ≤ t476) = true := decide_eq_true c6
 clear c6
 by_cases c7 : t476 ≤ (wrap64 (t476 + t475))
 {
 rw [if_pos c7] at H
 have c7b0 := eq_true c7
 have c7b1 : decide (t476 ≤ (wrap64 (t476 + t475))) = true := decide_eq_true c7
 by_cases c8 : (wrap64 (t476 + t475)) ≤ (l0.length : Int)
 {
 rw [if_pos c8] at H
 have c8b0 := eq_true c8
 have c8b1 : decide ((wrap64 (t476 + t475)) ≤ (l0.length : Int)) = true := decide_eq_true c8
 simp only [Option.some.injEq, Prod.mk.injEq] at H
 obtain ⟨rfl, rfl⟩ := H
 go_enter Try.func163, Try.ntmps163
 go_wp2_with (first | ((with_reducible refine gate_callee (f := 161) rfl ?_); refine goesL_ (some 8) rfl rfl Try.func161 (by kernel_rfl) rfl #[.slice A0 l0.length c0] rfl zg7 ?_; (with_reducible refine (impl_ReadNumber.calls k _ _ l0 t475 t476 _ ?side1 ?side2 A2.out).mono ?_); (case side1 => exact zg9); (case side2 => exact HC0.out); rintro e w' ⟨rfl, ⟨nd, rfl⟩⟩; refine ⟨_, rfl, ?_⟩; obtain ⟨i09, hi09, _, hsz9, _⟩ := info_parts info5; obtain ⟨A9, hcut9, hA9, hC9⟩ := print_mid_of (P := Try.prog) (Value.int .u8) 0 36 5 .i64 .i64 Try.underlying36 hi09 hsz9 A0 c0 l0 t476 (wrap64 (t476 + t475)) (of_decide_eq_true zg2) (by first | omega | exact of_decide_eq_true zg2) (of_decide_eq_true zg2) HC0.out; have HR477 := A_ (Kd.C_of_reads (h1 := fun _ => rfl) (hA9 _ (Kd.reads_of_C HR0.out))); have HC477 := A_ hC9; clear hA9 hC9 hi09 hsz9; have hcv10 := Kd.C_string (P := Try.prog) (A := A9) (c := (c0 - t476.toNat)) Try.underlying36 Try.underlying5 Try.underlying9 HR477.out; have hcvd11 := fun (nq_ : Nat) => Kd.C_string (P := Try.prog) (A := A9) (c := (c0 - t476.toNat)) Try.underlying36 Try.underlying5 Try.underlying9 (Kd.C_drewN HR477.out nq_); have hcvn11 := hcvd11; rw [show ((l0.take ((wrap64 (t476 + t475)) : Int).toNat).drop (t476 : Int).toNat).length = ((wrap64 (t476 + t475)) : Int).toNat - (t476 : Int).toNat by simp only [List.length_drop, List.length_take]; omega] at hcvn11))
 go_ret2
 exact ⟨zs, by repeat (first | exact Drawn0.refl _ | apply Drawn0.step)⟩
 }
 {
 rw [if_neg c8] at H
 exact absurd H (by simp)
 }
 }
 {
 rw [if_neg c7] at H
 exact absurd H (by simp)
 }
 }
 {
 rw [if_neg c6] at H
 exact absurd H (by simp)
 
 }
 }
 }
 }
def impl_cursor_text.f (k : Nat) (s0_0 : List Int) (s0_1 : Bool) : Option (ByteArray × List Int × Bool) := (impl_ReadText.f k s0_0).bind fun b => ((impl_cursor_goes.f s0_0 s0_1 b.2).bind fun c => (some (b.1, c.1, c.2)))
set_option maxHeartbeats 8000000 in
set_option maxRecDepth 100000 in
theorem impl_cursor_text.calls (k : Nat) (g : Nat) (s0_0 : List Int) (s0_1 : Bool) (r1 : ByteArray) (r2 : List Int) (r3 : Bool) (w0 w : World) (hI : IsS145 w0 w g s0_0 s0_1) (hB : Below w0.heap.size w0 w) (h : impl_cursor_text.f k s0_0 s0_1 = some (r1, r2, r3)) :
    Calls Try.prog 144 #[.pointer (some ⟨g, 0, none⟩)] w fun e w' => e = .returned (.string r1) ∧ IsS145 w0 w' g r2 r3 ∧ Below w0.heap.size w0 w' ∧ KeepBut w w' g none := by
  unfold impl_cursor_text.f at h
  obtain ⟨⟨n, t⟩, hA, h⟩ := Option.bind_eq_some_iff.1 h
  obtain ⟨⟨xs, b⟩, hG, h⟩ := Option.bind_eq_some_iff.1 h
  simp only [Option.some.injEq, Prod.mk.injEq] at h
  obtain ⟨rfl, rfl, rfl⟩ := h
  have HI := A_ hI
  have HB := A_ hB
  have A1 := A_ hA
  have A2 := A_ hG
  obtain ⟨A0, c0, HG, hg, hr0, hc0⟩ := hI
  have hc_0 := cellS145_0 HG
  have HR := A_ (Kd.C_below hr0 hB)
  have HC := A_ hc0
  clear hA hG HG hg hr0 hc0 hB
  go_enter Try.func144, Try.ntmps144
  go_wp2_with (first | (go_at_call 163; refine (impl_ReadText.calls k _ _ s0_0 n t _ HR.out HC.out A1.out).mono ?_; rintro e w' ⟨rfl, ⟨nd, rfl⟩⟩) | (go_at_call 162; refine (impl_cursor_goes.calls g s0_0 s0_1 t xs b w0 _ (IsS145.drewN HI.out nd) (pw_below_drewN HB.out nd) A2.out).mono ?_; rintro e w2 ⟨rfl, hi, hb, hk⟩; have HI2 := A_ hi; have HB2 := A_ hb; have HK2 := A_ hk; clear hi hb hk))
  go_ret
  exact ⟨rfl, HI2.out, HB2.out, KeepBut.trans (keep_drewN (KeepBut.refl w g none) nd) HK2.out (.inl rfl)⟩

def impl_cursor_ended.f (s0_0 : List Int) (s0_1 : Bool) : Option (Bool × List Int × Bool) := if s0_1 = true then (some (false, s0_0, s0_1)) else (some (((s0_0.length : Int) == 0), s0_0, s0_1))
set_option maxHeartbeats 8000000 in
set_option maxRecDepth 100000 in
theorem impl_cursor_ended.calls (g : Nat) (s0_0 : List Int) (s0_1 : Bool) (r1 : Bool) (r2 : List Int) (r3 : Bool) (w0 w : World) (hI : IsS145 w0 w g s0_0 s0_1) (hB : Below w0.heap.size w0 w) (h : impl_cursor_ended.f s0_0 s0_1 = some (r1, r2, r3)) :
  Calls Try.prog 145 #[.pointer (some ⟨g, 0, none⟩)] w fun e w' => e = .returned (.bool r1) ∧ IsS145 w0 w' g r2 r3 ∧ Below w0.heap.size w0 w' ∧ KeepBut w w' g none := by
 have HI0 := A_ hI
 have HK := A_ (KeepBut.refl w g none)
 have HL := A_ hB.size
 clear hI
 have HW0 := A_ hB.size
 have HB := A_ hB
 clear hB
 have H : (if s0_1 = true then (some (false, s0_0, s0_1)) else (some (((s0_0.length : Int) == 0), s0_0, s0_1))) = some (r1, r2, r3) := h
 clear h
 by_cases c2 : s0_1 = true
 {
 subst c2
 rw [if_pos rfl] at H
 simp only [Option.some.injEq, Prod.mk.injEq] at H
 obtain ⟨rfl, rfl, rfl⟩ := H
 obtain ⟨ASz3_0, cSz3_0, HGz3, hgz3, HSz3_0⟩ := HI0.out
 have hcz3_0 := cellS145_0 HGz3
 have hcz3_1 := cellS145_1 HGz3
 have hfz3_0 := blk_frozen HGz3 0
 have hfz3_1 := blk_frozen HGz3 1
 clear HGz3 hgz3
 go_enter Try.func145, Try.ntmps145
 go_wp2
 go_ret
 exact ⟨zr, by repeat (first | (with_reducible first | exact HI0.out | apply IsS145.alloc | apply IsS145.drewN | apply IsS145.drew | apply IsS145.set_1) | exact HI0.out), by repeat (first | (with_reducible first | exact HB.out | apply below_alloc | apply pw_below_drewN | apply below_drew1 | refine below_set ?_ (IsS145.ge HI0.out)) | exact HB.out), by repeat (first | (with_reducible first | exact HK.out | apply KeepBut.set_ | apply keep_drewN | apply keep_drew | apply keep_alloc) | exact HK.out)⟩
 }
 {
 replace c2 := Bool.eq_false_iff.mpr c2
 subst c2
 rw [if_neg Bool.false_ne_true] at H
 simp only [Option.some.injEq, Prod.mk.injEq] at H
 obtain ⟨rfl, rfl, rfl⟩ := H
 obtain ⟨ASz4_0, cSz4_0, HGz4, hgz4, HSz4_0⟩ := HI0.out
 have hcz4_0 := cellS145_0 HGz4
 have hcz4_1 := cellS145_1 HGz4
 have hfz4_0 := blk_frozen HGz4 0
 have hfz4_1 := blk_frozen HGz4 1
 clear HGz4 hgz4
 go_enter Try.func145, Try.ntmps145
 go_wp2
 go_ret
 exact ⟨zr, by repeat (first | (with_reducible first | exact HI0.out | apply IsS145.alloc | apply IsS145.drewN | apply IsS145.drew | apply IsS145.set_1) | exact HI0.out), by repeat (first | (with_reducible first | exact HB.out | apply below_alloc | apply pw_below_drewN | apply below_drew1 | refine below_set ?_ (IsS145.ge HI0.out)) | exact HB.out), by repeat (first | (with_reducible first | exact HK.out | apply KeepBut.set_ | apply keep_drewN | apply keep_drew | apply keep_alloc) | exact HK.out)⟩
 
 }
def bytes_Equal.f (l0 : List Int) (l1 : List Int) : Option (Bool) := some ((strOfNums l0).toList == (strOfNums l1).toList)
set_option maxHeartbeats 8000000 in
set_option maxRecDepth 100000 in
theorem bytes_Equal.calls (A0 : Option Addr) (c0 : Nat) (l0 : List Int) (A1 : Option Addr) (c1 : Nat) (l1 : List Int) (r : Bool) (w : World) (hr0 : Kd.C (Kd.int .u8) w A0 l0.length l0) (hc0 : l0.length ≤ c0) (hr1 : Kd.C (Kd.int .u8) w A1 l1.length l1) (hc1 : l1.length ≤ c1) (h : bytes_Equal.f l0 l1 = some r) :
  Calls Try.prog 146 #[.slice A0 l0.length c0, .slice A1 l1.length c1] w fun e w' => e = .returned (.bool r) ∧ Drawn0 w w' := by
 have HR0 := A_ hr0
 have HC0 := A_ hc0
 clear hr0 hc0
 have HR1 := A_ hr1
 have HC1 := A_ hc1
 clear hr1 hc1
 have H : (some ((strOfNums l0).toList == (strOfNums l1).toList)) = some r := h
 clear h
 obtain rfl := Option.some.inj H
 have hcv3 := Kd.C_string (P := Try.prog) (A := A0) (c := c0) Try.underlying36 Try.underlying5 Try.underlying9 HR0.out
 have hcvd4 := fun (nq_ : Nat) => Kd.C_string (P := Try.prog) (A := A0) (c := c0) Try.underlying36 Try.underlying5 Try.underlying9 (Kd.C_drewN HR0.out nq_)
 have hcv5 := Kd.C_string (P := Try.prog) (A := A1) (c := c1) Try.underlying36 Try.underlying5 Try.underlying9 HR1.out
 have hcvd6 := fun (nq_ : Nat) => Kd.C_string (P := Try.prog) (A := A1) (c := c1) Try.underlying36 Try.underlying5 Try.underlying9 (Kd.C_drewN HR1.out nq_)
 go_enter Try.func146, Try.ntmps146
 go_wp2
 go_ret
 exact ⟨zs, by repeat (first | exact Drawn0.refl _ | apply Drawn0.step)⟩

end Go.Proofs.Ytaiggfjkikfcbaa.PFnExactEntries

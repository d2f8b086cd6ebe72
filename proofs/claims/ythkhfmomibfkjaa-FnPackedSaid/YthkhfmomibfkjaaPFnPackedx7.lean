-- by a program of this session (wip/print/run.py) for this claim
import Derived.Test.YthkhfmomibfkjaaLibPu
import Derived.Test.YthkhfmomibfkjaaPFnPackedx0
import Derived.Test.YthkhfmomibfkjaaPFnPackedx6
namespace Go.Proofs.Ythkhfmomibfkjaa.PFnPacked
open Go.Proofs.Ythkhfmomibfkjaa.Lib Go.RowKit Go.Proofs.YthkhfmomibfkjaaW.PrintWords Go.Proofs.YthkhfmomibfkjaaW.PrintLast Go.Proofs.YthkhfmomibfkjaaW.PrintMore
attribute [local go_sem] max2_int min2_int max_two min_two max_three min_three max_four min_four   -- for this text's walks alone
set_option linter.unusedVariables false
set_option linter.unusedSimpArgs false

def impl_Common.l0 : Nat → ByteArray → ByteArray → Int → Option (Int)
 | 0, _, _, _ => none
 | k + 1, x0, x1, x5 => if x5 < (x0.size : Int) then (if x5 < (x1.size : Int) then (if 0 ≤ x5 then (if (bt x0 x5) = (bt x1 x5) then (impl_Common.l0 k x0 x1 (wrap64 (x5 + 1))) else (some x5)) else (none)) else (some x5)) else (some x5)
def impl_Common.f (k : Nat) (a0 : ByteArray) (a1 : ByteArray) : Option (Int) := impl_Common.l0 k a0 a1 0
set_option maxHeartbeats 8000000 in
set_option maxRecDepth 100000 in
theorem impl_Common.calls (k : Nat) (a0 : ByteArray) (a1 : ByteArray) (r : Int) (w : World) (h : impl_Common.f k a0 a1 = some r) :
  Calls Try.prog 68 #[.string a0, .string a1] w fun e w' => e = .returned (.int .i64 r) ∧ Drawn0 w w' := by
 have H : (impl_Common.l0 k a0 a1 0) = some r := h
 clear h
 have H' := A_ H
 clear H
 go_enter Try.func68, Try.ntmps68
 go_wp2
 repeat (go_quiet (fail); try go_wp2)
 go_loopg [5] k (fun kq v5 w' => ∃ (x5_1 : Int), v5 = .int .i64 x5_1 ∧ Aside0 (impl_Common.l0 kq a0 a1 x5_1 = some r) ∧ Aside0 (kq ≤ k) ∧ Drawn0 w w')
 case atStart => exact ⟨(0), (by first | rfl | (simp; done) | (simp [*]; done)), H', ⟨Nat.le_refl _⟩, by repeat (first | exact Drawn0.refl _ | apply Drawn0.step)⟩
 case round =>
  clear H'
  try clear p2
  obtain ⟨x5_1, rfl, HA, HK1, ⟨m1, rfl⟩⟩ := hrel
  cases gk with
  | zero => exact absurd HA.out (by simp [impl_Common.l0])
  | succ k1 =>
   have H := HA.out
   clear HA
   simp only [impl_Common.l0] at H
   by_cases c3 : x5_1 < (a0.size : Int)
   {
   rw [if_pos c3] at H
   have c3b0 : decide (x5_1 < (a0.size : Int)) = true := decide_eq_true c3
   clear c3
   by_cases c4 : x5_1 < (a1.size : Int)
   {
   rw [if_pos c4] at H
   have c4b0 : decide (x5_1 < (a1.size : Int)) = true := decide_eq_true c4
   clear c4
   by_cases c5 : 0 ≤ x5_1
   {
   rw [if_pos c5] at H
   have c5b0 : decide (0 ≤ x5_1) = true := decide_eq_true c5
   clear c5
   by_cases c8 : (bt a0 x5_1) = (bt a1 x5_1)
   {
   rw [if_pos c8] at H
   have c8b0 : ((bt a0 x5_1) == (bt a1 x5_1)) = true := beq_iff_eq.mpr c8
   have c8b1 : ((bt a0 x5_1) != (bt a1 x5_1)) = false := bne_eq_false_iff_eq.mpr c8
   clear c8
   have H' := A_ H
   clear H
   have p6 : 0 ≤ (x5_1 : Int) := of_decide_eq_true (by first | (with_reducible assumption) | assumption)
   have q6 : x5_1 < (a0.size : Int) := of_decide_eq_true (by first | (with_reducible assumption) | assumption)
   have hx6 := bt_at a0 x5_1
   replace p6 := eq_true p6
   replace q6 := eq_true q6
   have p7 : 0 ≤ (x5_1 : Int) := of_decide_eq_true (by first | (with_reducible assumption) | assumption)
   have q7 : x5_1 < (a1.size : Int) := of_decide_eq_true (by first | (with_reducible assumption) | assumption)
   have hx7 := bt_at a1 x5_1
   replace p7 := eq_true p7
   replace q7 := eq_true q7
   go_wp2
   repeat (go_quiet (fail); try go_wp2)
   go_roundg k1
   case measure => have := HK1.out; omega
   case rel => exact ⟨(wrap64 (x5_1 + 1)), (by first | rfl | (simp; done) | (simp [*]; done)), H', ⟨by have := HK1.out; omega⟩, by repeat (first | exact Drawn0.refl _ | apply Drawn0.step)⟩
   }
   {
   rw [if_neg c8] at H
   have c8b0 : ((bt a0 x5_1) == (bt a1 x5_1)) = false := beq_eq_false_iff_ne.mpr c8
   have c8b1 : ((bt a0 x5_1) != (bt a1 x5_1)) = true := bne_iff_ne.mpr c8
   obtain rfl := Option.some.inj H
   have p6 : 0 ≤ (x5_1 : Int) := of_decide_eq_true (by first | (with_reducible assumption) | assumption)
   have q6 : x5_1 < (a0.size : Int) := of_decide_eq_true (by first | (with_reducible assumption) | assumption)
   have hx6 := bt_at a0 x5_1
   replace p6 := eq_true p6
   replace q6 := eq_true q6
   have p7 : 0 ≤ (x5_1 : Int) := of_decide_eq_true (by first | (with_reducible assumption) | assumption)
   have q7 : x5_1 < (a1.size : Int) := of_decide_eq_true (by first | (with_reducible assumption) | assumption)
   have hx7 := bt_at a1 x5_1
   replace p7 := eq_true p7
   replace q7 := eq_true q7
   go_wp2
   repeat (go_quiet (fail); try go_wp2)
   go_ret
   exact ⟨by first | rfl | (simp; done) | (simp [*]; done), by repeat (first | exact Drawn0.refl _ | apply Drawn0.step)⟩
   }
   }
   {
   rw [if_neg c5] at H
   exact absurd H (by simp)
   }
   }
   {
   rw [if_neg c4] at H
   have c4b0 : decide (x5_1 < (a1.size : Int)) = false := decide_eq_false c4
   clear c4
   obtain rfl := Option.some.inj H
   go_wp2
   repeat (go_quiet (fail); try go_wp2)
   go_ret
   exact ⟨by first | rfl | (simp; done) | (simp [*]; done), by repeat (first | exact Drawn0.refl _ | apply Drawn0.step)⟩
   }
   }
   {
   rw [if_neg c3] at H
   have c3b0 : decide (x5_1 < (a0.size : Int)) = false := decide_eq_false c3
   clear c3
   obtain rfl := Option.some.inj H
   go_wp2
   repeat (go_quiet (fail); try go_wp2)
   go_ret
   exact ⟨by first | rfl | (simp; done) | (simp [*]; done), by repeat (first | exact Drawn0.refl _ | apply Drawn0.step)⟩
   
   }
theorem z89a {p_ : Prop} (h_ : p_ := by repeat (first | (with_reducible first | exact HB.out | apply below_alloc | apply pw_below_drewN | apply below_drew1 | refine below_set ?_ GE206.out) | exact HB.out)) : p_ := h_
theorem z89b {p_ : Prop} (h_ : p_ := by (with_reducible repeat (first | apply Kd.R_alloc | apply Kd.R_drewN | apply Kd.R_drew)); exact HO211.out) : p_ := h_
theorem z89c {p_ : Prop} (h_ : p_ := by (with_reducible repeat (first | refine blk_drewN ?_ _ | refine blk_drew ?_ | refine blk_alloc ?_ _)); exact BK206.out) : p_ := h_
theorem z89d {p_ : Prop} (h_ : p_ := by (with_reducible repeat (first | apply Kd.R_alloc | apply Kd.R_drewN | apply Kd.R_drew)); exact HO217.out) : p_ := h_
theorem z89e {p_ : Prop} (h_ : p_ := by repeat (first | (with_reducible first | exact HB.out | apply below_alloc | apply pw_below_drewN | apply below_drew1) | exact HB.out)) : p_ := h_
theorem z89f {p_ : Prop} (h_ : p_ := by (with_reducible repeat (first | apply Kd.R_alloc | apply Kd.R_drewN | apply Kd.R_drew)); exact HO223.out) : p_ := h_
theorem z89g {p_ : Prop} (h_ : p_ := by (with_reducible repeat (first | apply Kd.R_alloc | apply Kd.R_drewN | apply Kd.R_drew)); exact HO214.out) : p_ := h_
theorem z89h {p_ : Prop} (h_ : p_ := by (with_reducible repeat (first | apply Kd.R_alloc | apply Kd.R_drewN | apply Kd.R_drew)); exact HO_3.out) : p_ := h_
theorem z89i {p_ : Prop} (h_ : p_ := by (with_reducible repeat (first | apply Kd.R_alloc | apply Kd.R_drewN | apply Kd.R_drew)); exact HO220.out) : p_ := h_
theorem z89j {p_ : Prop} (h_ : p_ := by (with_reducible repeat (first | apply Kd.R_alloc | apply Kd.R_drewN | apply Kd.R_drew)); exact HO226.out) : p_ := h_
theorem z89k {p_ : Prop} (h_ : p_ := by first | (rw [add_block]; exact hn207_0) | (show (Addr.add _ _).block ≠ _; rw [add_block]; exact hn207_0) | exact hn207_0) : p_ := h_
theorem z89l {p_ : Prop} (h_ : p_ := by first | (rw [add_block]; exact hn207_1) | (show (Addr.add _ _).block ≠ _; rw [add_block]; exact hn207_1) | exact hn207_1) : p_ := h_
theorem z89m {p_ : Prop} (h_ : p_ := by first | (rw [add_block]; exact hn207_2) | (show (Addr.add _ _).block ≠ _; rw [add_block]; exact hn207_2) | exact hn207_2) : p_ := h_
theorem z89n {p_ : Prop} (h_ : p_ := by first | (rw [add_block]; exact hn207_3) | (show (Addr.add _ _).block ≠ _; rw [add_block]; exact hn207_3) | exact hn207_3) : p_ := h_
mutual
def impl_packed.l0 : Nat → List (S49) → List Int → List (S49) → Int → Int → Option (List Int)
 | 0, _, _, _, _, _ => none
 | k + 1, x0, x3, x11, x12, x13 => if x13 < x12 then (if 0 ≤ x13 then (if x13 < (x11.length : Int) then (if (Int.tmod x13 8) > 0 then (if 0 ≤ (wrap64 (x13 - 1)) then (if (wrap64 (x13 - 1)) < (x0.length : Int) then ((impl_Common.f k ((rd_T49 x0 (wrap64 (x13 - 1))).f0) ((rd_T49 x11 x13).f0)).bind fun t208 => (impl_packed.j1 k x0 x3 t208 x11 x12 x13 ((rd_T49 x11 x13).f0) ((rd_T49 x11 x13).f1) ((rd_T49 x11 x13).f2) ((rd_T49 x11 x13).f3))) else (none)) else (none)) else (impl_packed.j1 k x0 x3 0 x11 x12 x13 ((rd_T49 x11 x13).f0) ((rd_T49 x11 x13).f1) ((rd_T49 x11 x13).f2) ((rd_T49 x11 x13).f3))) else (none)) else (none)) else (some x3)
def impl_packed.j1 : Nat → List (S49) → List Int → Int → List (S49) → Int → Int → ByteArray → ByteArray → Int → Bool → Option (List Int)
 | 0, _, _, _, _, _, _, _, _, _, _ => none
 | k + 1, x0, x3, x6, x11, x12, x13, x207000, x207001, x207002, x207003 => if x207003 = true then (impl_packed.j2 k x0 x3 x6 (wrap64 ((wrap64 (2 * x207002)) + 1)) x11 x12 x13 x207000 x207001 x207002 x207003) else (impl_packed.j2 k x0 x3 x6 (wrap64 (2 * x207002)) x11 x12 x13 x207000 x207001 x207002 x207003)
def impl_packed.j2 : Nat → List (S49) → List Int → Int → Int → List (S49) → Int → Int → ByteArray → ByteArray → Int → Bool → Option (List Int)
 | 0, _, _, _, _, _, _, _, _, _, _, _ => none
 | k + 1, x0, x3, x6, x7, x11, x12, x13, x207000, x207001, x207002, x207003 => (impl_Number.f k x6).bind fun t209 => (if x3.length + t209.length < 140737488355328 then ((some (x3 ++ t209 : List Int)).bind fun y212 => (if 0 ≤ x6 then (if x6 ≤ (x207000.size : Int) then ((impl_Text.f k (x207000.extract (x6 : Int).toNat x207000.size)).bind fun t215 => (if y212.length + t215.length < 140737488355328 then ((some (y212 ++ t215 : List Int)).bind fun y218 => ((impl_Number.f k x7).bind fun t221 => (if y218.length + t221.length < 140737488355328 then ((some (y218 ++ t221 : List Int)).bind fun y224 => ((impl_Text.f k x207001).bind fun t227 => (if y224.length + t227.length < 140737488355328 then (impl_packed.l0 k x0 (y224 ++ t227) x11 x12 (wrap64 (x13 + 1))) else (none)))) else (none)))) else (none))) else (none)) else (none))) else (none))
end
def impl_packed.f (k : Nat) (l0 : List (S49)) : Option (List Int) := (impl_Number.f k (l0.length : Int)).bind fun t202 => (impl_packed.l0 k l0 t202 l0 (l0.length : Int) 0)
set_option maxHeartbeats 8000000 in
set_option maxRecDepth 100000 in
theorem impl_packed.calls (k : Nat) (A0 : Option Addr) (c0 : Nat) (l0 : List (S49)) (r : List Int) (w : World) (hr0 : Kd.C k49 w A0 l0.length l0) (hc0 : l0.length ≤ c0) (h : impl_packed.f k l0 = some r) :
  Calls Try.prog 89 #[.slice A0 l0.length c0] w fun e w' => ∃ v0_ : Value, e = .returned (v0_) ∧ Kd.R (Kd.int .u8) 5 w' w.heap.size (fun _ => True) v0_ r ∧ Below w.heap.size w w' := by
 have hu49 := Try.underlying49
 have HR0 := A_ hr0
 have HC0 := A_ hc0
 clear hr0 hc0
 have HB := A_ (Below.refl w.heap.size w)
 have H : ((impl_Number.f k (l0.length : Int)).bind fun t202 => (impl_packed.l0 k l0 t202 l0 (l0.length : Int) 0)) = some r := h
 clear h
 replace H := Option.bind_eq_some_iff.mp H
 obtain ⟨t202, A20, H⟩ := H
 (try dsimp only at H)
 have A2 := A_ A20
 clear A20
 have H' := A_ H
 clear H
 go_enter Try.func89, Try.ntmps89
 go_wp2_with (first | (go_at_call 18; (with_reducible refine (impl_Number.calls k (l0.length : Int) t202 _ A2.out).mono ?_); rintro e w3 ⟨v203, rfl, ho0, hb⟩; have n0_ := A_ (Kd.R_lower ho0 (below_size z89e)); have n1_ := A_ (below_step z89e hb); clear HB; have HO204 := n0_; have HB := n1_; clear n0_ n1_))
 repeat (go_quiet (first | (go_at_call 18; (with_reducible refine (impl_Number.calls k (l0.length : Int) t202 _ A2.out).mono ?_); rintro e w3 ⟨v203, rfl, ho0, hb⟩; have n0_ := A_ (Kd.R_lower ho0 (below_size z89e)); have n1_ := A_ (below_step z89e hb); clear HB; have HO204 := n0_; have HB := n1_; clear n0_ n1_)); try go_wp2_with (first | (go_at_call 18; (with_reducible refine (impl_Number.calls k (l0.length : Int) t202 _ A2.out).mono ?_); rintro e w3 ⟨v203, rfl, ho0, hb⟩; have n0_ := A_ (Kd.R_lower ho0 (below_size z89e)); have n1_ := A_ (below_step z89e hb); clear HB; have HO204 := n0_; have HB := n1_; clear n0_ n1_)))
 go_loopg [3, 13] k (fun kq v3 v13 w' => ∃ (x3_1 : List Int) (x13_1 : Int), v13 = .int .i64 x13_1 ∧ Aside0 (impl_packed.l0 kq l0 x3_1 l0 (l0.length : Int) x13_1 = some r) ∧ Aside0 (kq ≤ k) ∧ Aside0 (Kd.R (Kd.int .u8) 5 w' w.heap.size (fun _ => True) v3 x3_1) ∧ Aside0 (Below w.heap.size w w'))
 case atStart => exact ⟨(t202), (0), (by first | rfl | (simp; done) | (simp [*]; done)), H', ⟨Nat.le_refl _⟩, ⟨by (with_reducible repeat (first | apply Kd.R_alloc | apply Kd.R_drewN | apply Kd.R_drew)); exact HO204.out⟩, ⟨by repeat (first | (with_reducible first | exact HB.out | apply below_alloc | apply pw_below_drewN | apply below_drew1) | exact HB.out)⟩⟩
 case round =>
  clear H'
  try clear p2
  obtain ⟨x3_1, x13_1, rfl, HA, HK1, HO_3, HB⟩ := hrel
  cases gk with
  | zero => exact absurd HA.out (by simp [impl_packed.l0])
  | succ k1 =>
   have H := HA.out
   clear HA
   simp only [impl_packed.l0] at H
   by_cases c4 : x13_1 < (l0.length : Int)
   {
   rw [if_pos c4] at H
   have c4b0 : decide (x13_1 < (l0.length : Int)) = true := decide_eq_true c4
   clear c4
   by_cases c5 : 0 ≤ x13_1
   {
   rw [if_pos c5] at H
   have c5b0 : decide (0 ≤ x13_1) = true := decide_eq_true c5
   clear c5
   by_cases c6 : x13_1 < (l0.length : Int)
   {
   rw [if_pos c6] at H
   have c6b0 : decide (x13_1 < (l0.length : Int)) = true := decide_eq_true c6
   clear c6
   have HC7 := A_ H
   clear H
   have p205 : 0 ≤ (x13_1 : Int) := of_decide_eq_true (by first | (with_reducible assumption) | assumption)
   have q205 : x13_1 < (l0.length : Int) := of_decide_eq_true (by first | (with_reducible assumption) | assumption)
   obtain ⟨ad205, e205, hx205_0, hx205_1, hx205_2, hx205_3⟩ := at_T49 HR0.out x13_1 p205 q205
   cases e205
   replace hx205_0 := (HB.out.cell (World.block_lt_of_cell? w _ hx205_0)).trans hx205_0
   replace hx205_1 := (HB.out.cell (World.block_lt_of_cell? w _ hx205_1)).trans hx205_1
   replace hx205_2 := (HB.out.cell (World.block_lt_of_cell? w _ hx205_2)).trans hx205_2
   replace hx205_3 := (HB.out.cell (World.block_lt_of_cell? w _ hx205_3)).trans hx205_3
   replace p205 := eq_true p205
   replace q205 := eq_true q205
   go_upto_if 20 with (first | ((with_reducible refine gate_dst (N := 5) rfl ?_); refine box_event ?hg (N := 5) ?hd (cs := #[.string (⟨#[]⟩ : ByteArray), .string (⟨#[]⟩ : ByteArray), .int .i64 0, .bool false]) (t := 49) ?hr ?_; (case hd => rfl); (case hg => rfl); (case hr => first | (go_simp; done) | (go_simp; rfl)); intro gb206 hg w8 hbox hb; have n0_ := A_ (Kd.R_below z89h hb); have n1_ := A_ (below_step z89e hb); have n2_ := A_ (hbox); have n3_ := A_ ((by rw [hg]; exact (below_size z89e) : w.heap.size ≤ gb206)); have n4_ := A_ ((by rw [hg]; exact (below_size z89e) : w.heap.size ≤ gb206)); clear HO_3; clear HB; have HO_3 := n0_; have HB := n1_; have BK206 := n2_; have GW206 := n3_; have GE206 := n4_; clear n0_ n1_ n2_ n3_ n4_; clear hb hbox hg; have hcz9_0 : w8.cell? ⟨gb206, 0, none⟩ = some (.string (⟨#[]⟩ : ByteArray)) := (blk_cell BK206.out 0).trans rfl; have hcz9_1 : w8.cell? ⟨gb206, 1, none⟩ = some (.string (⟨#[]⟩ : ByteArray)) := (blk_cell BK206.out 1).trans rfl; have hcz9_2 : w8.cell? ⟨gb206, 2, none⟩ = some (.int .i64 0) := (blk_cell BK206.out 2).trans rfl; have hcz9_3 : w8.cell? ⟨gb206, 3, none⟩ = some (.bool false) := (blk_cell BK206.out 3).trans rfl; have hfz9_0 := blk_frozen BK206.out 0; have hfz9_1 := blk_frozen BK206.out 1; have hfz9_2 := blk_frozen BK206.out 2; have hfz9_3 := blk_frozen BK206.out 3))
   repeat (go_quiet (first | ((with_reducible refine gate_dst (N := 5) rfl ?_); refine box_event ?hg (N := 5) ?hd (cs := #[.string (⟨#[]⟩ : ByteArray), .string (⟨#[]⟩ : ByteArray), .int .i64 0, .bool false]) (t := 49) ?hr ?_; (case hd => rfl); (case hg => rfl); (case hr => first | (go_simp; done) | (go_simp; rfl)); intro gb206 hg w8 hbox hb; have n0_ := A_ (Kd.R_below z89h hb); have n1_ := A_ (below_step z89e hb); have n2_ := A_ (hbox); have n3_ := A_ ((by rw [hg]; exact (below_size z89e) : w.heap.size ≤ gb206)); have n4_ := A_ ((by rw [hg]; exact (below_size z89e) : w.heap.size ≤ gb206)); clear HO_3; clear HB; have HO_3 := n0_; have HB := n1_; have BK206 := n2_; have GW206 := n3_; have GE206 := n4_; clear n0_ n1_ n2_ n3_ n4_; clear hb hbox hg; have hcz9_0 : w8.cell? ⟨gb206, 0, none⟩ = some (.string (⟨#[]⟩ : ByteArray)) := (blk_cell BK206.out 0).trans rfl; have hcz9_1 : w8.cell? ⟨gb206, 1, none⟩ = some (.string (⟨#[]⟩ : ByteArray)) := (blk_cell BK206.out 1).trans rfl; have hcz9_2 : w8.cell? ⟨gb206, 2, none⟩ = some (.int .i64 0) := (blk_cell BK206.out 2).trans rfl; have hcz9_3 : w8.cell? ⟨gb206, 3, none⟩ = some (.bool false) := (blk_cell BK206.out 3).trans rfl; have hfz9_0 := blk_frozen BK206.out 0; have hfz9_1 := blk_frozen BK206.out 1; have hfz9_2 := blk_frozen BK206.out 2; have hfz9_3 := blk_frozen BK206.out 3)); go_upto_if 20 with (first | ((with_reducible refine gate_dst (N := 5) rfl ?_); refine box_event ?hg (N := 5) ?hd (cs := #[.string (⟨#[]⟩ : ByteArray), .string (⟨#[]⟩ : ByteArray), .int .i64 0, .bool false]) (t := 49) ?hr ?_; (case hd => rfl); (case hg => rfl); (case hr => first | (go_simp; done) | (go_simp; rfl)); intro gb206 hg w8 hbox hb; have n0_ := A_ (Kd.R_below z89h hb); have n1_ := A_ (below_step z89e hb); have n2_ := A_ (hbox); have n3_ := A_ ((by rw [hg]; exact (below_size z89e) : w.heap.size ≤ gb206)); have n4_ := A_ ((by rw [hg]; exact (below_size z89e) : w.heap.size ≤ gb206)); clear HO_3; clear HB; have HO_3 := n0_; have HB := n1_; have BK206 := n2_; have GW206 := n3_; have GE206 := n4_; clear n0_ n1_ n2_ n3_ n4_; clear hb hbox hg; have hcz9_0 : w8.cell? ⟨gb206, 0, none⟩ = some (.string (⟨#[]⟩ : ByteArray)) := (blk_cell BK206.out 0).trans rfl; have hcz9_1 : w8.cell? ⟨gb206, 1, none⟩ = some (.string (⟨#[]⟩ : ByteArray)) := (blk_cell BK206.out 1).trans rfl; have hcz9_2 : w8.cell? ⟨gb206, 2, none⟩ = some (.int .i64 0) := (blk_cell BK206.out 2).trans rfl; have hcz9_3 : w8.cell? ⟨gb206, 3, none⟩ = some (.bool false) := (blk_cell BK206.out 3).trans rfl; have hfz9_0 := blk_frozen BK206.out 0; have hfz9_1 := blk_frozen BK206.out 1; have hfz9_2 := blk_frozen BK206.out 2; have hfz9_3 := blk_frozen BK206.out 3)))
   (try simp only [Act.put, List.setIfInBounds_toArray, List.set_cons_zero, List.set_cons_succ])
   go_cut [6] (fun v6 wc => ∃ (kq : Nat) (x6_6 : Int), v6 = .int .i64 x6_6 ∧ Aside0 (impl_packed.j1 kq l0 x3_1 x6_6 l0 (l0.length : Int) x13_1 ((rd_T49 l0 x13_1).f0) ((rd_T49 l0 x13_1).f1) ((rd_T49 l0 x13_1).f2) ((rd_T49 l0 x13_1).f3) = some r) ∧ Aside0 (kq ≤ k1) ∧ Aside0 (Kd.R (Kd.int .u8) 5 wc w.heap.size (fun _ => True) u3 x3_1) ∧ Aside0 (wc.heap[gb206]? = some (.cells #[.string ((rd_T49 l0 x13_1).f0), .string ((rd_T49 l0 x13_1).f1), .int .i64 ((rd_T49 l0 x13_1).f2), .bool ((rd_T49 l0 x13_1).f3)] 49 (0, 0))) ∧ Aside0 (Below w.heap.size w wc))
   case first =>
    have H := HC7.out
    clear HC7
    by_cases c10 : (Int.tmod x13_1 8) > 0
    {
    rw [if_pos c10] at H
    have c10b0 : decide (0 < (Int.tmod x13_1 8)) = true := decide_eq_true c10
    clear c10
    (first | rw [c10b0] | (simp only [i64_w, i32_w]; rw [c10b0]) | skip)
    obtain ⟨ji11, hji11⟩ : ∃ j_ : Int, (wrap64 (x13_1 - 1)) = j_ := ⟨_, rfl⟩
    replace H : (if 0 ≤ (ji11) then (if (ji11) < (l0.length : Int) then ((impl_Common.f k1 ((rd_T49 l0 (ji11)).f0) ((rd_T49 l0 x13_1).f0)).bind fun t208 => (impl_packed.j1 k1 l0 x3_1 t208 l0 (l0.length : Int) x13_1 ((rd_T49 l0 x13_1).f0) ((rd_T49 l0 x13_1).f1) ((rd_T49 l0 x13_1).f2) ((rd_T49 l0 x13_1).f3))) else (none)) else (none)) = some r := by first | (rw [hji11] at H; exact H) | (simp only [hji11] at H ⊢; exact H)
    (try rw [hji11])
    have hji11w : (IntKind.i64.wrap (x13_1 - 1)) = ji11 := (i64_w _).trans hji11
    by_cases c12 : 0 ≤ (ji11)
    {
    rw [if_pos c12] at H
    have c12b0 : decide (0 ≤ (ji11)) = true := decide_eq_true c12
    clear c12
    by_cases c13 : (ji11) < (l0.length : Int)
    {
    rw [if_pos c13] at H
    have c13b0 : decide ((ji11) < (l0.length : Int)) = true := decide_eq_true c13
    clear c13
    replace H := Option.bind_eq_some_iff.mp H
    obtain ⟨t208, A140, H⟩ := H
    (try dsimp only at H)
    have A14 := A_ A140
    clear A140
    have H' := A_ H
    clear H
    have p207 : 0 ≤ ((ji11) : Int) := of_decide_eq_true (by first | (with_reducible assumption) | assumption)
    have q207 : (ji11) < (l0.length : Int) := of_decide_eq_true (by first | (with_reducible assumption) | assumption)
    obtain ⟨ad207, e207, hx207_0, hx207_1, hx207_2, hx207_3⟩ := at_T49 HR0.out (ji11) p207 q207
    obtain rfl : ad205 = ad207 := (by injection e207)
    have hn207_0 : ad205.block ≠ gb206 := Nat.ne_of_lt (Nat.lt_of_lt_of_le (by have := World.block_lt_of_cell? _ _ hx207_0; first | rwa [add_block] at this | exact this) GW206.out)
    have hn207_1 : ad205.block ≠ gb206 := Nat.ne_of_lt (Nat.lt_of_lt_of_le (by have := World.block_lt_of_cell? _ _ hx207_0; first | rwa [add_block] at this | exact this) GW206.out)
    have hn207_2 : ad205.block ≠ gb206 := Nat.ne_of_lt (Nat.lt_of_lt_of_le (by have := World.block_lt_of_cell? _ _ hx207_0; first | rwa [add_block] at this | exact this) GW206.out)
    have hn207_3 : ad205.block ≠ gb206 := Nat.ne_of_lt (Nat.lt_of_lt_of_le (by have := World.block_lt_of_cell? _ _ hx207_0; first | rwa [add_block] at this | exact this) GW206.out)
    replace hx207_0 := (HB.out.cell (World.block_lt_of_cell? w _ hx207_0)).trans hx207_0
    replace hx207_1 := (HB.out.cell (World.block_lt_of_cell? w _ hx207_1)).trans hx207_1
    replace hx207_2 := (HB.out.cell (World.block_lt_of_cell? w _ hx207_2)).trans hx207_2
    replace hx207_3 := (HB.out.cell (World.block_lt_of_cell? w _ hx207_3)).trans hx207_3
    replace hx207_0 := (cell_far (p := ⟨gb206, 0, none⟩) z89k (.string ((rd_T49 l0 x13_1).f0))).trans hx207_0
    replace hx207_1 := (cell_far (p := ⟨gb206, 0, none⟩) z89k (.string ((rd_T49 l0 x13_1).f0))).trans hx207_1
    replace hx207_2 := (cell_far (p := ⟨gb206, 0, none⟩) z89k (.string ((rd_T49 l0 x13_1).f0))).trans hx207_2
    replace hx207_3 := (cell_far (p := ⟨gb206, 0, none⟩) z89k (.string ((rd_T49 l0 x13_1).f0))).trans hx207_3
    replace hx207_0 := (cell_far (p := ⟨gb206, 1, none⟩) z89l (.string ((rd_T49 l0 x13_1).f1))).trans hx207_0
    replace hx207_1 := (cell_far (p := ⟨gb206, 1, none⟩) z89l (.string ((rd_T49 l0 x13_1).f1))).trans hx207_1
    replace hx207_2 := (cell_far (p := ⟨gb206, 1, none⟩) z89l (.string ((rd_T49 l0 x13_1).f1))).trans hx207_2
    replace hx207_3 := (cell_far (p := ⟨gb206, 1, none⟩) z89l (.string ((rd_T49 l0 x13_1).f1))).trans hx207_3
    replace hx207_0 := (cell_far (p := ⟨gb206, 2, none⟩) z89m (.int .i64 ((rd_T49 l0 x13_1).f2))).trans hx207_0
    replace hx207_1 := (cell_far (p := ⟨gb206, 2, none⟩) z89m (.int .i64 ((rd_T49 l0 x13_1).f2))).trans hx207_1
    replace hx207_2 := (cell_far (p := ⟨gb206, 2, none⟩) z89m (.int .i64 ((rd_T49 l0 x13_1).f2))).trans hx207_2
    replace hx207_3 := (cell_far (p := ⟨gb206, 2, none⟩) z89m (.int .i64 ((rd_T49 l0 x13_1).f2))).trans hx207_3
    replace hx207_0 := (cell_far (p := ⟨gb206, 3, none⟩) z89n (.bool ((rd_T49 l0 x13_1).f3))).trans hx207_0
    replace hx207_1 := (cell_far (p := ⟨gb206, 3, none⟩) z89n (.bool ((rd_T49 l0 x13_1).f3))).trans hx207_1
    replace hx207_2 := (cell_far (p := ⟨gb206, 3, none⟩) z89n (.bool ((rd_T49 l0 x13_1).f3))).trans hx207_2
    replace hx207_3 := (cell_far (p := ⟨gb206, 3, none⟩) z89n (.bool ((rd_T49 l0 x13_1).f3))).trans hx207_3
    (try have hy207_0 := fun (n_ : Nat) => (show ((((((w8.drewN n_).setCell ⟨gb206, 0, none⟩ (.string ((rd_T49 l0 x13_1).f0))).setCell ⟨gb206, 1, none⟩ (.string ((rd_T49 l0 x13_1).f1))).setCell ⟨gb206, 2, none⟩ (.int .i64 ((rd_T49 l0 x13_1).f2))).setCell ⟨gb206, 3, none⟩ (.bool ((rd_T49 l0 x13_1).f3)))).cell? _ = some _ from hx207_0))
    (try have hy207_1 := fun (n_ : Nat) => (show ((((((w8.drewN n_).setCell ⟨gb206, 0, none⟩ (.string ((rd_T49 l0 x13_1).f0))).setCell ⟨gb206, 1, none⟩ (.string ((rd_T49 l0 x13_1).f1))).setCell ⟨gb206, 2, none⟩ (.int .i64 ((rd_T49 l0 x13_1).f2))).setCell ⟨gb206, 3, none⟩ (.bool ((rd_T49 l0 x13_1).f3)))).cell? _ = some _ from hx207_1))
    (try have hy207_2 := fun (n_ : Nat) => (show ((((((w8.drewN n_).setCell ⟨gb206, 0, none⟩ (.string ((rd_T49 l0 x13_1).f0))).setCell ⟨gb206, 1, none⟩ (.string ((rd_T49 l0 x13_1).f1))).setCell ⟨gb206, 2, none⟩ (.int .i64 ((rd_T49 l0 x13_1).f2))).setCell ⟨gb206, 3, none⟩ (.bool ((rd_T49 l0 x13_1).f3)))).cell? _ = some _ from hx207_2))
    (try have hy207_3 := fun (n_ : Nat) => (show ((((((w8.drewN n_).setCell ⟨gb206, 0, none⟩ (.string ((rd_T49 l0 x13_1).f0))).setCell ⟨gb206, 1, none⟩ (.string ((rd_T49 l0 x13_1).f1))).setCell ⟨gb206, 2, none⟩ (.int .i64 ((rd_T49 l0 x13_1).f2))).setCell ⟨gb206, 3, none⟩ (.bool ((rd_T49 l0 x13_1).f3)))).cell? _ = some _ from hx207_3))
    clear hn207_0
    clear hn207_1
    clear hn207_2
    clear hn207_3
    replace p207 := eq_true p207
    replace q207 := eq_true q207
    have hcz15_0 : w8.cell? ⟨gb206, 0, none⟩ = some (.string (⟨#[]⟩ : ByteArray)) := (blk_cell BK206.out 0).trans rfl
    have hcz15_1 : w8.cell? ⟨gb206, 1, none⟩ = some (.string (⟨#[]⟩ : ByteArray)) := (blk_cell BK206.out 1).trans rfl
    have hcz15_2 : w8.cell? ⟨gb206, 2, none⟩ = some (.int .i64 0) := (blk_cell BK206.out 2).trans rfl
    have hcz15_3 : w8.cell? ⟨gb206, 3, none⟩ = some (.bool false) := (blk_cell BK206.out 3).trans rfl
    have hfz15_0 := blk_frozen BK206.out 0
    have hfz15_1 := blk_frozen BK206.out 1
    have hfz15_2 := blk_frozen BK206.out 2
    have hfz15_3 := blk_frozen BK206.out 3
    go_wp2_with (first | (go_at_call 68; (with_reducible refine (impl_Common.calls k1 ((rd_T49 l0 (ji11)).f0) ((rd_T49 l0 x13_1).f0) t208 _ A14.out).mono ?_); rintro e w' ⟨rfl, ⟨nd, rfl⟩⟩; (try first | exact ⟨rfl, _, World.drewN_drewN _ _ _⟩ | exact ⟨rfl, _, Eq.trans (World.drewN_drewN _ _ _) (congrArg (World.drewN _) (Nat.add_assoc _ _ _))⟩)))
    repeat (go_quiet (first | (go_at_call 68; (with_reducible refine (impl_Common.calls k1 ((rd_T49 l0 (ji11)).f0) ((rd_T49 l0 x13_1).f0) t208 _ A14.out).mono ?_); rintro e w' ⟨rfl, ⟨nd, rfl⟩⟩; (try first | exact ⟨rfl, _, World.drewN_drewN _ _ _⟩ | exact ⟨rfl, _, Eq.trans (World.drewN_drewN _ _ _) (congrArg (World.drewN _) (Nat.add_assoc _ _ _))⟩))); try go_wp2_with (first | (go_at_call 68; (with_reducible refine (impl_Common.calls k1 ((rd_T49 l0 (ji11)).f0) ((rd_T49 l0 x13_1).f0) t208 _ A14.out).mono ?_); rintro e w' ⟨rfl, ⟨nd, rfl⟩⟩; (try first | exact ⟨rfl, _, World.drewN_drewN _ _ _⟩ | exact ⟨rfl, _, Eq.trans (World.drewN_drewN _ _ _) (congrArg (World.drewN _) (Nat.add_assoc _ _ _))⟩))))
    go_meet
    case rel => exact ⟨_, (t208), (by first | rfl | (simp; done) | (simp [*]; done)), H', ⟨by have := HK1.out; first | omega | exact Nat.le_refl _⟩, ⟨by (with_reducible repeat (first | apply Kd.R_alloc | apply Kd.R_drewN | apply Kd.R_drew)); exact Kd.R_mono (Kd.R_far (p := ⟨gb206, 3, none⟩) (Kd.R_far (p := ⟨gb206, 2, none⟩) (Kd.R_far (p := ⟨gb206, 1, none⟩) (Kd.R_far (p := ⟨gb206, 0, none⟩) (Kd.R_types HO_3.out BK206.out (by decide)) (fun _ hk => hk.2) (.string ((rd_T49 l0 x13_1).f0))) (fun _ hk => hk.2) (.string ((rd_T49 l0 x13_1).f1))) (fun _ hk => hk.2) (.int .i64 ((rd_T49 l0 x13_1).f2))) (fun _ hk => hk.2) (.bool ((rd_T49 l0 x13_1).f3))) (fun _ hk => trivial)⟩, ⟨by (with_reducible repeat (first | refine blk_drewN ?_ _ | refine blk_drew ?_ | refine blk_alloc ?_ _)); refine blk_put (cs := #[.string ((rd_T49 l0 x13_1).f0), .string ((rd_T49 l0 x13_1).f1), .int .i64 ((rd_T49 l0 x13_1).f2), .bool false]) ?_ 3 _ rfl; (with_reducible repeat (first | refine blk_drewN ?_ _ | refine blk_drew ?_ | refine blk_alloc ?_ _)); refine blk_put (cs := #[.string ((rd_T49 l0 x13_1).f0), .string ((rd_T49 l0 x13_1).f1), .int .i64 0, .bool false]) ?_ 2 _ rfl; (with_reducible repeat (first | refine blk_drewN ?_ _ | refine blk_drew ?_ | refine blk_alloc ?_ _)); refine blk_put (cs := #[.string ((rd_T49 l0 x13_1).f0), .string (⟨#[]⟩ : ByteArray), .int .i64 0, .bool false]) ?_ 1 _ rfl; (with_reducible repeat (first | refine blk_drewN ?_ _ | refine blk_drew ?_ | refine blk_alloc ?_ _)); refine blk_put (cs := #[.string (⟨#[]⟩ : ByteArray), .string (⟨#[]⟩ : ByteArray), .int .i64 0, .bool false]) ?_ 0 _ rfl; (with_reducible repeat (first | refine blk_drewN ?_ _ | refine blk_drew ?_ | refine blk_alloc ?_ _)); exact BK206.out⟩, ⟨by repeat (first | (with_reducible first | exact HB.out | apply below_alloc | apply pw_below_drewN | apply below_drew1 | refine below_set ?_ GE206.out) | exact HB.out)⟩⟩
    }
    {
    rw [if_neg c13] at H
    exact absurd H (by simp)
    }
    }
    {
    rw [if_neg c12] at H
    exact absurd H (by simp)
    }
    }
    {
    rw [if_neg c10] at H
    have c10b0 : decide (0 < (Int.tmod x13_1 8)) = false := decide_eq_false c10
    clear c10
    (first | rw [c10b0] | (simp only [i64_w, i32_w]; rw [c10b0]) | skip)
    have H' := A_ H
    clear H
    go_wp2
    repeat (go_quiet (fail); try go_wp2)
    go_meet
    case rel => exact ⟨_, (0), (by first | rfl | (simp; done) | (simp [*]; done)), H', ⟨by have := HK1.out; first | omega | exact Nat.le_refl _⟩, ⟨by (with_reducible repeat (first | apply Kd.R_alloc | apply Kd.R_drewN | apply Kd.R_drew)); exact Kd.R_mono (Kd.R_far (p := ⟨gb206, 3, none⟩) (Kd.R_far (p := ⟨gb206, 2, none⟩) (Kd.R_far (p := ⟨gb206, 1, none⟩) (Kd.R_far (p := ⟨gb206, 0, none⟩) (Kd.R_types HO_3.out BK206.out (by decide)) (fun _ hk => hk.2) (.string ((rd_T49 l0 x13_1).f0))) (fun _ hk => hk.2) (.string ((rd_T49 l0 x13_1).f1))) (fun _ hk => hk.2) (.int .i64 ((rd_T49 l0 x13_1).f2))) (fun _ hk => hk.2) (.bool ((rd_T49 l0 x13_1).f3))) (fun _ hk => trivial)⟩, ⟨by (with_reducible repeat (first | refine blk_drewN ?_ _ | refine blk_drew ?_ | refine blk_alloc ?_ _)); refine blk_put (cs := #[.string ((rd_T49 l0 x13_1).f0), .string ((rd_T49 l0 x13_1).f1), .int .i64 ((rd_T49 l0 x13_1).f2), .bool false]) ?_ 3 _ rfl; (with_reducible repeat (first | refine blk_drewN ?_ _ | refine blk_drew ?_ | refine blk_alloc ?_ _)); refine blk_put (cs := #[.string ((rd_T49 l0 x13_1).f0), .string ((rd_T49 l0 x13_1).f1), .int .i64 0, .bool false]) ?_ 2 _ rfl; (with_reducible repeat (first | refine blk_drewN ?_ _ | refine blk_drew ?_ | refine blk_alloc ?_ _)); refine blk_put (cs := #[.string ((rd_T49 l0 x13_1).f0), .string (⟨#[]⟩ : ByteArray), .int .i64 0, .bool false]) ?_ 1 _ rfl; (with_reducible repeat (first | refine blk_drewN ?_ _ | refine blk_drew ?_ | refine blk_alloc ?_ _)); refine blk_put (cs := #[.string (⟨#[]⟩ : ByteArray), .string (⟨#[]⟩ : ByteArray), .int .i64 0, .bool false]) ?_ 0 _ rfl; (with_reducible repeat (first | refine blk_drewN ?_ _ | refine blk_drew ?_ | refine blk_alloc ?_ _)); exact BK206.out⟩, ⟨by repeat (first | (with_reducible first | exact HB.out | apply below_alloc | apply pw_below_drewN | apply below_drew1 | refine below_set ?_ GE206.out) | exact HB.out)⟩⟩
    }
   case rest =>
    clear HC7
    try clear c1
    try clear p2
    try clear q2
    try clear hx2
    try clear c4
    try clear c4b0
    try clear c5
    try clear c5b0
    try clear c6
    try clear c6b0
    try clear p6
    try clear c8
    try clear c10
    try clear c10b0
    try clear c12
    try clear c12b0
    try clear c13
    try clear c13b0
    try clear hcz15_0
    try clear hcz15_1
    try clear hcz15_2
    try clear hcz15_3
    try clear hcz9_0
    try clear hcz9_1
    try clear hcz9_2
    try clear hcz9_3
    try clear hfz15_0
    try clear hfz15_1
    try clear hfz15_2
    try clear hfz15_3
    try clear hfz9_0
    try clear hfz9_1
    try clear hfz9_2
    try clear hfz9_3
    try clear hx205_0
    try clear hx205_1
    try clear hx205_2
    try clear hx205_3
    try clear hx207_0
    try clear hx207_1
    try clear hx207_2
    try clear hx207_3
    try clear p2
    try clear p205
    try clear p207
    try clear q205
    try clear q207
    obtain ⟨kq, x6_6, rfl, HA, HJ6, HO_3, BK206, HB⟩ := hcut
    cases kq with
    | zero => exact absurd HA.out (by simp [impl_packed.j1])
    | succ kj6 =>
     have H := HA.out
     clear HA
     simp only [impl_packed.j1] at H
     have HC16 := A_ H
     clear H
     have hcz17_0 : wc.cell? ⟨gb206, 0, none⟩ = some (.string ((rd_T49 l0 x13_1).f0)) := (blk_cell BK206.out 0).trans rfl
     have hcz17_1 : wc.cell? ⟨gb206, 1, none⟩ = some (.string ((rd_T49 l0 x13_1).f1)) := (blk_cell BK206.out 1).trans rfl
     have hcz17_2 : wc.cell? ⟨gb206, 2, none⟩ = some (.int .i64 ((rd_T49 l0 x13_1).f2)) := (blk_cell BK206.out 2).trans rfl
     have hcz17_3 : wc.cell? ⟨gb206, 3, none⟩ = some (.bool ((rd_T49 l0 x13_1).f3)) := (blk_cell BK206.out 3).trans rfl
     have hfz17_0 := blk_frozen BK206.out 0
     have hfz17_1 := blk_frozen BK206.out 1
     have hfz17_2 := blk_frozen BK206.out 2
     have hfz17_3 := blk_frozen BK206.out 3
     go_upto_if 34 with (fail)
     repeat (go_quiet (fail); go_upto_if 34 with (fail))
     go_cut [7] (fun v7 wc => ∃ (kq : Nat) (x7_15 : Int), v7 = .int .i64 x7_15 ∧ Aside0 (impl_packed.j2 kq l0 x3_1 x6_6 x7_15 l0 (l0.length : Int) x13_1 ((rd_T49 l0 x13_1).f0) ((rd_T49 l0 x13_1).f1) ((rd_T49 l0 x13_1).f2) ((rd_T49 l0 x13_1).f3) = some r) ∧ Aside0 (kq ≤ kj6) ∧ Aside0 (Kd.R (Kd.int .u8) 5 wc w.heap.size (fun _ => True) u3 x3_1) ∧ Aside0 (wc.heap[gb206]? = some (.cells #[.string ((rd_T49 l0 x13_1).f0), .string ((rd_T49 l0 x13_1).f1), .int .i64 ((rd_T49 l0 x13_1).f2), .bool ((rd_T49 l0 x13_1).f3)] 49 (0, 0))) ∧ Aside0 (Below w.heap.size w wc))
     case first =>
      have H := HC16.out
      clear HC16
      by_cases c18 : ((rd_T49 l0 x13_1).f3) = true
      {
      rw [if_pos c18] at H
      have c18b0 : ((rd_T49 l0 x13_1).f3) = true := c18
      clear c18
      (first | rw [c18b0] | (simp only [i64_w, i32_w]; rw [c18b0]) | skip)
      have H' := A_ H
      clear H
      go_wp2
      repeat (go_quiet (fail); try go_wp2)
      go_meet
      case rel => exact ⟨_, (wrap64 ((wrap64 (2 * ((rd_T49 l0 x13_1).f2))) + 1)), (by first | rfl | (simp; done) | (simp [*]; done)), H', ⟨by have := HK1.out; have := HJ6.out; first | omega | exact Nat.le_refl _⟩, ⟨by (with_reducible repeat (first | apply Kd.R_alloc | apply Kd.R_drewN | apply Kd.R_drew)); exact HO_3.out⟩, ⟨by (with_reducible repeat (first | refine blk_drewN ?_ _ | refine blk_drew ?_ | refine blk_alloc ?_ _)); exact BK206.out⟩, ⟨by repeat (first | (with_reducible first | exact HB.out | apply below_alloc | apply pw_below_drewN | apply below_drew1 | refine below_set ?_ GE206.out) | exact HB.out)⟩⟩
      }
      {
      rw [if_neg c18] at H
      have c18b0 : ((rd_T49 l0 x13_1).f3) = false := by simpa using c18
      clear c18
      (first | rw [c18b0] | (simp only [i64_w, i32_w]; rw [c18b0]) | skip)
      have H' := A_ H
      clear H
      go_wp2
      repeat (go_quiet (fail); try go_wp2)
      go_meet
      case rel => exact ⟨_, (wrap64 (2 * ((rd_T49 l0 x13_1).f2))), (by first | rfl | (simp; done) | (simp [*]; done)), H', ⟨by have := HK1.out; have := HJ6.out; first | omega | exact Nat.le_refl _⟩, ⟨by (with_reducible repeat (first | apply Kd.R_alloc | apply Kd.R_drewN | apply Kd.R_drew)); exact HO_3.out⟩, ⟨by (with_reducible repeat (first | refine blk_drewN ?_ _ | refine blk_drew ?_ | refine blk_alloc ?_ _)); exact BK206.out⟩, ⟨by repeat (first | (with_reducible first | exact HB.out | apply below_alloc | apply pw_below_drewN | apply below_drew1 | refine below_set ?_ GE206.out) | exact HB.out)⟩⟩
      }
     case rest =>
      clear HC16
      try clear c1
      try clear p2
      try clear q2
      try clear hx2
      try clear c4
      try clear c4b0
      try clear c5
      try clear c5b0
      try clear c6
      try clear c6b0
      try clear p6
      try clear c8
      try clear c10
      try clear c10b0
      try clear c12
      try clear c12b0
      try clear c13
      try clear c13b0
      try clear c18
      try clear c18b0
      try clear hcz15_0
      try clear hcz15_1
      try clear hcz15_2
      try clear hcz15_3
      try clear hcz17_0
      try clear hcz17_1
      try clear hcz17_2
      try clear hcz17_3
      try clear hcz9_0
      try clear hcz9_1
      try clear hcz9_2
      try clear hcz9_3
      try clear hfz15_0
      try clear hfz15_1
      try clear hfz15_2
      try clear hfz15_3
      try clear hfz17_0
      try clear hfz17_1
      try clear hfz17_2
      try clear hfz17_3
      try clear hfz9_0
      try clear hfz9_1
      try clear hfz9_2
      try clear hfz9_3
      try clear hx205_0
      try clear hx205_1
      try clear hx205_2
      try clear hx205_3
      try clear hx207_0
      try clear hx207_1
      try clear hx207_2
      try clear hx207_3
      try clear p2
      try clear p205
      try clear p207
      try clear p6
      try clear q2
      try clear q205
      try clear q207
      obtain ⟨kq, x7_15, rfl, HA, HJ15, HO_3, BK206, HB⟩ := hcut
      cases kq with
      | zero => exact absurd HA.out (by simp [impl_packed.j2])
      | succ kj15 =>
       have H := HA.out
       clear HA
       simp only [impl_packed.j2] at H
       replace H := Option.bind_eq_some_iff.mp H
       obtain ⟨t209, A190, H⟩ := H
       (try dsimp only at H)
       have A19 := A_ A190
       clear A190
       by_cases c20 : x3_1.length + t209.length < 140737488355328
       {
       rw [if_pos c20] at H
       have LMc20 := A_ c20
       clear c20
       obtain ⟨y212, hy212⟩ : ∃ y_ : List Int, y_ = (x3_1 ++ t209) := ⟨_, rfl⟩
       replace H : (if 0 ≤ x6_6 then (if x6_6 ≤ (((rd_T49 l0 x13_1).f0).size : Int) then ((impl_Text.f kj15 (((rd_T49 l0 x13_1).f0).extract (x6_6 : Int).toNat ((rd_T49 l0 x13_1).f0).size)).bind fun t215 => (if y212.length + t215.length < 140737488355328 then ((some (y212 ++ t215 : List Int)).bind fun y218 => ((impl_Number.f kj15 x7_15).bind fun t221 => (if y218.length + t221.length < 140737488355328 then ((some (y218 ++ t221 : List Int)).bind fun y224 => ((impl_Text.f kj15 ((rd_T49 l0 x13_1).f1)).bind fun t227 => (if y224.length + t227.length < 140737488355328 then (impl_packed.l0 kj15 l0 (y224 ++ t227) l0 (l0.length : Int) (wrap64 (x13_1 + 1))) else (none)))) else (none)))) else (none))) else (none)) else (none)) = some r := by first | (rw [hy212]; with_reducible exact H) | (have H2_ := (Option.bind_some _ _).symm.trans H; rw [hy212]; with_reducible exact H2_) | (have H2_ := (Option.bind_some _ _).symm.trans H; with_reducible exact H2_) | with_reducible exact H | (rw [hy212]; exact H) | exact H
       have Ny212 := A_ hy212
       clear hy212
       by_cases c21 : 0 ≤ x6_6
       {
       rw [if_pos c21] at H
       have c21b0 := eq_true c21
       have c21b1 : decide (0 ≤ x6_6) = true := decide_eq_true c21
       clear c21
       by_cases c22 : x6_6 ≤ (((rd_T49 l0 x13_1).f0).size : Int)
       {
       rw [if_pos c22] at H
       have c22b0 := eq_true c22
       have c22b1 : decide (x6_6 ≤ (((rd_T49 l0 x13_1).f0).size : Int)) = true := decide_eq_true c22
       clear c22
       replace H := Option.bind_eq_some_iff.mp H
       obtain ⟨t215, A230, H⟩ := H
       (try dsimp only at H)
       have A23 := A_ A230
       clear A230
       by_cases c24 : y212.length + t215.length < 140737488355328
       {
       rw [if_pos c24] at H
       have LMc24 := A_ c24
       clear c24
       obtain ⟨y218, hy218⟩ : ∃ y_ : List Int, y_ = (y212 ++ t215) := ⟨_, rfl⟩
       replace H : ((impl_Number.f kj15 x7_15).bind fun t221 => (if y218.length + t221.length < 140737488355328 then ((some (y218 ++ t221 : List Int)).bind fun y224 => ((impl_Text.f kj15 ((rd_T49 l0 x13_1).f1)).bind fun t227 => (if y224.length + t227.length < 140737488355328 then (impl_packed.l0 kj15 l0 (y224 ++ t227) l0 (l0.length : Int) (wrap64 (x13_1 + 1))) else (none)))) else (none))) = some r := by first | (rw [hy218]; with_reducible exact H) | (have H2_ := (Option.bind_some _ _).symm.trans H; rw [hy218]; with_reducible exact H2_) | (have H2_ := (Option.bind_some _ _).symm.trans H; with_reducible exact H2_) | with_reducible exact H | (rw [hy218]; exact H) | exact H
       have Ny218 := A_ hy218
       clear hy218
       replace H := Option.bind_eq_some_iff.mp H
       obtain ⟨t221, A250, H⟩ := H
       (try dsimp only at H)
       have A25 := A_ A250
       clear A250
       by_cases c26 : y218.length + t221.length < 140737488355328
       {
       rw [if_pos c26] at H
       have LMc26 := A_ c26
       clear c26
       obtain ⟨y224, hy224⟩ : ∃ y_ : List Int, y_ = (y218 ++ t221) := ⟨_, rfl⟩
       replace H : ((impl_Text.f kj15 ((rd_T49 l0 x13_1).f1)).bind fun t227 => (if y224.length + t227.length < 140737488355328 then (impl_packed.l0 kj15 l0 (y224 ++ t227) l0 (l0.length : Int) (wrap64 (x13_1 + 1))) else (none))) = some r := by first | (rw [hy224]; with_reducible exact H) | (have H2_ := (Option.bind_some _ _).symm.trans H; rw [hy224]; with_reducible exact H2_) | (have H2_ := (Option.bind_some _ _).symm.trans H; with_reducible exact H2_) | with_reducible exact H | (rw [hy224]; exact H) | exact H
       have Ny224 := A_ hy224
       clear hy224
       replace H := Option.bind_eq_some_iff.mp H
       obtain ⟨t227, A270, H⟩ := H
       (try dsimp only at H)
       have A27 := A_ A270
       clear A270
       by_cases c28 : y224.length + t227.length < 140737488355328
       {
       rw [if_pos c28] at H
       have LMc28 := A_ c28
       clear c28
       obtain ⟨y230, hy230⟩ : ∃ y_ : List Int, y_ = (y224 ++ t227) := ⟨_, rfl⟩
       replace H : (impl_packed.l0 kj15 l0 y230 l0 (l0.length : Int) (wrap64 (x13_1 + 1))) = some r := by first | (rw [hy230]; with_reducible exact H) | (have H2_ := (Option.bind_some _ _).symm.trans H; rw [hy230]; with_reducible exact H2_) | (have H2_ := (Option.bind_some _ _).symm.trans H; with_reducible exact H2_) | with_reducible exact H | (rw [hy230]; exact H) | exact H
       have Ny230 := A_ hy230
       clear hy230
       have H' := A_ H
       clear H
       go_wp2_with (first | (go_at_call 18; (with_reducible refine (impl_Number.calls kj15 x6_6 t209 _ A19.out).mono ?_); rintro e w29 ⟨v210, rfl, ho0, hb⟩; have n0_ := A_ (Kd.R_elder' z89h (Kd.R_base ho0) hb); have n1_ := A_ (Kd.R_lower (Kd.R_new' ho0 (Kd.R_lt z89h)) (below_size z89a)); have n2_ := A_ (blk_below (g := gb206) (o := .cells #[.string ((rd_T49 l0 x13_1).f0), .string ((rd_T49 l0 x13_1).f1), .int .i64 ((rd_T49 l0 x13_1).f2), .bool ((rd_T49 l0 x13_1).f3)] 49 (0, 0)) z89c hb); have n3_ := A_ (below_step z89a hb); clear HO_3; clear BK206; clear HB; have HO_3 := n0_; have HO211 := n1_; have BK206 := n2_; have HB := n3_; clear n0_ n1_ n2_ n3_; obtain ⟨Ao31, co31, eo31⟩ := Kd.R_slice HO211.out; subst eo31) | ((with_reducible refine gate_builtin (b := .append) (xs := #[.tmp 37, .tmp 39]) rfl ?_); at_builtin; refine Kd.R_append_rows (Kd.int .u8) (w0 := w) w.heap.size rfl (.tmp 37) (.tmp 39) 22 5 (.int .u8 0) 1 rfl Try.underlying22 info5 rfl (by decide) (by omega) u3 x3_1 t209 _ _ _ (fun k_ => some k_ ≠ (.slice Ao31 t209.length co31 : Value).ownBlock) (fun _ => False) rfl rfl ?aO ?aR (fun _ _ h => h) (fun _ h => h.elim) ?aF ?aB ?aS ?aL ?_; (case aR => exact (by repeat (first | exact (Kd.R_reads' HO211.out).2.2 | (with_reducible refine Kd.C_alloc ?_ _) | (with_reducible refine Kd.C_drewN ?_ _) | (with_reducible refine Kd.C_drew ?_)))); (case aB => exact z89a); (case aF => exact (fun k_ hk => Kd.fresh' (Kd.R_lt z89b) k_ hk)); (case aO => exact (by (with_reducible repeat (first | apply Kd.R_alloc | apply Kd.R_drewN | apply Kd.R_drew)); exact Kd.R_mono HO_3.out (fun _ hk => hk.2))); (case aS => exact (below_size z89a)); (case aL => have := LMc20.out; omega); intro v213 w30 ho hb hg hat; rw [← Ny212.out] at ho; have n0_ := A_ (blk_grown (g := gb206) (o := .cells #[.string ((rd_T49 l0 x13_1).f0), .string ((rd_T49 l0 x13_1).f1), .int .i64 ((rd_T49 l0 x13_1).f2), .bool ((rd_T49 l0 x13_1).f3)] 49 (0, 0)) z89c hg (Kd.R_ne HO_3.out BK206.out (by decide))); have n1_ := A_ (Kd.R_after (ok := (fun _ => True)) z89b hg hat); have n2_ := A_ (hb); have n3_ := A_ (ho); clear BK206; clear HO211; clear HB; clear HO_3; have BK206 := n0_; have HO211 := n1_; have HB := n2_; have HO214 := n3_; clear n0_ n1_ n2_ n3_; clear ho hb hg hat; have hcz32_0 : w30.cell? ⟨gb206, 0, none⟩ = some (.string ((rd_T49 l0 x13_1).f0)) := (blk_cell BK206.out 0).trans rfl; have hcz32_1 : w30.cell? ⟨gb206, 1, none⟩ = some (.string ((rd_T49 l0 x13_1).f1)) := (blk_cell BK206.out 1).trans rfl; have hcz32_2 : w30.cell? ⟨gb206, 2, none⟩ = some (.int .i64 ((rd_T49 l0 x13_1).f2)) := (blk_cell BK206.out 2).trans rfl; have hcz32_3 : w30.cell? ⟨gb206, 3, none⟩ = some (.bool ((rd_T49 l0 x13_1).f3)) := (blk_cell BK206.out 3).trans rfl; have hfz32_0 := blk_frozen BK206.out 0; have hfz32_1 := blk_frozen BK206.out 1; have hfz32_2 := blk_frozen BK206.out 2; have hfz32_3 := blk_frozen BK206.out 3) | (go_at_call 23; (with_reducible refine (impl_Text.calls kj15 (((rd_T49 l0 x13_1).f0).extract (x6_6 : Int).toNat ((rd_T49 l0 x13_1).f0).size) t215 _ A23.out).mono ?_); rintro e w33 ⟨v216, rfl, ho0, hb⟩; have n0_ := A_ (Kd.R_elder' z89b (Kd.R_base ho0) hb); have n1_ := A_ (Kd.R_elder' z89g (Kd.R_base ho0) hb); have n2_ := A_ (Kd.R_lower (Kd.R_new' (Kd.R_new' ho0 (Kd.R_lt z89b)) (Kd.R_lt z89g)) (below_size z89a)); have n3_ := A_ (blk_below (g := gb206) (o := .cells #[.string ((rd_T49 l0 x13_1).f0), .string ((rd_T49 l0 x13_1).f1), .int .i64 ((rd_T49 l0 x13_1).f2), .bool ((rd_T49 l0 x13_1).f3)] 49 (0, 0)) z89c hb); have n4_ := A_ (below_step z89a hb); clear HO211; clear HO214; clear BK206; clear HB; have HO211 := n0_; have HO214 := n1_; have HO217 := n2_; have BK206 := n3_; have HB := n4_; clear n0_ n1_ n2_ n3_ n4_; obtain ⟨Ao35, co35, eo35⟩ := Kd.R_slice HO217.out; subst eo35) | ((with_reducible refine gate_builtin (b := .append) (xs := #[.tmp 41, .tmp 46]) rfl ?_); at_builtin; refine Kd.R_append_rows (Kd.int .u8) (w0 := w) w.heap.size rfl (.tmp 41) (.tmp 46) 22 5 (.int .u8 0) 1 rfl Try.underlying22 info5 rfl (by decide) (by omega) v213 y212 t215 _ _ _ (fun k_ => some k_ ≠ (.slice Ao31 t209.length co31 : Value).ownBlock ∧ some k_ ≠ (.slice Ao35 t215.length co35 : Value).ownBlock) (fun _ => False) rfl rfl ?aO ?aR (fun _ _ h => h) (fun _ h => h.elim) ?aF ?aB ?aS ?aL ?_; (case aR => exact (by repeat (first | exact (Kd.R_reads' HO217.out).2.2 | (with_reducible refine Kd.C_alloc ?_ _) | (with_reducible refine Kd.C_drewN ?_ _) | (with_reducible refine Kd.C_drew ?_)))); (case aB => exact z89a); (case aF => exact (fun k_ hk => ⟨Kd.fresh' (Kd.R_lt z89b) k_ hk, Kd.fresh' (Kd.R_lt z89d) k_ hk⟩)); (case aO => exact z89g); (case aS => exact (below_size z89a)); (case aL => have := LMc24.out; omega); intro v219 w34 ho hb hg hat; rw [← Ny218.out] at ho; have n0_ := A_ (blk_grown (g := gb206) (o := .cells #[.string ((rd_T49 l0 x13_1).f0), .string ((rd_T49 l0 x13_1).f1), .int .i64 ((rd_T49 l0 x13_1).f2), .bool ((rd_T49 l0 x13_1).f3)] 49 (0, 0)) z89c hg (Kd.R_ne HO214.out BK206.out (by decide))); have n1_ := A_ (Kd.R_after (ok := (fun k_ => some k_ ≠ (.slice Ao35 t215.length co35 : Value).ownBlock)) (by (with_reducible repeat (first | apply Kd.R_alloc | apply Kd.R_drewN | apply Kd.R_drew)); exact Kd.R_mono HO211.out (fun _ hk => ⟨hk.2, hk.1.2⟩)) hg hat); have n2_ := A_ (Kd.R_after (ok := (fun k_ => some k_ ≠ (.slice Ao31 t209.length co31 : Value).ownBlock)) (by (with_reducible repeat (first | apply Kd.R_alloc | apply Kd.R_drewN | apply Kd.R_drew)); exact Kd.R_mono HO217.out (fun _ hk => ⟨hk.1.2, hk.2⟩)) hg hat); have n3_ := A_ (hb); have n4_ := A_ (ho); clear BK206; clear HO211; clear HO217; clear HB; clear HO214; have BK206 := n0_; have HO211 := n1_; have HO217 := n2_; have HB := n3_; have HO220 := n4_; clear n0_ n1_ n2_ n3_ n4_; clear ho hb hg hat) | (go_at_call 18; (with_reducible refine (impl_Number.calls kj15 x7_15 t221 _ A25.out).mono ?_); rintro e w36 ⟨v222, rfl, ho0, hb⟩; have n0_ := A_ (Kd.R_elder' z89b (Kd.R_base ho0) hb); have n1_ := A_ (Kd.R_elder' z89d (Kd.R_base ho0) hb); have n2_ := A_ (Kd.R_elder' z89i (Kd.R_base ho0) hb); have n3_ := A_ (Kd.R_lower (Kd.R_new' (Kd.R_new' (Kd.R_new' ho0 (Kd.R_lt z89b)) (Kd.R_lt z89d)) (Kd.R_lt z89i)) (below_size z89a)); have n4_ := A_ (blk_below (g := gb206) (o := .cells #[.string ((rd_T49 l0 x13_1).f0), .string ((rd_T49 l0 x13_1).f1), .int .i64 ((rd_T49 l0 x13_1).f2), .bool ((rd_T49 l0 x13_1).f3)] 49 (0, 0)) z89c hb); have n5_ := A_ (below_step z89a hb); clear HO211; clear HO217; clear HO220; clear BK206; clear HB; have HO211 := n0_; have HO217 := n1_; have HO220 := n2_; have HO223 := n3_; have BK206 := n4_; have HB := n5_; clear n0_ n1_ n2_ n3_ n4_ n5_; obtain ⟨Ao38, co38, eo38⟩ := Kd.R_slice HO223.out; subst eo38) | ((with_reducible refine gate_builtin (b := .append) (xs := #[.tmp 48, .tmp 50]) rfl ?_); at_builtin; refine Kd.R_append_rows (Kd.int .u8) (w0 := w) w.heap.size rfl (.tmp 48) (.tmp 50) 22 5 (.int .u8 0) 1 rfl Try.underlying22 info5 rfl (by decide) (by omega) v219 y218 t221 _ _ _ (fun k_ => some k_ ≠ (.slice Ao31 t209.length co31 : Value).ownBlock ∧ some k_ ≠ (.slice Ao35 t215.length co35 : Value).ownBlock ∧ some k_ ≠ (.slice Ao38 t221.length co38 : Value).ownBlock) (fun _ => False) rfl rfl ?aO ?aR (fun _ _ h => h) (fun _ h => h.elim) ?aF ?aB ?aS ?aL ?_; (case aR => exact (by repeat (first | exact (Kd.R_reads' HO223.out).2.2 | (with_reducible refine Kd.C_alloc ?_ _) | (with_reducible refine Kd.C_drewN ?_ _) | (with_reducible refine Kd.C_drew ?_)))); (case aB => exact z89a); (case aF => exact (fun k_ hk => ⟨Kd.fresh' (Kd.R_lt z89b) k_ hk, Kd.fresh' (Kd.R_lt z89d) k_ hk, Kd.fresh' (Kd.R_lt z89f) k_ hk⟩)); (case aO => exact (by (with_reducible repeat (first | apply Kd.R_alloc | apply Kd.R_drewN | apply Kd.R_drew)); exact Kd.R_mono HO220.out (fun _ hk => ⟨hk.1.1, ⟨hk.1.2, hk.2⟩⟩))); (case aS => exact (below_size z89a)); (case aL => have := LMc26.out; omega); intro v225 w37 ho hb hg hat; rw [← Ny224.out] at ho; have n0_ := A_ (blk_grown (g := gb206) (o := .cells #[.string ((rd_T49 l0 x13_1).f0), .string ((rd_T49 l0 x13_1).f1), .int .i64 ((rd_T49 l0 x13_1).f2), .bool ((rd_T49 l0 x13_1).f3)] 49 (0, 0)) z89c hg (Kd.R_ne HO220.out BK206.out (by decide))); have n1_ := A_ (Kd.R_after (ok := (fun k_ => some k_ ≠ (.slice Ao35 t215.length co35 : Value).ownBlock ∧ some k_ ≠ (.slice Ao38 t221.length co38 : Value).ownBlock)) (by (with_reducible repeat (first | apply Kd.R_alloc | apply Kd.R_drewN | apply Kd.R_drew)); exact Kd.R_mono HO211.out (fun _ hk => ⟨⟨hk.1.1, hk.2⟩, hk.1.2⟩)) hg hat); have n2_ := A_ (Kd.R_after (ok := (fun k_ => some k_ ≠ (.slice Ao31 t209.length co31 : Value).ownBlock ∧ some k_ ≠ (.slice Ao38 t221.length co38 : Value).ownBlock)) (by (with_reducible repeat (first | apply Kd.R_alloc | apply Kd.R_drewN | apply Kd.R_drew)); exact Kd.R_mono HO217.out (fun _ hk => ⟨⟨hk.1.1, hk.2⟩, hk.1.2⟩)) hg hat); have n3_ := A_ (Kd.R_after (ok := (fun k_ => some k_ ≠ (.slice Ao31 t209.length co31 : Value).ownBlock ∧ some k_ ≠ (.slice Ao35 t215.length co35 : Value).ownBlock)) (by (with_reducible repeat (first | apply Kd.R_alloc | apply Kd.R_drewN | apply Kd.R_drew)); exact Kd.R_mono HO223.out (fun _ hk => ⟨⟨hk.1.1.2, hk.1.2⟩, hk.2⟩)) hg hat); have n4_ := A_ (hb); have n5_ := A_ (ho); clear BK206; clear HO211; clear HO217; clear HO223; clear HB; clear HO220; have BK206 := n0_; have HO211 := n1_; have HO217 := n2_; have HO223 := n3_; have HB := n4_; have HO226 := n5_; clear n0_ n1_ n2_ n3_ n4_ n5_; clear ho hb hg hat; have hcz39_0 : w37.cell? ⟨gb206, 0, none⟩ = some (.string ((rd_T49 l0 x13_1).f0)) := (blk_cell BK206.out 0).trans rfl; have hcz39_1 : w37.cell? ⟨gb206, 1, none⟩ = some (.string ((rd_T49 l0 x13_1).f1)) := (blk_cell BK206.out 1).trans rfl; have hcz39_2 : w37.cell? ⟨gb206, 2, none⟩ = some (.int .i64 ((rd_T49 l0 x13_1).f2)) := (blk_cell BK206.out 2).trans rfl; have hcz39_3 : w37.cell? ⟨gb206, 3, none⟩ = some (.bool ((rd_T49 l0 x13_1).f3)) := (blk_cell BK206.out 3).trans rfl; have hfz39_0 := blk_frozen BK206.out 0; have hfz39_1 := blk_frozen BK206.out 1; have hfz39_2 := blk_frozen BK206.out 2; have hfz39_3 := blk_frozen BK206.out 3) | (go_at_call 23; (with_reducible refine (impl_Text.calls kj15 ((rd_T49 l0 x13_1).f1) t227 _ A27.out).mono ?_); rintro e w40 ⟨v228, rfl, ho0, hb⟩; have n0_ := A_ (Kd.R_elder' z89b (Kd.R_base ho0) hb); have n1_ := A_ (Kd.R_elder' z89d (Kd.R_base ho0) hb); have n2_ := A_ (Kd.R_elder' z89f (Kd.R_base ho0) hb); have n3_ := A_ (Kd.R_elder' z89j (Kd.R_base ho0) hb); have n4_ := A_ (Kd.R_lower (Kd.R_new' (Kd.R_new' (Kd.R_new' (Kd.R_new' ho0 (Kd.R_lt z89b)) (Kd.R_lt z89d)) (Kd.R_lt z89f)) (Kd.R_lt z89j)) (below_size z89a)); have n5_ := A_ (blk_below (g := gb206) (o := .cells #[.string ((rd_T49 l0 x13_1).f0), .string ((rd_T49 l0 x13_1).f1), .int .i64 ((rd_T49 l0 x13_1).f2), .bool ((rd_T49 l0 x13_1).f3)] 49 (0, 0)) z89c hb); have n6_ := A_ (below_step z89a hb); clear HO211; clear HO217; clear HO223; clear HO226; clear BK206; clear HB; have HO211 := n0_; have HO217 := n1_; have HO223 := n2_; have HO226 := n3_; have HO229 := n4_; have BK206 := n5_; have HB := n6_; clear n0_ n1_ n2_ n3_ n4_ n5_ n6_; obtain ⟨Ao42, co42, eo42⟩ := Kd.R_slice HO229.out; subst eo42) | ((with_reducible refine gate_builtin (b := .append) (xs := #[.tmp 52, .tmp 55]) rfl ?_); at_builtin; refine Kd.R_append_rows (Kd.int .u8) (w0 := w) w.heap.size rfl (.tmp 52) (.tmp 55) 22 5 (.int .u8 0) 1 rfl Try.underlying22 info5 rfl (by decide) (by omega) v225 y224 t227 _ _ _ (fun k_ => some k_ ≠ (.slice Ao31 t209.length co31 : Value).ownBlock ∧ some k_ ≠ (.slice Ao35 t215.length co35 : Value).ownBlock ∧ some k_ ≠ (.slice Ao38 t221.length co38 : Value).ownBlock ∧ some k_ ≠ (.slice Ao42 t227.length co42 : Value).ownBlock) (fun _ => False) rfl rfl ?aO ?aR (fun _ _ h => h) (fun _ h => h.elim) ?aF ?aB ?aS ?aL ?_; (case aR => exact (by repeat (first | exact (Kd.R_reads' HO229.out).2.2 | (with_reducible refine Kd.C_alloc ?_ _) | (with_reducible refine Kd.C_drewN ?_ _) | (with_reducible refine Kd.C_drew ?_)))); (case aB => exact z89a); (case aF => exact (fun k_ hk => ⟨Kd.fresh' (Kd.R_lt z89b) k_ hk, Kd.fresh' (Kd.R_lt z89d) k_ hk, Kd.fresh' (Kd.R_lt z89f) k_ hk, Kd.fresh' (Kd.R_lt (by (with_reducible repeat (first | apply Kd.R_alloc | apply Kd.R_drewN | apply Kd.R_drew)); exact HO229.out)) k_ hk⟩)); (case aO => exact (by (with_reducible repeat (first | apply Kd.R_alloc | apply Kd.R_drewN | apply Kd.R_drew)); exact Kd.R_mono HO226.out (fun _ hk => ⟨hk.1.1, ⟨hk.1.2.1, ⟨hk.1.2.2, hk.2⟩⟩⟩))); (case aS => exact (below_size z89a)); (case aL => have := LMc28.out; omega); intro v231 w41 ho hb hg hat; rw [← Ny230.out] at ho; have n0_ := A_ (blk_grown (g := gb206) (o := .cells #[.string ((rd_T49 l0 x13_1).f0), .string ((rd_T49 l0 x13_1).f1), .int .i64 ((rd_T49 l0 x13_1).f2), .bool ((rd_T49 l0 x13_1).f3)] 49 (0, 0)) z89c hg (Kd.R_ne HO226.out BK206.out (by decide))); have n1_ := A_ (Kd.R_after (ok := (fun k_ => some k_ ≠ (.slice Ao35 t215.length co35 : Value).ownBlock ∧ some k_ ≠ (.slice Ao38 t221.length co38 : Value).ownBlock ∧ some k_ ≠ (.slice Ao42 t227.length co42 : Value).ownBlock)) (by (with_reducible repeat (first | apply Kd.R_alloc | apply Kd.R_drewN | apply Kd.R_drew)); exact Kd.R_mono HO211.out (fun _ hk => ⟨⟨hk.1.1.1, ⟨hk.1.1.2, hk.2⟩⟩, hk.1.2⟩)) hg hat); have n2_ := A_ (Kd.R_after (ok := (fun k_ => some k_ ≠ (.slice Ao31 t209.length co31 : Value).ownBlock ∧ some k_ ≠ (.slice Ao38 t221.length co38 : Value).ownBlock ∧ some k_ ≠ (.slice Ao42 t227.length co42 : Value).ownBlock)) (by (with_reducible repeat (first | apply Kd.R_alloc | apply Kd.R_drewN | apply Kd.R_drew)); exact Kd.R_mono HO217.out (fun _ hk => ⟨⟨hk.1.1.1, ⟨hk.1.1.2, hk.2⟩⟩, hk.1.2⟩)) hg hat); have n3_ := A_ (Kd.R_after (ok := (fun k_ => some k_ ≠ (.slice Ao31 t209.length co31 : Value).ownBlock ∧ some k_ ≠ (.slice Ao35 t215.length co35 : Value).ownBlock ∧ some k_ ≠ (.slice Ao42 t227.length co42 : Value).ownBlock)) (by (with_reducible repeat (first | apply Kd.R_alloc | apply Kd.R_drewN | apply Kd.R_drew)); exact Kd.R_mono HO223.out (fun _ hk => ⟨⟨hk.1.1.1, ⟨hk.1.1.2, hk.2⟩⟩, hk.1.2⟩)) hg hat); have n4_ := A_ (Kd.R_after (ok := (fun k_ => some k_ ≠ (.slice Ao31 t209.length co31 : Value).ownBlock ∧ some k_ ≠ (.slice Ao35 t215.length co35 : Value).ownBlock ∧ some k_ ≠ (.slice Ao38 t221.length co38 : Value).ownBlock)) (by (with_reducible repeat (first | apply Kd.R_alloc | apply Kd.R_drewN | apply Kd.R_drew)); exact Kd.R_mono HO229.out (fun _ hk => ⟨⟨hk.1.1.1.2, ⟨hk.1.1.2, hk.1.2⟩⟩, hk.2⟩)) hg hat); have n5_ := A_ (hb); have n6_ := A_ (ho); clear BK206; clear HO211; clear HO217; clear HO223; clear HO229; clear HB; clear HO226; have BK206 := n0_; have HO211 := n1_; have HO217 := n2_; have HO223 := n3_; have HO229 := n4_; have HB := n5_; have HO232 := n6_; clear n0_ n1_ n2_ n3_ n4_ n5_ n6_; clear ho hb hg hat))
       repeat (go_quiet (first | (go_at_call 18; (with_reducible refine (impl_Number.calls kj15 x6_6 t209 _ A19.out).mono ?_); rintro e w29 ⟨v210, rfl, ho0, hb⟩; have n0_ := A_ (Kd.R_elder' z89h (Kd.R_base ho0) hb); have n1_ := A_ (Kd.R_lower (Kd.R_new' ho0 (Kd.R_lt z89h)) (below_size z89a)); have n2_ := A_ (blk_below (g := gb206) (o := .cells #[.string ((rd_T49 l0 x13_1).f0), .string ((rd_T49 l0 x13_1).f1), .int .i64 ((rd_T49 l0 x13_1).f2), .bool ((rd_T49 l0 x13_1).f3)] 49 (0, 0)) z89c hb); have n3_ := A_ (below_step z89a hb); clear HO_3; clear BK206; clear HB; have HO_3 := n0_; have HO211 := n1_; have BK206 := n2_; have HB := n3_; clear n0_ n1_ n2_ n3_; obtain ⟨Ao31, co31, eo31⟩ := Kd.R_slice HO211.out; subst eo31) | ((with_reducible refine gate_builtin (b := .append) (xs := #[.tmp 37, .tmp 39]) rfl ?_); at_builtin; refine Kd.R_append_rows (Kd.int .u8) (w0 := w) w.heap.size rfl (.tmp 37) (.tmp 39) 22 5 (.int .u8 0) 1 rfl Try.underlying22 info5 rfl (by decide) (by omega) u3 x3_1 t209 _ _ _ (fun k_ => some k_ ≠ (.slice Ao31 t209.length co31 : Value).ownBlock) (fun _ => False) rfl rfl ?aO ?aR (fun _ _ h => h) (fun _ h => h.elim) ?aF ?aB ?aS ?aL ?_; (case aR => exact (by repeat (first | exact (Kd.R_reads' HO211.out).2.2 | (with_reducible refine Kd.C_alloc ?_ _) | (with_reducible refine Kd.C_drewN ?_ _) | (with_reducible refine Kd.C_drew ?_)))); (case aB => exact z89a); (case aF => exact (fun k_ hk => Kd.fresh' (Kd.R_lt z89b) k_ hk)); (case aO => exact (by (with_reducible repeat (first | apply Kd.R_alloc | apply Kd.R_drewN | apply Kd.R_drew)); exact Kd.R_mono HO_3.out (fun _ hk => hk.2))); (case aS => exact (below_size z89a)); (case aL => have := LMc20.out; omega); intro v213 w30 ho hb hg hat; rw [← Ny212.out] at ho; have n0_ := A_ (blk_grown (g := gb206) (o := .cells #[.string ((rd_T49 l0 x13_1).f0), .string ((rd_T49 l0 x13_1).f1), .int .i64 ((rd_T49 l0 x13_1).f2), .bool ((rd_T49 l0 x13_1).f3)] 49 (0, 0)) z89c hg (Kd.R_ne HO_3.out BK206.out (by decide))); have n1_ := A_ (Kd.R_after (ok := (fun _ => True)) z89b hg hat); have n2_ := A_ (hb); have n3_ := A_ (ho); clear BK206; clear HO211; clear HB; clear HO_3; have BK206 := n0_; have HO211 := n1_; have HB := n2_; have HO214 := n3_; clear n0_ n1_ n2_ n3_; clear ho hb hg hat; have hcz32_0 : w30.cell? ⟨gb206, 0, none⟩ = some (.string ((rd_T49 l0 x13_1).f0)) := (blk_cell BK206.out 0).trans rfl; have hcz32_1 : w30.cell? ⟨gb206, 1, none⟩ = some (.string ((rd_T49 l0 x13_1).f1)) := (blk_cell BK206.out 1).trans rfl; have hcz32_2 : w30.cell? ⟨gb206, 2, none⟩ = some (.int .i64 ((rd_T49 l0 x13_1).f2)) := (blk_cell BK206.out 2).trans rfl; have hcz32_3 : w30.cell? ⟨gb206, 3, none⟩ = some (.bool ((rd_T49 l0 x13_1).f3)) := (blk_cell BK206.out 3).trans rfl; have hfz32_0 := blk_frozen BK206.out 0; have hfz32_1 := blk_frozen BK206.out 1; have hfz32_2 := blk_frozen BK206.out 2; have hfz32_3 := blk_frozen BK206.out 3) | (go_at_call 23; (with_reducible refine (impl_Text.calls kj15 (((rd_T49 l0 x13_1).f0).extract (x6_6 : Int).toNat ((rd_T49 l0 x13_1).f0).size) t215 _ A23.out).mono ?_); rintro e w33 ⟨v216, rfl, ho0, hb⟩; have n0_ := A_ (Kd.R_elder' z89b (Kd.R_base ho0) hb); have n1_ := A_ (Kd.R_elder' z89g (Kd.R_base ho0) hb); have n2_ := A_ (Kd.R_lower (Kd.R_new' (Kd.R_new' ho0 (Kd.R_lt z89b)) (Kd.R_lt z89g)) (below_size z89a)); have n3_ := A_ (blk_below (g := gb206) (o := .cells #[.string ((rd_T49 l0 x13_1).f0), .string ((rd_T49 l0 x13_1).f1), .int .i64 ((rd_T49 l0 x13_1).f2), .bool ((rd_T49 l0 x13_1).f3)] 49 (0, 0)) z89c hb); have n4_ := A_ (below_step z89a hb); clear HO211; clear HO214; clear BK206; clear HB; have HO211 := n0_; have HO214 := n1_; have HO217 := n2_; have BK206 := n3_; have HB := n4_; clear n0_ n1_ n2_ n3_ n4_; obtain ⟨Ao35, co35, eo35⟩ := Kd.R_slice HO217.out; subst eo35) | ((with_reducible refine gate_builtin (b := .append) (xs := #[.tmp 41, .tmp 46]) rfl ?_); at_builtin; refine Kd.R_append_rows (Kd.int .u8) (w0 := w) w.heap.size rfl (.tmp 41) (.tmp 46) 22 5 (.int .u8 0) 1 rfl Try.underlying22 info5 rfl (by decide) (by omega) v213 y212 t215 _ _ _ (fun k_ => some k_ ≠ (.slice Ao31 t209.length co31 : Value).ownBlock ∧ some k_ ≠ (.slice Ao35 t215.length co35 : Value).ownBlock) (fun _ => False) rfl rfl ?aO ?aR (fun _ _ h => h) (fun _ h => h.elim) ?aF ?aB ?aS ?aL ?_; (case aR => exact (by repeat (first | exact (Kd.R_reads' HO217.out).2.2 | (with_reducible refine Kd.C_alloc ?_ _) | (with_reducible refine Kd.C_drewN ?_ _) | (with_reducible refine Kd.C_drew ?_)))); (case aB => exact z89a); (case aF => exact (fun k_ hk => ⟨Kd.fresh' (Kd.R_lt z89b) k_ hk, Kd.fresh' (Kd.R_lt z89d) k_ hk⟩)); (case aO => exact z89g); (case aS => exact (below_size z89a)); (case aL => have := LMc24.out; omega); intro v219 w34 ho hb hg hat; rw [← Ny218.out] at ho; have n0_ := A_ (blk_grown (g := gb206) (o := .cells #[.string ((rd_T49 l0 x13_1).f0), .string ((rd_T49 l0 x13_1).f1), .int .i64 ((rd_T49 l0 x13_1).f2), .bool ((rd_T49 l0 x13_1).f3)] 49 (0, 0)) z89c hg (Kd.R_ne HO214.out BK206.out (by decide))); have n1_ := A_ (Kd.R_after (ok := (fun k_ => some k_ ≠ (.slice Ao35 t215.length co35 : Value).ownBlock)) (by (with_reducible repeat (first | apply Kd.R_alloc | apply Kd.R_drewN | apply Kd.R_drew)); exact Kd.R_mono HO211.out (fun _ hk => ⟨hk.2, hk.1.2⟩)) hg hat); have n2_ := A_ (Kd.R_after (ok := (fun k_ => some k_ ≠ (.slice Ao31 t209.length co31 : Value).ownBlock)) (by (with_reducible repeat (first | apply Kd.R_alloc | apply Kd.R_drewN | apply Kd.R_drew)); exact Kd.R_mono HO217.out (fun _ hk => ⟨hk.1.2, hk.2⟩)) hg hat); have n3_ := A_ (hb); have n4_ := A_ (ho); clear BK206; clear HO211; clear HO217; clear HB; clear HO214; have BK206 := n0_; have HO211 := n1_; have HO217 := n2_; have HB := n3_; have HO220 := n4_; clear n0_ n1_ n2_ n3_ n4_; clear ho hb hg hat) | (go_at_call 18; (with_reducible refine (impl_Number.calls kj15 x7_15 t221 _ A25.out).mono ?_); rintro e w36 ⟨v222, rfl, ho0, hb⟩; have n0_ := A_ (Kd.R_elder' z89b (Kd.R_base ho0) hb); have n1_ := A_ (Kd.R_elder' z89d (Kd.R_base ho0) hb); have n2_ := A_ (Kd.R_elder' z89i (Kd.R_base ho0) hb); have n3_ := A_ (Kd.R_lower (Kd.R_new' (Kd.R_new' (Kd.R_new' ho0 (Kd.R_lt z89b)) (Kd.R_lt z89d)) (Kd.R_lt z89i)) (below_size z89a)); have n4_ := A_ (blk_below (g := gb206) (o := .cells #[.string ((rd_T49 l0 x13_1).f0), .string ((rd_T49 l0 x13_1).f1), .int .i64 ((rd_T49 l0 x13_1).f2), .bool ((rd_T49 l0 x13_1).f3)] 49 (0, 0)) z89c hb); have n5_ := A_ (below_step z89a hb); clear HO211; clear HO217; clear HO220; clear BK206; clear HB; have HO211 := n0_; have HO217 := n1_; have HO220 := n2_; have HO223 := n3_; have BK206 := n4_; have HB := n5_; clear n0_ n1_ n2_ n3_ n4_ n5_; obtain ⟨Ao38, co38, eo38⟩ := Kd.R_slice HO223.out; subst eo38) | ((with_reducible refine gate_builtin (b := .append) (xs := #[.tmp 48, .tmp 50]) rfl ?_); at_builtin; refine Kd.R_append_rows (Kd.int .u8) (w0 := w) w.heap.size rfl (.tmp 48) (.tmp 50) 22 5 (.int .u8 0) 1 rfl Try.underlying22 info5 rfl (by decide) (by omega) v219 y218 t221 _ _ _ (fun k_ => some k_ ≠ (.slice Ao31 t209.length co31 : Value).ownBlock ∧ some k_ ≠ (.slice Ao35 t215.length co35 : Value).ownBlock ∧ some k_ ≠ (.slice Ao38 t221.length co38 : Value).ownBlock) (fun _ => False) rfl rfl ?aO ?aR (fun _ _ h => h) (fun _ h => h.elim) ?aF ?aB ?aS ?aL ?_; (case aR => exact (by repeat (first | exact (Kd.R_reads' HO223.out).2.2 | (with_reducible refine Kd.C_alloc ?_ _) | (with_reducible refine Kd.C_drewN ?_ _) | (with_reducible refine Kd.C_drew ?_)))); (case aB => exact z89a); (case aF => exact (fun k_ hk => ⟨Kd.fresh' (Kd.R_lt z89b) k_ hk, Kd.fresh' (Kd.R_lt z89d) k_ hk, Kd.fresh' (Kd.R_lt z89f) k_ hk⟩)); (case aO => exact (by (with_reducible repeat (first | apply Kd.R_alloc | apply Kd.R_drewN | apply Kd.R_drew)); exact Kd.R_mono HO220.out (fun _ hk => ⟨hk.1.1, ⟨hk.1.2, hk.2⟩⟩))); (case aS => exact (below_size z89a)); (case aL => have := LMc26.out; omega); intro v225 w37 ho hb hg hat; rw [← Ny224.out] at ho; have n0_ := A_ (blk_grown (g := gb206) (o := .cells #[.string ((rd_T49 l0 x13_1).f0), .string ((rd_T49 l0 x13_1).f1), .int .i64 ((rd_T49 l0 x13_1).f2), .bool ((rd_T49 l0 x13_1).f3)] 49 (0, 0)) z89c hg (Kd.R_ne HO220.out BK206.out (by decide))); have n1_ := A_ (Kd.R_after (ok := (fun k_ => some k_ ≠ (.slice Ao35 t215.length co35 : Value).ownBlock ∧ some k_ ≠ (.slice Ao38 t221.length co38 : Value).ownBlock)) (by (with_reducible repeat (first | apply Kd.R_alloc | apply Kd.R_drewN | apply Kd.R_drew)); exact Kd.R_mono HO211.out (fun _ hk => ⟨⟨hk.1.1, hk.2⟩, hk.1.2⟩)) hg hat); have n2_ := A_ (Kd.R_after (ok := (fun k_ => some k_ ≠ (.slice Ao31 t209.length co31 : Value).ownBlock ∧ some k_ ≠ (.slice Ao38 t221.length co38 : Value).ownBlock)) (by (with_reducible repeat (first | apply Kd.R_alloc | apply Kd.R_drewN | apply Kd.R_drew)); exact Kd.R_mono HO217.out (fun _ hk => ⟨⟨hk.1.1, hk.2⟩, hk.1.2⟩)) hg hat); have n3_ := A_ (Kd.R_after (ok := (fun k_ => some k_ ≠ (.slice Ao31 t209.length co31 : Value).ownBlock ∧ some k_ ≠ (.slice Ao35 t215.length co35 : Value).ownBlock)) (by (with_reducible repeat (first | apply Kd.R_alloc | apply Kd.R_drewN | apply Kd.R_drew)); exact Kd.R_mono HO223.out (fun _ hk => ⟨⟨hk.1.1.2, hk.1.2⟩, hk.2⟩)) hg hat); have n4_ := A_ (hb); have n5_ := A_ (ho); clear BK206; clear HO211; clear HO217; clear HO223; clear HB; clear HO220; have BK206 := n0_; have HO211 := n1_; have HO217 := n2_; have HO223 := n3_; have HB := n4_; have HO226 := n5_; clear n0_ n1_ n2_ n3_ n4_ n5_; clear ho hb hg hat; have hcz39_0 : w37.cell? ⟨gb206, 0, none⟩ = some (.string ((rd_T49 l0 x13_1).f0)) := (blk_cell BK206.out 0).trans rfl; have hcz39_1 : w37.cell? ⟨gb206, 1, none⟩ = some (.string ((rd_T49 l0 x13_1).f1)) := (blk_cell BK206.out 1).trans rfl; have hcz39_2 : w37.cell? ⟨gb206, 2, none⟩ = some (.int .i64 ((rd_T49 l0 x13_1).f2)) := (blk_cell BK206.out 2).trans rfl; have hcz39_3 : w37.cell? ⟨gb206, 3, none⟩ = some (.bool ((rd_T49 l0 x13_1).f3)) := (blk_cell BK206.out 3).trans rfl; have hfz39_0 := blk_frozen BK206.out 0; have hfz39_1 := blk_frozen BK206.out 1; have hfz39_2 := blk_frozen BK206.out 2; have hfz39_3 := blk_frozen BK206.out 3) | (go_at_call 23; (with_reducible refine (impl_Text.calls kj15 ((rd_T49 l0 x13_1).f1) t227 _ A27.out).mono ?_); rintro e w40 ⟨v228, rfl, ho0, hb⟩; have n0_ := A_ (Kd.R_elder' z89b (Kd.R_base ho0) hb); have n1_ := A_ (Kd.R_elder' z89d (Kd.R_base ho0) hb); have n2_ := A_ (Kd.R_elder' z89f (Kd.R_base ho0) hb); have n3_ := A_ (Kd.R_elder' z89j (Kd.R_base ho0) hb); have n4_ := A_ (Kd.R_lower (Kd.R_new' (Kd.R_new' (Kd.R_new' (Kd.R_new' ho0 (Kd.R_lt z89b)) (Kd.R_lt z89d)) (Kd.R_lt z89f)) (Kd.R_lt z89j)) (below_size z89a)); have n5_ := A_ (blk_below (g := gb206) (o := .cells #[.string ((rd_T49 l0 x13_1).f0), .string ((rd_T49 l0 x13_1).f1), .int .i64 ((rd_T49 l0 x13_1).f2), .bool ((rd_T49 l0 x13_1).f3)] 49 (0, 0)) z89c hb); have n6_ := A_ (below_step z89a hb); clear HO211; clear HO217; clear HO223; clear HO226; clear BK206; clear HB; have HO211 := n0_; have HO217 := n1_; have HO223 := n2_; have HO226 := n3_; have HO229 := n4_; have BK206 := n5_; have HB := n6_; clear n0_ n1_ n2_ n3_ n4_ n5_ n6_; obtain ⟨Ao42, co42, eo42⟩ := Kd.R_slice HO229.out; subst eo42) | ((with_reducible refine gate_builtin (b := .append) (xs := #[.tmp 52, .tmp 55]) rfl ?_); at_builtin; refine Kd.R_append_rows (Kd.int .u8) (w0 := w) w.heap.size rfl (.tmp 52) (.tmp 55) 22 5 (.int .u8 0) 1 rfl Try.underlying22 info5 rfl (by decide) (by omega) v225 y224 t227 _ _ _ (fun k_ => some k_ ≠ (.slice Ao31 t209.length co31 : Value).ownBlock ∧ some k_ ≠ (.slice Ao35 t215.length co35 : Value).ownBlock ∧ some k_ ≠ (.slice Ao38 t221.length co38 : Value).ownBlock ∧ some k_ ≠ (.slice Ao42 t227.length co42 : Value).ownBlock) (fun _ => False) rfl rfl ?aO ?aR (fun _ _ h => h) (fun _ h => h.elim) ?aF ?aB ?aS ?aL ?_; (case aR => exact (by repeat (first | exact (Kd.R_reads' HO229.out).2.2 | (with_reducible refine Kd.C_alloc ?_ _) | (with_reducible refine Kd.C_drewN ?_ _) | (with_reducible refine Kd.C_drew ?_)))); (case aB => exact z89a); (case aF => exact (fun k_ hk => ⟨Kd.fresh' (Kd.R_lt z89b) k_ hk, Kd.fresh' (Kd.R_lt z89d) k_ hk, Kd.fresh' (Kd.R_lt z89f) k_ hk, Kd.fresh' (Kd.R_lt (by (with_reducible repeat (first | apply Kd.R_alloc | apply Kd.R_drewN | apply Kd.R_drew)); exact HO229.out)) k_ hk⟩)); (case aO => exact (by (with_reducible repeat (first | apply Kd.R_alloc | apply Kd.R_drewN | apply Kd.R_drew)); exact Kd.R_mono HO226.out (fun _ hk => ⟨hk.1.1, ⟨hk.1.2.1, ⟨hk.1.2.2, hk.2⟩⟩⟩))); (case aS => exact (below_size z89a)); (case aL => have := LMc28.out; omega); intro v231 w41 ho hb hg hat; rw [← Ny230.out] at ho; have n0_ := A_ (blk_grown (g := gb206) (o := .cells #[.string ((rd_T49 l0 x13_1).f0), .string ((rd_T49 l0 x13_1).f1), .int .i64 ((rd_T49 l0 x13_1).f2), .bool ((rd_T49 l0 x13_1).f3)] 49 (0, 0)) z89c hg (Kd.R_ne HO226.out BK206.out (by decide))); have n1_ := A_ (Kd.R_after (ok := (fun k_ => some k_ ≠ (.slice Ao35 t215.length co35 : Value).ownBlock ∧ some k_ ≠ (.slice Ao38 t221.length co38 : Value).ownBlock ∧ some k_ ≠ (.slice Ao42 t227.length co42 : Value).ownBlock)) (by (with_reducible repeat (first | apply Kd.R_alloc | apply Kd.R_drewN | apply Kd.R_drew)); exact Kd.R_mono HO211.out (fun _ hk => ⟨⟨hk.1.1.1, ⟨hk.1.1.2, hk.2⟩⟩, hk.1.2⟩)) hg hat); have n2_ := A_ (Kd.R_after (ok := (fun k_ => some k_ ≠ (.slice Ao31 t209.length co31 : Value).ownBlock ∧ some k_ ≠ (.slice Ao38 t221.length co38 : Value).ownBlock ∧ some k_ ≠ (.slice Ao42 t227.length co42 : Value).ownBlock)) (by (with_reducible repeat (first | apply Kd.R_alloc | apply Kd.R_drewN | apply Kd.R_drew)); exact Kd.R_mono HO217.out (fun _ hk => ⟨⟨hk.1.1.1, ⟨hk.1.1.2, hk.2⟩⟩, hk.1.2⟩)) hg hat); have n3_ := A_ (Kd.R_after (ok := (fun k_ => some k_ ≠ (.slice Ao31 t209.length co31 : Value).ownBlock ∧ some k_ ≠ (.slice Ao35 t215.length co35 : Value).ownBlock ∧ some k_ ≠ (.slice Ao42 t227.length co42 : Value).ownBlock)) (by (with_reducible repeat (first | apply Kd.R_alloc | apply Kd.R_drewN | apply Kd.R_drew)); exact Kd.R_mono HO223.out (fun _ hk => ⟨⟨hk.1.1.1, ⟨hk.1.1.2, hk.2⟩⟩, hk.1.2⟩)) hg hat); have n4_ := A_ (Kd.R_after (ok := (fun k_ => some k_ ≠ (.slice Ao31 t209.length co31 : Value).ownBlock ∧ some k_ ≠ (.slice Ao35 t215.length co35 : Value).ownBlock ∧ some k_ ≠ (.slice Ao38 t221.length co38 : Value).ownBlock)) (by (with_reducible repeat (first | apply Kd.R_alloc | apply Kd.R_drewN | apply Kd.R_drew)); exact Kd.R_mono HO229.out (fun _ hk => ⟨⟨hk.1.1.1.2, ⟨hk.1.1.2, hk.1.2⟩⟩, hk.2⟩)) hg hat); have n5_ := A_ (hb); have n6_ := A_ (ho); clear BK206; clear HO211; clear HO217; clear HO223; clear HO229; clear HB; clear HO226; have BK206 := n0_; have HO211 := n1_; have HO217 := n2_; have HO223 := n3_; have HO229 := n4_; have HB := n5_; have HO232 := n6_; clear n0_ n1_ n2_ n3_ n4_ n5_ n6_; clear ho hb hg hat)); try go_wp2_with (first | (go_at_call 18; (with_reducible refine (impl_Number.calls kj15 x6_6 t209 _ A19.out).mono ?_); rintro e w29 ⟨v210, rfl, ho0, hb⟩; have n0_ := A_ (Kd.R_elder' z89h (Kd.R_base ho0) hb); have n1_ := A_ (Kd.R_lower (Kd.R_new' ho0 (Kd.R_lt z89h)) (below_size z89a)); have n2_ := A_ (blk_below (g := gb206) (o := .cells #[.string ((rd_T49 l0 x13_1).f0), .string ((rd_T49 l0 x13_1).f1), .int .i64 ((rd_T49 l0 x13_1).f2), .bool ((rd_T49 l0 x13_1).f3)] 49 (0, 0)) z89c hb); have n3_ := A_ (below_step z89a hb); clear HO_3; clear BK206; clear HB; have HO_3 := n0_; have HO211 := n1_; have BK206 := n2_; have HB := n3_; clear n0_ n1_ n2_ n3_; obtain ⟨Ao31, co31, eo31⟩ := Kd.R_slice HO211.out; subst eo31) | ((with_reducible refine gate_builtin (b := .append) (xs := #[.tmp 37, .tmp 39]) rfl ?_); at_builtin; refine Kd.R_append_rows (Kd.int .u8) (w0 := w) w.heap.size rfl (.tmp 37) (.tmp 39) 22 5 (.int .u8 0) 1 rfl Try.underlying22 info5 rfl (by decide) (by omega) u3 x3_1 t209 _ _ _ (fun k_ => some k_ ≠ (.slice Ao31 t209.length co31 : Value).ownBlock) (fun _ => False) rfl rfl ?aO ?aR (fun _ _ h => h) (fun _ h => h.elim) ?aF ?aB ?aS ?aL ?_; (case aR => exact (by repeat (first | exact (Kd.R_reads' HO211.out).2.2 | (with_reducible refine Kd.C_alloc ?_ _) | (with_reducible refine Kd.C_drewN ?_ _) | (with_reducible refine Kd.C_drew ?_)))); (case aB => exact z89a); (case aF => exact (fun k_ hk => Kd.fresh' (Kd.R_lt z89b) k_ hk)); (case aO => exact (by (with_reducible repeat (first | apply Kd.R_alloc | apply Kd.R_drewN | apply Kd.R_drew)); exact Kd.R_mono HO_3.out (fun _ hk => hk.2))); (case aS => exact (below_size z89a)); (case aL => have := LMc20.out; omega); intro v213 w30 ho hb hg hat; rw [← Ny212.out] at ho; have n0_ := A_ (blk_grown (g := gb206) (o := .cells #[.string ((rd_T49 l0 x13_1).f0), .string ((rd_T49 l0 x13_1).f1), .int .i64 ((rd_T49 l0 x13_1).f2), .bool ((rd_T49 l0 x13_1).f3)] 49 (0, 0)) z89c hg (Kd.R_ne HO_3.out BK206.out (by decide))); have n1_ := A_ (Kd.R_after (ok := (fun _ => True)) z89b hg hat); have n2_ := A_ (hb); have n3_ := A_ (ho); clear BK206; clear HO211; clear HB; clear HO_3; have BK206 := n0_; have HO211 := n1_; have HB := n2_; have HO214 := n3_; clear n0_ n1_ n2_ n3_; clear ho hb hg hat; have hcz32_0 : w30.cell? ⟨gb206, 0, none⟩ = some (.string ((rd_T49 l0 x13_1).f0)) := (blk_cell BK206.out 0).trans rfl; have hcz32_1 : w30.cell? ⟨gb206, 1, none⟩ = some (.string ((rd_T49 l0 x13_1).f1)) := (blk_cell BK206.out 1).trans rfl; have hcz32_2 : w30.cell? ⟨gb206, 2, none⟩ = some (.int .i64 ((rd_T49 l0 x13_1).f2)) := (blk_cell BK206.out 2).trans rfl; have hcz32_3 : w30.cell? ⟨gb206, 3, none⟩ = some (.bool ((rd_T49 l0 x13_1).f3)) := (blk_cell BK206.out 3).trans rfl; have hfz32_0 := blk_frozen BK206.out 0; have hfz32_1 := blk_frozen BK206.out 1; have hfz32_2 := blk_frozen BK206.out 2; have hfz32_3 := blk_frozen BK206.out 3) | (go_at_call 23; (with_reducible refine (impl_Text.calls kj15 (((rd_T49 l0 x13_1).f0).extract (x6_6 : Int).toNat ((rd_T49 l0 x13_1).f0).size) t215 _ A23.out).mono ?_); rintro e w33 ⟨v216, rfl, ho0, hb⟩; have n0_ := A_ (Kd.R_elder' z89b (Kd.R_base ho0) hb); have n1_ := A_ (Kd.R_elder' z89g (Kd.R_base ho0) hb); have n2_ := A_ (Kd.R_lower (Kd.R_new' (Kd.R_new' ho0 (Kd.R_lt z89b)) (Kd.R_lt z89g)) (below_size z89a)); have n3_ := A_ (blk_below (g := gb206) (o := .cells #[.string ((rd_T49 l0 x13_1).f0), .string ((rd_T49 l0 x13_1).f1), .int .i64 ((rd_T49 l0 x13_1).f2), .bool ((rd_T49 l0 x13_1).f3)] 49 (0, 0)) z89c hb); have n4_ := A_ (below_step z89a hb); clear HO211; clear HO214; clear BK206; clear HB; have HO211 := n0_; have HO214 := n1_; have HO217 := n2_; have BK206 := n3_; have HB := n4_; clear n0_ n1_ n2_ n3_ n4_; obtain ⟨Ao35, co35, eo35⟩ := Kd.R_slice HO217.out; subst eo35) | ((with_reducible refine gate_builtin (b := .append) (xs := #[.tmp 41, .tmp 46]) rfl ?_); at_builtin; refine Kd.R_append_rows (Kd.int .u8) (w0 := w) w.heap.size rfl (.tmp 41) (.tmp 46) 22 5 (.int .u8 0) 1 rfl Try.underlying22 info5 rfl (by decide) (by omega) v213 y212 t215 _ _ _ (fun k_ => some k_ ≠ (.slice Ao31 t209.length co31 : Value).ownBlock ∧ some k_ ≠ (.slice Ao35 t215.length co35 : Value).ownBlock) (fun _ => False) rfl rfl ?aO ?aR (fun _ _ h => h) (fun _ h => h.elim) ?aF ?aB ?aS ?aL ?_; (case aR => exact (by repeat (first | exact (Kd.R_reads' HO217.out).2.2 | (with_reducible refine Kd.C_alloc ?_ _) | (with_reducible refine Kd.C_drewN ?_ _) | (with_reducible refine Kd.C_drew ?_)))); (case aB => exact z89a); (case aF => exact (fun k_ hk => ⟨Kd.fresh' (Kd.R_lt z89b) k_ hk, Kd.fresh' (Kd.R_lt z89d) k_ hk⟩)); (case aO => exact z89g); (case aS => exact (below_size z89a)); (case aL => have := LMc24.out; omega); intro v219 w34 ho hb hg hat; rw [← Ny218.out] at ho; have n0_ := A_ (blk_grown (g := gb206) (o := .cells #[.string ((rd_T49 l0 x13_1).f0), .string ((rd_T49 l0 x13_1).f1), .int .i64 ((rd_T49 l0 x13_1).f2), .bool ((rd_T49 l0 x13_1).f3)] 49 (0, 0)) z89c hg (Kd.R_ne HO214.out BK206.out (by decide))); have n1_ := A_ (Kd.R_after (ok := (fun k_ => some k_ ≠ (.slice Ao35 t215.length co35 : Value).ownBlock)) (by (with_reducible repeat (first | apply Kd.R_alloc | apply Kd.R_drewN | apply Kd.R_drew)); exact Kd.R_mono HO211.out (fun _ hk => ⟨hk.2, hk.1.2⟩)) hg hat); have n2_ := A_ (Kd.R_after (ok := (fun k_ => some k_ ≠ (.slice Ao31 t209.length co31 : Value).ownBlock)) (by (with_reducible repeat (first | apply Kd.R_alloc | apply Kd.R_drewN | apply Kd.R_drew)); exact Kd.R_mono HO217.out (fun _ hk => ⟨hk.1.2, hk.2⟩)) hg hat); have n3_ := A_ (hb); have n4_ := A_ (ho); clear BK206; clear HO211; clear HO217; clear HB; clear HO214; have BK206 := n0_; have HO211 := n1_; have HO217 := n2_; have HB := n3_; have HO220 := n4_; clear n0_ n1_ n2_ n3_ n4_; clear ho hb hg hat) | (go_at_call 18; (with_reducible refine (impl_Number.calls kj15 x7_15 t221 _ A25.out).mono ?_); rintro e w36 ⟨v222, rfl, ho0, hb⟩; have n0_ := A_ (Kd.R_elder' z89b (Kd.R_base ho0) hb); have n1_ := A_ (Kd.R_elder' z89d (Kd.R_base ho0) hb); have n2_ := A_ (Kd.R_elder' z89i (Kd.R_base ho0) hb); have n3_ := A_ (Kd.R_lower (Kd.R_new' (Kd.R_new' (Kd.R_new' ho0 (Kd.R_lt z89b)) (Kd.R_lt z89d)) (Kd.R_lt z89i)) (below_size z89a)); have n4_ := A_ (blk_below (g := gb206) (o := .cells #[.string ((rd_T49 l0 x13_1).f0), .string ((rd_T49 l0 x13_1).f1), .int .i64 ((rd_T49 l0 x13_1).f2), .bool ((rd_T49 l0 x13_1).f3)] 49 (0, 0)) z89c hb); have n5_ := A_ (below_step z89a hb); clear HO211; clear HO217; clear HO220; clear BK206; clear HB; have HO211 := n0_; have HO217 := n1_; have HO220 := n2_; have HO223 := n3_; have BK206 := n4_; have HB := n5_; clear n0_ n1_ n2_ n3_ n4_ n5_; obtain ⟨Ao38, co38, eo38⟩ := Kd.R_slice HO223.out; subst eo38) | ((with_reducible refine gate_builtin (b := .append) (xs := #[.tmp 48, .tmp 50]) rfl ?_); at_builtin; refine Kd.R_append_rows (Kd.int .u8) (w0 := w) w.heap.size rfl (.tmp 48) (.tmp 50) 22 5 (.int .u8 0) 1 rfl Try.underlying22 info5 rfl (by decide) (by omega) v219 y218 t221 _ _ _ (fun k_ => some k_ ≠ (.slice Ao31 t209.length co31 : Value).ownBlock ∧ some k_ ≠ (.slice Ao35 t215.length co35 : Value).ownBlock ∧ some k_ ≠ (.slice Ao38 t221.length co38 : Value).ownBlock) (fun _ => False) rfl rfl ?aO ?aR (fun _ _ h => h) (fun _ h => h.elim) ?aF ?aB ?aS ?aL ?_; (case aR => exact (by repeat (first | exact (Kd.R_reads' HO223.out).2.2 | (with_reducible refine Kd.C_alloc ?_ _) | (with_reducible refine Kd.C_drewN ?_ _) | (with_reducible refine Kd.C_drew ?_)))); (case aB => exact z89a); (case aF => exact (fun k_ hk => ⟨Kd.fresh' (Kd.R_lt z89b) k_ hk, Kd.fresh' (Kd.R_lt z89d) k_ hk, Kd.fresh' (Kd.R_lt z89f) k_ hk⟩)); (case aO => exact (by (with_reducible repeat (first | apply Kd.R_alloc | apply Kd.R_drewN | apply Kd.R_drew)); exact Kd.R_mono HO220.out (fun _ hk => ⟨hk.1.1, ⟨hk.1.2, hk.2⟩⟩))); (case aS => exact (below_size z89a)); (case aL => have := LMc26.out; omega); intro v225 w37 ho hb hg hat; rw [← Ny224.out] at ho; have n0_ := A_ (blk_grown (g := gb206) (o := .cells #[.string ((rd_T49 l0 x13_1).f0), .string ((rd_T49 l0 x13_1).f1), .int .i64 ((rd_T49 l0 x13_1).f2), .bool ((rd_T49 l0 x13_1).f3)] 49 (0, 0)) z89c hg (Kd.R_ne HO220.out BK206.out (by decide))); have n1_ := A_ (Kd.R_after (ok := (fun k_ => some k_ ≠ (.slice Ao35 t215.length co35 : Value).ownBlock ∧ some k_ ≠ (.slice Ao38 t221.length co38 : Value).ownBlock)) (by (with_reducible repeat (first | apply Kd.R_alloc | apply Kd.R_drewN | apply Kd.R_drew)); exact Kd.R_mono HO211.out (fun _ hk => ⟨⟨hk.1.1, hk.2⟩, hk.1.2⟩)) hg hat); have n2_ := A_ (Kd.R_after (ok := (fun k_ => some k_ ≠ (.slice Ao31 t209.length co31 : Value).ownBlock ∧ some k_ ≠ (.slice Ao38 t221.length co38 : Value).ownBlock)) (by (with_reducible repeat (first | apply Kd.R_alloc | apply Kd.R_drewN | apply Kd.R_drew)); exact Kd.R_mono HO217.out (fun _ hk => ⟨⟨hk.1.1, hk.2⟩, hk.1.2⟩)) hg hat); have n3_ := A_ (Kd.R_after (ok := (fun k_ => some k_ ≠ (.slice Ao31 t209.length co31 : Value).ownBlock ∧ some k_ ≠ (.slice Ao35 t215.length co35 : Value).ownBlock)) (by (with_reducible repeat (first | apply Kd.R_alloc | apply Kd.R_drewN | apply Kd.R_drew)); exact Kd.R_mono HO223.out (fun _ hk => ⟨⟨hk.1.1.2, hk.1.2⟩, hk.2⟩)) hg hat); have n4_ := A_ (hb); have n5_ := A_ (ho); clear BK206; clear HO211; clear HO217; clear HO223; clear HB; clear HO220; have BK206 := n0_; have HO211 := n1_; have HO217 := n2_; have HO223 := n3_; have HB := n4_; have HO226 := n5_; clear n0_ n1_ n2_ n3_ n4_ n5_; clear ho hb hg hat; have hcz39_0 : w37.cell? ⟨gb206, 0, none⟩ = some (.string ((rd_T49 l0 x13_1).f0)) := (blk_cell BK206.out 0).trans rfl; have hcz39_1 : w37.cell? ⟨gb206, 1, none⟩ = some (.string ((rd_T49 l0 x13_1).f1)) := (blk_cell BK206.out 1).trans rfl; have hcz39_2 : w37.cell? ⟨gb206, 2, none⟩ = some (.int .i64 ((rd_T49 l0 x13_1).f2)) := (blk_cell BK206.out 2).trans rfl; have hcz39_3 : w37.cell? ⟨gb206, 3, none⟩ = some (.bool ((rd_T49 l0 x13_1).f3)) := (blk_cell BK206.out 3).trans rfl; have hfz39_0 := blk_frozen BK206.out 0; have hfz39_1 := blk_frozen BK206.out 1; have hfz39_2 := blk_frozen BK206.out 2; have hfz39_3 := blk_frozen BK206.out 3) | (go_at_call 23; (with_reducible refine (impl_Text.calls kj15 ((rd_T49 l0 x13_1).f1) t227 _ A27.out).mono ?_); rintro e w40 ⟨v228, rfl, ho0, hb⟩; have n0_ := A_ (Kd.R_elder' z89b (Kd.R_base ho0) hb); have n1_ := A_ (Kd.R_elder' z89d (Kd.R_base ho0) hb); have n2_ := A_ (Kd.R_elder' z89f (Kd.R_base ho0) hb); have n3_ := A_ (Kd.R_elder' z89j (Kd.R_base ho0) hb); have n4_ := A_ (Kd.R_lower (Kd.R_new' (Kd.R_new' (Kd.R_new' (Kd.R_new' ho0 (Kd.R_lt z89b)) (Kd.R_lt z89d)) (Kd.R_lt z89f)) (Kd.R_lt z89j)) (below_size z89a)); have n5_ := A_ (blk_below (g := gb206) (o := .cells #[.string ((rd_T49 l0 x13_1).f0), .string ((rd_T49 l0 x13_1).f1), .int .i64 ((rd_T49 l0 x13_1).f2), .bool ((rd_T49 l0 x13_1).f3)] 49 (0, 0)) z89c hb); have n6_ := A_ (below_step z89a hb); clear HO211; clear HO217; clear HO223; clear HO226; clear BK206; clear HB; have HO211 := n0_; have HO217 := n1_; have HO223 := n2_; have HO226 := n3_; have HO229 := n4_; have BK206 := n5_; have HB := n6_; clear n0_ n1_ n2_ n3_ n4_ n5_ n6_; obtain ⟨Ao42, co42, eo42⟩ := Kd.R_slice HO229.out; subst eo42) | ((with_reducible refine gate_builtin (b := .append) (xs := #[.tmp 52, .tmp 55]) rfl ?_); at_builtin; refine Kd.R_append_rows (Kd.int .u8) (w0 := w) w.heap.size rfl (.tmp 52) (.tmp 55) 22 5 (.int .u8 0) 1 rfl Try.underlying22 info5 rfl (by decide) (by omega) v225 y224 t227 _ _ _ (fun k_ => some k_ ≠ (.slice Ao31 t209.length co31 : Value).ownBlock ∧ some k_ ≠ (.slice Ao35 t215.length co35 : Value).ownBlock ∧ some k_ ≠ (.slice Ao38 t221.length co38 : Value).ownBlock ∧ some k_ ≠ (.slice Ao42 t227.length co42 : Value).ownBlock) (fun _ => False) rfl rfl ?aO ?aR (fun _ _ h => h) (fun _ h => h.elim) ?aF ?aB ?aS ?aL ?_; (case aR => exact (by repeat (first | exact (Kd.R_reads' HO229.out).2.2 | (with_reducible refine Kd.C_alloc ?_ _) | (with_reducible refine Kd.C_drewN ?_ _) | (with_reducible refine Kd.C_drew ?_)))); (case aB => exact z89a); (case aF => exact (fun k_ hk => ⟨Kd.fresh' (Kd.R_lt z89b) k_ hk, Kd.fresh' (Kd.R_lt z89d) k_ hk, Kd.fresh' (Kd.R_lt z89f) k_ hk, Kd.fresh' (Kd.R_lt (by (with_reducible repeat (first | apply Kd.R_alloc | apply Kd.R_drewN | apply Kd.R_drew)); exact HO229.out)) k_ hk⟩)); (case aO => exact (by (with_reducible repeat (first | apply Kd.R_alloc | apply Kd.R_drewN | apply Kd.R_drew)); exact Kd.R_mono HO226.out (fun _ hk => ⟨hk.1.1, ⟨hk.1.2.1, ⟨hk.1.2.2, hk.2⟩⟩⟩))); (case aS => exact (below_size z89a)); (case aL => have := LMc28.out; omega); intro v231 w41 ho hb hg hat; rw [← Ny230.out] at ho; have n0_ := A_ (blk_grown (g := gb206) (o := .cells #[.string ((rd_T49 l0 x13_1).f0), .string ((rd_T49 l0 x13_1).f1), .int .i64 ((rd_T49 l0 x13_1).f2), .bool ((rd_T49 l0 x13_1).f3)] 49 (0, 0)) z89c hg (Kd.R_ne HO226.out BK206.out (by decide))); have n1_ := A_ (Kd.R_after (ok := (fun k_ => some k_ ≠ (.slice Ao35 t215.length co35 : Value).ownBlock ∧ some k_ ≠ (.slice Ao38 t221.length co38 : Value).ownBlock ∧ some k_ ≠ (.slice Ao42 t227.length co42 : Value).ownBlock)) (by (with_reducible repeat (first | apply Kd.R_alloc | apply Kd.R_drewN | apply Kd.R_drew)); exact Kd.R_mono HO211.out (fun _ hk => ⟨⟨hk.1.1.1, ⟨hk.1.1.2, hk.2⟩⟩, hk.1.2⟩)) hg hat); have n2_ := A_ (Kd.R_after (ok := (fun k_ => some k_ ≠ (.slice Ao31 t209.length co31 : Value).ownBlock ∧ some k_ ≠ (.slice Ao38 t221.length co38 : Value).ownBlock ∧ some k_ ≠ (.slice Ao42 t227.length co42 : Value).ownBlock)) (by (with_reducible repeat (first | apply Kd.R_alloc | apply Kd.R_drewN | apply Kd.R_drew)); exact Kd.R_mono HO217.out (fun _ hk => ⟨⟨hk.1.1.1, ⟨hk.1.1.2, hk.2⟩⟩, hk.1.2⟩)) hg hat); have n3_ := A_ (Kd.R_after (ok := (fun k_ => some k_ ≠ (.slice Ao31 t209.length co31 : Value).ownBlock ∧ some k_ ≠ (.slice Ao35 t215.length co35 : Value).ownBlock ∧ some k_ ≠ (.slice Ao42 t227.length co42 : Value).ownBlock)) (by (with_reducible repeat (first | apply Kd.R_alloc | apply Kd.R_drewN | apply Kd.R_drew)); exact Kd.R_mono HO223.out (fun _ hk => ⟨⟨hk.1.1.1, ⟨hk.1.1.2, hk.2⟩⟩, hk.1.2⟩)) hg hat); have n4_ := A_ (Kd.R_after (ok := (fun k_ => some k_ ≠ (.slice Ao31 t209.length co31 : Value).ownBlock ∧ some k_ ≠ (.slice Ao35 t215.length co35 : Value).ownBlock ∧ some k_ ≠ (.slice Ao38 t221.length co38 : Value).ownBlock)) (by (with_reducible repeat (first | apply Kd.R_alloc | apply Kd.R_drewN | apply Kd.R_drew)); exact Kd.R_mono HO229.out (fun _ hk => ⟨⟨hk.1.1.1.2, ⟨hk.1.1.2, hk.1.2⟩⟩, hk.2⟩)) hg hat); have n5_ := A_ (hb); have n6_ := A_ (ho); clear BK206; clear HO211; clear HO217; clear HO223; clear HO229; clear HB; clear HO226; have BK206 := n0_; have HO211 := n1_; have HO217 := n2_; have HO223 := n3_; have HO229 := n4_; have HB := n5_; have HO232 := n6_; clear n0_ n1_ n2_ n3_ n4_ n5_ n6_; clear ho hb hg hat)))
       go_roundg kj15
       case measure => have := HK1.out; have := HJ6.out; have := HJ15.out; omega
       case rel => exact ⟨(y230), (wrap64 (x13_1 + 1)), (by first | rfl | (simp; done) | (simp [*]; done)), H', ⟨by have := HK1.out; have := HJ6.out; have := HJ15.out; omega⟩, ⟨by (with_reducible repeat (first | apply Kd.R_alloc | apply Kd.R_drewN | apply Kd.R_drew)); exact Kd.R_mono HO232.out (fun _ hk => trivial)⟩, ⟨by repeat (first | (with_reducible first | exact HB.out | apply below_alloc | apply pw_below_drewN | apply below_drew1 | refine below_set ?_ GE206.out) | exact HB.out)⟩⟩
       }
       {
       rw [if_neg c28] at H
       exact absurd H (by simp)
       }
       }
       {
       rw [if_neg c26] at H
       exact absurd H (by simp)
       }
       }
       {
       rw [if_neg c24] at H
       exact absurd H (by simp)
       }
       }
       {
       rw [if_neg c22] at H
       exact absurd H (by simp)
       }
       }
       {
       rw [if_neg c21] at H
       exact absurd H (by simp)
       }
       }
       {
       rw [if_neg c20] at H
       exact absurd H (by simp)
       }
   }
   {
   rw [if_neg c6] at H
   exact absurd H (by simp)
   }
   }
   {
   rw [if_neg c5] at H
   exact absurd H (by simp)
   }
   }
   {
   rw [if_neg c4] at H
   have c4b0 : decide (x13_1 < (l0.length : Int)) = false := decide_eq_false c4
   clear c4
   obtain rfl := Option.some.inj H
   go_wp2
   repeat (go_quiet (fail); try go_wp2)
   go_ret
   exact ⟨_, by first | rfl | (simp [errW_none, errW_some] <;> rfl) | (simp [*, errW_none, errW_some] <;> rfl), by (with_reducible repeat (first | apply Kd.R_alloc | apply Kd.R_drewN | apply Kd.R_drew)); exact HO_3.out, by repeat (first | (with_reducible first | exact HB.out | apply below_alloc | apply pw_below_drewN | apply below_drew1) | exact HB.out)⟩
   
   }
theorem z49a {p_ : Prop} (h_ : p_ := by repeat (first | (with_reducible first | exact HB.out | apply below_alloc | apply pw_below_drewN | apply below_drew1) | exact HB.out)) : p_ := h_
def impl_Packed.f (k : Nat) (l0 : List (S49)) : Option (List Int) := (impl_EntriesOk.f k l0).bind fun t233 => (if t233 = true then ((impl_packed.f k l0).bind fun t234 => (some t234)) else (some ([] : List Int)))
set_option maxHeartbeats 8000000 in
set_option maxRecDepth 100000 in
theorem impl_Packed.calls (k : Nat) (A0 : Option Addr) (c0 : Nat) (l0 : List (S49)) (r : List Int) (w : World) (hr0 : Kd.C k49 w A0 l0.length l0) (hc0 : l0.length ≤ c0) (h : impl_Packed.f k l0 = some r) :
  Calls Try.prog 49 #[.slice A0 l0.length c0] w fun e w' => ∃ v0_ : Value, e = .returned (v0_) ∧ Kd.R (Kd.int .u8) 5 w' w.heap.size (fun _ => True) v0_ r ∧ Below w.heap.size w w' := by
 have HR0 := A_ hr0
 have HC0 := A_ hc0
 clear hr0 hc0
 have HB := A_ (Below.refl w.heap.size w)
 have H : ((impl_EntriesOk.f k l0).bind fun t233 => (if t233 = true then ((impl_packed.f k l0).bind fun t234 => (some t234)) else (some ([] : List Int)))) = some r := h
 clear h
 replace H := Option.bind_eq_some_iff.mp H
 obtain ⟨t233, A20, H⟩ := H
 (try dsimp only at H)
 have A2 := A_ A20
 clear A20
 by_cases c3 : t233 = true
 {
 subst c3
 rw [if_pos rfl] at H
 replace H := Option.bind_eq_some_iff.mp H
 obtain ⟨t234, A40, H⟩ := H
 (try dsimp only at H)
 have A4 := A_ A40
 clear A40
 obtain rfl := Option.some.inj H
 go_enter Try.func49, Try.ntmps49
 go_wp2_with (first | ((with_reducible refine gate_callee (f := 39) rfl ?_); refine goesL_ (some 4) rfl rfl Try.func39 (by kernel_rfl) rfl #[.slice A0 l0.length c0] rfl (by (try simp only [List.map_toArray, List.map_cons, List.map_nil]); first | done | rfl | (simp only [List.length_drop, List.length_take]; rfl)) ?_; (with_reducible refine (impl_EntriesOk.calls k _ _ l0 true _ ?side1 ?side2 A2.out).mono ?_); (case side1 => exact (by repeat (first | exact HR0.out | (with_reducible refine Kd.C_alloc ?_ _) | (with_reducible refine Kd.C_drewN ?_ _) | (with_reducible refine Kd.C_drew ?_)))); (case side2 => exact HC0.out); rintro e w5 ⟨rfl, hb⟩; refine ⟨_, rfl, ?_⟩; replace HB := A_ (below_step z49a hb)) | ((with_reducible refine gate_callee (f := 89) rfl ?_); refine goesL_ (some 7) rfl rfl Try.func89 (by kernel_rfl) rfl #[.slice A0 l0.length c0] rfl (by (try simp only [List.map_toArray, List.map_cons, List.map_nil]); first | done | rfl | (simp only [List.length_drop, List.length_take]; rfl)) ?_; (with_reducible refine (impl_packed.calls k _ _ l0 t234 _ ?side1 ?side2 A4.out).mono ?_); (case side1 => exact (by repeat (first | exact (Kd.C_below HR0.out HB.out) | (with_reducible refine Kd.C_alloc ?_ _) | (with_reducible refine Kd.C_drewN ?_ _) | (with_reducible refine Kd.C_drew ?_)))); (case side2 => exact HC0.out); rintro e w6 ⟨v235, rfl, ho0, hb⟩; refine ⟨_, rfl, ?_⟩; have n0_ := A_ (Kd.R_lower ho0 (below_size z49a)); have n1_ := A_ (below_step z49a hb); clear HB; have HO236 := n0_; have HB := n1_; clear n0_ n1_))
 go_ret
 exact ⟨_, by first | rfl | (simp [errW_none, errW_some] <;> rfl) | (simp [*, errW_none, errW_some] <;> rfl), by (with_reducible repeat (first | apply Kd.R_alloc | apply Kd.R_drewN | apply Kd.R_drew)); exact HO236.out, by repeat (first | (with_reducible first | exact HB.out | apply below_alloc | apply pw_below_drewN | apply below_drew1) | exact HB.out)⟩
 }
 {
 replace c3 := Bool.eq_false_iff.mpr c3
 subst c3
 rw [if_neg Bool.false_ne_true] at H
 obtain rfl := Option.some.inj H
 go_enter Try.func49, Try.ntmps49
 go_wp2_with (first | ((with_reducible refine gate_callee (f := 39) rfl ?_); refine goesL_ (some 4) rfl rfl Try.func39 (by kernel_rfl) rfl #[.slice A0 l0.length c0] rfl (by (try simp only [List.map_toArray, List.map_cons, List.map_nil]); first | done | rfl | (simp only [List.length_drop, List.length_take]; rfl)) ?_; (with_reducible refine (impl_EntriesOk.calls k _ _ l0 false _ ?side1 ?side2 A2.out).mono ?_); (case side1 => exact (by repeat (first | exact HR0.out | (with_reducible refine Kd.C_alloc ?_ _) | (with_reducible refine Kd.C_drewN ?_ _) | (with_reducible refine Kd.C_drew ?_)))); (case side2 => exact HC0.out); rintro e w7 ⟨rfl, hb⟩; refine ⟨_, rfl, ?_⟩; replace HB := A_ (below_step z49a hb)))
 go_ret
 exact ⟨_, by first | rfl | (simp [errW_none, errW_some] <;> rfl) | (simp [*, errW_none, errW_some] <;> rfl), by first | exact Kd.R_nil _ _ _ _ _ | exact Kd.N_nil _ _ _ _ _ | exact Kd.V_nil _ _ _ _ _ | exact Kd.Q_nil _ _ _ _ _ | exact Kd.S_nil _ _ _ _ _, by repeat (first | (with_reducible first | exact HB.out | apply below_alloc | apply pw_below_drewN | apply below_drew1) | exact HB.out)⟩
 
 }
end Go.Proofs.Ythkhfmomibfkjaa.PFnPacked

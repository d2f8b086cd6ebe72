-- by a program of this session (wip/print/run.py) for this claim
import Derived.Test.YtaiggfjkikfcbaaLibPu
import Derived.Test.YtaiggfjkikfcbaaPFnExactBuiltx0
import Derived.Test.YtaiggfjkikfcbaaPFnExactBuiltx10
namespace Go.Proofs.Ytaiggfjkikfcbaa.PFnExactBuilt
open Go.Proofs.Ytaiggfjkikfcbaa.Lib Go.RowKit Go.Proofs.YtaiggfjkikfcbaaW.PrintWords Go.Proofs.YtaiggfjkikfcbaaW.PrintLast Go.Proofs.YtaiggfjkikfcbaaW.PrintMore
attribute [local go_sem] max2_int min2_int max_two min_two max_three min_three max_four min_four   -- for this text's walks alone
set_option linter.unusedVariables false
set_option linter.unusedSimpArgs false

theorem z115a {p_ : Prop} (h_ : p_ := by repeat (first | (with_reducible first | exact HB.out | apply below_alloc | apply pw_below_drewN | apply below_drew1 | refine below_set ?_ GE324.out) | exact HB.out)) : p_ := h_
theorem z115b {p_ : Prop} (h_ : p_ := by (with_reducible repeat (first | apply Kd.R_alloc | apply Kd.R_drewN | apply Kd.R_drew)); exact HO329.out) : p_ := h_
theorem z115c {p_ : Prop} (h_ : p_ := by (with_reducible repeat (first | refine blk_drewN ?_ _ | refine blk_drew ?_ | refine blk_alloc ?_ _)); exact BK324.out) : p_ := h_
theorem z115d {p_ : Prop} (h_ : p_ := by (with_reducible repeat (first | apply Kd.R_alloc | apply Kd.R_drewN | apply Kd.R_drew)); exact HO335.out) : p_ := h_
theorem z115e {p_ : Prop} (h_ : p_ := by repeat (first | (with_reducible first | exact HB.out | apply below_alloc | apply pw_below_drewN | apply below_drew1) | exact HB.out)) : p_ := h_
theorem z115f {p_ : Prop} (h_ : p_ := by (with_reducible repeat (first | apply Kd.R_alloc | apply Kd.R_drewN | apply Kd.R_drew)); exact HO341.out) : p_ := h_
theorem z115g {p_ : Prop} (h_ : p_ := by (with_reducible repeat (first | apply Kd.R_alloc | apply Kd.R_drewN | apply Kd.R_drew)); exact HO332.out) : p_ := h_
theorem z115h {p_ : Prop} (h_ : p_ := by (with_reducible repeat (first | apply Kd.R_alloc | apply Kd.R_drewN | apply Kd.R_drew)); exact HO_3.out) : p_ := h_
theorem z115i {p_ : Prop} (h_ : p_ := by (with_reducible repeat (first | apply Kd.R_alloc | apply Kd.R_drewN | apply Kd.R_drew)); exact HO338.out) : p_ := h_
theorem z115j {p_ : Prop} (h_ : p_ := by (with_reducible repeat (first | apply Kd.R_alloc | apply Kd.R_drewN | apply Kd.R_drew)); exact HO344.out) : p_ := h_
theorem z115k {p_ : Prop} (h_ : p_ := by first | (rw [add_block]; exact hn325_0) | (show (Addr.add _ _).block ≠ _; rw [add_block]; exact hn325_0) | exact hn325_0) : p_ := h_
theorem z115l {p_ : Prop} (h_ : p_ := by first | (rw [add_block]; exact hn325_1) | (show (Addr.add _ _).block ≠ _; rw [add_block]; exact hn325_1) | exact hn325_1) : p_ := h_
theorem z115m {p_ : Prop} (h_ : p_ := by first | (rw [add_block]; exact hn325_2) | (show (Addr.add _ _).block ≠ _; rw [add_block]; exact hn325_2) | exact hn325_2) : p_ := h_
theorem z115n {p_ : Prop} (h_ : p_ := by first | (rw [add_block]; exact hn325_3) | (show (Addr.add _ _).block ≠ _; rw [add_block]; exact hn325_3) | exact hn325_3) : p_ := h_
mutual
def impl_packed.l0 : Nat → List (S31) → List Int → List (S31) → Int → Int → Option (List Int)
 | 0, _, _, _, _, _ => none
 | k + 1, x0, x3, x11, x12, x13 => if x13 < x12 then (if 0 ≤ x13 then (if x13 < (x11.length : Int) then (if (Int.tmod x13 8) > 0 then (if 0 ≤ (wrap64 (x13 - 1)) then (if (wrap64 (x13 - 1)) < (x0.length : Int) then ((impl_Common.f k ((rd_T31 x0 (wrap64 (x13 - 1))).f0) ((rd_T31 x11 x13).f0)).bind fun t326 => (impl_packed.j1 k x0 x3 t326 x11 x12 x13 ((rd_T31 x11 x13).f0) ((rd_T31 x11 x13).f1) ((rd_T31 x11 x13).f2) ((rd_T31 x11 x13).f3))) else (none)) else (none)) else (impl_packed.j1 k x0 x3 0 x11 x12 x13 ((rd_T31 x11 x13).f0) ((rd_T31 x11 x13).f1) ((rd_T31 x11 x13).f2) ((rd_T31 x11 x13).f3))) else (none)) else (none)) else (some x3)
def impl_packed.j1 : Nat → List (S31) → List Int → Int → List (S31) → Int → Int → ByteArray → ByteArray → Int → Bool → Option (List Int)
 | 0, _, _, _, _, _, _, _, _, _, _ => none
 | k + 1, x0, x3, x6, x11, x12, x13, x325000, x325001, x325002, x325003 => if x325003 = true then (impl_packed.j2 k x0 x3 x6 (wrap64 ((wrap64 (2 * x325002)) + 1)) x11 x12 x13 x325000 x325001 x325002 x325003) else (impl_packed.j2 k x0 x3 x6 (wrap64 (2 * x325002)) x11 x12 x13 x325000 x325001 x325002 x325003)
def impl_packed.j2 : Nat → List (S31) → List Int → Int → Int → List (S31) → Int → Int → ByteArray → ByteArray → Int → Bool → Option (List Int)
 | 0, _, _, _, _, _, _, _, _, _, _, _ => none
 | k + 1, x0, x3, x6, x7, x11, x12, x13, x325000, x325001, x325002, x325003 => (impl_Number.f k x6).bind fun t327 => (if x3.length + t327.length < 140737488355328 then ((some (x3 ++ t327 : List Int)).bind fun y330 => (if 0 ≤ x6 then (if x6 ≤ (x325000.size : Int) then ((impl_Text.f k (x325000.extract (x6 : Int).toNat x325000.size)).bind fun t333 => (if y330.length + t333.length < 140737488355328 then ((some (y330 ++ t333 : List Int)).bind fun y336 => ((impl_Number.f k x7).bind fun t339 => (if y336.length + t339.length < 140737488355328 then ((some (y336 ++ t339 : List Int)).bind fun y342 => ((impl_Text.f k x325001).bind fun t345 => (if y342.length + t345.length < 140737488355328 then (impl_packed.l0 k x0 (y342 ++ t345) x11 x12 (wrap64 (x13 + 1))) else (none)))) else (none)))) else (none))) else (none)) else (none))) else (none))
end
def impl_packed.f (k : Nat) (l0 : List (S31)) : Option (List Int) := (impl_Number.f k (l0.length : Int)).bind fun t320 => (impl_packed.l0 k l0 t320 l0 (l0.length : Int) 0)
set_option maxHeartbeats 8000000 in
set_option maxRecDepth 100000 in
theorem impl_packed.calls (k : Nat) (A0 : Option Addr) (c0 : Nat) (l0 : List (S31)) (r : List Int) (w : World) (hr0 : Kd.C k31 w A0 l0.length l0) (hc0 : l0.length ≤ c0) (h : impl_packed.f k l0 = some r) :
  Calls Try.prog 115 #[.slice A0 l0.length c0] w fun e w' => ∃ v0_ : Value, e = .returned (v0_) ∧ Kd.R (Kd.int .u8) 5 w' w.heap.size (fun _ => True) v0_ r ∧ Below w.heap.size w w' := by
 have hu31 := Try.underlying31
 have HR0 := A_ hr0
 have HC0 := A_ hc0
 clear hr0 hc0
 have HB := A_ (Below.refl w.heap.size w)
 have H : ((impl_Number.f k (l0.length : Int)).bind fun t320 => (impl_packed.l0 k l0 t320 l0 (l0.length : Int) 0)) = some r := h
 clear h
 replace H := Option.bind_eq_some_iff.mp H
 obtain ⟨t320, A20, H⟩ := H
 replace H : (impl_packed.l0 k l0 t320 l0 (l0.length : Int) 0) = some r := H
 have A2 := A_ A20
 clear A20
 have H' := A_ H
 clear H
 go_enter Try.func115, Try.ntmps115
 go_wp2_with (first | (go_at_call 137; (with_reducible refine (impl_Number.calls k (l0.length : Int) t320 _ A2.out).mono ?_); rintro e w3 ⟨v321, rfl, ho0, hb⟩; have n0_ := A_ (Kd.R_lower ho0 (below_size z115e)); have n1_ := A_ (below_step z115e hb); clear HB; have HO322 := n0_; have HB := n1_; clear n0_ n1_))
 repeat (go_quiet (first | (go_at_call 137; (with_reducible refine (impl_Number.calls k (l0.length : Int) t320 _ A2.out).mono ?_); rintro e w3 ⟨v321, rfl, ho0, hb⟩; have n0_ := A_ (Kd.R_lower ho0 (below_size z115e)); have n1_ := A_ (below_step z115e hb); clear HB; have HO322 := n0_; have HB := n1_; clear n0_ n1_)); try go_wp2_with (first | (go_at_call 137; (with_reducible refine (impl_Number.calls k (l0.length : Int) t320 _ A2.out).mono ?_); rintro e w3 ⟨v321, rfl, ho0, hb⟩; have n0_ := A_ (Kd.R_lower ho0 (below_size z115e)); have n1_ := A_ (below_step z115e hb); clear HB; have HO322 := n0_; have HB := n1_; clear n0_ n1_)))
 go_loopg [3, 13] k (fun kq v3 v13 w' => ∃ (x3_1 : List Int) (x13_1 : Int), v13 = .int .i64 x13_1 ∧ Aside0 (impl_packed.l0 kq l0 x3_1 l0 (l0.length : Int) x13_1 = some r) ∧ Aside0 (kq ≤ k) ∧ Aside0 (Kd.R (Kd.int .u8) 5 w' w.heap.size (fun _ => True) v3 x3_1) ∧ Aside0 (Below w.heap.size w w'))
 case atStart => exact ⟨(t320), (0), (by first | rfl | (simp; done) | (simp [*]; done)), H', ⟨Nat.le_refl _⟩, ⟨by (with_reducible repeat (first | apply Kd.R_alloc | apply Kd.R_drewN | apply Kd.R_drew)); exact HO322.out⟩, ⟨by repeat (first | (with_reducible first | exact HB.out | apply below_alloc | apply pw_below_drewN | apply below_drew1) | exact HB.out)⟩⟩
 case round =>
  clear H'
  try clear c1
  try clear p2
  obtain ⟨x3_1, x13_1, rfl, HA, HK1, HO_3, HB⟩ := hrel
  cases gk with
  | zero => exact absurd HA.out (by simp [impl_packed.l0])
  | succ k1 =>
   have H := HA.out
   clear HA
   simp only [impl_packed.l0] at H
   by_cases c4 : x13_1 < (l0.length : Int)
   {
   rw [if_pos c4] at H
   have c4b0 : decide (x13_1 < (l0.length : Int)) = true := decide_eq_true c4
   clear c4
   by_cases c5 : 0 ≤ x13_1
   {
   rw [if_pos c5] at H
   have c5b0 : decide (0 ≤ x13_1) = true := decide_eq_true c5
   clear c5
   by_cases c6 : x13_1 < (l0.length : Int)
   {
   rw [if_pos c6] at H
   have c6b0 : decide (x13_1 < (l0.length : Int)) = true := decide_eq_true c6
   clear c6
   have HC7 := A_ H
   clear H
   have p323 : 0 ≤ (x13_1 : Int) := of_decide_eq_true (by first | (with_reducible assumption) | assumption)
   have q323 : x13_1 < (l0.length : Int) := of_decide_eq_true (by first | (with_reducible assumption) | assumption)
   obtain ⟨ad323, e323, hx323_0, hx323_1, hx323_2, hx323_3⟩ := at_T31 HR0.out x13_1 p323 q323
   cases e323
   replace hx323_0 := (HB.out.cell (World.block_lt_of_cell? w _ hx323_0)).trans hx323_0
   replace hx323_1 := (HB.out.cell (World.block_lt_of_cell? w _ hx323_1)).trans hx323_1
   replace hx323_2 := (HB.out.cell (World.block_lt_of_cell? w _ hx323_2)).trans hx323_2
   replace hx323_3 := (HB.out.cell (World.block_lt_of_cell? w _ hx323_3)).trans hx323_3
   replace p323 := eq_true p323
   replace q323 := eq_true q323
   go_upto_if 20 with (first | ((with_reducible refine gate_dst (N := 5) rfl ?_); refine box_event ?hg (N := 5) ?hd (cs := #[.string (⟨#[]⟩ : ByteArray), .string (⟨#[]⟩ : ByteArray), .int .i64 0, .bool false]) (t := 31) ?hr ?_; (case hd => rfl); (case hg => rfl); (case hr => first | (go_simp; done) | (go_simp; rfl)); intro gb324 hg w8 hbox hb; have n0_ := A_ (Kd.R_below z115h hb); have n1_ := A_ (below_step z115e hb); have n2_ := A_ (hbox); have n3_ := A_ ((by rw [hg]; exact (below_size z115e) : w.heap.size ≤ gb324)); have n4_ := A_ ((by rw [hg]; exact (below_size z115e) : w.heap.size ≤ gb324)); clear HO_3; clear HB; have HO_3 := n0_; have HB := n1_; have BK324 := n2_; have GW324 := n3_; have GE324 := n4_; clear n0_ n1_ n2_ n3_ n4_; clear hb hbox hg; have hcz9_0 : w8.cell? ⟨gb324, 0, none⟩ = some (.string (⟨#[]⟩ : ByteArray)) := (blk_cell BK324.out 0).trans rfl; have hcz9_1 : w8.cell? ⟨gb324, 1, none⟩ = some (.string (⟨#[]⟩ : ByteArray)) := (blk_cell BK324.out 1).trans rfl; have hcz9_2 : w8.cell? ⟨gb324, 2, none⟩ = some (.int .i64 0) := (blk_cell BK324.out 2).trans rfl; have hcz9_3 : w8.cell? ⟨gb324, 3, none⟩ = some (.bool false) := (blk_cell BK324.out 3).trans rfl; have hfz9_0 := blk_frozen BK324.out 0; have hfz9_1 := blk_frozen BK324.out 1; have hfz9_2 := blk_frozen BK324.out 2; have hfz9_3 := blk_frozen BK324.out 3))
   repeat (go_quiet (first | ((with_reducible refine gate_dst (N := 5) rfl ?_); refine box_event ?hg (N := 5) ?hd (cs := #[.string (⟨#[]⟩ : ByteArray), .string (⟨#[]⟩ : ByteArray), .int .i64 0, .bool false]) (t := 31) ?hr ?_; (case hd => rfl); (case hg => rfl); (case hr => first | (go_simp; done) | (go_simp; rfl)); intro gb324 hg w8 hbox hb; have n0_ := A_ (Kd.R_below z115h hb); have n1_ := A_ (below_step z115e hb); have n2_ := A_ (hbox); have n3_ := A_ ((by rw [hg]; exact (below_size z115e) : w.heap.size ≤ gb324)); have n4_ := A_ ((by rw [hg]; exact (below_size z115e) : w.heap.size ≤ gb324)); clear HO_3; clear HB; have HO_3 := n0_; have HB := n1_; have BK324 := n2_; have GW324 := n3_; have GE324 := n4_; clear n0_ n1_ n2_ n3_ n4_; clear hb hbox hg; have hcz9_0 : w8.cell? ⟨gb324, 0, none⟩ = some (.string (⟨#[]⟩ : ByteArray)) := (blk_cell BK324.out 0).trans rfl; have hcz9_1 : w8.cell? ⟨gb324, 1, none⟩ = some (.string (⟨#[]⟩ : ByteArray)) := (blk_cell BK324.out 1).trans rfl; have hcz9_2 : w8.cell? ⟨gb324, 2, none⟩ = some (.int .i64 0) := (blk_cell BK324.out 2).trans rfl; have hcz9_3 : w8.cell? ⟨gb324, 3, none⟩ = some (.bool false) := (blk_cell BK324.out 3).trans rfl; have hfz9_0 := blk_frozen BK324.out 0; have hfz9_1 := blk_frozen BK324.out 1; have hfz9_2 := blk_frozen BK324.out 2; have hfz9_3 := blk_frozen BK324.out 3)); go_upto_if 20 with (first | ((with_reducible refine gate_dst (N := 5) rfl ?_); refine box_event ?hg (N := 5) ?hd (cs := #[.string (⟨#[]⟩ : ByteArray), .string (⟨#[]⟩ : ByteArray), .int .i64 0, .bool false]) (t := 31) ?hr ?_; (case hd => rfl); (case hg => rfl); (case hr => first | (go_simp; done) | (go_simp; rfl)); intro gb324 hg w8 hbox hb; have n0_ := A_ (Kd.R_below z115h hb); have n1_ := A_ (below_step z115e hb); have n2_ := A_ (hbox); have n3_ := A_ ((by rw [hg]; exact (below_size z115e) : w.heap.size ≤ gb324)); have n4_ := A_ ((by rw [hg]; exact (below_size z115e) : w.heap.size ≤ gb324)); clear HO_3; clear HB; have HO_3 := n0_; have HB := n1_; have BK324 := n2_; have GW324 := n3_; have GE324 := n4_; clear n0_ n1_ n2_ n3_ n4_; clear hb hbox hg; have hcz9_0 : w8.cell? ⟨gb324, 0, none⟩ = some (.string (⟨#[]⟩ : ByteArray)) := (blk_cell BK324.out 0).trans rfl; have hcz9_1 : w8.cell? ⟨gb324, 1, none⟩ = some (.string (⟨#[]⟩ : ByteArray)) := (blk_cell BK324.out 1).trans rfl; have hcz9_2 : w8.cell? ⟨gb324, 2, none⟩ = some (.int .i64 0) := (blk_cell BK324.out 2).trans rfl; have hcz9_3 : w8.cell? ⟨gb324, 3, none⟩ = some (.bool false) := (blk_cell BK324.out 3).trans rfl; have hfz9_0 := blk_frozen BK324.out 0; have hfz9_1 := blk_frozen BK324.out 1; have hfz9_2 := blk_frozen BK324.out 2; have hfz9_3 := blk_frozen BK324.out 3)))
   (try simp only [Act.put, List.setIfInBounds_toArray, List.set_cons_zero, List.set_cons_succ])
   go_cut [6] (fun v6 wc => ∃ (kq : Nat) (x6_6 : Int), v6 = .int .i64 x6_6 ∧ Aside0 (impl_packed.j1 kq l0 x3_1 x6_6 l0 (l0.length : Int) x13_1 ((rd_T31 l0 x13_1).f0) ((rd_T31 l0 x13_1).f1) ((rd_T31 l0 x13_1).f2) ((rd_T31 l0 x13_1).f3) = some r) ∧ Aside0 (kq ≤ k1) ∧ Aside0 (Kd.R (Kd.int .u8) 5 wc w.heap.size (fun _ => True) u3 x3_1) ∧ Aside0 (wc.heap[gb324]? = some (.cells #[.string ((rd_T31 l0 x13_1).f0), .string ((rd_T31 l0 x13_1).f1), .int .i64 ((rd_T31 l0 x13_1).f2), .bool ((rd_T31 l0 x13_1).f3)] 31 (0, 0))) ∧ Aside0 (Below w.heap.size w wc))
   case first =>
    have H := HC7.out
    clear HC7
    by_cases c10 : (Int.tmod x13_1 8) > 0
    {
    rw [if_pos c10] at H
    have c10b0 : decide (0 < (Int.tmod x13_1 8)) = true := decide_eq_true c10
    clear c10
    (first | rw [c10b0] | (simp only [i64_w, i32_w]; rw [c10b0]) | skip)
    obtain ⟨ji11, hji11⟩ : ∃ j_ : Int, (wrap64 (x13_1 - 1)) = j_ := ⟨_, rfl⟩
    replace H : (if 0 ≤ (ji11) then (if (ji11) < (l0.length : Int) then ((impl_Common.f k1 ((rd_T31 l0 (ji11)).f0) ((rd_T31 l0 x13_1).f0)).bind fun t326 => (impl_packed.j1 k1 l0 x3_1 t326 l0 (l0.length : Int) x13_1 ((rd_T31 l0 x13_1).f0) ((rd_T31 l0 x13_1).f1) ((rd_T31 l0 x13_1).f2) ((rd_T31 l0 x13_1).f3))) else (none)) else (none)) = some r := by first | (rw [hji11] at H; exact H) | (simp only [hji11] at H ⊢; exact H)
    (try rw [hji11])
    have hji11w : (IntKind.i64.wrap (x13_1 - 1)) = ji11 := (i64_w _).trans hji11
    by_cases c12 : 0 ≤ (ji11)
    {
    rw [if_pos c12] at H
    have c12b0 : decide (0 ≤ (ji11)) = true := decide_eq_true c12
    clear c12
    by_cases c13 : (ji11) < (l0.length : Int)
    {
    rw [if_pos c13] at H
    have c13b0 : decide ((ji11) < (l0.length : Int)) = true := decide_eq_true c13
    clear c13
    replace H := Option.bind_eq_some_iff.mp H
    obtain ⟨t326, A140, H⟩ := H
    replace H : (impl_packed.j1 k1 l0 x3_1 t326 l0 (l0.length : Int) x13_1 ((rd_T31 l0 x13_1).f0) ((rd_T31 l0 x13_1).f1) ((rd_T31 l0 x13_1).f2) ((rd_T31 l0 x13_1).f3)) = some r := H
    have A14 := A_ A140
    clear A140
    have H' := A_ H
    clear H
    have p325 : 0 ≤ ((ji11) : Int) := of_decide_eq_true (by first | (with_reducible assumption) | assumption)
    have q325 : (ji11) < (l0.length : Int) := of_decide_eq_true (by first | (with_reducible assumption) | assumption)
    obtain ⟨ad325, e325, hx325_0, hx325_1, hx325_2, hx325_3⟩ := at_T31 HR0.out (ji11) p325 q325
    obtain rfl : ad323 = ad325 := (by injection e325)
    have hn325_0 : ad323.block ≠ gb324 := Nat.ne_of_lt (Nat.lt_of_lt_of_le (by have := World.block_lt_of_cell? _ _ hx325_0; first | rwa [add_block] at this | exact this) GW324.out)
    have hn325_1 : ad323.block ≠ gb324 := Nat.ne_of_lt (Nat.lt_of_lt_of_le (by have := World.block_lt_of_cell? _ _ hx325_0; first | rwa [add_block] at this | exact this) GW324.out)
    have hn325_2 : ad323.block ≠ gb324 := Nat.ne_of_lt (Nat.lt_of_lt_of_le (by have := World.block_lt_of_cell? _ _ hx325_0; first | rwa [add_block] at this | exact this) GW324.out)
    have hn325_3 : ad323.block ≠ gb324 := Nat.ne_of_lt (Nat.lt_of_lt_of_le (by have := World.block_lt_of_cell? _ _ hx325_0; first | rwa [add_block] at this | exact this) GW324.out)
    replace hx325_0 := (HB.out.cell (World.block_lt_of_cell? w _ hx325_0)).trans hx325_0
    replace hx325_1 := (HB.out.cell (World.block_lt_of_cell? w _ hx325_1)).trans hx325_1
    replace hx325_2 := (HB.out.cell (World.block_lt_of_cell? w _ hx325_2)).trans hx325_2
    replace hx325_3 := (HB.out.cell (World.block_lt_of_cell? w _ hx325_3)).trans hx325_3
    replace hx325_0 := (cell_far (p := ⟨gb324, 0, none⟩) z115k (.string ((rd_T31 l0 x13_1).f0))).trans hx325_0
    replace hx325_1 := (cell_far (p := ⟨gb324, 0, none⟩) z115k (.string ((rd_T31 l0 x13_1).f0))).trans hx325_1
    replace hx325_2 := (cell_far (p := ⟨gb324, 0, none⟩) z115k (.string ((rd_T31 l0 x13_1).f0))).trans hx325_2
    replace hx325_3 := (cell_far (p := ⟨gb324, 0, none⟩) z115k (.string ((rd_T31 l0 x13_1).f0))).trans hx325_3
    replace hx325_0 := (cell_far (p := ⟨gb324, 1, none⟩) z115l (.string ((rd_T31 l0 x13_1).f1))).trans hx325_0
    replace hx325_1 := (cell_far (p := ⟨gb324, 1, none⟩) z115l (.string ((rd_T31 l0 x13_1).f1))).trans hx325_1
    replace hx325_2 := (cell_far (p := ⟨gb324, 1, none⟩) z115l (.string ((rd_T31 l0 x13_1).f1))).trans hx325_2
    replace hx325_3 := (cell_far (p := ⟨gb324, 1, none⟩) z115l (.string ((rd_T31 l0 x13_1).f1))).trans hx325_3
    replace hx325_0 := (cell_far (p := ⟨gb324, 2, none⟩) z115m (.int .i64 ((rd_T31 l0 x13_1).f2))).trans hx325_0
    replace hx325_1 := (cell_far (p := ⟨gb324, 2, none⟩) z115m (.int .i64 ((rd_T31 l0 x13_1).f2))).trans hx325_1
    replace hx325_2 := (cell_far (p := ⟨gb324, 2, none⟩) z115m (.int .i64 ((rd_T31 l0 x13_1).f2))).trans hx325_2
    replace hx325_3 := (cell_far (p := ⟨gb324, 2, none⟩) z115m (.int .i64 ((rd_T31 l0 x13_1).f2))).trans hx325_3
    replace hx325_0 := (cell_far (p := ⟨gb324, 3, none⟩) z115n (.bool ((rd_T31 l0 x13_1).f3))).trans hx325_0
    replace hx325_1 := (cell_far (p := ⟨gb324, 3, none⟩) z115n (.bool ((rd_T31 l0 x13_1).f3))).trans hx325_1
    replace hx325_2 := (cell_far (p := ⟨gb324, 3, none⟩) z115n (.bool ((rd_T31 l0 x13_1).f3))).trans hx325_2
    replace hx325_3 := (cell_far (p := ⟨gb324, 3, none⟩) z115n (.bool ((rd_T31 l0 x13_1).f3))).trans hx325_3
    (try have hy325_0 := fun (n_ : Nat) => (show ((((((w8.drewN n_).setCell ⟨gb324, 0, none⟩ (.string ((rd_T31 l0 x13_1).f0))).setCell ⟨gb324, 1, none⟩ (.string ((rd_T31 l0 x13_1).f1))).setCell ⟨gb324, 2, none⟩ (.int .i64 ((rd_T31 l0 x13_1).f2))).setCell ⟨gb324, 3, none⟩ (.bool ((rd_T31 l0 x13_1).f3)))).cell? _ = some _ from hx325_0))
    (try have hy325_1 := fun (n_ : Nat) => (show ((((((w8.drewN n_).setCell ⟨gb324, 0, none⟩ (.string ((rd_T31 l0 x13_1).f0))).setCell ⟨gb324, 1, none⟩ (.string ((rd_T31 l0 x13_1).f1))).setCell ⟨gb324, 2, none⟩ (.int .i64 ((rd_T31 l0 x13_1).f2))).setCell ⟨gb324, 3, none⟩ (.bool ((rd_T31 l0 x13_1).f3)))).cell? _ = some _ from hx325_1))
    (try have hy325_2 := fun (n_ : Nat) => (show ((((((w8.drewN n_).setCell ⟨gb324, 0, none⟩ (.string ((rd_T31 l0 x13_1).f0))).setCell ⟨gb324, 1, none⟩ (.string ((rd_T31 l0 x13_1).f1))).setCell ⟨gb324, 2, none⟩ (.int .i64 ((rd_T31 l0 x13_1).f2))).setCell ⟨gb324, 3, none⟩ (.bool ((rd_T31 l0 x13_1).f3)))).cell? _ = some _ from hx325_2))
    (try have hy325_3 := fun (n_ : Nat) => (show ((((((w8.drewN n_).setCell ⟨gb324, 0, none⟩ (.string ((rd_T31 l0 x13_1).f0))).setCell ⟨gb324, 1, none⟩ (.string ((rd_T31 l0 x13_1).f1))).setCell ⟨gb324, 2, none⟩ (.int .i64 ((rd_T31 l0 x13_1).f2))).setCell ⟨gb324, 3, none⟩ (.bool ((rd_T31 l0 x13_1).f3)))).cell? _ = some _ from hx325_3))
    clear hn325_0
    clear hn325_1
    clear hn325_2
    clear hn325_3
    replace p325 := eq_true p325
    replace q325 := eq_true q325
    have hcz15_0 : w8.cell? ⟨gb324, 0, none⟩ = some (.string (⟨#[]⟩ : ByteArray)) := (blk_cell BK324.out 0).trans rfl
    have hcz15_1 : w8.cell? ⟨gb324, 1, none⟩ = some (.string (⟨#[]⟩ : ByteArray)) := (blk_cell BK324.out 1).trans rfl
    have hcz15_2 : w8.cell? ⟨gb324, 2, none⟩ = some (.int .i64 0) := (blk_cell BK324.out 2).trans rfl
    have hcz15_3 : w8.cell? ⟨gb324, 3, none⟩ = some (.bool false) := (blk_cell BK324.out 3).trans rfl
    have hfz15_0 := blk_frozen BK324.out 0
    have hfz15_1 := blk_frozen BK324.out 1
    have hfz15_2 := blk_frozen BK324.out 2
    have hfz15_3 := blk_frozen BK324.out 3
    go_wp2_with (first | (go_at_call 138; (with_reducible refine (impl_Common.calls k1 ((rd_T31 l0 (ji11)).f0) ((rd_T31 l0 x13_1).f0) t326 _ A14.out).mono ?_); rintro e w' ⟨rfl, ⟨nd, rfl⟩⟩; (try first | exact ⟨rfl, _, World.drewN_drewN _ _ _⟩ | exact ⟨rfl, _, Eq.trans (World.drewN_drewN _ _ _) (congrArg (World.drewN _) (Nat.add_assoc _ _ _))⟩)))
    repeat (go_quiet (first | (go_at_call 138; (with_reducible refine (impl_Common.calls k1 ((rd_T31 l0 (ji11)).f0) ((rd_T31 l0 x13_1).f0) t326 _ A14.out).mono ?_); rintro e w' ⟨rfl, ⟨nd, rfl⟩⟩; (try first | exact ⟨rfl, _, World.drewN_drewN _ _ _⟩ | exact ⟨rfl, _, Eq.trans (World.drewN_drewN _ _ _) (congrArg (World.drewN _) (Nat.add_assoc _ _ _))⟩))); try go_wp2_with (first | (go_at_call 138; (with_reducible refine (impl_Common.calls k1 ((rd_T31 l0 (ji11)).f0) ((rd_T31 l0 x13_1).f0) t326 _ A14.out).mono ?_); rintro e w' ⟨rfl, ⟨nd, rfl⟩⟩; (try first | exact ⟨rfl, _, World.drewN_drewN _ _ _⟩ | exact ⟨rfl, _, Eq.trans (World.drewN_drewN _ _ _) (congrArg (World.drewN _) (Nat.add_assoc _ _ _))⟩))))
    go_meet
    case rel => exact ⟨_, (t326), (by first | rfl | (simp; done) | (simp [*]; done)), H', ⟨by have := HK1.out; first | omega | exact Nat.le_refl _⟩, ⟨by (with_reducible repeat (first | apply Kd.R_alloc | apply Kd.R_drewN | apply Kd.R_drew)); exact Kd.R_mono (Kd.R_far (p := ⟨gb324, 3, none⟩) (Kd.R_far (p := ⟨gb324, 2, none⟩) (Kd.R_far (p := ⟨gb324, 1, none⟩) (Kd.R_far (p := ⟨gb324, 0, none⟩) (Kd.R_types HO_3.out BK324.out (by decide)) (fun _ hk => hk.2) (.string ((rd_T31 l0 x13_1).f0))) (fun _ hk => hk.2) (.string ((rd_T31 l0 x13_1).f1))) (fun _ hk => hk.2) (.int .i64 ((rd_T31 l0 x13_1).f2))) (fun _ hk => hk.2) (.bool ((rd_T31 l0 x13_1).f3))) (fun _ hk => trivial)⟩, ⟨by (with_reducible repeat (first | refine blk_drewN ?_ _ | refine blk_drew ?_ | refine blk_alloc ?_ _)); refine blk_put (cs := #[.string ((rd_T31 l0 x13_1).f0), .string ((rd_T31 l0 x13_1).f1), .int .i64 ((rd_T31 l0 x13_1).f2), .bool false]) ?_ 3 _ rfl; (with_reducible repeat (first | refine blk_drewN ?_ _ | refine blk_drew ?_ | refine blk_alloc ?_ _)); refine blk_put (cs := #[.string ((rd_T31 l0 x13_1).f0), .string ((rd_T31 l0 x13_1).f1), .int .i64 0, .bool false]) ?_ 2 _ rfl; (with_reducible repeat (first | refine blk_drewN ?_ _ | refine blk_drew ?_ | refine blk_alloc ?_ _)); refine blk_put (cs := #[.string ((rd_T31 l0 x13_1).f0), .string (⟨#[]⟩ : ByteArray), .int .i64 0, .bool false]) ?_ 1 _ rfl; (with_reducible repeat (first | refine blk_drewN ?_ _ | refine blk_drew ?_ | refine blk_alloc ?_ _)); refine blk_put (cs := #[.string (⟨#[]⟩ : ByteArray), .string (⟨#[]⟩ : ByteArray), .int .i64 0, .bool false]) ?_ 0 _ rfl; (with_reducible repeat (first | refine blk_drewN ?_ _ | refine blk_drew ?_ | refine blk_alloc ?_ _)); exact BK324.out⟩, ⟨by repeat (first | (with_reducible first | exact HB.out | apply below_alloc | apply pw_below_drewN | apply below_drew1 | refine below_set ?_ GE324.out) | exact HB.out)⟩⟩
    }
    {
    rw [if_neg c13] at H
    exact absurd H (by simp)
    }
    }
    {
    rw [if_neg c12] at H
    exact absurd H (by simp)
    }
    }
    {
    rw [if_neg c10] at H
    have c10b0 : decide (0 < (Int.tmod x13_1 8)) = false := decide_eq_false c10
    clear c10
    (first | rw [c10b0] | (simp only [i64_w, i32_w]; rw [c10b0]) | skip)
    have H' := A_ H
    clear H
    go_wp2
    repeat (go_quiet (fail); try go_wp2)
    go_meet
    case rel => exact ⟨_, (0), (by first | rfl | (simp; done) | (simp [*]; done)), H', ⟨by have := HK1.out; first | omega | exact Nat.le_refl _⟩, ⟨by (with_reducible repeat (first | apply Kd.R_alloc | apply Kd.R_drewN | apply Kd.R_drew)); exact Kd.R_mono (Kd.R_far (p := ⟨gb324, 3, none⟩) (Kd.R_far (p := ⟨gb324, 2, none⟩) (Kd.R_far (p := ⟨gb324, 1, none⟩) (Kd.R_far (p := ⟨gb324, 0, none⟩) (Kd.R_types HO_3.out BK324.out (by decide)) (fun _ hk => hk.2) (.string ((rd_T31 l0 x13_1).f0))) (fun _ hk => hk.2) (.string ((rd_T31 l0 x13_1).f1))) (fun _ hk => hk.2) (.int .i64 ((rd_T31 l0 x13_1).f2))) (fun _ hk => hk.2) (.bool ((rd_T31 l0 x13_1).f3))) (fun _ hk => trivial)⟩, ⟨by (with_reducible repeat (first | refine blk_drewN ?_ _ | refine blk_drew ?_ | refine blk_alloc ?_ _)); refine blk_put (cs := #[.string ((rd_T31 l0 x13_1).f0), .string ((rd_T31 l0 x13_1).f1), .int .i64 ((rd_T31 l0 x13_1).f2), .bool false]) ?_ 3 _ rfl; (with_reducible repeat (first | refine blk_drewN ?_ _ | refine blk_drew ?_ | refine blk_alloc ?_ _)); refine blk_put (cs := #[.string ((rd_T31 l0 x13_1).f0), .string ((rd_T31 l0 x13_1).f1), .int .i64 0, .bool false]) ?_ 2 _ rfl; (with_reducible repeat (first | refine blk_drewN ?_ _ | refine blk_drew ?_ | refine blk_alloc ?_ _)); refine blk_put (cs := #[.string ((rd_T31 l0 x13_1).f0), .string (⟨#[]⟩ : ByteArray), .int .i64 0, .bool false]) ?_ 1 _ rfl; (with_reducible repeat (first | refine blk_drewN ?_ _ | refine blk_drew ?_ | refine blk_alloc ?_ _)); refine blk_put (cs := #[.string (⟨#[]⟩ : ByteArray), .string (⟨#[]⟩ : ByteArray), .int .i64 0, .bool false]) ?_ 0 _ rfl; (with_reducible repeat (first | refine blk_drewN ?_ _ | refine blk_drew ?_ | refine blk_alloc ?_ _)); exact BK324.out⟩, ⟨by repeat (first | (with_reducible first | exact HB.out | apply below_alloc | apply pw_below_drewN | apply below_drew1 | refine below_set ?_ GE324.out) | exact HB.out)⟩⟩
    }
   case rest =>
    clear HC7
    try clear c1
    try clear p2
    try clear p3
    try clear q3
    try clear hx3
    try clear c4
    try clear c4b0
    try clear c5
    try clear c5b0
    try clear c6
    try clear c6b0
    try clear p6
    try clear c10
    try clear c10b0
    try clear c11
    try clear c12
    try clear c12b0
    try clear c13
    try clear c13b0
    try clear hcz15_0
    try clear hcz15_1
    try clear hcz15_2
    try clear hcz15_3
    try clear hcz9_0
    try clear hcz9_1
    try clear hcz9_2
    try clear hcz9_3
    try clear hfz15_0
    try clear hfz15_1
    try clear hfz15_2
    try clear hfz15_3
    try clear hfz9_0
    try clear hfz9_1
    try clear hfz9_2
    try clear hfz9_3
    try clear hx323_0
    try clear hx323_1
    try clear hx323_2
    try clear hx323_3
    try clear hx325_0
    try clear hx325_1
    try clear hx325_2
    try clear hx325_3
    try clear p2
    try clear p323
    try clear p325
    try clear q323
    try clear q325
    obtain ⟨kq, x6_6, rfl, HA, HJ6, HO_3, BK324, HB⟩ := hcut
    cases kq with
    | zero => exact absurd HA.out (by simp [impl_packed.j1])
    | succ kj6 =>
     have H := HA.out
     clear HA
     simp only [impl_packed.j1] at H
     have HC16 := A_ H
     clear H
     have hcz17_0 : wc.cell? ⟨gb324, 0, none⟩ = some (.string ((rd_T31 l0 x13_1).f0)) := (blk_cell BK324.out 0).trans rfl
     have hcz17_1 : wc.cell? ⟨gb324, 1, none⟩ = some (.string ((rd_T31 l0 x13_1).f1)) := (blk_cell BK324.out 1).trans rfl
     have hcz17_2 : wc.cell? ⟨gb324, 2, none⟩ = some (.int .i64 ((rd_T31 l0 x13_1).f2)) := (blk_cell BK324.out 2).trans rfl
     have hcz17_3 : wc.cell? ⟨gb324, 3, none⟩ = some (.bool ((rd_T31 l0 x13_1).f3)) := (blk_cell BK324.out 3).trans rfl
     have hfz17_0 := blk_frozen BK324.out 0
     have hfz17_1 := blk_frozen BK324.out 1
     have hfz17_2 := blk_frozen BK324.out 2
     have hfz17_3 := blk_frozen BK324.out 3
     go_upto_if 34 with (fail)
     repeat (go_quiet (fail); go_upto_if 34 with (fail))
     go_cut [7] (fun v7 wc => ∃ (kq : Nat) (x7_15 : Int), v7 = .int .i64 x7_15 ∧ Aside0 (impl_packed.j2 kq l0 x3_1 x6_6 x7_15 l0 (l0.length : Int) x13_1 ((rd_T31 l0 x13_1).f0) ((rd_T31 l0 x13_1).f1) ((rd_T31 l0 x13_1).f2) ((rd_T31 l0 x13_1).f3) = some r) ∧ Aside0 (kq ≤ kj6) ∧ Aside0 (Kd.R (Kd.int .u8) 5 wc w.heap.size (fun _ => True) u3 x3_1) ∧ Aside0 (wc.heap[gb324]? = some (.cells #[.string ((rd_T31 l0 x13_1).f0), .string ((rd_T31 l0 x13_1).f1), .int .i64 ((rd_T31 l0 x13_1).f2), .bool ((rd_T31 l0 x13_1).f3)] 31 (0, 0))) ∧ Aside0 (Below w.heap.size w wc))
     case first =>
      have H := HC16.out
      clear HC16
      by_cases c18 : ((rd_T31 l0 x13_1).f3) = true
      {
      rw [if_pos c18] at H
      have c18b0 : ((rd_T31 l0 x13_1).f3) = true := c18
      clear c18
      (first | rw [c18b0] | (simp only [i64_w, i32_w]; rw [c18b0]) | skip)
      have H' := A_ H
      clear H
      go_wp2
      repeat (go_quiet (fail); try go_wp2)
      go_meet
      case rel => exact ⟨_, (wrap64 ((wrap64 (2 * ((rd_T31 l0 x13_1).f2))) + 1)), (by first | rfl | (simp; done) | (simp [*]; done)), H', ⟨by have := HK1.out; have := HJ6.out; first | omega | exact Nat.le_refl _⟩, ⟨by (with_reducible repeat (first | apply Kd.R_alloc | apply Kd.R_drewN | apply Kd.R_drew)); exact HO_3.out⟩, ⟨by (with_reducible repeat (first | refine blk_drewN ?_ _ | refine blk_drew ?_ | refine blk_alloc ?_ _)); exact BK324.out⟩, ⟨by repeat (first | (with_reducible first | exact HB.out | apply below_alloc | apply pw_below_drewN | apply below_drew1 | refine below_set ?_ GE324.out) | exact HB.out)⟩⟩
      }
      {
      rw [if_neg c18] at H
      have c18b0 : ((rd_T31 l0 x13_1).f3) = false := by simpa using c18
      clear c18
      (first | rw [c18b0] | (simp only [i64_w, i32_w]; rw [c18b0]) | skip)
      have H' := A_ H
      clear H
      go_wp2
      repeat (go_quiet (fail); try go_wp2)
      go_meet
      case rel => exact ⟨_, (wrap64 (2 * ((rd_T31 l0 x13_1).f2))), (by first | rfl | (simp; done) | (simp [*]; done)), H', ⟨by have := HK1.out; have := HJ6.out; first | omega | exact Nat.le_refl _⟩, ⟨by (with_reducible repeat (first | apply Kd.R_alloc | apply Kd.R_drewN | apply Kd.R_drew)); exact HO_3.out⟩, ⟨by (with_reducible repeat (first | refine blk_drewN ?_ _ | refine blk_drew ?_ | refine blk_alloc ?_ _)); exact BK324.out⟩, ⟨by repeat (first | (with_reducible first | exact HB.out | apply below_alloc | apply pw_below_drewN | apply below_drew1 | refine below_set ?_ GE324.out) | exact HB.out)⟩⟩
      }
     case rest =>
      clear HC16
      try clear c1
      try clear p2
      try clear p3
      try clear q3
      try clear hx3
      try clear c4
      try clear c4b0
      try clear c5
      try clear c5b0
      try clear c6
      try clear c6b0
      try clear p6
      try clear c10
      try clear c10b0
      try clear c11
      try clear c12
      try clear c12b0
      try clear c13
      try clear c13b0
      try clear c18
      try clear c18b0
      try clear hcz15_0
      try clear hcz15_1
      try clear hcz15_2
      try clear hcz15_3
      try clear hcz17_0
      try clear hcz17_1
      try clear hcz17_2
      try clear hcz17_3
      try clear hcz9_0
      try clear hcz9_1
      try clear hcz9_2
      try clear hcz9_3
      try clear hfz15_0
      try clear hfz15_1
      try clear hfz15_2
      try clear hfz15_3
      try clear hfz17_0
      try clear hfz17_1
      try clear hfz17_2
      try clear hfz17_3
      try clear hfz9_0
      try clear hfz9_1
      try clear hfz9_2
      try clear hfz9_3
      try clear hx323_0
      try clear hx323_1
      try clear hx323_2
      try clear hx323_3
      try clear hx325_0
      try clear hx325_1
      try clear hx325_2
      try clear hx325_3
      try clear p2
      try clear p3
      try clear p323
      try clear p325
      try clear p6
      try clear q3
      try clear q323
      try clear q325
      obtain ⟨kq, x7_15, rfl, HA, HJ15, HO_3, BK324, HB⟩ := hcut
      cases kq with
      | zero => exact absurd HA.out (by simp [impl_packed.j2])
      | succ kj15 =>
       have H := HA.out
       clear HA
       simp only [impl_packed.j2] at H
       replace H := Option.bind_eq_some_iff.mp H
       obtain ⟨t327, A190, H⟩ := H
       replace H : (if x3_1.length + t327.length < 140737488355328 then ((some (x3_1 ++ t327 : List Int)).bind fun y330 => (if 0 ≤ x6_6 then (if x6_6 ≤ (((rd_T31 l0 x13_1).f0).size : Int) then ((impl_Text.f kj15 (((rd_T31 l0 x13_1).f0).extract (x6_6 : Int).toNat ((rd_T31 l0 x13_1).f0).size)).bind fun t333 => (if y330.length + t333.length < 140737488355328 then ((some (y330 ++ t333 : List Int)).bind fun y336 => ((impl_Number.f kj15 x7_15).bind fun t339 => (if y336.length + t339.length < 140737488355328 then ((some (y336 ++ t339 : List Int)).bind fun y342 => ((impl_Text.f kj15 ((rd_T31 l0 x13_1).f1)).bind fun t345 => (if y342.length + t345.length < 140737488355328 then (impl_packed.l0 kj15 l0 (y342 ++ t345) l0 (l0.length : Int) (wrap64 (x13_1 + 1))) else (none)))) else (none)))) else (none))) else (none)) else (none))) else (none)) = some r := H
       have A19 := A_ A190
       clear A190
       by_cases c20 : x3_1.length + t327.length < 140737488355328
       {
       rw [if_pos c20] at H
       have LMc20 := A_ c20
       clear c20
       obtain ⟨y330, hy330⟩ : ∃ y_ : List Int, y_ = (x3_1 ++ t327) := ⟨_, rfl⟩
       replace H : (if 0 ≤ x6_6 then (if x6_6 ≤ (((rd_T31 l0 x13_1).f0).size : Int) then ((impl_Text.f kj15 (((rd_T31 l0 x13_1).f0).extract (x6_6 : Int).toNat ((rd_T31 l0 x13_1).f0).size)).bind fun t333 => (if y330.length + t333.length < 140737488355328 then ((some (y330 ++ t333 : List Int)).bind fun y336 => ((impl_Number.f kj15 x7_15).bind fun t339 => (if y336.length + t339.length < 140737488355328 then ((some (y336 ++ t339 : List Int)).bind fun y342 => ((impl_Text.f kj15 ((rd_T31 l0 x13_1).f1)).bind fun t345 => (if y342.length + t345.length < 140737488355328 then (impl_packed.l0 kj15 l0 (y342 ++ t345) l0 (l0.length : Int) (wrap64 (x13_1 + 1))) else (none)))) else (none)))) else (none))) else (none)) else (none)) = some r := by first | (rw [hy330]; with_reducible exact H) | (have H2_ := (Option.bind_some _ _).symm.trans H; rw [hy330]; with_reducible exact H2_) | (have H2_ := (Option.bind_some _ _).symm.trans H; with_reducible exact H2_) | with_reducible exact H | (rw [hy330]; exact H) | exact H
       have Ny330 := A_ hy330
       clear hy330
       by_cases c21 : 0 ≤ x6_6
       {
       rw [if_pos c21] at H
       have c21b0 := eq_true c21
       have c21b1 : decide (0 ≤ x6_6) = true := decide_eq_true c21
       clear c21
       by_cases c22 : x6_6 ≤ (((rd_T31 l0 x13_1).f0).size : Int)
       {
       rw [if_pos c22] at H
       have c22b0 := eq_true c22
       have c22b1 : decide (x6_6 ≤ (((rd_T31 l0 x13_1).f0).size : Int)) = true := decide_eq_true c22
       clear c22
       replace H := Option.bind_eq_some_iff.mp H
       obtain ⟨t333, A230, H⟩ := H
       replace H : (if y330.length + t333.length < 140737488355328 then ((some (y330 ++ t333 : List Int)).bind fun y336 => ((impl_Number.f kj15 x7_15).bind fun t339 => (if y336.length + t339.length < 140737488355328 then ((some (y336 ++ t339 : List Int)).bind fun y342 => ((impl_Text.f kj15 ((rd_T31 l0 x13_1).f1)).bind fun t345 => (if y342.length + t345.length < 140737488355328 then (impl_packed.l0 kj15 l0 (y342 ++ t345) l0 (l0.length : Int) (wrap64 (x13_1 + 1))) else (none)))) else (none)))) else (none)) = some r := H
       have A23 := A_ A230
       clear A230
       by_cases c24 : y330.length + t333.length < 140737488355328
       {
       rw [if_pos c24] at H
       have LMc24 := A_ c24
       clear c24
       obtain ⟨y336, hy336⟩ : ∃ y_ : List Int, y_ = (y330 ++ t333) := ⟨_, rfl⟩
       replace H : ((impl_Number.f kj15 x7_15).bind fun t339 => (if y336.length + t339.length < 140737488355328 then ((some (y336 ++ t339 : List Int)).bind fun y342 => ((impl_Text.f kj15 ((rd_T31 l0 x13_1).f1)).bind fun t345 => (if y342.length + t345.length < 140737488355328 then (impl_packed.l0 kj15 l0 (y342 ++ t345) l0 (l0.length : Int) (wrap64 (x13_1 + 1))) else (none)))) else (none))) = some r := by first | (rw [hy336]; with_reducible exact H) | (have H2_ := (Option.bind_some _ _).symm.trans H; rw [hy336]; with_reducible exact H2_) | (have H2_ := (Option.bind_some _ _).symm.trans H; with_reducible exact H2_) | with_reducible exact H | (rw [hy336]; exact H) | exact H
       have Ny336 := A_ hy336
       clear hy336
       replace H := Option.bind_eq_some_iff.mp H
       obtain ⟨t339, A250, H⟩ := H
       replace H : (if y336.length + t339.length < 140737488355328 then ((some (y336 ++ t339 : List Int)).bind fun y342 => ((impl_Text.f kj15 ((rd_T31 l0 x13_1).f1)).bind fun t345 => (if y342.length + t345.length < 140737488355328 then (impl_packed.l0 kj15 l0 (y342 ++ t345) l0 (l0.length : Int) (wrap64 (x13_1 + 1))) else (none)))) else (none)) = some r := H
       have A25 := A_ A250
       clear A250
       by_cases c26 : y336.length + t339.length < 140737488355328
       {
       rw [if_pos c26] at H
       have LMc26 := A_ c26
       clear c26
       obtain ⟨y342, hy342⟩ : ∃ y_ : List Int, y_ = (y336 ++ t339) := ⟨_, rfl⟩
       replace H : ((impl_Text.f kj15 ((rd_T31 l0 x13_1).f1)).bind fun t345 => (if y342.length + t345.length < 140737488355328 then (impl_packed.l0 kj15 l0 (y342 ++ t345) l0 (l0.length : Int) (wrap64 (x13_1 + 1))) else (none))) = some r := by first | (rw [hy342]; with_reducible exact H) | (have H2_ := (Option.bind_some _ _).symm.trans H; rw [hy342]; with_reducible exact H2_) | (have H2_ := (Option.bind_some _ _).symm.trans H; with_reducible exact H2_) | with_reducible exact H | (rw [hy342]; exact H) | exact H
       have Ny342 := A_ hy342
       clear hy342
       replace H := Option.bind_eq_some_iff.mp H
       obtain ⟨t345, A270, H⟩ := H
       replace H : (if y342.length + t345.length < 140737488355328 then (impl_packed.l0 kj15 l0 (y342 ++ t345) l0 (l0.length : Int) (wrap64 (x13_1 + 1))) else (none)) = some r := H
       have A27 := A_ A270
       clear A270
       by_cases c28 : y342.length + t345.length < 140737488355328
       {
       rw [if_pos c28] at H
       have LMc28 := A_ c28
       clear c28
       obtain ⟨y348, hy348⟩ : ∃ y_ : List Int, y_ = (y342 ++ t345) := ⟨_, rfl⟩
       replace H : (impl_packed.l0 kj15 l0 y348 l0 (l0.length : Int) (wrap64 (x13_1 + 1))) = some r := by first | (rw [hy348]; with_reducible exact H) | (have H2_ := (Option.bind_some _ _).symm.trans H; rw [hy348]; with_reducible exact H2_) | (have H2_ := (Option.bind_some _ _).symm.trans H; with_reducible exact H2_) | with_reducible exact H | (rw [hy348]; exact H) | exact H
       have Ny348 := A_ hy348
       clear hy348
       have H' := A_ H
       clear H
       go_wp2_with (first | (go_at_call 137; (with_reducible refine (impl_Number.calls kj15 x6_6 t327 _ A19.out).mono ?_); rintro e w29 ⟨v328, rfl, ho0, hb⟩; have n0_ := A_ (Kd.R_elder' z115h (Kd.R_base ho0) hb); have n1_ := A_ (Kd.R_lower (Kd.R_new' ho0 (Kd.R_lt z115h)) (below_size z115a)); have n2_ := A_ (blk_below (g := gb324) (o := .cells #[.string ((rd_T31 l0 x13_1).f0), .string ((rd_T31 l0 x13_1).f1), .int .i64 ((rd_T31 l0 x13_1).f2), .bool ((rd_T31 l0 x13_1).f3)] 31 (0, 0)) z115c hb); have n3_ := A_ (below_step z115a hb); clear HO_3; clear BK324; clear HB; have HO_3 := n0_; have HO329 := n1_; have BK324 := n2_; have HB := n3_; clear n0_ n1_ n2_ n3_; obtain ⟨Ao31, co31, eo31⟩ := Kd.R_slice HO329.out; subst eo31) | ((with_reducible refine gate_builtin (b := .append) (xs := #[.tmp 37, .tmp 39]) rfl ?_); at_builtin; refine Kd.R_append_rows (Kd.int .u8) (w0 := w) w.heap.size rfl (.tmp 37) (.tmp 39) 36 5 (.int .u8 0) 1 rfl Try.underlying36 info5 rfl (by decide) (by omega) u3 x3_1 t327 _ _ _ (fun k_ => some k_ ≠ (.slice Ao31 t327.length co31 : Value).ownBlock) (fun _ => False) rfl rfl ?aO ?aR (fun _ _ h => h) (fun _ h => h.elim) ?aF ?aB ?aS ?aL ?_; (case aR => exact (by repeat (first | exact (Kd.R_reads' HO329.out).2.2 | (with_reducible refine Kd.C_alloc ?_ _) | (with_reducible refine Kd.C_drewN ?_ _) | (with_reducible refine Kd.C_drew ?_)))); (case aB => exact z115a); (case aF => exact (fun k_ hk => Kd.fresh' (Kd.R_lt z115b) k_ hk)); (case aO => exact (by (with_reducible repeat (first | apply Kd.R_alloc | apply Kd.R_drewN | apply Kd.R_drew)); exact Kd.R_mono HO_3.out (fun _ hk => hk.2))); (case aS => exact (below_size z115a)); (case aL => have := LMc20.out; omega); intro v331 w30 ho hb hg hat; rw [← Ny330.out] at ho; have n0_ := A_ (blk_grown (g := gb324) (o := .cells #[.string ((rd_T31 l0 x13_1).f0), .string ((rd_T31 l0 x13_1).f1), .int .i64 ((rd_T31 l0 x13_1).f2), .bool ((rd_T31 l0 x13_1).f3)] 31 (0, 0)) z115c hg (Kd.R_ne HO_3.out BK324.out (by decide))); have n1_ := A_ (Kd.R_after (ok := (fun _ => True)) z115b hg hat); have n2_ := A_ (hb); have n3_ := A_ (ho); clear BK324; clear HO329; clear HB; clear HO_3; have BK324 := n0_; have HO329 := n1_; have HB := n2_; have HO332 := n3_; clear n0_ n1_ n2_ n3_; clear ho hb hg hat; have hcz32_0 : w30.cell? ⟨gb324, 0, none⟩ = some (.string ((rd_T31 l0 x13_1).f0)) := (blk_cell BK324.out 0).trans rfl; have hcz32_1 : w30.cell? ⟨gb324, 1, none⟩ = some (.string ((rd_T31 l0 x13_1).f1)) := (blk_cell BK324.out 1).trans rfl; have hcz32_2 : w30.cell? ⟨gb324, 2, none⟩ = some (.int .i64 ((rd_T31 l0 x13_1).f2)) := (blk_cell BK324.out 2).trans rfl; have hcz32_3 : w30.cell? ⟨gb324, 3, none⟩ = some (.bool ((rd_T31 l0 x13_1).f3)) := (blk_cell BK324.out 3).trans rfl; have hfz32_0 := blk_frozen BK324.out 0; have hfz32_1 := blk_frozen BK324.out 1; have hfz32_2 := blk_frozen BK324.out 2; have hfz32_3 := blk_frozen BK324.out 3) | (go_at_call 139; (with_reducible refine (impl_Text.calls kj15 (((rd_T31 l0 x13_1).f0).extract (x6_6 : Int).toNat ((rd_T31 l0 x13_1).f0).size) t333 _ A23.out).mono ?_); rintro e w33 ⟨v334, rfl, ho0, hb⟩; have n0_ := A_ (Kd.R_elder' z115b (Kd.R_base ho0) hb); have n1_ := A_ (Kd.R_elder' z115g (Kd.R_base ho0) hb); have n2_ := A_ (Kd.R_lower (Kd.R_new' (Kd.R_new' ho0 (Kd.R_lt z115b)) (Kd.R_lt z115g)) (below_size z115a)); have n3_ := A_ (blk_below (g := gb324) (o := .cells #[.string ((rd_T31 l0 x13_1).f0), .string ((rd_T31 l0 x13_1).f1), .int .i64 ((rd_T31 l0 x13_1).f2), .bool ((rd_T31 l0 x13_1).f3)] 31 (0, 0)) z115c hb); have n4_ := A_ (below_step z115a hb); clear HO329; clear HO332; clear BK324; clear HB; have HO329 := n0_; have HO332 := n1_; have HO335 := n2_; have BK324 := n3_; have HB := n4_; clear n0_ n1_ n2_ n3_ n4_; obtain ⟨Ao35, co35, eo35⟩ := Kd.R_slice HO335.out; subst eo35) | ((with_reducible refine gate_builtin (b := .append) (xs := #[.tmp 41, .tmp 46]) rfl ?_); at_builtin; refine Kd.R_append_rows (Kd.int .u8) (w0 := w) w.heap.size rfl (.tmp 41) (.tmp 46) 36 5 (.int .u8 0) 1 rfl Try.underlying36 info5 rfl (by decide) (by omega) v331 y330 t333 _ _ _ (fun k_ => some k_ ≠ (.slice Ao31 t327.length co31 : Value).ownBlock ∧ some k_ ≠ (.slice Ao35 t333.length co35 : Value).ownBlock) (fun _ => False) rfl rfl ?aO ?aR (fun _ _ h => h) (fun _ h => h.elim) ?aF ?aB ?aS ?aL ?_; (case aR => exact (by repeat (first | exact (Kd.R_reads' HO335.out).2.2 | (with_reducible refine Kd.C_alloc ?_ _) | (with_reducible refine Kd.C_drewN ?_ _) | (with_reducible refine Kd.C_drew ?_)))); (case aB => exact z115a); (case aF => exact (fun k_ hk => ⟨Kd.fresh' (Kd.R_lt z115b) k_ hk, Kd.fresh' (Kd.R_lt z115d) k_ hk⟩)); (case aO => exact z115g); (case aS => exact (below_size z115a)); (case aL => have := LMc24.out; omega); intro v337 w34 ho hb hg hat; rw [← Ny336.out] at ho; have n0_ := A_ (blk_grown (g := gb324) (o := .cells #[.string ((rd_T31 l0 x13_1).f0), .string ((rd_T31 l0 x13_1).f1), .int .i64 ((rd_T31 l0 x13_1).f2), .bool ((rd_T31 l0 x13_1).f3)] 31 (0, 0)) z115c hg (Kd.R_ne HO332.out BK324.out (by decide))); have n1_ := A_ (Kd.R_after (ok := (fun k_ => some k_ ≠ (.slice Ao35 t333.length co35 : Value).ownBlock)) (by (with_reducible repeat (first | apply Kd.R_alloc | apply Kd.R_drewN | apply Kd.R_drew)); exact Kd.R_mono HO329.out (fun _ hk => ⟨hk.2, hk.1.2⟩)) hg hat); have n2_ := A_ (Kd.R_after (ok := (fun k_ => some k_ ≠ (.slice Ao31 t327.length co31 : Value).ownBlock)) (by (with_reducible repeat (first | apply Kd.R_alloc | apply Kd.R_drewN | apply Kd.R_drew)); exact Kd.R_mono HO335.out (fun _ hk => ⟨hk.1.2, hk.2⟩)) hg hat); have n3_ := A_ (hb); have n4_ := A_ (ho); clear BK324; clear HO329; clear HO335; clear HB; clear HO332; have BK324 := n0_; have HO329 := n1_; have HO335 := n2_; have HB := n3_; have HO338 := n4_; clear n0_ n1_ n2_ n3_ n4_; clear ho hb hg hat) | (go_at_call 137; (with_reducible refine (impl_Number.calls kj15 x7_15 t339 _ A25.out).mono ?_); rintro e w36 ⟨v340, rfl, ho0, hb⟩; have n0_ := A_ (Kd.R_elder' z115b (Kd.R_base ho0) hb); have n1_ := A_ (Kd.R_elder' z115d (Kd.R_base ho0) hb); have n2_ := A_ (Kd.R_elder' z115i (Kd.R_base ho0) hb); have n3_ := A_ (Kd.R_lower (Kd.R_new' (Kd.R_new' (Kd.R_new' ho0 (Kd.R_lt z115b)) (Kd.R_lt z115d)) (Kd.R_lt z115i)) (below_size z115a)); have n4_ := A_ (blk_below (g := gb324) (o := .cells #[.string ((rd_T31 l0 x13_1).f0), .string ((rd_T31 l0 x13_1).f1), .int .i64 ((rd_T31 l0 x13_1).f2), .bool ((rd_T31 l0 x13_1).f3)] 31 (0, 0)) z115c hb); have n5_ := A_ (below_step z115a hb); clear HO329; clear HO335; clear HO338; clear BK324; clear HB; have HO329 := n0_; have HO335 := n1_; have HO338 := n2_; have HO341 := n3_; have BK324 := n4_; have HB := n5_; clear n0_ n1_ n2_ n3_ n4_ n5_; obtain ⟨Ao38, co38, eo38⟩ := Kd.R_slice HO341.out; subst eo38) | ((with_reducible refine gate_builtin (b := .append) (xs := #[.tmp 48, .tmp 50]) rfl ?_); at_builtin; refine Kd.R_append_rows (Kd.int .u8) (w0 := w) w.heap.size rfl (.tmp 48) (.tmp 50) 36 5 (.int .u8 0) 1 rfl Try.underlying36 info5 rfl (by decide) (by omega) v337 y336 t339 _ _ _ (fun k_ => some k_ ≠ (.slice Ao31 t327.length co31 : Value).ownBlock ∧ some k_ ≠ (.slice Ao35 t333.length co35 : Value).ownBlock ∧ some k_ ≠ (.slice Ao38 t339.length co38 : Value).ownBlock) (fun _ => False) rfl rfl ?aO ?aR (fun _ _ h => h) (fun _ h => h.elim) ?aF ?aB ?aS ?aL ?_; (case aR => exact (by repeat (first | exact (Kd.R_reads' HO341.out).2.2 | (with_reducible refine Kd.C_alloc ?_ _) | (with_reducible refine Kd.C_drewN ?_ _) | (with_reducible refine Kd.C_drew ?_)))); (case aB => exact z115a); (case aF => exact (fun k_ hk => ⟨Kd.fresh' (Kd.R_lt z115b) k_ hk, Kd.fresh' (Kd.R_lt z115d) k_ hk, Kd.fresh' (Kd.R_lt z115f) k_ hk⟩)); (case aO => exact (by (with_reducible repeat (first | apply Kd.R_alloc | apply Kd.R_drewN | apply Kd.R_drew)); exact Kd.R_mono HO338.out (fun _ hk => ⟨hk.1.1, ⟨hk.1.2, hk.2⟩⟩))); (case aS => exact (below_size z115a)); (case aL => have := LMc26.out; omega); intro v343 w37 ho hb hg hat; rw [← Ny342.out] at ho; have n0_ := A_ (blk_grown (g := gb324) (o := .cells #[.string ((rd_T31 l0 x13_1).f0), .string ((rd_T31 l0 x13_1).f1), .int .i64 ((rd_T31 l0 x13_1).f2), .bool ((rd_T31 l0 x13_1).f3)] 31 (0, 0)) z115c hg (Kd.R_ne HO338.out BK324.out (by decide))); have n1_ := A_ (Kd.R_after (ok := (fun k_ => some k_ ≠ (.slice Ao35 t333.length co35 : Value).ownBlock ∧ some k_ ≠ (.slice Ao38 t339.length co38 : Value).ownBlock)) (by (with_reducible repeat (first | apply Kd.R_alloc | apply Kd.R_drewN | apply Kd.R_drew)); exact Kd.R_mono HO329.out (fun _ hk => ⟨⟨hk.1.1, hk.2⟩, hk.1.2⟩)) hg hat); have n2_ := A_ (Kd.R_after (ok := (fun k_ => some k_ ≠ (.slice Ao31 t327.length co31 : Value).ownBlock ∧ some k_ ≠ (.slice Ao38 t339.length co38 : Value).ownBlock)) (by (with_reducible repeat (first | apply Kd.R_alloc | apply Kd.R_drewN | apply Kd.R_drew)); exact Kd.R_mono HO335.out (fun _ hk => ⟨⟨hk.1.1, hk.2⟩, hk.1.2⟩)) hg hat); have n3_ := A_ (Kd.R_after (ok := (fun k_ => some k_ ≠ (.slice Ao31 t327.length co31 : Value).ownBlock ∧ some k_ ≠ (.slice Ao35 t333.length co35 : Value).ownBlock)) (by (with_reducible repeat (first | apply Kd.R_alloc | apply Kd.R_drewN | apply Kd.R_drew)); exact Kd.R_mono HO341.out (fun _ hk => ⟨⟨hk.1.1.2, hk.1.2⟩, hk.2⟩)) hg hat); have n4_ := A_ (hb); have n5_ := A_ (ho); clear BK324; clear HO329; clear HO335; clear HO341; clear HB; clear HO338; have BK324 := n0_; have HO329 := n1_; have HO335 := n2_; have HO341 := n3_; have HB := n4_; have HO344 := n5_; clear n0_ n1_ n2_ n3_ n4_ n5_; clear ho hb hg hat; have hcz39_0 : w37.cell? ⟨gb324, 0, none⟩ = some (.string ((rd_T31 l0 x13_1).f0)) := (blk_cell BK324.out 0).trans rfl; have hcz39_1 : w37.cell? ⟨gb324, 1, none⟩ = some (.string ((rd_T31 l0 x13_1).f1)) := (blk_cell BK324.out 1).trans rfl; have hcz39_2 : w37.cell? ⟨gb324, 2, none⟩ = some (.int .i64 ((rd_T31 l0 x13_1).f2)) := (blk_cell BK324.out 2).trans rfl; have hcz39_3 : w37.cell? ⟨gb324, 3, none⟩ = some (.bool ((rd_T31 l0 x13_1).f3)) := (blk_cell BK324.out 3).trans rfl; have hfz39_0 := blk_frozen BK324.out 0; have hfz39_1 := blk_frozen BK324.out 1; have hfz39_2 := blk_frozen BK324.out 2; have hfz39_3 := blk_frozen BK324.out 3) | (go_at_call 139; (with_reducible refine (impl_Text.calls kj15 ((rd_T31 l0 x13_1).f1) t345 _ A27.out).mono ?_); rintro e w40 ⟨v346, rfl, ho0, hb⟩; have n0_ := A_ (Kd.R_elder' z115b (Kd.R_base ho0) hb); have n1_ := A_ (Kd.R_elder' z115d (Kd.R_base ho0) hb); have n2_ := A_ (Kd.R_elder' z115f (Kd.R_base ho0) hb); have n3_ := A_ (Kd.R_elder' z115j (Kd.R_base ho0) hb); have n4_ := A_ (Kd.R_lower (Kd.R_new' (Kd.R_new' (Kd.R_new' (Kd.R_new' ho0 (Kd.R_lt z115b)) (Kd.R_lt z115d)) (Kd.R_lt z115f)) (Kd.R_lt z115j)) (below_size z115a)); have n5_ := A_ (blk_below (g := gb324) (o := .cells #[.string ((rd_T31 l0 x13_1).f0), .string ((rd_T31 l0 x13_1).f1), .int .i64 ((rd_T31 l0 x13_1).f2), .bool ((rd_T31 l0 x13_1).f3)] 31 (0, 0)) z115c hb); have n6_ := A_ (below_step z115a hb); clear HO329; clear HO335; clear HO341; clear HO344; clear BK324; clear HB; have HO329 := n0_; have HO335 := n1_; have HO341 := n2_; have HO344 := n3_; have HO347 := n4_; have BK324 := n5_; have HB := n6_; clear n0_ n1_ n2_ n3_ n4_ n5_ n6_; obtain ⟨Ao42, co42, eo42⟩ := Kd.R_slice HO347.out; subst eo42) | ((with_reducible refine gate_builtin (b := .append) (xs := #[.tmp 52, .tmp 55]) rfl ?_); at_builtin; refine Kd.R_append_rows (Kd.int .u8) (w0 := w) w.heap.size rfl (.tmp 52) (.tmp 55) 36 5 (.int .u8 0) 1 rfl Try.underlying36 info5 rfl (by decide) (by omega) v343 y342 t345 _ _ _ (fun k_ => some k_ ≠ (.slice Ao31 t327.length co31 : Value).ownBlock ∧ some k_ ≠ (.slice Ao35 t333.length co35 : Value).ownBlock ∧ some k_ ≠ (.slice Ao38 t339.length co38 : Value).ownBlock ∧ some k_ ≠ (.slice Ao42 t345.length co42 : Value).ownBlock) (fun _ => False) rfl rfl ?aO ?aR (fun _ _ h => h) (fun _ h => h.elim) ?aF ?aB ?aS ?aL ?_; (case aR => exact (by repeat (first | exact (Kd.R_reads' HO347.out).2.2 | (with_reducible refine Kd.C_alloc ?_ _) | (with_reducible refine Kd.C_drewN ?_ _) | (with_reducible refine Kd.C_drew ?_)))); (case aB => exact z115a); (case aF => exact (fun k_ hk => ⟨Kd.fresh' (Kd.R_lt z115b) k_ hk, Kd.fresh' (Kd.R_lt z115d) k_ hk, Kd.fresh' (Kd.R_lt z115f) k_ hk, Kd.fresh' (Kd.R_lt (by (with_reducible repeat (first | apply Kd.R_alloc | apply Kd.R_drewN | apply Kd.R_drew)); exact HO347.out)) k_ hk⟩)); (case aO => exact (by (with_reducible repeat (first | apply Kd.R_alloc | apply Kd.R_drewN | apply Kd.R_drew)); exact Kd.R_mono HO344.out (fun _ hk => ⟨hk.1.1, ⟨hk.1.2.1, ⟨hk.1.2.2, hk.2⟩⟩⟩))); (case aS => exact (below_size z115a)); (case aL => have := LMc28.out; omega); intro v349 w41 ho hb hg hat; rw [← Ny348.out] at ho; have n0_ := A_ (blk_grown (g := gb324) (o := .cells #[.string ((rd_T31 l0 x13_1).f0), .string ((rd_T31 l0 x13_1).f1), .int .i64 ((rd_T31 l0 x13_1).f2), .bool ((rd_T31 l0 x13_1).f3)] 31 (0, 0)) z115c hg (Kd.R_ne HO344.out BK324.out (by decide))); have n1_ := A_ (Kd.R_after (ok := (fun k_ => some k_ ≠ (.slice Ao35 t333.length co35 : Value).ownBlock ∧ some k_ ≠ (.slice Ao38 t339.length co38 : Value).ownBlock ∧ some k_ ≠ (.slice Ao42 t345.length co42 : Value).ownBlock)) (by (with_reducible repeat (first | apply Kd.R_alloc | apply Kd.R_drewN | apply Kd.R_drew)); exact Kd.R_mono HO329.out (fun _ hk => ⟨⟨hk.1.1.1, ⟨hk.1.1.2, hk.2⟩⟩, hk.1.2⟩)) hg hat); have n2_ := A_ (Kd.R_after (ok := (fun k_ => some k_ ≠ (.slice Ao31 t327.length co31 : Value).ownBlock ∧ some k_ ≠ (.slice Ao38 t339.length co38 : Value).ownBlock ∧ some k_ ≠ (.slice Ao42 t345.length co42 : Value).ownBlock)) (by (with_reducible repeat (first | apply Kd.R_alloc | apply Kd.R_drewN | apply Kd.R_drew)); exact Kd.R_mono HO335.out (fun _ hk => ⟨⟨hk.1.1.1, ⟨hk.1.1.2, hk.2⟩⟩, hk.1.2⟩)) hg hat); have n3_ := A_ (Kd.R_after (ok := (fun k_ => some k_ ≠ (.slice Ao31 t327.length co31 : Value).ownBlock ∧ some k_ ≠ (.slice Ao35 t333.length co35 : Value).ownBlock ∧ some k_ ≠ (.slice Ao42 t345.length co42 : Value).ownBlock)) (by (with_reducible repeat (first | apply Kd.R_alloc | apply Kd.R_drewN | apply Kd.R_drew)); exact Kd.R_mono HO341.out (fun _ hk => ⟨⟨hk.1.1.1, ⟨hk.1.1.2, hk.2⟩⟩, hk.1.2⟩)) hg hat); have n4_ := A_ (Kd.R_after (ok := (fun k_ => some k_ ≠ (.slice Ao31 t327.length co31 : Value).ownBlock ∧ some k_ ≠ (.slice Ao35 t333.length co35 : Value).ownBlock ∧ some k_ ≠ (.slice Ao38 t339.length co38 : Value).ownBlock)) (by (with_reducible repeat (first | apply Kd.R_alloc | apply Kd.R_drewN | apply Kd.R_drew)); exact Kd.R_mono HO347.out (fun _ hk => ⟨⟨hk.1.1.1.2, ⟨hk.1.1.2, hk.1.2⟩⟩, hk.2⟩)) hg hat); have n5_ := A_ (hb); have n6_ := A_ (ho); clear BK324; clear HO329; clear HO335; clear HO341; clear HO347; clear HB; clear HO344; have BK324 := n0_; have HO329 := n1_; have HO335 := n2_; have HO341 := n3_; have HO347 := n4_; have HB := n5_; have HO350 := n6_; clear n0_ n1_ n2_ n3_ n4_ n5_ n6_; clear ho hb hg hat))
       repeat (go_quiet (first | (go_at_call 137; (with_reducible refine (impl_Number.calls kj15 x6_6 t327 _ A19.out).mono ?_); rintro e w29 ⟨v328, rfl, ho0, hb⟩; have n0_ := A_ (Kd.R_elder' z115h (Kd.R_base ho0) hb); have n1_ := A_ (Kd.R_lower (Kd.R_new' ho0 (Kd.R_lt z115h)) (below_size z115a)); have n2_ := A_ (blk_below (g := gb324) (o := .cells #[.string ((rd_T31 l0 x13_1).f0), .string ((rd_T31 l0 x13_1).f1), .int .i64 ((rd_T31 l0 x13_1).f2), .bool ((rd_T31 l0 x13_1).f3)] 31 (0, 0)) z115c hb); have n3_ := A_ (below_step z115a hb); clear HO_3; clear BK324; clear HB; have HO_3 := n0_; have HO329 := n1_; have BK324 := n2_; have HB := n3_; clear n0_ n1_ n2_ n3_; obtain ⟨Ao31, co31, eo31⟩ := Kd.R_slice HO329.out; subst eo31) | ((with_reducible refine gate_builtin (b := .append) (xs := #[.tmp 37, .tmp 39]) rfl ?_); at_builtin; refine Kd.R_append_rows (Kd.int .u8) (w0 := w) w.heap.size rfl (.tmp 37) (.tmp 39) 36 5 (.int .u8 0) 1 rfl Try.underlying36 info5 rfl (by decide) (by omega) u3 x3_1 t327 _ _ _ (fun k_ => some k_ ≠ (.slice Ao31 t327.length co31 : Value).ownBlock) (fun _ => False) rfl rfl ?aO ?aR (fun _ _ h => h) (fun _ h => h.elim) ?aF ?aB ?aS ?aL ?_; (case aR => exact (by repeat (first | exact (Kd.R_reads' HO329.out).2.2 | (with_reducible refine Kd.C_alloc ?_ _) | (with_reducible refine Kd.C_drewN ?_ _) | (with_reducible refine Kd.C_drew ?_)))); (case aB => exact z115a); (case aF => exact (fun k_ hk => Kd.fresh' (Kd.R_lt z115b) k_ hk)); (case aO => exact (by (with_reducible repeat (first | apply Kd.R_alloc | apply Kd.R_drewN | apply Kd.R_drew)); exact Kd.R_mono HO_3.out (fun _ hk => hk.2))); (case aS => exact (below_size z115a)); (case aL => have := LMc20.out; omega); intro v331 w30 ho hb hg hat; rw [← Ny330.out] at ho; have n0_ := A_ (blk_grown (g := gb324) (o := .cells #[.string ((rd_T31 l0 x13_1).f0), .string ((rd_T31 l0 x13_1).f1), .int .i64 ((rd_T31 l0 x13_1).f2), .bool ((rd_T31 l0 x13_1).f3)] 31 (0, 0)) z115c hg (Kd.R_ne HO_3.out BK324.out (by decide))); have n1_ := A_ (Kd.R_after (ok := (fun _ => True)) z115b hg hat); have n2_ := A_ (hb); have n3_ := A_ (ho); clear BK324; clear HO329; clear HB; clear HO_3; have BK324 := n0_; have HO329 := n1_; have HB := n2_; have HO332 := n3_; clear n0_ n1_ n2_ n3_; clear ho hb hg hat; have hcz32_0 : w30.cell? ⟨gb324, 0, none⟩ = some (.string ((rd_T31 l0 x13_1).f0)) := (blk_cell BK324.out 0).trans rfl; have hcz32_1 : w30.cell? ⟨gb324, 1, none⟩ = some (.string ((rd_T31 l0 x13_1).f1)) := (blk_cell BK324.out 1).trans rfl; have hcz32_2 : w30.cell? ⟨gb324, 2, none⟩ = some (.int .i64 ((rd_T31 l0 x13_1).f2)) := (blk_cell BK324.out 2).trans rfl; have hcz32_3 : w30.cell? ⟨gb324, 3, none⟩ = some (.bool ((rd_T31 l0 x13_1).f3)) := (blk_cell BK324.out 3).trans rfl; have hfz32_0 := blk_frozen BK324.out 0; have hfz32_1 := blk_frozen BK324.out 1; have hfz32_2 := blk_frozen BK324.out 2; have hfz32_3 := blk_frozen BK324.out 3) | (go_at_call 139; (with_reducible refine (impl_Text.calls kj15 (((rd_T31 l0 x13_1).f0).extract (x6_6 : Int).toNat ((rd_T31 l0 x13_1).f0).size) t333 _ A23.out).mono ?_); rintro e w33 ⟨v334, rfl, ho0, hb⟩; have n0_ := A_ (Kd.R_elder' z115b (Kd.R_base ho0) hb); have n1_ := A_ (Kd.R_elder' z115g (Kd.R_base ho0) hb); have n2_ := A_ (Kd.R_lower (Kd.R_new' (Kd.R_new' ho0 (Kd.R_lt z115b)) (Kd.R_lt z115g)) (below_size z115a)); have n3_ := A_ (blk_below (g := gb324) (o := .cells #[.string ((rd_T31 l0 x13_1).f0), .string ((rd_T31 l0 x13_1).f1), .int .i64 ((rd_T31 l0 x13_1).f2), .bool ((rd_T31 l0 x13_1).f3)] 31 (0, 0)) z115c hb); have n4_ := A_ (below_step z115a hb); clear HO329; clear HO332; clear BK324; clear HB; have HO329 := n0_; have HO332 := n1_; have HO335 := n2_; have BK324 := n3_; have HB := n4_; clear n0_ n1_ n2_ n3_ n4_; obtain ⟨Ao35, co35, eo35⟩ := Kd.R_slice HO335.out; subst eo35) | ((with_reducible refine gate_builtin (b := .append) (xs := #[.tmp 41, .tmp 46]) rfl ?_); at_builtin; refine Kd.R_append_rows (Kd.int .u8) (w0 := w) w.heap.size rfl (.tmp 41) (.tmp 46) 36 5 (.int .u8 0) 1 rfl Try.underlying36 info5 rfl (by decide) (by omega) v331 y330 t333 _ _ _ (fun k_ => some k_ ≠ (.slice Ao31 t327.length co31 : Value).ownBlock ∧ some k_ ≠ (.slice Ao35 t333.length co35 : Value).ownBlock) (fun _ => False) rfl rfl ?aO ?aR (fun _ _ h => h) (fun _ h => h.elim) ?aF ?aB ?aS ?aL ?_; (case aR => exact (by repeat (first | exact (Kd.R_reads' HO335.out).2.2 | (with_reducible refine Kd.C_alloc ?_ _) | (with_reducible refine Kd.C_drewN ?_ _) | (with_reducible refine Kd.C_drew ?_)))); (case aB => exact z115a); (case aF => exact (fun k_ hk => ⟨Kd.fresh' (Kd.R_lt z115b) k_ hk, Kd.fresh' (Kd.R_lt z115d) k_ hk⟩)); (case aO => exact z115g); (case aS => exact (below_size z115a)); (case aL => have := LMc24.out; omega); intro v337 w34 ho hb hg hat; rw [← Ny336.out] at ho; have n0_ := A_ (blk_grown (g := gb324) (o := .cells #[.string ((rd_T31 l0 x13_1).f0), .string ((rd_T31 l0 x13_1).f1), .int .i64 ((rd_T31 l0 x13_1).f2), .bool ((rd_T31 l0 x13_1).f3)] 31 (0, 0)) z115c hg (Kd.R_ne HO332.out BK324.out (by decide))); have n1_ := A_ (Kd.R_after (ok := (fun k_ => some k_ ≠ (.slice Ao35 t333.length co35 : Value).ownBlock)) (by (with_reducible repeat (first | apply Kd.R_alloc | apply Kd.R_drewN | apply Kd.R_drew)); exact Kd.R_mono HO329.out (fun _ hk => ⟨hk.2, hk.1.2⟩)) hg hat); have n2_ := A_ (Kd.R_after (ok := (fun k_ => some k_ ≠ (.slice Ao31 t327.length co31 : Value).ownBlock)) (by (with_reducible repeat (first | apply Kd.R_alloc | apply Kd.R_drewN | apply Kd.R_drew)); exact Kd.R_mono HO335.out (fun _ hk => ⟨hk.1.2, hk.2⟩)) hg hat); have n3_ := A_ (hb); have n4_ := A_ (ho); clear BK324; clear HO329; clear HO335; clear HB; clear HO332; have BK324 := n0_; have HO329 := n1_; have HO335 := n2_; have HB := n3_; have HO338 := n4_; clear n0_ n1_ n2_ n3_ n4_; clear ho hb hg hat) | (go_at_call 137; (with_reducible refine (impl_Number.calls kj15 x7_15 t339 _ A25.out).mono ?_); rintro e w36 ⟨v340, rfl, ho0, hb⟩; have n0_ := A_ (Kd.R_elder' z115b (Kd.R_base ho0) hb); have n1_ := A_ (Kd.R_elder' z115d (Kd.R_base ho0) hb); have n2_ := A_ (Kd.R_elder' z115i (Kd.R_base ho0) hb); have n3_ := A_ (Kd.R_lower (Kd.R_new' (Kd.R_new' (Kd.R_new' ho0 (Kd.R_lt z115b)) (Kd.R_lt z115d)) (Kd.R_lt z115i)) (below_size z115a)); have n4_ := A_ (blk_below (g := gb324) (o := .cells #[.string ((rd_T31 l0 x13_1).f0), .string ((rd_T31 l0 x13_1).f1), .int .i64 ((rd_T31 l0 x13_1).f2), .bool ((rd_T31 l0 x13_1).f3)] 31 (0, 0)) z115c hb); have n5_ := A_ (below_step z115a hb); clear HO329; clear HO335; clear HO338; clear BK324; clear HB; have HO329 := n0_; have HO335 := n1_; have HO338 := n2_; have HO341 := n3_; have BK324 := n4_; have HB := n5_; clear n0_ n1_ n2_ n3_ n4_ n5_; obtain ⟨Ao38, co38, eo38⟩ := Kd.R_slice HO341.out; subst eo38) | ((with_reducible refine gate_builtin (b := .append) (xs := #[.tmp 48, .tmp 50]) rfl ?_); at_builtin; refine Kd.R_append_rows (Kd.int .u8) (w0 := w) w.heap.size rfl (.tmp 48) (.tmp 50) 36 5 (.int .u8 0) 1 rfl Try.underlying36 info5 rfl (by decide) (by omega) v337 y336 t339 _ _ _ (fun k_ => some k_ ≠ (.slice Ao31 t327.length co31 : Value).ownBlock ∧ some k_ ≠ (.slice Ao35 t333.length co35 : Value).ownBlock ∧ some k_ ≠ (.slice Ao38 t339.length co38 : Value).ownBlock) (fun _ => False) rfl rfl ?aO ?aR (fun _ _ h => h) (fun _ h => h.elim) ?aF ?aB ?aS ?aL ?_; (case aR => exact (by repeat (first | exact (Kd.R_reads' HO341.out).2.2 | (with_reducible refine Kd.C_alloc ?_ _) | (with_reducible refine Kd.C_drewN ?_ _) | (with_reducible refine Kd.C_drew ?_)))); (case aB => exact z115a); (case aF => exact (fun k_ hk => ⟨Kd.fresh' (Kd.R_lt z115b) k_ hk, Kd.fresh' (Kd.R_lt z115d) k_ hk, Kd.fresh' (Kd.R_lt z115f) k_ hk⟩)); (case aO => exact (by (with_reducible repeat (first | apply Kd.R_alloc | apply Kd.R_drewN | apply Kd.R_drew)); exact Kd.R_mono HO338.out (fun _ hk => ⟨hk.1.1, ⟨hk.1.2, hk.2⟩⟩))); (case aS => exact (below_size z115a)); (case aL => have := LMc26.out; omega); intro v343 w37 ho hb hg hat; rw [← Ny342.out] at ho; have n0_ := A_ (blk_grown (g := gb324) (o := .cells #[.string ((rd_T31 l0 x13_1).f0), .string ((rd_T31 l0 x13_1).f1), .int .i64 ((rd_T31 l0 x13_1).f2), .bool ((rd_T31 l0 x13_1).f3)] 31 (0, 0)) z115c hg (Kd.R_ne HO338.out BK324.out (by decide))); have n1_ := A_ (Kd.R_after (ok := (fun k_ => some k_ ≠ (.slice Ao35 t333.length co35 : Value).ownBlock ∧ some k_ ≠ (.slice Ao38 t339.length co38 : Value).ownBlock)) (by (with_reducible repeat (first | apply Kd.R_alloc | apply Kd.R_drewN | apply Kd.R_drew)); exact Kd.R_mono HO329.out (fun _ hk => ⟨⟨hk.1.1, hk.2⟩, hk.1.2⟩)) hg hat); have n2_ := A_ (Kd.R_after (ok := (fun k_ => some k_ ≠ (.slice Ao31 t327.length co31 : Value).ownBlock ∧ some k_ ≠ (.slice Ao38 t339.length co38 : Value).ownBlock)) (by (with_reducible repeat (first | apply Kd.R_alloc | apply Kd.R_drewN | apply Kd.R_drew)); exact Kd.R_mono HO335.out (fun _ hk => ⟨⟨hk.1.1, hk.2⟩, hk.1.2⟩)) hg hat); have n3_ := A_ (Kd.R_after (ok := (fun k_ => some k_ ≠ (.slice Ao31 t327.length co31 : Value).ownBlock ∧ some k_ ≠ (.slice Ao35 t333.length co35 : Value).ownBlock)) (by (with_reducible repeat (first | apply Kd.R_alloc | apply Kd.R_drewN | apply Kd.R_drew)); exact Kd.R_mono HO341.out (fun _ hk => ⟨⟨hk.1.1.2, hk.1.2⟩, hk.2⟩)) hg hat); have n4_ := A_ (hb); have n5_ := A_ (ho); clear BK324; clear HO329; clear HO335; clear HO341; clear HB; clear HO338; have BK324 := n0_; have HO329 := n1_; have HO335 := n2_; have HO341 := n3_; have HB := n4_; have HO344 := n5_; clear n0_ n1_ n2_ n3_ n4_ n5_; clear ho hb hg hat; have hcz39_0 : w37.cell? ⟨gb324, 0, none⟩ = some (.string ((rd_T31 l0 x13_1).f0)) := (blk_cell BK324.out 0).trans rfl; have hcz39_1 : w37.cell? ⟨gb324, 1, none⟩ = some (.string ((rd_T31 l0 x13_1).f1)) := (blk_cell BK324.out 1).trans rfl; have hcz39_2 : w37.cell? ⟨gb324, 2, none⟩ = some (.int .i64 ((rd_T31 l0 x13_1).f2)) := (blk_cell BK324.out 2).trans rfl; have hcz39_3 : w37.cell? ⟨gb324, 3, none⟩ = some (.bool ((rd_T31 l0 x13_1).f3)) := (blk_cell BK324.out 3).trans rfl; have hfz39_0 := blk_frozen BK324.out 0; have hfz39_1 := blk_frozen BK324.out 1; have hfz39_2 := blk_frozen BK324.out 2; have hfz39_3 := blk_frozen BK324.out 3) | (go_at_call 139; (with_reducible refine (impl_Text.calls kj15 ((rd_T31 l0 x13_1).f1) t345 _ A27.out).mono ?_); rintro e w40 ⟨v346, rfl, ho0, hb⟩; have n0_ := A_ (Kd.R_elder' z115b (Kd.R_base ho0) hb); have n1_ := A_ (Kd.R_elder' z115d (Kd.R_base ho0) hb); have n2_ := A_ (Kd.R_elder' z115f (Kd.R_base ho0) hb); have n3_ := A_ (Kd.R_elder' z115j (Kd.R_base ho0) hb); have n4_ := A_ (Kd.R_lower (Kd.R_new' (Kd.R_new' (Kd.R_new' (Kd.R_new' ho0 (Kd.R_lt z115b)) (Kd.R_lt z115d)) (Kd.R_lt z115f)) (Kd.R_lt z115j)) (below_size z115a)); have n5_ := A_ (blk_below (g := gb324) (o := .cells #[.string ((rd_T31 l0 x13_1).f0), .string ((rd_T31 l0 x13_1).f1), .int .i64 ((rd_T31 l0 x13_1).f2), .bool ((rd_T31 l0 x13_1).f3)] 31 (0, 0)) z115c hb); have n6_ := A_ (below_step z115a hb); clear HO329; clear HO335; clear HO341; clear HO344; clear BK324; clear HB; have HO329 := n0_; have HO335 := n1_; have HO341 := n2_; have HO344 := n3_; have HO347 := n4_; have BK324 := n5_; have HB := n6_; clear n0_ n1_ n2_ n3_ n4_ n5_ n6_; obtain ⟨Ao42, co42, eo42⟩ := Kd.R_slice HO347.out; subst eo42) | ((with_reducible refine gate_builtin (b := .append) (xs := #[.tmp 52, .tmp 55]) rfl ?_); at_builtin; refine Kd.R_append_rows (Kd.int .u8) (w0 := w) w.heap.size rfl (.tmp 52) (.tmp 55) 36 5 (.int .u8 0) 1 rfl Try.underlying36 info5 rfl (by decide) (by omega) v343 y342 t345 _ _ _ (fun k_ => some k_ ≠ (.slice Ao31 t327.length co31 : Value).ownBlock ∧ some k_ ≠ (.slice Ao35 t333.length co35 : Value).ownBlock ∧ some k_ ≠ (.slice Ao38 t339.length co38 : Value).ownBlock ∧ some k_ ≠ (.slice Ao42 t345.length co42 : Value).ownBlock) (fun _ => False) rfl rfl ?aO ?aR (fun _ _ h => h) (fun _ h => h.elim) ?aF ?aB ?aS ?aL ?_; (case aR => exact (by repeat (first | exact (Kd.R_reads' HO347.out).2.2 | (with_reducible refine Kd.C_alloc ?_ _) | (with_reducible refine Kd.C_drewN ?_ _) | (with_reducible refine Kd.C_drew ?_)))); (case aB => exact z115a); (case aF => exact (fun k_ hk => ⟨Kd.fresh' (Kd.R_lt z115b) k_ hk, Kd.fresh' (Kd.R_lt z115d) k_ hk, Kd.fresh' (Kd.R_lt z115f) k_ hk, Kd.fresh' (Kd.R_lt (by (with_reducible repeat (first | apply Kd.R_alloc | apply Kd.R_drewN | apply Kd.R_drew)); exact HO347.out)) k_ hk⟩)); (case aO => exact (by (with_reducible repeat (first | apply Kd.R_alloc | apply Kd.R_drewN | apply Kd.R_drew)); exact Kd.R_mono HO344.out (fun _ hk => ⟨hk.1.1, ⟨hk.1.2.1, ⟨hk.1.2.2, hk.2⟩⟩⟩))); (case aS => exact (below_size z115a)); (case aL => have := LMc28.out; omega); intro v349 w41 ho hb hg hat; rw [← Ny348.out] at ho; have n0_ := A_ (blk_grown (g := gb324) (o := .cells #[.string ((rd_T31 l0 x13_1).f0), .string ((rd_T31 l0 x13_1).f1), .int .i64 ((rd_T31 l0 x13_1).f2), .bool ((rd_T31 l0 x13_1).f3)] 31 (0, 0)) z115c hg (Kd.R_ne HO344.out BK324.out (by decide))); have n1_ := A_ (Kd.R_after (ok := (fun k_ => some k_ ≠ (.slice Ao35 t333.length co35 : Value).ownBlock ∧ some k_ ≠ (.slice Ao38 t339.length co38 : Value).ownBlock ∧ some k_ ≠ (.slice Ao42 t345.length co42 : Value).ownBlock)) (by (with_reducible repeat (first | apply Kd.R_alloc | apply Kd.R_drewN | apply Kd.R_drew)); exact Kd.R_mono HO329.out (fun _ hk => ⟨⟨hk.1.1.1, ⟨hk.1.1.2, hk.2⟩⟩, hk.1.2⟩)) hg hat); have n2_ := A_ (Kd.R_after (ok := (fun k_ => some k_ ≠ (.slice Ao31 t327.length co31 : Value).ownBlock ∧ some k_ ≠ (.slice Ao38 t339.length co38 : Value).ownBlock ∧ some k_ ≠ (.slice Ao42 t345.length co42 : Value).ownBlock)) (by (with_reducible repeat (first | apply Kd.R_alloc | apply Kd.R_drewN | apply Kd.R_drew)); exact Kd.R_mono HO335.out (fun _ hk => ⟨⟨hk.1.1.1, ⟨hk.1.1.2, hk.2⟩⟩, hk.1.2⟩)) hg hat); have n3_ := A_ (Kd.R_after (ok := (fun k_ => some k_ ≠ (.slice Ao31 t327.length co31 : Value).ownBlock ∧ some k_ ≠ (.slice Ao35 t333.length co35 : Value).ownBlock ∧ some k_ ≠ (.slice Ao42 t345.length co42 : Value).ownBlock)) (by (with_reducible repeat (first | apply Kd.R_alloc | apply Kd.R_drewN | apply Kd.R_drew)); exact Kd.R_mono HO341.out (fun _ hk => ⟨⟨hk.1.1.1, ⟨hk.1.1.2, hk.2⟩⟩, hk.1.2⟩)) hg hat); have n4_ := A_ (Kd.R_after (ok := (fun k_ => some k_ ≠ (.slice Ao31 t327.length co31 : Value).ownBlock ∧ some k_ ≠ (.slice Ao35 t333.length co35 : Value).ownBlock ∧ some k_ ≠ (.slice Ao38 t339.length co38 : Value).ownBlock)) (by (with_reducible repeat (first | apply Kd.R_alloc | apply Kd.R_drewN | apply Kd.R_drew)); exact Kd.R_mono HO347.out (fun _ hk => ⟨⟨hk.1.1.1.2, ⟨hk.1.1.2, hk.1.2⟩⟩, hk.2⟩)) hg hat); have n5_ := A_ (hb); have n6_ := A_ (ho); clear BK324; clear HO329; clear HO335; clear HO341; clear HO347; clear HB; clear HO344; have BK324 := n0_; have HO329 := n1_; have HO335 := n2_; have HO341 := n3_; have HO347 := n4_; have HB := n5_; have HO350 := n6_; clear n0_ n1_ n2_ n3_ n4_ n5_ n6_; clear ho hb hg hat)); try go_wp2_with (first | (go_at_call 137; (with_reducible refine (impl_Number.calls kj15 x6_6 t327 _ A19.out).mono ?_); rintro e w29 ⟨v328, rfl, ho0, hb⟩; have n0_ := A_ (Kd.R_elder' z115h (Kd.R_base ho0) hb); have n1_ := A_ (Kd.R_lower (Kd.R_new' ho0 (Kd.R_lt z115h)) (below_size z115a)); have n2_ := A_ (blk_below (g := gb324) (o := .cells #[.string ((rd_T31 l0 x13_1).f0), .string ((rd_T31 l0 x13_1).f1), .int .i64 ((rd_T31 l0 x13_1).f2), .bool ((rd_T31 l0 x13_1).f3)] 31 (0, 0)) z115c hb); have n3_ := A_ (below_step z115a hb); clear HO_3; clear BK324; clear HB; have HO_3 := n0_; have HO329 := n1_; have BK324 := n2_; have HB := n3_; clear n0_ n1_ n2_ n3_; obtain ⟨Ao31, co31, eo31⟩ := Kd.R_slice HO329.out; subst eo31) | ((with_reducible refine gate_builtin (b := .append) (xs := #[.tmp 37, .tmp 39]) rfl ?_); at_builtin; refine Kd.R_append_rows (Kd.int .u8) (w0 := w) w.heap.size rfl (.tmp 37) (.tmp 39) 36 5 (.int .u8 0) 1 rfl Try.underlying36 info5 rfl (by decide) (by omega) u3 x3_1 t327 _ _ _ (fun k_ => some k_ ≠ (.slice Ao31 t327.length co31 : Value).ownBlock) (fun _ => False) rfl rfl ?aO ?aR (fun _ _ h => h) (fun _ h => h.elim) ?aF ?aB ?aS ?aL ?_; (case aR => exact (by repeat (first | exact (Kd.R_reads' HO329.out).2.2 | (with_reducible refine Kd.C_alloc ?_ _) | (with_reducible refine Kd.C_drewN ?_ _) | (with_reducible refine Kd.C_drew ?_)))); (case aB => exact z115a); (case aF => exact (fun k_ hk => Kd.fresh' (Kd.R_lt z115b) k_ hk)); (case aO => exact (by (with_reducible repeat (first | apply Kd.R_alloc | apply Kd.R_drewN | apply Kd.R_drew)); exact Kd.R_mono HO_3.out (fun _ hk => hk.2))); (case aS => exact (below_size z115a)); (case aL => have := LMc20.out; omega); intro v331 w30 ho hb hg hat; rw [← Ny330.out] at ho; have n0_ := A_ (blk_grown (g := gb324) (o := .cells #[.string ((rd_T31 l0 x13_1).f0), .string ((rd_T31 l0 x13_1).f1), .int .i64 ((rd_T31 l0 x13_1).f2), .bool ((rd_T31 l0 x13_1).f3)] 31 (0, 0)) z115c hg (Kd.R_ne HO_3.out BK324.out (by decide))); have n1_ := A_ (Kd.R_after (ok := (fun _ => True)) z115b hg hat); have n2_ := A_ (hb); have n3_ := A_ (ho); clear BK324; clear HO329; clear HB; clear HO_3; have BK324 := n0_; have HO329 := n1_; have HB := n2_; have HO332 := n3_; clear n0_ n1_ n2_ n3_; clear ho hb hg hat; have hcz32_0 : w30.cell? ⟨gb324, 0, none⟩ = some (.string ((rd_T31 l0 x13_1).f0)) := (blk_cell BK324.out 0).trans rfl; have hcz32_1 : w30.cell? ⟨gb324, 1, none⟩ = some (.string ((rd_T31 l0 x13_1).f1)) := (blk_cell BK324.out 1).trans rfl; have hcz32_2 : w30.cell? ⟨gb324, 2, none⟩ = some (.int .i64 ((rd_T31 l0 x13_1).f2)) := (blk_cell BK324.out 2).trans rfl; have hcz32_3 : w30.cell? ⟨gb324, 3, none⟩ = some (.bool ((rd_T31 l0 x13_1).f3)) := (blk_cell BK324.out 3).trans rfl; have hfz32_0 := blk_frozen BK324.out 0; have hfz32_1 := blk_frozen BK324.out 1; have hfz32_2 := blk_frozen BK324.out 2; have hfz32_3 := blk_frozen BK324.out 3) | (go_at_call 139; (with_reducible refine (impl_Text.calls kj15 (((rd_T31 l0 x13_1).f0).extract (x6_6 : Int).toNat ((rd_T31 l0 x13_1).f0).size) t333 _ A23.out).mono ?_); rintro e w33 ⟨v334, rfl, ho0, hb⟩; have n0_ := A_ (Kd.R_elder' z115b (Kd.R_base ho0) hb); have n1_ := A_ (Kd.R_elder' z115g (Kd.R_base ho0) hb); have n2_ := A_ (Kd.R_lower (Kd.R_new' (Kd.R_new' ho0 (Kd.R_lt z115b)) (Kd.R_lt z115g)) (below_size z115a)); have n3_ := A_ (blk_below (g := gb324) (o := .cells #[.string ((rd_T31 l0 x13_1).f0), .string ((rd_T31 l0 x13_1).f1), .int .i64 ((rd_T31 l0 x13_1).f2), .bool ((rd_T31 l0 x13_1).f3)] 31 (0, 0)) z115c hb); have n4_ := A_ (below_step z115a hb); clear HO329; clear HO332; clear BK324; clear HB; have HO329 := n0_; have HO332 := n1_; have HO335 := n2_; have BK324 := n3_; have HB := n4_; clear n0_ n1_ n2_ n3_ n4_; obtain ⟨Ao35, co35, eo35⟩ := Kd.R_slice HO335.out; subst eo35) | ((with_reducible refine gate_builtin (b := .append) (xs := #[.tmp 41, .tmp 46]) rfl ?_); at_builtin; refine Kd.R_append_rows (Kd.int .u8) (w0 := w) w.heap.size rfl (.tmp 41) (.tmp 46) 36 5 (.int .u8 0) 1 rfl Try.underlying36 info5 rfl (by decide) (by omega) v331 y330 t333 _ _ _ (fun k_ => some k_ ≠ (.slice Ao31 t327.length co31 : Value).ownBlock ∧ some k_ ≠ (.slice Ao35 t333.length co35 : Value).ownBlock) (fun _ => False) rfl rfl ?aO ?aR (fun _ _ h => h) (fun _ h => h.elim) ?aF ?aB ?aS ?aL ?_; (case aR => exact (by repeat (first | exact (Kd.R_reads' HO335.out).2.2 | (with_reducible refine Kd.C_alloc ?_ _) | (with_reducible refine Kd.C_drewN ?_ _) | (with_reducible refine Kd.C_drew ?_)))); (case aB => exact z115a); (case aF => exact (fun k_ hk => ⟨Kd.fresh' (Kd.R_lt z115b) k_ hk, Kd.fresh' (Kd.R_lt z115d) k_ hk⟩)); (case aO => exact z115g); (case aS => exact (below_size z115a)); (case aL => have := LMc24.out; omega); intro v337 w34 ho hb hg hat; rw [← Ny336.out] at ho; have n0_ := A_ (blk_grown (g := gb324) (o := .cells #[.string ((rd_T31 l0 x13_1).f0), .string ((rd_T31 l0 x13_1).f1), .int .i64 ((rd_T31 l0 x13_1).f2), .bool ((rd_T31 l0 x13_1).f3)] 31 (0, 0)) z115c hg (Kd.R_ne HO332.out BK324.out (by decide))); have n1_ := A_ (Kd.R_after (ok := (fun k_ => some k_ ≠ (.slice Ao35 t333.length co35 : Value).ownBlock)) (by (with_reducible repeat (first | apply Kd.R_alloc | apply Kd.R_drewN | apply Kd.R_drew)); exact Kd.R_mono HO329.out (fun _ hk => ⟨hk.2, hk.1.2⟩)) hg hat); have n2_ := A_ (Kd.R_after (ok := (fun k_ => some k_ ≠ (.slice Ao31 t327.length co31 : Value).ownBlock)) (by (with_reducible repeat (first | apply Kd.R_alloc | apply Kd.R_drewN | apply Kd.R_drew)); exact Kd.R_mono HO335.out (fun _ hk => ⟨hk.1.2, hk.2⟩)) hg hat); have n3_ := A_ (hb); have n4_ := A_ (ho); clear BK324; clear HO329; clear HO335; clear HB; clear HO332; have BK324 := n0_; have HO329 := n1_; have HO335 := n2_; have HB := n3_; have HO338 := n4_; clear n0_ n1_ n2_ n3_ n4_; clear ho hb hg hat) | (go_at_call 137; (with_reducible refine (impl_Number.calls kj15 x7_15 t339 _ A25.out).mono ?_); rintro e w36 ⟨v340, rfl, ho0, hb⟩; have n0_ := A_ (Kd.R_elder' z115b (Kd.R_base ho0) hb); have n1_ := A_ (Kd.R_elder' z115d (Kd.R_base ho0) hb); have n2_ := A_ (Kd.R_elder' z115i (Kd.R_base ho0) hb); have n3_ := A_ (Kd.R_lower (Kd.R_new' (Kd.R_new' (Kd.R_new' ho0 (Kd.R_lt z115b)) (Kd.R_lt z115d)) (Kd.R_lt z115i)) (below_size z115a)); have n4_ := A_ (blk_below (g := gb324) (o := .cells #[.string ((rd_T31 l0 x13_1).f0), .string ((rd_T31 l0 x13_1).f1), .int .i64 ((rd_T31 l0 x13_1).f2), .bool ((rd_T31 l0 x13_1).f3)] 31 (0, 0)) z115c hb); have n5_ := A_ (below_step z115a hb); clear HO329; clear HO335; clear HO338; clear BK324; clear HB; have HO329 := n0_; have HO335 := n1_; have HO338 := n2_; have HO341 := n3_; have BK324 := n4_; have HB := n5_; clear n0_ n1_ n2_ n3_ n4_ n5_; obtain ⟨Ao38, co38, eo38⟩ := Kd.R_slice HO341.out; subst eo38) | ((with_reducible refine gate_builtin (b := .append) (xs := #[.tmp 48, .tmp 50]) rfl ?_); at_builtin; refine Kd.R_append_rows (Kd.int .u8) (w0 := w) w.heap.size rfl (.tmp 48) (.tmp 50) 36 5 (.int .u8 0) 1 rfl Try.underlying36 info5 rfl (by decide) (by omega) v337 y336 t339 _ _ _ (fun k_ => some k_ ≠ (.slice Ao31 t327.length co31 : Value).ownBlock ∧ some k_ ≠ (.slice Ao35 t333.length co35 : Value).ownBlock ∧ some k_ ≠ (.slice Ao38 t339.length co38 : Value).ownBlock) (fun _ => False) rfl rfl ?aO ?aR (fun _ _ h => h) (fun _ h => h.elim) ?aF ?aB ?aS ?aL ?_; (case aR => exact (by repeat (first | exact (Kd.R_reads' HO341.out).2.2 | (with_reducible refine Kd.C_alloc ?_ _) | (with_reducible refine Kd.C_drewN ?_ _) | (with_reducible refine Kd.C_drew ?_)))); (case aB => exact z115a); (case aF => exact (fun k_ hk => ⟨Kd.fresh' (Kd.R_lt z115b) k_ hk, Kd.fresh' (Kd.R_lt z115d) k_ hk, Kd.fresh' (Kd.R_lt z115f) k_ hk⟩)); (case aO => exact (by (with_reducible repeat (first | apply Kd.R_alloc | apply Kd.R_drewN | apply Kd.R_drew)); exact Kd.R_mono HO338.out (fun _ hk => ⟨hk.1.1, ⟨hk.1.2, hk.2⟩⟩))); (case aS => exact (below_size z115a)); (case aL => have := LMc26.out; omega); intro v343 w37 ho hb hg hat; rw [← Ny342.out] at ho; have n0_ := A_ (blk_grown (g := gb324) (o := .cells #[.string ((rd_T31 l0 x13_1).f0), .string ((rd_T31 l0 x13_1).f1), .int .i64 ((rd_T31 l0 x13_1).f2), .bool ((rd_T31 l0 x13_1).f3)] 31 (0, 0)) z115c hg (Kd.R_ne HO338.out BK324.out (by decide))); have n1_ := A_ (Kd.R_after (ok := (fun k_ => some k_ ≠ (.slice Ao35 t333.length co35 : Value).ownBlock ∧ some k_ ≠ (.slice Ao38 t339.length co38 : Value).ownBlock)) (by (with_reducible repeat (first | apply Kd.R_alloc | apply Kd.R_drewN | apply Kd.R_drew)); exact Kd.R_mono HO329.out (fun _ hk => ⟨⟨hk.1.1, hk.2⟩, hk.1.2⟩)) hg hat); have n2_ := A_ (Kd.R_after (ok := (fun k_ => some k_ ≠ (.slice Ao31 t327.length co31 : Value).ownBlock ∧ some k_ ≠ (.slice Ao38 t339.length co38 : Value).ownBlock)) (by (with_reducible repeat (first | apply Kd.R_alloc | apply Kd.R_drewN | apply Kd.R_drew)); exact Kd.R_mono HO335.out (fun _ hk => ⟨⟨hk.1.1, hk.2⟩, hk.1.2⟩)) hg hat); have n3_ := A_ (Kd.R_after (ok := (fun k_ => some k_ ≠ (.slice Ao31 t327.length co31 : Value).ownBlock ∧ some k_ ≠ (.slice Ao35 t333.length co35 : Value).ownBlock)) (by (with_reducible repeat (first | apply Kd.R_alloc | apply Kd.R_drewN | apply Kd.R_drew)); exact Kd.R_mono HO341.out (fun _ hk => ⟨⟨hk.1.1.2, hk.1.2⟩, hk.2⟩)) hg hat); have n4_ := A_ (hb); have n5_ := A_ (ho); clear BK324; clear HO329; clear HO335; clear HO341; clear HB; clear HO338; have BK324 := n0_; have HO329 := n1_; have HO335 := n2_; have HO341 := n3_; have HB := n4_; have HO344 := n5_; clear n0_ n1_ n2_ n3_ n4_ n5_; clear ho hb hg hat; have hcz39_0 : w37.cell? ⟨gb324, 0, none⟩ = some (.string ((rd_T31 l0 x13_1).f0)) := (blk_cell BK324.out 0).trans rfl; have hcz39_1 : w37.cell? ⟨gb324, 1, none⟩ = some (.string ((rd_T31 l0 x13_1).f1)) := (blk_cell BK324.out 1).trans rfl; have hcz39_2 : w37.cell? ⟨gb324, 2, none⟩ = some (.int .i64 ((rd_T31 l0 x13_1).f2)) := (blk_cell BK324.out 2).trans rfl; have hcz39_3 : w37.cell? ⟨gb324, 3, none⟩ = some (.bool ((rd_T31 l0 x13_1).f3)) := (blk_cell BK324.out 3).trans rfl; have hfz39_0 := blk_frozen BK324.out 0; have hfz39_1 := blk_frozen BK324.out 1; have hfz39_2 := blk_frozen BK324.out 2; have hfz39_3 := blk_frozen BK324.out 3) | (go_at_call 139; (with_reducible refine (impl_Text.calls kj15 ((rd_T31 l0 x13_1).f1) t345 _ A27.out).mono ?_); rintro e w40 ⟨v346, rfl, ho0, hb⟩; have n0_ := A_ (Kd.R_elder' z115b (Kd.R_base ho0) hb); have n1_ := A_ (Kd.R_elder' z115d (Kd.R_base ho0) hb); have n2_ := A_ (Kd.R_elder' z115f (Kd.R_base ho0) hb); have n3_ := A_ (Kd.R_elder' z115j (Kd.R_base ho0) hb); have n4_ := A_ (Kd.R_lower (Kd.R_new' (Kd.R_new' (Kd.R_new' (Kd.R_new' ho0 (Kd.R_lt z115b)) (Kd.R_lt z115d)) (Kd.R_lt z115f)) (Kd.R_lt z115j)) (below_size z115a)); have n5_ := A_ (blk_below (g := gb324) (o := .cells #[.string ((rd_T31 l0 x13_1).f0), .string ((rd_T31 l0 x13_1).f1), .int .i64 ((rd_T31 l0 x13_1).f2), .bool ((rd_T31 l0 x13_1).f3)] 31 (0, 0)) z115c hb); have n6_ := A_ (below_step z115a hb); clear HO329; clear HO335; clear HO341; clear HO344; clear BK324; clear HB; have HO329 := n0_; have HO335 := n1_; have HO341 := n2_; have HO344 := n3_; have HO347 := n4_; have BK324 := n5_; have HB := n6_; clear n0_ n1_ n2_ n3_ n4_ n5_ n6_; obtain ⟨Ao42, co42, eo42⟩ := Kd.R_slice HO347.out; subst eo42) | ((with_reducible refine gate_builtin (b := .append) (xs := #[.tmp 52, .tmp 55]) rfl ?_); at_builtin; refine Kd.R_append_rows (Kd.int .u8) (w0 := w) w.heap.size rfl (.tmp 52) (.tmp 55) 36 5 (.int .u8 0) 1 rfl Try.underlying36 info5 rfl (by decide) (by omega) v343 y342 t345 _ _ _ (fun k_ => some k_ ≠ (.slice Ao31 t327.length co31 : Value).ownBlock ∧ some k_ ≠ (.slice Ao35 t333.length co35 : Value).ownBlock ∧ some k_ ≠ (.slice Ao38 t339.length co38 : Value).ownBlock ∧ some k_ ≠ (.slice Ao42 t345.length co42 : Value).ownBlock) (fun _ => False) rfl rfl ?aO ?aR (fun _ _ h => h) (fun _ h => h.elim) ?aF ?aB ?aS ?aL ?_; (case aR => exact (by repeat (first | exact (Kd.R_reads' HO347.out).2.2 | (with_reducible refine Kd.C_alloc ?_ _) | (with_reducible refine Kd.C_drewN ?_ _) | (with_reducible refine Kd.C_drew ?_)))); (case aB => exact z115a); (case aF => exact (fun k_ hk => ⟨Kd.fresh' (Kd.R_lt z115b) k_ hk, Kd.fresh' (Kd.R_lt z115d) k_ hk, Kd.fresh' (Kd.R_lt z115f) k_ hk, Kd.fresh' (Kd.R_lt (by (with_reducible repeat (first | apply Kd.R_alloc | apply Kd.R_drewN | apply Kd.R_drew)); exact HO347.out)) k_ hk⟩)); (case aO => exact (by (with_reducible repeat (first | apply Kd.R_alloc | apply Kd.R_drewN | apply Kd.R_drew)); exact Kd.R_mono HO344.out (fun _ hk => ⟨hk.1.1, ⟨hk.1.2.1, ⟨hk.1.2.2, hk.2⟩⟩⟩))); (case aS => exact (below_size z115a)); (case aL => have := LMc28.out; omega); intro v349 w41 ho hb hg hat; rw [← Ny348.out] at ho; have n0_ := A_ (blk_grown (g := gb324) (o := .cells #[.string ((rd_T31 l0 x13_1).f0), .string ((rd_T31 l0 x13_1).f1), .int .i64 ((rd_T31 l0 x13_1).f2), .bool ((rd_T31 l0 x13_1).f3)] 31 (0, 0)) z115c hg (Kd.R_ne HO344.out BK324.out (by decide))); have n1_ := A_ (Kd.R_after (ok := (fun k_ => some k_ ≠ (.slice Ao35 t333.length co35 : Value).ownBlock ∧ some k_ ≠ (.slice Ao38 t339.length co38 : Value).ownBlock ∧ some k_ ≠ (.slice Ao42 t345.length co42 : Value).ownBlock)) (by (with_reducible repeat (first | apply Kd.R_alloc | apply Kd.R_drewN | apply Kd.R_drew)); exact Kd.R_mono HO329.out (fun _ hk => ⟨⟨hk.1.1.1, ⟨hk.1.1.2, hk.2⟩⟩, hk.1.2⟩)) hg hat); have n2_ := A_ (Kd.R_after (ok := (fun k_ => some k_ ≠ (.slice Ao31 t327.length co31 : Value).ownBlock ∧ some k_ ≠ (.slice Ao38 t339.length co38 : Value).ownBlock ∧ some k_ ≠ (.slice Ao42 t345.length co42 : Value).ownBlock)) (by (with_reducible repeat (first | apply Kd.R_alloc | apply Kd.R_drewN | apply Kd.R_drew)); exact Kd.R_mono HO335.out (fun _ hk => ⟨⟨hk.1.1.1, ⟨hk.1.1.2, hk.2⟩⟩, hk.1.2⟩)) hg hat); have n3_ := A_ (Kd.R_after (ok := (fun k_ => some k_ ≠ (.slice Ao31 t327.length co31 : Value).ownBlock ∧ some k_ ≠ (.slice Ao35 t333.length co35 : Value).ownBlock ∧ some k_ ≠ (.slice Ao42 t345.length co42 : Value).ownBlock)) (by (with_reducible repeat (first | apply Kd.R_alloc | apply Kd.R_drewN | apply Kd.R_drew)); exact Kd.R_mono HO341.out (fun _ hk => ⟨⟨hk.1.1.1, ⟨hk.1.1.2, hk.2⟩⟩, hk.1.2⟩)) hg hat); have n4_ := A_ (Kd.R_after (ok := (fun k_ => some k_ ≠ (.slice Ao31 t327.length co31 : Value).ownBlock ∧ some k_ ≠ (.slice Ao35 t333.length co35 : Value).ownBlock ∧ some k_ ≠ (.slice Ao38 t339.length co38 : Value).ownBlock)) (by (with_reducible repeat (first | apply Kd.R_alloc | apply Kd.R_drewN | apply Kd.R_drew)); exact Kd.R_mono HO347.out (fun _ hk => ⟨⟨hk.1.1.1.2, ⟨hk.1.1.2, hk.1.2⟩⟩, hk.2⟩)) hg hat); have n5_ := A_ (hb); have n6_ := A_ (ho); clear BK324; clear HO329; clear HO335; clear HO341; clear HO347; clear HB; clear HO344; have BK324 := n0_; have HO329 := n1_; have HO335 := n2_; have HO341 := n3_; have HO347 := n4_; have HB := n5_; have HO350 := n6_; clear n0_ n1_ n2_ n3_ n4_ n5_ n6_; clear ho hb hg hat)))
       go_roundg kj15
       case measure => have := HK1.out; have := HJ6.out; have := HJ15.out; omega
       case rel => exact ⟨(y348), (wrap64 (x13_1 + 1)), (by first | rfl | (simp; done) | (simp [*]; done)), H', ⟨by have := HK1.out; have := HJ6.out; have := HJ15.out; omega⟩, ⟨by (with_reducible repeat (first | apply Kd.R_alloc | apply Kd.R_drewN | apply Kd.R_drew)); exact Kd.R_mono HO350.out (fun _ hk => trivial)⟩, ⟨by repeat (first | (with_reducible first | exact HB.out | apply below_alloc | apply pw_below_drewN | apply below_drew1 | refine below_set ?_ GE324.out) | exact HB.out)⟩⟩
       }
       {
       rw [if_neg c28] at H
       exact absurd H (by simp)
       }
       }
       {
       rw [if_neg c26] at H
       exact absurd H (by simp)
       }
       }
       {
       rw [if_neg c24] at H
       exact absurd H (by simp)
       }
       }
       {
       rw [if_neg c22] at H
       exact absurd H (by simp)
       }
       }
       {
       rw [if_neg c21] at H
       exact absurd H (by simp)
       }
       }
       {
       rw [if_neg c20] at H
       exact absurd H (by simp)
       }
   }
   {
   rw [if_neg c6] at H
   exact absurd H (by simp)
   }
   }
   {
   rw [if_neg c5] at H
   exact absurd H (by simp)
   }
   }
   {
   rw [if_neg c4] at H
   have c4b0 : decide (x13_1 < (l0.length : Int)) = false := decide_eq_false c4
   clear c4
   obtain rfl := Option.some.inj H
   go_wp2
   repeat (go_quiet (fail); try go_wp2)
   go_ret
   exact ⟨_, by first | rfl | (simp [errW_none, errW_some] <;> rfl) | (simp [*, errW_none, errW_some] <;> rfl), by (with_reducible repeat (first | apply Kd.R_alloc | apply Kd.R_drewN | apply Kd.R_drew)); exact HO_3.out, by repeat (first | (with_reducible first | exact HB.out | apply below_alloc | apply pw_below_drewN | apply below_drew1) | exact HB.out)⟩
   
   }
end Go.Proofs.Ytaiggfjkikfcbaa.PFnExactBuilt

-- by a program of this session (wip/print/run.py) for this claim
import Derived.Test.YthkhfmomibfkjaaLibPu
import Derived.Test.YthkhfmomibfkjaaPFnPackedx0
import Derived.Test.YthkhfmomibfkjaaPFnPackedx2
import Derived.Test.YthkhfmomibfkjaaPFnPackedx3
namespace Go.Proofs.Ythkhfmomibfkjaa.PFnPacked
open Go.Proofs.Ythkhfmomibfkjaa.Lib Go.RowKit Go.Proofs.YthkhfmomibfkjaaW.PrintWords Go.Proofs.YthkhfmomibfkjaaW.PrintLast Go.Proofs.YthkhfmomibfkjaaW.PrintMore
attribute [local go_sem] max2_int min2_int max_two min_two max_three min_three max_four min_four   -- for this text's walks alone
set_option linter.unusedVariables false
set_option linter.unusedSimpArgs false

theorem z88a {p_ : Prop} (h_ : p_ := by repeat (first | (with_reducible first | exact HB.out | apply below_alloc | apply pw_below_drewN | apply below_drew1 | refine below_set ?_ GE130.out) | exact HB.out)) : p_ := h_
theorem z88b {p_ : Prop} (h_ : p_ := by simp only [Act.put, List.setIfInBounds_toArray, List.set_cons_zero, List.set_cons_succ, i64_w, i32_w]; rfl) : p_ := h_
theorem z88c {p_ : Prop} (h_ : p_ := by (with_reducible repeat (first | apply Kd.R_alloc | apply Kd.R_drewN | apply Kd.R_drew)); exact HO134.out) : p_ := h_
theorem z88d {p_ : Prop} (h_ : p_ := by (with_reducible repeat (first | refine blk_drewN ?_ _ | refine blk_drew ?_ | refine blk_alloc ?_ _)); exact BK130.out) : p_ := h_
theorem z88e {p_ : Prop} (h_ : p_ := by (try simp only [List.map_toArray, List.map_cons, List.map_nil]); first | done | rfl | (simp only [List.length_drop, List.length_take]; rfl)) : p_ := h_
theorem z88f {p_ : Prop} (h_ : p_ := by (with_reducible repeat (first | apply Kd.R_alloc | apply Kd.R_drewN | apply Kd.R_drew)); exact HO140.out) : p_ := h_
theorem z88g {p_ : Prop} (h_ : p_ := by repeat (first | (with_reducible first | exact HB.out | apply below_alloc | apply pw_below_drewN | apply below_drew1) | exact HB.out)) : p_ := h_
mutual
def spec_l4Packed.l0 : Nat → List (S49) → List Int → ByteArray → Int → Option (List Int)
 | 0, _, _, _, _ => none
 | k + 1, x0, x3, x4, x5 => if x5 < (x0.length : Int) then (if 0 ≤ x5 then (if (Int.tmod x5 8) = 0 then (spec_l4Packed.j1 k x0 x3 (⟨#[]⟩ : ByteArray) x5 ((rd_T49 x0 x5).f0) ((rd_T49 x0 x5).f1) ((rd_T49 x0 x5).f2) ((rd_T49 x0 x5).f3)) else (spec_l4Packed.j1 k x0 x3 x4 x5 ((rd_T49 x0 x5).f0) ((rd_T49 x0 x5).f1) ((rd_T49 x0 x5).f2) ((rd_T49 x0 x5).f3))) else (none)) else (some x3)
def spec_l4Packed.j1 : Nat → List (S49) → List Int → ByteArray → Int → ByteArray → ByteArray → Int → Bool → Option (List Int)
 | 0, _, _, _, _, _, _, _, _ => none
 | k + 1, x0, x3, x4, x5, x131000, x131001, x131002, x131003 => (spec_Common.f k x4 x131000).bind fun t131 => ((spec_l1Number.f k t131).bind fun t132 => (if x3.length + t132.length < 140737488355328 then ((some (x3 ++ t132 : List Int)).bind fun y135 => (if 0 ≤ t131 then (if t131 ≤ (x131000.size : Int) then ((spec_l1Text.f k (x131000.extract (t131 : Int).toNat x131000.size)).bind fun t138 => (if y135.length + t138.length < 140737488355328 then ((some (y135 ++ t138 : List Int)).bind fun y141 => ((spec_l4Flag.f x131003).bind fun t144 => ((spec_l1Number.f k (wrap64 ((wrap64 (2 * x131002)) + t144))).bind fun t145 => (if y141.length + t145.length < 140737488355328 then ((some (y141 ++ t145 : List Int)).bind fun y148 => ((spec_l1Text.f k x131001).bind fun t151 => (if y148.length + t151.length < 140737488355328 then (spec_l4Packed.l0 k x0 (y148 ++ t151) x131000 (wrap64 (x5 + 1))) else (none)))) else (none))))) else (none))) else (none)) else (none))) else (none)))
end
def spec_l4Packed.f (k : Nat) (l0 : List (S49)) : Option (List Int) := (spec_l1Number.f k (l0.length : Int)).bind fun t126 => (spec_l4Packed.l0 k l0 t126 (⟨#[]⟩ : ByteArray) 0)
def spec_l4Packed.T10 : Bool × List (List Nat × List Nat) := (true, [([], []), ([], []), ([1], [1]), ([0, 2, 2], [0, 2]), ([], []), ([4], [4]), ([], []), ([5, 6], [5, 6]), ([7, 3], [7]), ([3, 8, 8], [3, 8]), ([9, 9, 0, 1, 2, 3, 4, 5, 6, 7, 8, 9], [0, 9])])
def spec_l4Packed.B10 : List Nat := [0, 0, 2, 7, 0, 16, 0, 112, 255, 511, 1023]
theorem spec_l4Packed.tab10 : rtab .any (opsOf Try.f88 10) = spec_l4Packed.T10 := by kernel_rfl
theorem spec_l4Packed.bits10 : waitsOk spec_l4Packed.T10.2 spec_l4Packed.B10 = true := by kernel_rfl
def spec_l4Packed.T11 : Bool × List (List Nat × List Nat) := (true, [([], []), ([], []), ([1], [1]), ([2], [2]), ([], []), ([4], [4]), ([5], [5]), ([3, 6], [3, 6]), ([7, 6], [7]), ([0, 8, 8], [0, 8]), ([], []), ([10], [10]), ([11, 9], [11]), ([9, 12, 12], [9, 12]), ([13, 13, 0, 1, 2, 3, 4, 5, 6, 7, 8, 9, 10, 11, 12, 13], [0, 13])])
def spec_l4Packed.B11 : List Nat := [0, 0, 2, 6, 0, 16, 48, 126, 254, 511, 0, 1024, 4095, 8191, 16383]
theorem spec_l4Packed.tab11 : rtab .any (opsOf Try.f88 11) = spec_l4Packed.T11 := by kernel_rfl
theorem spec_l4Packed.bits11 : waitsOk spec_l4Packed.T11.2 spec_l4Packed.B11 = true := by kernel_rfl
set_option maxHeartbeats 8000000 in
set_option maxRecDepth 100000 in
theorem spec_l4Packed.calls (k : Nat) (A0 : Option Addr) (c0 : Nat) (l0 : List (S49)) (r : List Int) (w : World) (hr0 : Kd.C k49 w A0 l0.length l0) (hc0 : l0.length ≤ c0) (h : spec_l4Packed.f k l0 = some r) :
  Calls Try.prog 88 #[.slice A0 l0.length c0] w fun e w' => ∃ v0_ : Value, e = .returned (v0_) ∧ Kd.R (Kd.int .u8) 5 w' w.heap.size (fun _ => True) v0_ r ∧ Below w.heap.size w w' := by
 have hu49 := Try.underlying49
 have HR0 := A_ hr0
 have HC0 := A_ hc0
 clear hr0 hc0
 have HB := A_ (Below.refl w.heap.size w)
 have H : ((spec_l1Number.f k (l0.length : Int)).bind fun t126 => (spec_l4Packed.l0 k l0 t126 (⟨#[]⟩ : ByteArray) 0)) = some r := h
 clear h
 replace H := Option.bind_eq_some_iff.mp H
 obtain ⟨t126, A20, H⟩ := H
 (try dsimp only at H)
 have A2 := A_ A20
 clear A20
 have H' := A_ H
 clear H
 go_enter Try.func88, Try.ntmps88
 go_wp2_with (first | ((with_reducible refine gate_callee (f := 71) rfl ?_); refine goesL_ (some 10) rfl rfl Try.func71 (by kernel_rfl) rfl #[.int .i64 (l0.length : Int)] rfl z88e ?_; (with_reducible refine (spec_l1Number.calls k (l0.length : Int) t126 _ A2.out).mono ?_); rintro e w3 ⟨v127, rfl, ho0, hb⟩; refine ⟨_, rfl, ?_⟩; have n0_ := A_ (Kd.R_lower ho0 (below_size z88g)); have n1_ := A_ (below_step z88g hb); clear HB; have HO128 := n0_; have HB := n1_; clear n0_ n1_))
 go_loopg [3, 4, 5] k (fun kq v3 v4 v5 w' => ∃ (x3_1 : List Int) (x4_1 : ByteArray) (x5_1 : Int), v4 = .string x4_1 ∧ v5 = .int .i64 x5_1 ∧ Aside0 (spec_l4Packed.l0 kq l0 x3_1 x4_1 x5_1 = some r) ∧ Aside0 (kq ≤ k) ∧ Aside0 (Kd.R (Kd.int .u8) 5 w' w.heap.size (fun _ => True) v3 x3_1) ∧ Aside0 (Below w.heap.size w w'))
 case atStart => exact ⟨(t126), ((⟨#[]⟩ : ByteArray)), (0), (by first | rfl | (simp; done) | (simp [*]; done)), (by first | rfl | (simp; done) | (simp [*]; done)), H', ⟨Nat.le_refl _⟩, ⟨by (with_reducible repeat (first | apply Kd.R_alloc | apply Kd.R_drewN | apply Kd.R_drew)); exact HO128.out⟩, ⟨by repeat (first | (with_reducible first | exact HB.out | apply below_alloc | apply pw_below_drewN | apply below_drew1) | exact HB.out)⟩⟩
 case round =>
  clear H'
  try clear p2
  obtain ⟨x3_1, x4_1, x5_1, rfl, rfl, HA, HK1, HO_3, HB⟩ := hrel
  cases gk with
  | zero => exact absurd HA.out (by simp [spec_l4Packed.l0])
  | succ k1 =>
   have H := HA.out
   clear HA
   simp only [spec_l4Packed.l0] at H
   by_cases c4 : x5_1 < (l0.length : Int)
   {
   rw [if_pos c4] at H
   have c4b0 : decide (x5_1 < (l0.length : Int)) = true := decide_eq_true c4
   clear c4
   by_cases c5 : 0 ≤ x5_1
   {
   rw [if_pos c5] at H
   have c5b0 : decide (0 ≤ x5_1) = true := decide_eq_true c5
   clear c5
   have HC6 := A_ H
   clear H
   have p129 : 0 ≤ (x5_1 : Int) := of_decide_eq_true (by first | (with_reducible assumption) | assumption)
   have q129 : x5_1 < (l0.length : Int) := of_decide_eq_true (by first | (with_reducible assumption) | assumption)
   obtain ⟨ad129, e129, hx129_0, hx129_1, hx129_2, hx129_3⟩ := at_T49 HR0.out x5_1 p129 q129
   cases e129
   replace hx129_0 := (HB.out.cell (World.block_lt_of_cell? w _ hx129_0)).trans hx129_0
   replace hx129_1 := (HB.out.cell (World.block_lt_of_cell? w _ hx129_1)).trans hx129_1
   replace hx129_2 := (HB.out.cell (World.block_lt_of_cell? w _ hx129_2)).trans hx129_2
   replace hx129_3 := (HB.out.cell (World.block_lt_of_cell? w _ hx129_3)).trans hx129_3
   replace p129 := eq_true p129
   replace q129 := eq_true q129
   go_upto_if 23 with (first | ((with_reducible refine gate_dst (N := 6) rfl ?_); refine box_event ?hg (N := 6) ?hd (cs := #[.string (⟨#[]⟩ : ByteArray), .string (⟨#[]⟩ : ByteArray), .int .i64 0, .bool false]) (t := 49) ?hr ?_; (case hd => rfl); (case hg => rfl); (case hr => first | (go_simp; done) | (go_simp; rfl)); intro gb130 hg w7 hbox hb; have n0_ := A_ (Kd.R_below (by (with_reducible repeat (first | apply Kd.R_alloc | apply Kd.R_drewN | apply Kd.R_drew)); exact HO_3.out) hb); have n1_ := A_ (below_step z88g hb); have n2_ := A_ (hbox); have n3_ := A_ ((by rw [hg]; exact (below_size z88g) : w.heap.size ≤ gb130)); have n4_ := A_ ((by rw [hg]; exact (below_size z88g) : w.heap.size ≤ gb130)); clear HO_3; clear HB; have HO_3 := n0_; have HB := n1_; have BK130 := n2_; have GW130 := n3_; have GE130 := n4_; clear n0_ n1_ n2_ n3_ n4_; clear hb hbox hg; have hcz8_0 : w7.cell? ⟨gb130, 0, none⟩ = some (.string (⟨#[]⟩ : ByteArray)) := (blk_cell BK130.out 0).trans rfl; have hcz8_1 : w7.cell? ⟨gb130, 1, none⟩ = some (.string (⟨#[]⟩ : ByteArray)) := (blk_cell BK130.out 1).trans rfl; have hcz8_2 : w7.cell? ⟨gb130, 2, none⟩ = some (.int .i64 0) := (blk_cell BK130.out 2).trans rfl; have hcz8_3 : w7.cell? ⟨gb130, 3, none⟩ = some (.bool false) := (blk_cell BK130.out 3).trans rfl; have hfz8_0 := blk_frozen BK130.out 0; have hfz8_1 := blk_frozen BK130.out 1; have hfz8_2 := blk_frozen BK130.out 2; have hfz8_3 := blk_frozen BK130.out 3))
   (try simp only [Act.put, List.setIfInBounds_toArray, List.set_cons_zero, List.set_cons_succ])
   go_cut [4] (fun v4 wc => ∃ (kq : Nat) (x4_5 : ByteArray), v4 = .string x4_5 ∧ Aside0 (spec_l4Packed.j1 kq l0 x3_1 x4_5 x5_1 ((rd_T49 l0 x5_1).f0) ((rd_T49 l0 x5_1).f1) ((rd_T49 l0 x5_1).f2) ((rd_T49 l0 x5_1).f3) = some r) ∧ Aside0 (kq ≤ k1) ∧ Aside0 (Kd.R (Kd.int .u8) 5 wc w.heap.size (fun _ => True) u3 x3_1) ∧ Aside0 (wc.heap[gb130]? = some (.cells #[.string ((rd_T49 l0 x5_1).f0), .string ((rd_T49 l0 x5_1).f1), .int .i64 ((rd_T49 l0 x5_1).f2), .bool ((rd_T49 l0 x5_1).f3)] 49 (0, 0))) ∧ Aside0 (Below w.heap.size w wc))
   case first =>
    have H := HC6.out
    clear HC6
    by_cases c9 : (Int.tmod x5_1 8) = 0
    {
    rw [if_pos c9] at H
    have c9b0 : ((Int.tmod x5_1 8) == 0) = true := beq_iff_eq.mpr c9
    have c9b1 : ((Int.tmod x5_1 8) != 0) = false := bne_eq_false_iff_eq.mpr c9
    clear c9
    (first | rw [c9b0] | (simp only [i64_w, i32_w]; rw [c9b0]) | skip)
    have H' := A_ H
    clear H
    go_wp2
    go_meet
    case rel => exact ⟨_, ((⟨#[]⟩ : ByteArray)), (by first | rfl | (simp; done) | (simp [*]; done)), H', ⟨by have := HK1.out; first | omega | exact Nat.le_refl _⟩, ⟨by (with_reducible repeat (first | apply Kd.R_alloc | apply Kd.R_drewN | apply Kd.R_drew)); exact Kd.R_mono (Kd.R_far (p := ⟨gb130, 3, none⟩) (Kd.R_far (p := ⟨gb130, 2, none⟩) (Kd.R_far (p := ⟨gb130, 1, none⟩) (Kd.R_far (p := ⟨gb130, 0, none⟩) (Kd.R_types HO_3.out BK130.out (by decide)) (fun _ hk => hk.2) (.string ((rd_T49 l0 x5_1).f0))) (fun _ hk => hk.2) (.string ((rd_T49 l0 x5_1).f1))) (fun _ hk => hk.2) (.int .i64 ((rd_T49 l0 x5_1).f2))) (fun _ hk => hk.2) (.bool ((rd_T49 l0 x5_1).f3))) (fun _ hk => trivial)⟩, ⟨by (with_reducible repeat (first | refine blk_drewN ?_ _ | refine blk_drew ?_ | refine blk_alloc ?_ _)); refine blk_put (cs := #[.string ((rd_T49 l0 x5_1).f0), .string ((rd_T49 l0 x5_1).f1), .int .i64 ((rd_T49 l0 x5_1).f2), .bool false]) ?_ 3 _ rfl; (with_reducible repeat (first | refine blk_drewN ?_ _ | refine blk_drew ?_ | refine blk_alloc ?_ _)); refine blk_put (cs := #[.string ((rd_T49 l0 x5_1).f0), .string ((rd_T49 l0 x5_1).f1), .int .i64 0, .bool false]) ?_ 2 _ rfl; (with_reducible repeat (first | refine blk_drewN ?_ _ | refine blk_drew ?_ | refine blk_alloc ?_ _)); refine blk_put (cs := #[.string ((rd_T49 l0 x5_1).f0), .string (⟨#[]⟩ : ByteArray), .int .i64 0, .bool false]) ?_ 1 _ rfl; (with_reducible repeat (first | refine blk_drewN ?_ _ | refine blk_drew ?_ | refine blk_alloc ?_ _)); refine blk_put (cs := #[.string (⟨#[]⟩ : ByteArray), .string (⟨#[]⟩ : ByteArray), .int .i64 0, .bool false]) ?_ 0 _ rfl; (with_reducible repeat (first | refine blk_drewN ?_ _ | refine blk_drew ?_ | refine blk_alloc ?_ _)); exact BK130.out⟩, ⟨by repeat (first | (with_reducible first | exact HB.out | apply below_alloc | apply pw_below_drewN | apply below_drew1 | refine below_set ?_ GE130.out) | exact HB.out)⟩⟩
    }
    {
    rw [if_neg c9] at H
    have c9b0 : ((Int.tmod x5_1 8) == 0) = false := beq_eq_false_iff_ne.mpr c9
    have c9b1 : ((Int.tmod x5_1 8) != 0) = true := bne_iff_ne.mpr c9
    (first | rw [c9b0] | (simp only [i64_w, i32_w]; rw [c9b0]) | skip)
    have H' := A_ H
    clear H
    go_wp2
    go_meet
    case rel => exact ⟨_, (x4_1), (by first | rfl | (simp; done) | (simp [*]; done)), H', ⟨by have := HK1.out; first | omega | exact Nat.le_refl _⟩, ⟨by (with_reducible repeat (first | apply Kd.R_alloc | apply Kd.R_drewN | apply Kd.R_drew)); exact Kd.R_mono (Kd.R_far (p := ⟨gb130, 3, none⟩) (Kd.R_far (p := ⟨gb130, 2, none⟩) (Kd.R_far (p := ⟨gb130, 1, none⟩) (Kd.R_far (p := ⟨gb130, 0, none⟩) (Kd.R_types HO_3.out BK130.out (by decide)) (fun _ hk => hk.2) (.string ((rd_T49 l0 x5_1).f0))) (fun _ hk => hk.2) (.string ((rd_T49 l0 x5_1).f1))) (fun _ hk => hk.2) (.int .i64 ((rd_T49 l0 x5_1).f2))) (fun _ hk => hk.2) (.bool ((rd_T49 l0 x5_1).f3))) (fun _ hk => trivial)⟩, ⟨by (with_reducible repeat (first | refine blk_drewN ?_ _ | refine blk_drew ?_ | refine blk_alloc ?_ _)); refine blk_put (cs := #[.string ((rd_T49 l0 x5_1).f0), .string ((rd_T49 l0 x5_1).f1), .int .i64 ((rd_T49 l0 x5_1).f2), .bool false]) ?_ 3 _ rfl; (with_reducible repeat (first | refine blk_drewN ?_ _ | refine blk_drew ?_ | refine blk_alloc ?_ _)); refine blk_put (cs := #[.string ((rd_T49 l0 x5_1).f0), .string ((rd_T49 l0 x5_1).f1), .int .i64 0, .bool false]) ?_ 2 _ rfl; (with_reducible repeat (first | refine blk_drewN ?_ _ | refine blk_drew ?_ | refine blk_alloc ?_ _)); refine blk_put (cs := #[.string ((rd_T49 l0 x5_1).f0), .string (⟨#[]⟩ : ByteArray), .int .i64 0, .bool false]) ?_ 1 _ rfl; (with_reducible repeat (first | refine blk_drewN ?_ _ | refine blk_drew ?_ | refine blk_alloc ?_ _)); refine blk_put (cs := #[.string (⟨#[]⟩ : ByteArray), .string (⟨#[]⟩ : ByteArray), .int .i64 0, .bool false]) ?_ 0 _ rfl; (with_reducible repeat (first | refine blk_drewN ?_ _ | refine blk_drew ?_ | refine blk_alloc ?_ _)); exact BK130.out⟩, ⟨by repeat (first | (with_reducible first | exact HB.out | apply below_alloc | apply pw_below_drewN | apply below_drew1 | refine below_set ?_ GE130.out) | exact HB.out)⟩⟩
    }
   case rest =>
    clear HC6
    try clear p1
    try clear q1
    try clear hx1
    try clear p2
    try clear c4
    try clear c4b0
    try clear c5
    try clear c5b0
    try clear c7
    try clear c8
    try clear c9
    try clear c9b0
    try clear c9b1
    try clear hcz8_0
    try clear hcz8_1
    try clear hcz8_2
    try clear hcz8_3
    try clear hfz8_0
    try clear hfz8_1
    try clear hfz8_2
    try clear hfz8_3
    try clear hx129_0
    try clear hx129_1
    try clear hx129_2
    try clear hx129_3
    try clear p129
    try clear p2
    try clear q129
    obtain ⟨kq, x4_5, rfl, HA, HJ5, HO_3, BK130, HB⟩ := hcut
    cases kq with
    | zero => exact absurd HA.out (by simp [spec_l4Packed.j1])
    | succ kj5 =>
     have H := HA.out
     clear HA
     simp only [spec_l4Packed.j1] at H
     replace H := Option.bind_eq_some_iff.mp H
     obtain ⟨t131, A100, H⟩ := H
     (try dsimp only at H)
     have A10 := A_ A100
     clear A100
     replace H := Option.bind_eq_some_iff.mp H
     obtain ⟨t132, A110, H⟩ := H
     (try dsimp only at H)
     have A11 := A_ A110
     clear A110
     by_cases c12 : x3_1.length + t132.length < 140737488355328
     {
     rw [if_pos c12] at H
     have LMc12 := A_ c12
     clear c12
     obtain ⟨y135, hy135⟩ : ∃ y_ : List Int, y_ = (x3_1 ++ t132) := ⟨_, rfl⟩
     replace H : (if 0 ≤ t131 then (if t131 ≤ (((rd_T49 l0 x5_1).f0).size : Int) then ((spec_l1Text.f kj5 (((rd_T49 l0 x5_1).f0).extract (t131 : Int).toNat ((rd_T49 l0 x5_1).f0).size)).bind fun t138 => (if y135.length + t138.length < 140737488355328 then ((some (y135 ++ t138 : List Int)).bind fun y141 => ((spec_l4Flag.f ((rd_T49 l0 x5_1).f3)).bind fun t144 => ((spec_l1Number.f kj5 (wrap64 ((wrap64 (2 * ((rd_T49 l0 x5_1).f2))) + t144))).bind fun t145 => (if y141.length + t145.length < 140737488355328 then ((some (y141 ++ t145 : List Int)).bind fun y148 => ((spec_l1Text.f kj5 ((rd_T49 l0 x5_1).f1)).bind fun t151 => (if y148.length + t151.length < 140737488355328 then (spec_l4Packed.l0 kj5 l0 (y148 ++ t151) ((rd_T49 l0 x5_1).f0) (wrap64 (x5_1 + 1))) else (none)))) else (none))))) else (none))) else (none)) else (none)) = some r := by first | (rw [hy135]; with_reducible exact H) | (have H2_ := (Option.bind_some _ _).symm.trans H; rw [hy135]; with_reducible exact H2_) | (have H2_ := (Option.bind_some _ _).symm.trans H; with_reducible exact H2_) | with_reducible exact H | (rw [hy135]; exact H) | exact H
     have Ny135 := A_ hy135
     clear hy135
     by_cases c13 : 0 ≤ t131
     {
     rw [if_pos c13] at H
     have c13b0 := eq_true c13
     have c13b1 : decide (0 ≤ t131) = true := decide_eq_true c13
     clear c13
     by_cases c14 : t131 ≤ (((rd_T49 l0 x5_1).f0).size : Int)
     {
     rw [if_pos c14] at H
     have c14b0 := eq_true c14
     have c14b1 : decide (t131 ≤ (((rd_T49 l0 x5_1).f0).size : Int)) = true := decide_eq_true c14
     clear c14
     replace H := Option.bind_eq_some_iff.mp H
     obtain ⟨t138, A150, H⟩ := H
     (try dsimp only at H)
     have A15 := A_ A150
     clear A150
     by_cases c16 : y135.length + t138.length < 140737488355328
     {
     rw [if_pos c16] at H
     have LMc16 := A_ c16
     clear c16
     obtain ⟨y141, hy141⟩ : ∃ y_ : List Int, y_ = (y135 ++ t138) := ⟨_, rfl⟩
     replace H : ((spec_l4Flag.f ((rd_T49 l0 x5_1).f3)).bind fun t144 => ((spec_l1Number.f kj5 (wrap64 ((wrap64 (2 * ((rd_T49 l0 x5_1).f2))) + t144))).bind fun t145 => (if y141.length + t145.length < 140737488355328 then ((some (y141 ++ t145 : List Int)).bind fun y148 => ((spec_l1Text.f kj5 ((rd_T49 l0 x5_1).f1)).bind fun t151 => (if y148.length + t151.length < 140737488355328 then (spec_l4Packed.l0 kj5 l0 (y148 ++ t151) ((rd_T49 l0 x5_1).f0) (wrap64 (x5_1 + 1))) else (none)))) else (none)))) = some r := by first | (rw [hy141]; with_reducible exact H) | (have H2_ := (Option.bind_some _ _).symm.trans H; rw [hy141]; with_reducible exact H2_) | (have H2_ := (Option.bind_some _ _).symm.trans H; with_reducible exact H2_) | with_reducible exact H | (rw [hy141]; exact H) | exact H
     have Ny141 := A_ hy141
     clear hy141
     replace H := Option.bind_eq_some_iff.mp H
     obtain ⟨t144, A170, H⟩ := H
     (try dsimp only at H)
     have A17 := A_ A170
     clear A170
     replace H := Option.bind_eq_some_iff.mp H
     obtain ⟨t145, A180, H⟩ := H
     (try dsimp only at H)
     have A18 := A_ A180
     clear A180
     by_cases c19 : y141.length + t145.length < 140737488355328
     {
     rw [if_pos c19] at H
     have LMc19 := A_ c19
     clear c19
     obtain ⟨y148, hy148⟩ : ∃ y_ : List Int, y_ = (y141 ++ t145) := ⟨_, rfl⟩
     replace H : ((spec_l1Text.f kj5 ((rd_T49 l0 x5_1).f1)).bind fun t151 => (if y148.length + t151.length < 140737488355328 then (spec_l4Packed.l0 kj5 l0 (y148 ++ t151) ((rd_T49 l0 x5_1).f0) (wrap64 (x5_1 + 1))) else (none))) = some r := by first | (rw [hy148]; with_reducible exact H) | (have H2_ := (Option.bind_some _ _).symm.trans H; rw [hy148]; with_reducible exact H2_) | (have H2_ := (Option.bind_some _ _).symm.trans H; with_reducible exact H2_) | with_reducible exact H | (rw [hy148]; exact H) | exact H
     have Ny148 := A_ hy148
     clear hy148
     replace H := Option.bind_eq_some_iff.mp H
     obtain ⟨t151, A200, H⟩ := H
     (try dsimp only at H)
     have A20 := A_ A200
     clear A200
     by_cases c21 : y148.length + t151.length < 140737488355328
     {
     rw [if_pos c21] at H
     have LMc21 := A_ c21
     clear c21
     obtain ⟨y154, hy154⟩ : ∃ y_ : List Int, y_ = (y148 ++ t151) := ⟨_, rfl⟩
     replace H : (spec_l4Packed.l0 kj5 l0 y154 ((rd_T49 l0 x5_1).f0) (wrap64 (x5_1 + 1))) = some r := by first | (rw [hy154]; with_reducible exact H) | (have H2_ := (Option.bind_some _ _).symm.trans H; rw [hy154]; with_reducible exact H2_) | (have H2_ := (Option.bind_some _ _).symm.trans H; with_reducible exact H2_) | with_reducible exact H | (rw [hy154]; exact H) | exact H
     have Ny154 := A_ hy154
     clear hy154
     have H' := A_ H
     clear H
     have hcz22_0 : wc.cell? ⟨gb130, 0, none⟩ = some (.string ((rd_T49 l0 x5_1).f0)) := (blk_cell BK130.out 0).trans rfl
     have hcz22_1 : wc.cell? ⟨gb130, 1, none⟩ = some (.string ((rd_T49 l0 x5_1).f1)) := (blk_cell BK130.out 1).trans rfl
     have hcz22_2 : wc.cell? ⟨gb130, 2, none⟩ = some (.int .i64 ((rd_T49 l0 x5_1).f2)) := (blk_cell BK130.out 2).trans rfl
     have hcz22_3 : wc.cell? ⟨gb130, 3, none⟩ = some (.bool ((rd_T49 l0 x5_1).f3)) := (blk_cell BK130.out 3).trans rfl
     have hfz22_0 := blk_frozen BK130.out 0
     have hfz22_1 := blk_frozen BK130.out 1
     have hfz22_2 := blk_frozen BK130.out 2
     have hfz22_3 := blk_frozen BK130.out 3
     try go_wp2_with (first | ((with_reducible refine gate_callee (f := 69) rfl ?_); refine goesL_ (some 27) rfl rfl Try.func69 (by kernel_rfl) rfl #[.string x4_5, .string ((rd_T49 l0 x5_1).f0)] rfl z88e ?_; (with_reducible refine (spec_Common.calls kj5 x4_5 ((rd_T49 l0 x5_1).f0) t131 _ A10.out).mono ?_); rintro e w' ⟨rfl, ⟨nd, rfl⟩⟩; refine ⟨_, rfl, ?_⟩))
     (try (rw [drewN_self wc]; generalize hq_ : World.drewN wc _ = wc; have n0_ : Aside0 (Kd.R (Kd.int .u8) 5 wc w.heap.size (fun _ => True) u3 x3_1) := ⟨by rw [← hq_]; exact (by (with_reducible repeat (first | apply Kd.R_alloc | apply Kd.R_drewN | apply Kd.R_drew)); exact HO_3.out)⟩; have n1_ : Aside0 (wc.heap[gb130]? = some (.cells #[.string ((rd_T49 l0 x5_1).f0), .string ((rd_T49 l0 x5_1).f1), .int .i64 ((rd_T49 l0 x5_1).f2), .bool ((rd_T49 l0 x5_1).f3)] 49 (0, 0))) := ⟨by rw [← hq_]; exact z88d⟩; have n2_ : Aside0 (Below w.heap.size w wc) := ⟨by rw [← hq_]; exact z88a⟩; clear HO_3 BK130 HB hq_; have HO_3 := n0_; have BK130 := n1_; have HB := n2_; clear n0_ n1_ n2_))
     replace HO_3 := A_ (Kd.R_drew HO_3.out)
     replace BK130 := A_ (blk_drew BK130.out)
     replace HB := A_ (below_drew1 HB.out)
     refine start_ (n := 11) (S := fun w' => w'.cell? ⟨gb130, 0, none⟩ = some (.string ((rd_T49 l0 x5_1).f0)) ∧ w'.cell? ⟨gb130, 1, none⟩ = some (.string ((rd_T49 l0 x5_1).f1)) ∧ w'.cell? ⟨gb130, 2, none⟩ = some (.int .i64 ((rd_T49 l0 x5_1).f2)) ∧ w'.cell? ⟨gb130, 3, none⟩ = some (.bool ((rd_T49 l0 x5_1).f3))) (ds := []) (bs "XXXXXXXXXXX") (by kernel_rfl) rfl rfl ⟨(blk_cell BK130.out 0).trans rfl, (blk_cell BK130.out 1).trans rfl, (blk_cell BK130.out 2).trans rfl, (blk_cell BK130.out 3).trans rfl⟩ (fun hHeld => ?_); refine with_tabW spec_l4Packed.tab10 spec_l4Packed.bits10 (fun HT_ HW_ => ?_)
     generalize wc.drew = w23 at HO_3 BK130 HB hHeld ⊢
     refine pu_ 0 (some 28) (bs "YXXXXXXXXXX") ?_
     refine pu_ 1 (some 29) (bs "YYXXXXXXXXX") ?_
     refine pu_ 4 (some 32) (bs "YYXXYXXXXXX") ?_
     refine pu_ 6 (some 34) (bs "YYXXYXYXXXX") ?_
     refine take_ (i := 5) (N := some 33) (v := _) (a' := _) (bs "YYXXYYYXXXX") rfl rfl (take_ofW HT_.out HW_.out (by kernel_rfl)) (fun _ _ _ h => h) (Or.inl ⟨by rfl, (by rintro w' ⟨s0, s1, s2, s3⟩; go_simp; with_reducible rfl)⟩) hHeld z88b ?_
     refine pu_ 7 (some 35) (bs "YYXXYYYYXXX") ?_
     refine one_ (i := 2) (N := some 30) (bs "YYYXYYYYXXX") rfl rfl (one_of HT_.out (by kernel_rfl)) (by decide) (fun K hK => ?_)
     refine goes_ Try.func71 (by kernel_rfl) rfl #[.int .i64 t131] (by rfl) rfl rfl z88e ?_
     with_reducible refine (spec_l1Number.calls kj5 t131 t132 _ A11.out).mono ?_
     rintro e w24 ⟨v133, rfl, ho0, hb⟩
     refine ⟨_, rfl, ?_⟩
     have n0_ := A_ (Kd.R_elder' (by (with_reducible repeat (first | apply Kd.R_alloc | apply Kd.R_drewN | apply Kd.R_drew)); exact HO_3.out) (Kd.R_base ho0) hb)
     have n1_ := A_ (Kd.R_lower (Kd.R_new' ho0 (Kd.R_lt (by (with_reducible repeat (first | apply Kd.R_alloc | apply Kd.R_drewN | apply Kd.R_drew)); exact HO_3.out))) (below_size z88a))
     have n2_ := A_ (blk_below (g := gb130) (o := .cells #[.string ((rd_T49 l0 x5_1).f0), .string ((rd_T49 l0 x5_1).f1), .int .i64 ((rd_T49 l0 x5_1).f2), .bool ((rd_T49 l0 x5_1).f3)] 49 (0, 0)) z88d hb)
     have n3_ := A_ (below_step z88a hb)
     clear HO_3
     clear BK130
     clear HB
     have HO_3 := n0_
     have HO134 := n1_
     have BK130 := n2_
     have HB := n3_
     clear n0_ n1_ n2_ n3_
     obtain ⟨Ao26, co26, eo26⟩ := Kd.R_slice HO134.out
     (first | subst eo26 | (injection eo26 with f1_ f2_ f3_; have f4_ := f1_.symm; have f5_ := f3_.symm; clear f1_ f2_ f3_; subst f4_; subst f5_))
     refine hK.out _ _ ⟨(blk_cell BK130.out 0).trans rfl, (blk_cell BK130.out 1).trans rfl, (blk_cell BK130.out 2).trans rfl, (blk_cell BK130.out 3).trans rfl⟩ (fun hHeld => ?_)
     clear hK K
     refine norm_ (nz_ 30) ?_
     refine one_ (i := 3) (N := some 31) (bs "YYYYYYYYXXX") rfl rfl (one_of HT_.out (by kernel_rfl)) (by decide) (fun K hK => ?_)
     refine Kd.R_append_rows_step (Kd.int .u8) (w0 := w) w.heap.size (by rfl) (.tmp 28) (.tmp 30) 22 5 (.int .u8 0) 1 rfl Try.underlying22 info5 rfl (by decide) (by omega) u3 x3_1 t132 _ _ _ (fun k_ => some k_ ≠ (.slice Ao26 t132.length co26 : Value).ownBlock) (fun _ => False) rfl rfl ?aO ?aR (fun _ _ h => h) (fun _ h => h.elim) ?aF ?aB ?aS ?aL ?_
     (case aR => exact (by repeat (first | exact (Kd.R_reads' HO134.out).2.2 | (with_reducible refine Kd.C_alloc ?_ _) | (with_reducible refine Kd.C_drewN ?_ _) | (with_reducible refine Kd.C_drew ?_))))
     (case aB => exact z88a)
     (case aF => exact (fun k_ hk => Kd.fresh' (Kd.R_lt z88c) k_ hk))
     (case aO => exact (by (with_reducible repeat (first | apply Kd.R_alloc | apply Kd.R_drewN | apply Kd.R_drew)); exact Kd.R_mono HO_3.out (fun _ hk => hk.2)))
     (case aS => exact (below_size z88a))
     (case aL => have := LMc12.out; omega)
     intro v136 w25 ho hb hg hat
     rw [← Ny135.out] at ho
     have n0_ := A_ (blk_grown (g := gb130) (o := .cells #[.string ((rd_T49 l0 x5_1).f0), .string ((rd_T49 l0 x5_1).f1), .int .i64 ((rd_T49 l0 x5_1).f2), .bool ((rd_T49 l0 x5_1).f3)] 49 (0, 0)) z88d hg (Kd.R_ne HO_3.out BK130.out (by decide)))
     have n1_ := A_ (Kd.R_after (ok := (fun _ => True)) z88c hg hat)
     have n2_ := A_ (hb)
     have n3_ := A_ (ho)
     clear BK130
     clear HO134
     clear HB
     clear HO_3
     have BK130 := n0_
     have HO134 := n1_
     have HB := n2_
     have HO137 := n3_
     clear n0_ n1_ n2_ n3_
     clear ho hb hg hat
     refine hK.out _ _ ⟨(blk_cell BK130.out 0).trans rfl, (blk_cell BK130.out 1).trans rfl, (blk_cell BK130.out 2).trans rfl, (blk_cell BK130.out 3).trans rfl⟩ (fun hHeld => ?_)
     clear hK K
     refine norm_ (nz_ 31) ?_
     refine one_ (i := 8) (N := some 36) (bs "YYYYYYYYYXX") rfl rfl (one_of HT_.out (by kernel_rfl)) (by decide) (fun K hK => ?_)
     refine goes_ Try.func73 (by kernel_rfl) rfl #[.string (((rd_T49 l0 x5_1).f0).extract (t131 : Int).toNat ((rd_T49 l0 x5_1).f0).size)] (by rfl) rfl rfl z88e ?_
     with_reducible refine (spec_l1Text.calls kj5 (((rd_T49 l0 x5_1).f0).extract (t131 : Int).toNat ((rd_T49 l0 x5_1).f0).size) t138 _ A15.out).mono ?_
     rintro e w27 ⟨v139, rfl, ho0, hb⟩
     refine ⟨_, rfl, ?_⟩
     have n0_ := A_ (Kd.R_elder' z88c (Kd.R_base ho0) hb)
     have n1_ := A_ (Kd.R_elder' (by (with_reducible repeat (first | apply Kd.R_alloc | apply Kd.R_drewN | apply Kd.R_drew)); exact HO137.out) (Kd.R_base ho0) hb)
     have n2_ := A_ (Kd.R_lower (Kd.R_new' (Kd.R_new' ho0 (Kd.R_lt z88c)) (Kd.R_lt (by (with_reducible repeat (first | apply Kd.R_alloc | apply Kd.R_drewN | apply Kd.R_drew)); exact HO137.out))) (below_size z88a))
     have n3_ := A_ (blk_below (g := gb130) (o := .cells #[.string ((rd_T49 l0 x5_1).f0), .string ((rd_T49 l0 x5_1).f1), .int .i64 ((rd_T49 l0 x5_1).f2), .bool ((rd_T49 l0 x5_1).f3)] 49 (0, 0)) z88d hb)
     have n4_ := A_ (below_step z88a hb)
     clear HO134
     clear HO137
     clear BK130
     clear HB
     have HO134 := n0_
     have HO137 := n1_
     have HO140 := n2_
     have BK130 := n3_
     have HB := n4_
     clear n0_ n1_ n2_ n3_ n4_
     obtain ⟨Ao29, co29, eo29⟩ := Kd.R_slice HO140.out
     (first | subst eo29 | (injection eo29 with f1_ f2_ f3_; have f4_ := f1_.symm; have f5_ := f3_.symm; clear f1_ f2_ f3_; subst f4_; subst f5_))
     refine hK.out _ _ ⟨(blk_cell BK130.out 0).trans rfl, (blk_cell BK130.out 1).trans rfl, (blk_cell BK130.out 2).trans rfl, (blk_cell BK130.out 3).trans rfl⟩ (fun hHeld => ?_)
     clear hK K
     refine norm_ (nz_ 36) ?_
     refine one_ (i := 9) (N := some 37) (bs "YYYYYYYYYYX") rfl rfl (one_of HT_.out (by kernel_rfl)) (by decide) (fun K hK => ?_)
     refine Kd.R_append_rows_step (Kd.int .u8) (w0 := w) w.heap.size (by rfl) (.tmp 31) (.tmp 36) 22 5 (.int .u8 0) 1 rfl Try.underlying22 info5 rfl (by decide) (by omega) v136 y135 t138 _ _ _ (fun k_ => some k_ ≠ (.slice Ao26 t132.length co26 : Value).ownBlock ∧ some k_ ≠ (.slice Ao29 t138.length co29 : Value).ownBlock) (fun _ => False) rfl rfl ?aO ?aR (fun _ _ h => h) (fun _ h => h.elim) ?aF ?aB ?aS ?aL ?_
     (case aR => exact (by repeat (first | exact (Kd.R_reads' HO140.out).2.2 | (with_reducible refine Kd.C_alloc ?_ _) | (with_reducible refine Kd.C_drewN ?_ _) | (with_reducible refine Kd.C_drew ?_))))
     (case aB => exact z88a)
     (case aF => exact (fun k_ hk => ⟨Kd.fresh' (Kd.R_lt z88c) k_ hk, Kd.fresh' (Kd.R_lt z88f) k_ hk⟩))
     (case aO => exact (by (with_reducible repeat (first | apply Kd.R_alloc | apply Kd.R_drewN | apply Kd.R_drew)); exact HO137.out))
     (case aS => exact (below_size z88a))
     (case aL => have := LMc16.out; omega)
     intro v142 w28 ho hb hg hat
     rw [← Ny141.out] at ho
     have n0_ := A_ (blk_grown (g := gb130) (o := .cells #[.string ((rd_T49 l0 x5_1).f0), .string ((rd_T49 l0 x5_1).f1), .int .i64 ((rd_T49 l0 x5_1).f2), .bool ((rd_T49 l0 x5_1).f3)] 49 (0, 0)) z88d hg (Kd.R_ne HO137.out BK130.out (by decide)))
     have n1_ := A_ (Kd.R_after (ok := (fun k_ => some k_ ≠ (.slice Ao29 t138.length co29 : Value).ownBlock)) (by (with_reducible repeat (first | apply Kd.R_alloc | apply Kd.R_drewN | apply Kd.R_drew)); exact Kd.R_mono HO134.out (fun _ hk => ⟨hk.2, hk.1.2⟩)) hg hat)
     have n2_ := A_ (Kd.R_after (ok := (fun k_ => some k_ ≠ (.slice Ao26 t132.length co26 : Value).ownBlock)) (by (with_reducible repeat (first | apply Kd.R_alloc | apply Kd.R_drewN | apply Kd.R_drew)); exact Kd.R_mono HO140.out (fun _ hk => ⟨hk.1.2, hk.2⟩)) hg hat)
     have n3_ := A_ (hb)
     have n4_ := A_ (ho)
     clear BK130
     clear HO134
     clear HO140
     clear HB
     clear HO137
     have BK130 := n0_
     have HO134 := n1_
     have HO140 := n2_
     have HB := n3_
     have HO143 := n4_
     clear n0_ n1_ n2_ n3_ n4_
     clear ho hb hg hat
     refine hK.out _ _ ⟨(blk_cell BK130.out 0).trans rfl, (blk_cell BK130.out 1).trans rfl, (blk_cell BK130.out 2).trans rfl, (blk_cell BK130.out 3).trans rfl⟩ (fun hHeld => ?_)
     clear hK K
     refine norm_ (nz_ 37) ?_
     refine pu_ 10 (some 3) (bs "YYYYYYYYYYY") ?_
     refine done_ (done_of HT_.out (by kernel_rfl)) ?_
     try go_wp2
     replace HO134 := A_ (Kd.R_drew HO134.out)
     replace HO140 := A_ (Kd.R_drew HO140.out)
     replace HO143 := A_ (Kd.R_drew HO143.out)
     replace BK130 := A_ (blk_drew BK130.out)
     replace HB := A_ (below_drew1 HB.out)
     refine start_ (n := 15) (S := fun w' => w'.cell? ⟨gb130, 0, none⟩ = some (.string ((rd_T49 l0 x5_1).f0)) ∧ w'.cell? ⟨gb130, 1, none⟩ = some (.string ((rd_T49 l0 x5_1).f1)) ∧ w'.cell? ⟨gb130, 2, none⟩ = some (.int .i64 ((rd_T49 l0 x5_1).f2)) ∧ w'.cell? ⟨gb130, 3, none⟩ = some (.bool ((rd_T49 l0 x5_1).f3))) (ds := []) (bs "XXXXXXXXXXXXXXX") (by kernel_rfl) rfl rfl ⟨(blk_cell BK130.out 0).trans rfl, (blk_cell BK130.out 1).trans rfl, (blk_cell BK130.out 2).trans rfl, (blk_cell BK130.out 3).trans rfl⟩ (fun hHeld => ?_); refine with_tabW spec_l4Packed.tab11 spec_l4Packed.bits11 (fun HT_ HW_ => ?_)
     generalize w28.drew = w30 at HO134 HO140 HO143 BK130 HB hHeld ⊢
     refine pu_ 0 (some 38) (bs "YXXXXXXXXXXXXXX") ?_
     refine pu_ 1 (some 39) (bs "YYXXXXXXXXXXXXX") ?_
     refine pu_ 4 (some 42) (bs "YYXXYXXXXXXXXXX") ?_
     refine pu_ 10 (some 48) (bs "YYXXYXXXXXYXXXX") ?_
     refine take_ (i := 2) (N := some 40) (v := _) (a' := _) (bs "YYYXYXXXXXYXXXX") rfl rfl (take_ofW HT_.out HW_.out (by kernel_rfl)) (fun _ _ _ h => h) (Or.inl ⟨by rfl, (by rintro w' ⟨s0, s1, s2, s3⟩; go_simp; with_reducible rfl)⟩) hHeld z88b ?_
     refine pu_ 3 (some 41) (bs "YYYYYXXXXXYXXXX") ?_
     refine take_ (i := 5) (N := some 43) (v := _) (a' := _) (bs "YYYYYYXXXXYXXXX") rfl rfl (take_ofW HT_.out HW_.out (by kernel_rfl)) (fun _ _ _ h => h) (Or.inl ⟨by rfl, (by rintro w' ⟨s0, s1, s2, s3⟩; go_simp; with_reducible rfl)⟩) hHeld z88b ?_
     refine take_ (i := 11) (N := some 49) (v := _) (a' := _) (bs "YYYYYYXXXXYYXXX") rfl rfl (take_ofW HT_.out HW_.out (by kernel_rfl)) (fun _ _ _ h => h) (Or.inl ⟨by rfl, (by rintro w' ⟨s0, s1, s2, s3⟩; go_simp; with_reducible rfl)⟩) hHeld z88b ?_
     refine one_ (i := 6) (N := some 44) (bs "YYYYYYYXXXYYXXX") rfl rfl (one_of HT_.out (by kernel_rfl)) (by decide) (fun K hK => ?_)
     refine goes_ Try.func105 (by kernel_rfl) rfl #[.bool ((rd_T49 l0 x5_1).f3)] (by rfl) rfl rfl z88e ?_
     with_reducible refine (spec_l4Flag.calls ((rd_T49 l0 x5_1).f3) t144 _ A17.out).mono ?_
     rintro e w' ⟨rfl, ⟨nd, rfl⟩⟩
     refine ⟨_, rfl, ?_⟩
     refine hK.out _ _ ⟨(blk_cell BK130.out 0).trans rfl, (blk_cell BK130.out 1).trans rfl, (blk_cell BK130.out 2).trans rfl, (blk_cell BK130.out 3).trans rfl⟩ (fun hHeld => ?_)
     clear hK K
     refine norm_ (nz_ 44) ?_
     refine pu_ 7 (some 45) (bs "YYYYYYYYXXYYXXX") ?_
     refine one_ (i := 8) (N := some 46) (bs "YYYYYYYYYXYYXXX") rfl rfl (one_of HT_.out (by kernel_rfl)) (by decide) (fun K hK => ?_)
     refine goes_ Try.func71 (by kernel_rfl) rfl #[.int .i64 (wrap64 ((wrap64 (2 * ((rd_T49 l0 x5_1).f2))) + t144))] (by rfl) rfl rfl z88e ?_
     with_reducible refine (spec_l1Number.calls kj5 (wrap64 ((wrap64 (2 * ((rd_T49 l0 x5_1).f2))) + t144)) t145 _ A18.out).mono ?_
     rintro e w31 ⟨v146, rfl, ho0, hb⟩
     refine ⟨_, rfl, ?_⟩
     have n0_ := A_ (Kd.R_elder' z88c (Kd.R_base ho0) hb)
     have n1_ := A_ (Kd.R_elder' z88f (Kd.R_base ho0) hb)
     have n2_ := A_ (Kd.R_elder' (by (with_reducible repeat (first | apply Kd.R_alloc | apply Kd.R_drewN | apply Kd.R_drew)); exact HO143.out) (Kd.R_base ho0) hb)
     have n3_ := A_ (Kd.R_lower (Kd.R_new' (Kd.R_new' (Kd.R_new' ho0 (Kd.R_lt z88c)) (Kd.R_lt z88f)) (Kd.R_lt (by (with_reducible repeat (first | apply Kd.R_alloc | apply Kd.R_drewN | apply Kd.R_drew)); exact HO143.out))) (below_size z88a))
     have n4_ := A_ (blk_below (g := gb130) (o := .cells #[.string ((rd_T49 l0 x5_1).f0), .string ((rd_T49 l0 x5_1).f1), .int .i64 ((rd_T49 l0 x5_1).f2), .bool ((rd_T49 l0 x5_1).f3)] 49 (0, 0)) z88d hb)
     have n5_ := A_ (below_step z88a hb)
     clear HO134
     clear HO140
     clear HO143
     clear BK130
     clear HB
     have HO134 := n0_
     have HO140 := n1_
     have HO143 := n2_
     have HO147 := n3_
     have BK130 := n4_
     have HB := n5_
     clear n0_ n1_ n2_ n3_ n4_ n5_
     obtain ⟨Ao33, co33, eo33⟩ := Kd.R_slice HO147.out
     (first | subst eo33 | (injection eo33 with f1_ f2_ f3_; have f4_ := f1_.symm; have f5_ := f3_.symm; clear f1_ f2_ f3_; subst f4_; subst f5_))
     refine hK.out _ _ ⟨(blk_cell BK130.out 0).trans rfl, (blk_cell BK130.out 1).trans rfl, (blk_cell BK130.out 2).trans rfl, (blk_cell BK130.out 3).trans rfl⟩ (fun hHeld => ?_)
     clear hK K
     refine norm_ (nz_ 46) ?_
     refine one_ (i := 9) (N := some 47) (bs "YYYYYYYYYYYYXXX") rfl rfl (one_of HT_.out (by kernel_rfl)) (by decide) (fun K hK => ?_)
     refine Kd.R_append_rows_step (Kd.int .u8) (w0 := w) w.heap.size (by rfl) (.tmp 38) (.tmp 46) 22 5 (.int .u8 0) 1 rfl Try.underlying22 info5 rfl (by decide) (by omega) v142 y141 t145 _ _ _ (fun k_ => some k_ ≠ (.slice Ao26 t132.length co26 : Value).ownBlock ∧ some k_ ≠ (.slice Ao29 t138.length co29 : Value).ownBlock ∧ some k_ ≠ (.slice Ao33 t145.length co33 : Value).ownBlock) (fun _ => False) rfl rfl ?aO ?aR (fun _ _ h => h) (fun _ h => h.elim) ?aF ?aB ?aS ?aL ?_
     (case aR => exact (by repeat (first | exact (Kd.R_reads' HO147.out).2.2 | (with_reducible refine Kd.C_alloc ?_ _) | (with_reducible refine Kd.C_drewN ?_ _) | (with_reducible refine Kd.C_drew ?_))))
     (case aB => exact z88a)
     (case aF => exact (fun k_ hk => ⟨Kd.fresh' (Kd.R_lt z88c) k_ hk, Kd.fresh' (Kd.R_lt z88f) k_ hk, Kd.fresh' (Kd.R_lt (by (with_reducible repeat (first | apply Kd.R_alloc | apply Kd.R_drewN | apply Kd.R_drew)); exact HO147.out)) k_ hk⟩))
     (case aO => exact (by (with_reducible repeat (first | apply Kd.R_alloc | apply Kd.R_drewN | apply Kd.R_drew)); exact Kd.R_mono HO143.out (fun _ hk => ⟨hk.1.1, ⟨hk.1.2, hk.2⟩⟩)))
     (case aS => exact (below_size z88a))
     (case aL => have := LMc19.out; omega)
     intro v149 w32 ho hb hg hat
     rw [← Ny148.out] at ho
     have n0_ := A_ (blk_grown (g := gb130) (o := .cells #[.string ((rd_T49 l0 x5_1).f0), .string ((rd_T49 l0 x5_1).f1), .int .i64 ((rd_T49 l0 x5_1).f2), .bool ((rd_T49 l0 x5_1).f3)] 49 (0, 0)) z88d hg (Kd.R_ne HO143.out BK130.out (by decide)))
     have n1_ := A_ (Kd.R_after (ok := (fun k_ => some k_ ≠ (.slice Ao29 t138.length co29 : Value).ownBlock ∧ some k_ ≠ (.slice Ao33 t145.length co33 : Value).ownBlock)) (by (with_reducible repeat (first | apply Kd.R_alloc | apply Kd.R_drewN | apply Kd.R_drew)); exact Kd.R_mono HO134.out (fun _ hk => ⟨⟨hk.1.1, hk.2⟩, hk.1.2⟩)) hg hat)
     have n2_ := A_ (Kd.R_after (ok := (fun k_ => some k_ ≠ (.slice Ao26 t132.length co26 : Value).ownBlock ∧ some k_ ≠ (.slice Ao33 t145.length co33 : Value).ownBlock)) (by (with_reducible repeat (first | apply Kd.R_alloc | apply Kd.R_drewN | apply Kd.R_drew)); exact Kd.R_mono HO140.out (fun _ hk => ⟨⟨hk.1.1, hk.2⟩, hk.1.2⟩)) hg hat)
     have n3_ := A_ (Kd.R_after (ok := (fun k_ => some k_ ≠ (.slice Ao26 t132.length co26 : Value).ownBlock ∧ some k_ ≠ (.slice Ao29 t138.length co29 : Value).ownBlock)) (by (with_reducible repeat (first | apply Kd.R_alloc | apply Kd.R_drewN | apply Kd.R_drew)); exact Kd.R_mono HO147.out (fun _ hk => ⟨⟨hk.1.1.2, hk.1.2⟩, hk.2⟩)) hg hat)
     have n4_ := A_ (hb)
     have n5_ := A_ (ho)
     clear BK130
     clear HO134
     clear HO140
     clear HO147
     clear HB
     clear HO143
     have BK130 := n0_
     have HO134 := n1_
     have HO140 := n2_
     have HO147 := n3_
     have HB := n4_
     have HO150 := n5_
     clear n0_ n1_ n2_ n3_ n4_ n5_
     clear ho hb hg hat
     refine hK.out _ _ ⟨(blk_cell BK130.out 0).trans rfl, (blk_cell BK130.out 1).trans rfl, (blk_cell BK130.out 2).trans rfl, (blk_cell BK130.out 3).trans rfl⟩ (fun hHeld => ?_)
     clear hK K
     refine norm_ (nz_ 47) ?_
     refine one_ (i := 12) (N := some 50) (bs "YYYYYYYYYYYYYXX") rfl rfl (one_of HT_.out (by kernel_rfl)) (by decide) (fun K hK => ?_)
     refine goes_ Try.func73 (by kernel_rfl) rfl #[.string ((rd_T49 l0 x5_1).f1)] (by rfl) rfl rfl z88e ?_
     with_reducible refine (spec_l1Text.calls kj5 ((rd_T49 l0 x5_1).f1) t151 _ A20.out).mono ?_
     rintro e w34 ⟨v152, rfl, ho0, hb⟩
     refine ⟨_, rfl, ?_⟩
     have n0_ := A_ (Kd.R_elder' z88c (Kd.R_base ho0) hb)
     have n1_ := A_ (Kd.R_elder' z88f (Kd.R_base ho0) hb)
     have n2_ := A_ (Kd.R_elder' (by (with_reducible repeat (first | apply Kd.R_alloc | apply Kd.R_drewN | apply Kd.R_drew)); exact HO147.out) (Kd.R_base ho0) hb)
     have n3_ := A_ (Kd.R_elder' (by (with_reducible repeat (first | apply Kd.R_alloc | apply Kd.R_drewN | apply Kd.R_drew)); exact HO150.out) (Kd.R_base ho0) hb)
     have n4_ := A_ (Kd.R_lower (Kd.R_new' (Kd.R_new' (Kd.R_new' (Kd.R_new' ho0 (Kd.R_lt z88c)) (Kd.R_lt z88f)) (Kd.R_lt (by (with_reducible repeat (first | apply Kd.R_alloc | apply Kd.R_drewN | apply Kd.R_drew)); exact HO147.out))) (Kd.R_lt (by (with_reducible repeat (first | apply Kd.R_alloc | apply Kd.R_drewN | apply Kd.R_drew)); exact HO150.out))) (below_size z88a))
     have n5_ := A_ (blk_below (g := gb130) (o := .cells #[.string ((rd_T49 l0 x5_1).f0), .string ((rd_T49 l0 x5_1).f1), .int .i64 ((rd_T49 l0 x5_1).f2), .bool ((rd_T49 l0 x5_1).f3)] 49 (0, 0)) z88d hb)
     have n6_ := A_ (below_step z88a hb)
     clear HO134
     clear HO140
     clear HO147
     clear HO150
     clear BK130
     clear HB
     have HO134 := n0_
     have HO140 := n1_
     have HO147 := n2_
     have HO150 := n3_
     have HO153 := n4_
     have BK130 := n5_
     have HB := n6_
     clear n0_ n1_ n2_ n3_ n4_ n5_ n6_
     obtain ⟨Ao36, co36, eo36⟩ := Kd.R_slice HO153.out
     (first | subst eo36 | (injection eo36 with f1_ f2_ f3_; have f4_ := f1_.symm; have f5_ := f3_.symm; clear f1_ f2_ f3_; subst f4_; subst f5_))
     refine hK.out _ _ ⟨(blk_cell BK130.out 0).trans rfl, (blk_cell BK130.out 1).trans rfl, (blk_cell BK130.out 2).trans rfl, (blk_cell BK130.out 3).trans rfl⟩ (fun hHeld => ?_)
     clear hK K
     refine norm_ (nz_ 50) ?_
     refine one_ (i := 13) (N := some 51) (bs "YYYYYYYYYYYYYYX") rfl rfl (one_of HT_.out (by kernel_rfl)) (by decide) (fun K hK => ?_)
     refine Kd.R_append_rows_step (Kd.int .u8) (w0 := w) w.heap.size (by rfl) (.tmp 47) (.tmp 50) 22 5 (.int .u8 0) 1 rfl Try.underlying22 info5 rfl (by decide) (by omega) v149 y148 t151 _ _ _ (fun k_ => some k_ ≠ (.slice Ao26 t132.length co26 : Value).ownBlock ∧ some k_ ≠ (.slice Ao29 t138.length co29 : Value).ownBlock ∧ some k_ ≠ (.slice Ao33 t145.length co33 : Value).ownBlock ∧ some k_ ≠ (.slice Ao36 t151.length co36 : Value).ownBlock) (fun _ => False) rfl rfl ?aO ?aR (fun _ _ h => h) (fun _ h => h.elim) ?aF ?aB ?aS ?aL ?_
     (case aR => exact (by repeat (first | exact (Kd.R_reads' HO153.out).2.2 | (with_reducible refine Kd.C_alloc ?_ _) | (with_reducible refine Kd.C_drewN ?_ _) | (with_reducible refine Kd.C_drew ?_))))
     (case aB => exact z88a)
     (case aF => exact (fun k_ hk => ⟨Kd.fresh' (Kd.R_lt z88c) k_ hk, Kd.fresh' (Kd.R_lt z88f) k_ hk, Kd.fresh' (Kd.R_lt (by (with_reducible repeat (first | apply Kd.R_alloc | apply Kd.R_drewN | apply Kd.R_drew)); exact HO147.out)) k_ hk, Kd.fresh' (Kd.R_lt (by (with_reducible repeat (first | apply Kd.R_alloc | apply Kd.R_drewN | apply Kd.R_drew)); exact HO153.out)) k_ hk⟩))
     (case aO => exact (by (with_reducible repeat (first | apply Kd.R_alloc | apply Kd.R_drewN | apply Kd.R_drew)); exact Kd.R_mono HO150.out (fun _ hk => ⟨hk.1.1, ⟨hk.1.2.1, ⟨hk.1.2.2, hk.2⟩⟩⟩)))
     (case aS => exact (below_size z88a))
     (case aL => have := LMc21.out; omega)
     intro v155 w35 ho hb hg hat
     rw [← Ny154.out] at ho
     have n0_ := A_ (blk_grown (g := gb130) (o := .cells #[.string ((rd_T49 l0 x5_1).f0), .string ((rd_T49 l0 x5_1).f1), .int .i64 ((rd_T49 l0 x5_1).f2), .bool ((rd_T49 l0 x5_1).f3)] 49 (0, 0)) z88d hg (Kd.R_ne HO150.out BK130.out (by decide)))
     have n1_ := A_ (Kd.R_after (ok := (fun k_ => some k_ ≠ (.slice Ao29 t138.length co29 : Value).ownBlock ∧ some k_ ≠ (.slice Ao33 t145.length co33 : Value).ownBlock ∧ some k_ ≠ (.slice Ao36 t151.length co36 : Value).ownBlock)) (by (with_reducible repeat (first | apply Kd.R_alloc | apply Kd.R_drewN | apply Kd.R_drew)); exact Kd.R_mono HO134.out (fun _ hk => ⟨⟨hk.1.1.1, ⟨hk.1.1.2, hk.2⟩⟩, hk.1.2⟩)) hg hat)
     have n2_ := A_ (Kd.R_after (ok := (fun k_ => some k_ ≠ (.slice Ao26 t132.length co26 : Value).ownBlock ∧ some k_ ≠ (.slice Ao33 t145.length co33 : Value).ownBlock ∧ some k_ ≠ (.slice Ao36 t151.length co36 : Value).ownBlock)) (by (with_reducible repeat (first | apply Kd.R_alloc | apply Kd.R_drewN | apply Kd.R_drew)); exact Kd.R_mono HO140.out (fun _ hk => ⟨⟨hk.1.1.1, ⟨hk.1.1.2, hk.2⟩⟩, hk.1.2⟩)) hg hat)
     have n3_ := A_ (Kd.R_after (ok := (fun k_ => some k_ ≠ (.slice Ao26 t132.length co26 : Value).ownBlock ∧ some k_ ≠ (.slice Ao29 t138.length co29 : Value).ownBlock ∧ some k_ ≠ (.slice Ao36 t151.length co36 : Value).ownBlock)) (by (with_reducible repeat (first | apply Kd.R_alloc | apply Kd.R_drewN | apply Kd.R_drew)); exact Kd.R_mono HO147.out (fun _ hk => ⟨⟨hk.1.1.1, ⟨hk.1.1.2, hk.2⟩⟩, hk.1.2⟩)) hg hat)
     have n4_ := A_ (Kd.R_after (ok := (fun k_ => some k_ ≠ (.slice Ao26 t132.length co26 : Value).ownBlock ∧ some k_ ≠ (.slice Ao29 t138.length co29 : Value).ownBlock ∧ some k_ ≠ (.slice Ao33 t145.length co33 : Value).ownBlock)) (by (with_reducible repeat (first | apply Kd.R_alloc | apply Kd.R_drewN | apply Kd.R_drew)); exact Kd.R_mono HO153.out (fun _ hk => ⟨⟨hk.1.1.1.2, ⟨hk.1.1.2, hk.1.2⟩⟩, hk.2⟩)) hg hat)
     have n5_ := A_ (hb)
     have n6_ := A_ (ho)
     clear BK130
     clear HO134
     clear HO140
     clear HO147
     clear HO153
     clear HB
     clear HO150
     have BK130 := n0_
     have HO134 := n1_
     have HO140 := n2_
     have HO147 := n3_
     have HO153 := n4_
     have HB := n5_
     have HO156 := n6_
     clear n0_ n1_ n2_ n3_ n4_ n5_ n6_
     clear ho hb hg hat
     refine hK.out _ _ ⟨(blk_cell BK130.out 0).trans rfl, (blk_cell BK130.out 1).trans rfl, (blk_cell BK130.out 2).trans rfl, (blk_cell BK130.out 3).trans rfl⟩ (fun hHeld => ?_)
     clear hK K
     refine norm_ (nz_ 51) ?_
     refine pu_ 14 (some 3) (bs "YYYYYYYYYYYYYYY") ?_
     refine done_ (done_of HT_.out (by kernel_rfl)) ?_
     have hcz37_0 : w35.cell? ⟨gb130, 0, none⟩ = some (.string ((rd_T49 l0 x5_1).f0)) := (blk_cell BK130.out 0).trans rfl
     have hcz37_1 : w35.cell? ⟨gb130, 1, none⟩ = some (.string ((rd_T49 l0 x5_1).f1)) := (blk_cell BK130.out 1).trans rfl
     have hcz37_2 : w35.cell? ⟨gb130, 2, none⟩ = some (.int .i64 ((rd_T49 l0 x5_1).f2)) := (blk_cell BK130.out 2).trans rfl
     have hcz37_3 : w35.cell? ⟨gb130, 3, none⟩ = some (.bool ((rd_T49 l0 x5_1).f3)) := (blk_cell BK130.out 3).trans rfl
     have hfz37_0 := blk_frozen BK130.out 0
     have hfz37_1 := blk_frozen BK130.out 1
     have hfz37_2 := blk_frozen BK130.out 2
     have hfz37_3 := blk_frozen BK130.out 3
     try go_wp2
     go_roundg kj5
     case measure => have := HK1.out; have := HJ5.out; omega
     case rel => exact ⟨(y154), (((rd_T49 l0 x5_1).f0)), (wrap64 (x5_1 + 1)), (by first | rfl | (simp; done) | (simp [*]; done)), (by first | rfl | (simp; done) | (simp [*]; done)), H', ⟨by have := HK1.out; have := HJ5.out; omega⟩, ⟨by (with_reducible repeat (first | apply Kd.R_alloc | apply Kd.R_drewN | apply Kd.R_drew)); exact Kd.R_mono HO156.out (fun _ hk => trivial)⟩, ⟨by repeat (first | (with_reducible first | exact HB.out | apply below_alloc | apply pw_below_drewN | apply below_drew1 | refine below_set ?_ GE130.out) | exact HB.out)⟩⟩
     }
     {
     rw [if_neg c21] at H
     exact absurd H (by simp)
     }
     }
     {
     rw [if_neg c19] at H
     exact absurd H (by simp)
     }
     }
     {
     rw [if_neg c16] at H
     exact absurd H (by simp)
     }
     }
     {
     rw [if_neg c14] at H
     exact absurd H (by simp)
     }
     }
     {
     rw [if_neg c13] at H
     exact absurd H (by simp)
     }
     }
     {
     rw [if_neg c12] at H
     exact absurd H (by simp)
     }
   }
   {
   rw [if_neg c5] at H
   exact absurd H (by simp)
   }
   }
   {
   rw [if_neg c4] at H
   have c4b0 : decide (x5_1 < (l0.length : Int)) = false := decide_eq_false c4
   clear c4
   obtain rfl := Option.some.inj H
   go_wp2
   go_ret
   exact ⟨_, by first | rfl | (simp [errW_none, errW_some] <;> rfl) | (simp [*, errW_none, errW_some] <;> rfl), by (with_reducible repeat (first | apply Kd.R_alloc | apply Kd.R_drewN | apply Kd.R_drew)); exact HO_3.out, by repeat (first | (with_reducible first | exact HB.out | apply below_alloc | apply pw_below_drewN | apply below_drew1) | exact HB.out)⟩
   
   }
theorem z48a {p_ : Prop} (h_ : p_ := by repeat (first | (with_reducible first | exact HB.out | apply below_alloc | apply pw_below_drewN | apply below_drew1) | exact HB.out)) : p_ := h_
def spec_Packed.f (k : Nat) (l0 : List (S49)) : Option (List Int) := (spec_EntriesOk.f k l0).bind fun t157 => (if t157 = true then ((spec_l4Packed.f k l0).bind fun t158 => (some t158)) else (some (([] : List Int))))
set_option maxHeartbeats 8000000 in
set_option maxRecDepth 100000 in
theorem spec_Packed.calls (k : Nat) (A0 : Option Addr) (c0 : Nat) (l0 : List (S49)) (r : List Int) (w : World) (hr0 : Kd.C k49 w A0 l0.length l0) (hc0 : l0.length ≤ c0) (h : spec_Packed.f k l0 = some r) :
  Calls Try.prog 48 #[.slice A0 l0.length c0] w fun e w' => ∃ v0_ : Value, e = .returned (v0_) ∧ Kd.R (Kd.int .u8) 5 w' w.heap.size (fun _ => True) v0_ r ∧ Below w.heap.size w w' := by
 have HR0 := A_ hr0
 have HC0 := A_ hc0
 clear hr0 hc0
 have HB := A_ (Below.refl w.heap.size w)
 have H : ((spec_EntriesOk.f k l0).bind fun t157 => (if t157 = true then ((spec_l4Packed.f k l0).bind fun t158 => (some t158)) else (some (([] : List Int))))) = some r := h
 clear h
 replace H := Option.bind_eq_some_iff.mp H
 obtain ⟨t157, A20, H⟩ := H
 (try dsimp only at H)
 have A2 := A_ A20
 clear A20
 by_cases c3 : t157 = true
 {
 subst c3
 rw [if_pos rfl] at H
 replace H := Option.bind_eq_some_iff.mp H
 obtain ⟨t158, A40, H⟩ := H
 (try dsimp only at H)
 have A4 := A_ A40
 clear A40
 obtain rfl := Option.some.inj H
 go_enter Try.func48, Try.ntmps48
 go_wp2_with (first | ((with_reducible refine gate_callee (f := 37) rfl ?_); refine goesL_ (some 4) rfl rfl Try.func37 (by kernel_rfl) rfl #[.slice A0 l0.length c0] rfl (by (try simp only [List.map_toArray, List.map_cons, List.map_nil]); first | done | rfl | (simp only [List.length_drop, List.length_take]; rfl)) ?_; (with_reducible refine (spec_EntriesOk.calls k _ _ l0 true _ ?side1 ?side2 A2.out).mono ?_); (case side1 => exact (by repeat (first | exact HR0.out | (with_reducible refine Kd.C_alloc ?_ _) | (with_reducible refine Kd.C_drewN ?_ _) | (with_reducible refine Kd.C_drew ?_)))); (case side2 => exact HC0.out); rintro e w5 ⟨rfl, hb⟩; refine ⟨_, rfl, ?_⟩; replace HB := A_ (below_step z48a hb)) | ((with_reducible refine gate_callee (f := 88) rfl ?_); refine goesL_ (some 8) rfl rfl Try.func88 (by kernel_rfl) rfl #[.slice A0 l0.length c0] rfl (by (try simp only [List.map_toArray, List.map_cons, List.map_nil]); first | done | rfl | (simp only [List.length_drop, List.length_take]; rfl)) ?_; (with_reducible refine (spec_l4Packed.calls k _ _ l0 t158 _ ?side1 ?side2 A4.out).mono ?_); (case side1 => exact (by repeat (first | exact (Kd.C_below HR0.out HB.out) | (with_reducible refine Kd.C_alloc ?_ _) | (with_reducible refine Kd.C_drewN ?_ _) | (with_reducible refine Kd.C_drew ?_)))); (case side2 => exact HC0.out); rintro e w6 ⟨v159, rfl, ho0, hb⟩; refine ⟨_, rfl, ?_⟩; have n0_ := A_ (Kd.R_lower ho0 (below_size z48a)); have n1_ := A_ (below_step z48a hb); clear HB; have HO160 := n0_; have HB := n1_; clear n0_ n1_))
 go_ret
 exact ⟨_, by first | rfl | (simp [errW_none, errW_some] <;> rfl) | (simp [*, errW_none, errW_some] <;> rfl), by (with_reducible repeat (first | apply Kd.R_alloc | apply Kd.R_drewN | apply Kd.R_drew)); exact HO160.out, by repeat (first | (with_reducible first | exact HB.out | apply below_alloc | apply pw_below_drewN | apply below_drew1) | exact HB.out)⟩
 }
 {
 replace c3 := Bool.eq_false_iff.mpr c3
 subst c3
 rw [if_neg Bool.false_ne_true] at H
 obtain ⟨y161, hy161⟩ : ∃ y_ : List Int, y_ = (([] : List Int)) := ⟨_, rfl⟩
 replace H : (some y161) = some r := by first | (rw [hy161]; with_reducible exact H) | (have H2_ := (Option.bind_some _ _).symm.trans H; rw [hy161]; with_reducible exact H2_) | (have H2_ := (Option.bind_some _ _).symm.trans H; with_reducible exact H2_) | with_reducible exact H | (rw [hy161]; exact H) | exact H
 have Ny161 := A_ hy161
 clear hy161
 obtain rfl := Option.some.inj H
 go_enter Try.func48, Try.ntmps48
 go_wp2_with (first | ((with_reducible refine gate_callee (f := 37) rfl ?_); refine goesL_ (some 4) rfl rfl Try.func37 (by kernel_rfl) rfl #[.slice A0 l0.length c0] rfl (by (try simp only [List.map_toArray, List.map_cons, List.map_nil]); first | done | rfl | (simp only [List.length_drop, List.length_take]; rfl)) ?_; (with_reducible refine (spec_EntriesOk.calls k _ _ l0 false _ ?side1 ?side2 A2.out).mono ?_); (case side1 => exact (by repeat (first | exact HR0.out | (with_reducible refine Kd.C_alloc ?_ _) | (with_reducible refine Kd.C_drewN ?_ _) | (with_reducible refine Kd.C_drew ?_)))); (case side2 => exact HC0.out); rintro e w7 ⟨rfl, hb⟩; refine ⟨_, rfl, ?_⟩; replace HB := A_ (below_step z48a hb)) | ((with_reducible refine gate_dst (N := 6) rfl ?_); refine Kd.R_lit (Kd.int .u8) _ 5 ?hg (N := 6) ?hd (xs := ([] : List Int)) (inner := []) (ok := fun _ => True) (okp := fun _ => True) ?hr ?hp (fun _ hk => hk) trivial (Below.refl _ _) (Nat.le_refl _) (by simp) ?_; (case hd => rfl); (case hg => rfl); (case hr => first | (go_simp; done) | (go_simp; rfl)); (case hp => exact (Reps.none _ _)); intro v162 w8 ho9 hb hg_ hnew_; clear hg_ hnew_; (first | rw [← Ny161.out] at ho9 | (simp only [Int.reduceToNat] at ho9; rw [← Ny161.out] at ho9)); have n0_ := A_ (Kd.R_lower ho9 (below_size z48a)); have n1_ := A_ (below_step z48a hb); clear HB; have HO163 := n0_; have HB := n1_; clear n0_ n1_; clear hb ho9))
 go_ret
 exact ⟨_, by first | rfl | (simp [errW_none, errW_some] <;> rfl) | (simp [*, errW_none, errW_some] <;> rfl), by (with_reducible repeat (first | apply Kd.R_alloc | apply Kd.R_drewN | apply Kd.R_drew)); exact HO163.out, by repeat (first | (with_reducible first | exact HB.out | apply below_alloc | apply pw_below_drewN | apply below_drew1) | exact HB.out)⟩
 
 }
def impl_within.f (a0 : Int) (a1 : Int) (a2 : Int) : Option (Bool) := if a0 ≥ a1 then (some (decide (a0 ≤ a2))) else (some false)
set_option maxHeartbeats 8000000 in
set_option maxRecDepth 100000 in
theorem impl_within.calls (a0 : Int) (a1 : Int) (a2 : Int) (r : Bool) (w : World) (h : impl_within.f a0 a1 a2 = some r) :
  Calls Try.prog 72 #[.int .i64 a0, .int .i64 a1, .int .i64 a2] w fun e w' => e = .returned (.bool r) ∧ Drawn0 w w' := by
 have H : (if a0 ≥ a1 then (some (decide (a0 ≤ a2))) else (some false)) = some r := h
 clear h
 by_cases c4 : a0 ≥ a1
 {
 rw [if_pos c4] at H
 have c4b0 : decide (a1 ≤ a0) = true := decide_eq_true c4
 clear c4
 obtain rfl := Option.some.inj H
 go_enter Try.func72, Try.ntmps72
 go_wp2
 go_ret
 exact ⟨by first | rfl | (simp; done) | (simp [*]; done), by repeat (first | exact Drawn0.refl _ | apply Drawn0.step)⟩
 }
 {
 rw [if_neg c4] at H
 have c4b0 : decide (a1 ≤ a0) = false := decide_eq_false c4
 clear c4
 obtain rfl := Option.some.inj H
 go_enter Try.func72, Try.ntmps72
 go_wp2
 go_ret
 exact ⟨by first | rfl | (simp; done) | (simp [*]; done), by repeat (first | exact Drawn0.refl _ | apply Drawn0.step)⟩
 
 }
end Go.Proofs.Ythkhfmomibfkjaa.PFnPacked

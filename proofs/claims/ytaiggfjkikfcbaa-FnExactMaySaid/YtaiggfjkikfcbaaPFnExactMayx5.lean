-- by a program of this session (wip/print/run.py) for this claim
import Derived.Test.YtaiggfjkikfcbaaLibPu
import Derived.Test.YtaiggfjkikfcbaaPFnExactMayx0
import Derived.Test.YtaiggfjkikfcbaaPFnExactMayx3
import Derived.Test.YtaiggfjkikfcbaaPFnExactMayx4
namespace Go.Proofs.Ytaiggfjkikfcbaa.PFnExactMay
open Go.Proofs.Ytaiggfjkikfcbaa.Lib Go.RowKit Go.Proofs.YtaiggfjkikfcbaaW.PrintWords Go.Proofs.YtaiggfjkikfcbaaW.PrintLast Go.Proofs.YtaiggfjkikfcbaaW.PrintMore
attribute [local go_sem] max2_int min2_int max_two min_two max_three min_three max_four min_four   -- for this text's walks alone
set_option linter.unusedVariables false
set_option linter.unusedSimpArgs false

theorem z110a {p_ : Prop} (h_ : p_ := by repeat (first | (with_reducible first | exact HB.out | apply below_alloc | apply pw_below_drewN | apply below_drew1 | refine below_set ?_ GE165.out) | exact HB.out)) : p_ := h_
theorem z110b {p_ : Prop} (h_ : p_ := by simp only [Act.put, List.setIfInBounds_toArray, List.set_cons_zero, List.set_cons_succ, i64_w, i32_w]; rfl) : p_ := h_
theorem z110c {p_ : Prop} (h_ : p_ := by (with_reducible repeat (first | apply Kd.R_alloc | apply Kd.R_drewN | apply Kd.R_drew)); exact HO169.out) : p_ := h_
theorem z110d {p_ : Prop} (h_ : p_ := by (with_reducible repeat (first | refine blk_drewN ?_ _ | refine blk_drew ?_ | refine blk_alloc ?_ _)); exact BK165.out) : p_ := h_
theorem z110e {p_ : Prop} (h_ : p_ := by (try simp only [List.map_toArray, List.map_cons, List.map_nil]); first | done | rfl | (simp only [List.length_drop, List.length_take]; rfl)) : p_ := h_
theorem z110f {p_ : Prop} (h_ : p_ := by (with_reducible repeat (first | apply Kd.R_alloc | apply Kd.R_drewN | apply Kd.R_drew)); exact HO175.out) : p_ := h_
theorem z110g {p_ : Prop} (h_ : p_ := by repeat (first | (with_reducible first | exact HB.out | apply below_alloc | apply pw_below_drewN | apply below_drew1) | exact HB.out)) : p_ := h_
mutual
def spec_l4Packed.l0 : Nat → List (S31) → List Int → ByteArray → Int → Option (List Int)
 | 0, _, _, _, _ => none
 | k + 1, x0, x3, x4, x5 => if x5 < (x0.length : Int) then (if 0 ≤ x5 then (if (Int.tmod x5 8) = 0 then (spec_l4Packed.j1 k x0 x3 (⟨#[]⟩ : ByteArray) x5 ((rd_T31 x0 x5).f0) ((rd_T31 x0 x5).f1) ((rd_T31 x0 x5).f2) ((rd_T31 x0 x5).f3)) else (spec_l4Packed.j1 k x0 x3 x4 x5 ((rd_T31 x0 x5).f0) ((rd_T31 x0 x5).f1) ((rd_T31 x0 x5).f2) ((rd_T31 x0 x5).f3))) else (none)) else (some x3)
def spec_l4Packed.j1 : Nat → List (S31) → List Int → ByteArray → Int → ByteArray → ByteArray → Int → Bool → Option (List Int)
 | 0, _, _, _, _, _, _, _, _ => none
 | k + 1, x0, x3, x4, x5, x166000, x166001, x166002, x166003 => (spec_Common.f k x4 x166000).bind fun t166 => ((spec_l1Number.f k t166).bind fun t167 => (if x3.length + t167.length < 140737488355328 then ((some (x3 ++ t167 : List Int)).bind fun y170 => (if 0 ≤ t166 then (if t166 ≤ (x166000.size : Int) then ((spec_l1Text.f k (x166000.extract (t166 : Int).toNat x166000.size)).bind fun t173 => (if y170.length + t173.length < 140737488355328 then ((some (y170 ++ t173 : List Int)).bind fun y176 => ((spec_l4Flag.f x166003).bind fun t179 => ((spec_l1Number.f k (wrap64 ((wrap64 (2 * x166002)) + t179))).bind fun t180 => (if y176.length + t180.length < 140737488355328 then ((some (y176 ++ t180 : List Int)).bind fun y183 => ((spec_l1Text.f k x166001).bind fun t186 => (if y183.length + t186.length < 140737488355328 then (spec_l4Packed.l0 k x0 (y183 ++ t186) x166000 (wrap64 (x5 + 1))) else (none)))) else (none))))) else (none))) else (none)) else (none))) else (none)))
end
def spec_l4Packed.f (k : Nat) (l0 : List (S31)) : Option (List Int) := (spec_l1Number.f k (l0.length : Int)).bind fun t161 => (spec_l4Packed.l0 k l0 t161 (⟨#[]⟩ : ByteArray) 0)
def spec_l4Packed.T10 : Bool × List (List Nat × List Nat) := (true, [([], []), ([], []), ([1], [1]), ([0, 2, 2], [0, 2]), ([], []), ([4], [4]), ([], []), ([5, 6], [5, 6]), ([7, 3], [7]), ([3, 8, 8], [3, 8]), ([9, 9, 0, 1, 2, 3, 4, 5, 6, 7, 8, 9], [0, 9])])
def spec_l4Packed.B10 : List Nat := [0, 0, 2, 7, 0, 16, 0, 112, 255, 511, 1023]
theorem spec_l4Packed.tab10 : rtab .any (opsOf Try.f110 10) = spec_l4Packed.T10 := by kernel_rfl
theorem spec_l4Packed.bits10 : waitsOk spec_l4Packed.T10.2 spec_l4Packed.B10 = true := by kernel_rfl
def spec_l4Packed.T11 : Bool × List (List Nat × List Nat) := (true, [([], []), ([], []), ([1], [1]), ([2], [2]), ([], []), ([4], [4]), ([5], [5]), ([3, 6], [3, 6]), ([7, 6], [7]), ([0, 8, 8], [0, 8]), ([], []), ([10], [10]), ([11, 9], [11]), ([9, 12, 12], [9, 12]), ([13, 13, 0, 1, 2, 3, 4, 5, 6, 7, 8, 9, 10, 11, 12, 13], [0, 13])])
def spec_l4Packed.B11 : List Nat := [0, 0, 2, 6, 0, 16, 48, 126, 254, 511, 0, 1024, 4095, 8191, 16383]
theorem spec_l4Packed.tab11 : rtab .any (opsOf Try.f110 11) = spec_l4Packed.T11 := by kernel_rfl
theorem spec_l4Packed.bits11 : waitsOk spec_l4Packed.T11.2 spec_l4Packed.B11 = true := by kernel_rfl
set_option maxHeartbeats 8000000 in
set_option maxRecDepth 100000 in
theorem spec_l4Packed.calls (k : Nat) (A0 : Option Addr) (c0 : Nat) (l0 : List (S31)) (r : List Int) (w : World) (hr0 : Kd.C k31 w A0 l0.length l0) (hc0 : l0.length ≤ c0) (h : spec_l4Packed.f k l0 = some r) :
  Calls Try.prog 110 #[.slice A0 l0.length c0] w fun e w' => ∃ v0_ : Value, e = .returned (v0_) ∧ Kd.R (Kd.int .u8) 5 w' w.heap.size (fun _ => True) v0_ r ∧ Below w.heap.size w w' := by
 have hu31 := Try.underlying31
 have HR0 := A_ hr0
 have HC0 := A_ hc0
 clear hr0 hc0
 have HB := A_ (Below.refl w.heap.size w)
 have H : ((spec_l1Number.f k (l0.length : Int)).bind fun t161 => (spec_l4Packed.l0 k l0 t161 (⟨#[]⟩ : ByteArray) 0)) = some r := h
 clear h
 replace H := Option.bind_eq_some_iff.mp H
 obtain ⟨t161, A20, H⟩ := H
 (try dsimp only at H)
 have A2 := A_ A20
 clear A20
 have H' := A_ H
 clear H
 go_enter Try.func110, Try.ntmps110
 go_wp2_with (first | ((with_reducible refine gate_callee (f := 130) rfl ?_); refine goesL_ (some 10) rfl rfl Try.func130 (by kernel_rfl) rfl #[.int .i64 (l0.length : Int)] rfl z110e ?_; (with_reducible refine (spec_l1Number.calls k (l0.length : Int) t161 _ A2.out).mono ?_); rintro e w3 ⟨v162, rfl, ho0, hb⟩; refine ⟨_, rfl, ?_⟩; have n0_ := A_ (Kd.R_lower ho0 (below_size z110g)); have n1_ := A_ (below_step z110g hb); clear HB; have HO163 := n0_; have HB := n1_; clear n0_ n1_))
 go_loopg [3, 4, 5] k (fun kq v3 v4 v5 w' => ∃ (x3_1 : List Int) (x4_1 : ByteArray) (x5_1 : Int), v4 = .string x4_1 ∧ v5 = .int .i64 x5_1 ∧ Aside0 (spec_l4Packed.l0 kq l0 x3_1 x4_1 x5_1 = some r) ∧ Aside0 (kq ≤ k) ∧ Aside0 (Kd.R (Kd.int .u8) 5 w' w.heap.size (fun _ => True) v3 x3_1) ∧ Aside0 (Below w.heap.size w w'))
 case atStart => exact ⟨(t161), ((⟨#[]⟩ : ByteArray)), (0), (by first | rfl | (simp; done) | (simp [*]; done)), (by first | rfl | (simp; done) | (simp [*]; done)), H', ⟨Nat.le_refl _⟩, ⟨by (with_reducible repeat (first | apply Kd.R_alloc | apply Kd.R_drewN | apply Kd.R_drew)); exact HO163.out⟩, ⟨by repeat (first | (with_reducible first | exact HB.out | apply below_alloc | apply pw_below_drewN | apply below_drew1) | exact HB.out)⟩⟩
 case round =>
  clear H'
  try clear c1
  try clear p2
  obtain ⟨x3_1, x4_1, x5_1, rfl, rfl, HA, HK1, HO_3, HB⟩ := hrel
  cases gk with
  | zero => exact absurd HA.out (by simp [spec_l4Packed.l0])
  | succ k1 =>
   have H := HA.out
   clear HA
   simp only [spec_l4Packed.l0] at H
   by_cases c4 : x5_1 < (l0.length : Int)
   {
   rw [if_pos c4] at H
   have c4b0 : decide (x5_1 < (l0.length : Int)) = true := decide_eq_true c4
   clear c4
   by_cases c5 : 0 ≤ x5_1
   {
   rw [if_pos c5] at H
   have c5b0 : decide (0 ≤ x5_1) = true := decide_eq_true c5
   clear c5
   have HC6 := A_ H
   clear H
   have p164 : 0 ≤ (x5_1 : Int) := of_decide_eq_true (by first | (with_reducible assumption) | assumption)
   have q164 : x5_1 < (l0.length : Int) := of_decide_eq_true (by first | (with_reducible assumption) | assumption)
   obtain ⟨ad164, e164, hx164_0, hx164_1, hx164_2, hx164_3⟩ := at_T31 HR0.out x5_1 p164 q164
   cases e164
   replace hx164_0 := (HB.out.cell (World.block_lt_of_cell? w _ hx164_0)).trans hx164_0
   replace hx164_1 := (HB.out.cell (World.block_lt_of_cell? w _ hx164_1)).trans hx164_1
   replace hx164_2 := (HB.out.cell (World.block_lt_of_cell? w _ hx164_2)).trans hx164_2
   replace hx164_3 := (HB.out.cell (World.block_lt_of_cell? w _ hx164_3)).trans hx164_3
   replace p164 := eq_true p164
   replace q164 := eq_true q164
   go_upto_if 23 with (first | ((with_reducible refine gate_dst (N := 6) rfl ?_); refine box_event ?hg (N := 6) ?hd (cs := #[.string (⟨#[]⟩ : ByteArray), .string (⟨#[]⟩ : ByteArray), .int .i64 0, .bool false]) (t := 31) ?hr ?_; (case hd => rfl); (case hg => rfl); (case hr => first | (go_simp; done) | (go_simp; rfl)); intro gb165 hg w7 hbox hb; have n0_ := A_ (Kd.R_below (by (with_reducible repeat (first | apply Kd.R_alloc | apply Kd.R_drewN | apply Kd.R_drew)); exact HO_3.out) hb); have n1_ := A_ (below_step z110g hb); have n2_ := A_ (hbox); have n3_ := A_ ((by rw [hg]; exact (below_size z110g) : w.heap.size ≤ gb165)); have n4_ := A_ ((by rw [hg]; exact (below_size z110g) : w.heap.size ≤ gb165)); clear HO_3; clear HB; have HO_3 := n0_; have HB := n1_; have BK165 := n2_; have GW165 := n3_; have GE165 := n4_; clear n0_ n1_ n2_ n3_ n4_; clear hb hbox hg; have hcz8_0 : w7.cell? ⟨gb165, 0, none⟩ = some (.string (⟨#[]⟩ : ByteArray)) := (blk_cell BK165.out 0).trans rfl; have hcz8_1 : w7.cell? ⟨gb165, 1, none⟩ = some (.string (⟨#[]⟩ : ByteArray)) := (blk_cell BK165.out 1).trans rfl; have hcz8_2 : w7.cell? ⟨gb165, 2, none⟩ = some (.int .i64 0) := (blk_cell BK165.out 2).trans rfl; have hcz8_3 : w7.cell? ⟨gb165, 3, none⟩ = some (.bool false) := (blk_cell BK165.out 3).trans rfl; have hfz8_0 := blk_frozen BK165.out 0; have hfz8_1 := blk_frozen BK165.out 1; have hfz8_2 := blk_frozen BK165.out 2; have hfz8_3 := blk_frozen BK165.out 3))
   (try simp only [Act.put, List.setIfInBounds_toArray, List.set_cons_zero, List.set_cons_succ])
   go_cut [4] (fun v4 wc => ∃ (kq : Nat) (x4_5 : ByteArray), v4 = .string x4_5 ∧ Aside0 (spec_l4Packed.j1 kq l0 x3_1 x4_5 x5_1 ((rd_T31 l0 x5_1).f0) ((rd_T31 l0 x5_1).f1) ((rd_T31 l0 x5_1).f2) ((rd_T31 l0 x5_1).f3) = some r) ∧ Aside0 (kq ≤ k1) ∧ Aside0 (Kd.R (Kd.int .u8) 5 wc w.heap.size (fun _ => True) u3 x3_1) ∧ Aside0 (wc.heap[gb165]? = some (.cells #[.string ((rd_T31 l0 x5_1).f0), .string ((rd_T31 l0 x5_1).f1), .int .i64 ((rd_T31 l0 x5_1).f2), .bool ((rd_T31 l0 x5_1).f3)] 31 (0, 0))) ∧ Aside0 (Below w.heap.size w wc))
   case first =>
    have H := HC6.out
    clear HC6
    by_cases c9 : (Int.tmod x5_1 8) = 0
    {
    rw [if_pos c9] at H
    have c9b0 : ((Int.tmod x5_1 8) == 0) = true := beq_iff_eq.mpr c9
    have c9b1 : ((Int.tmod x5_1 8) != 0) = false := bne_eq_false_iff_eq.mpr c9
    clear c9
    (first | rw [c9b0] | (simp only [i64_w, i32_w]; rw [c9b0]) | skip)
    have H' := A_ H
    clear H
    go_wp2
    go_meet
    case rel => exact ⟨_, ((⟨#[]⟩ : ByteArray)), (by first | rfl | (simp; done) | (simp [*]; done)), H', ⟨by have := HK1.out; first | omega | exact Nat.le_refl _⟩, ⟨by (with_reducible repeat (first | apply Kd.R_alloc | apply Kd.R_drewN | apply Kd.R_drew)); exact Kd.R_mono (Kd.R_far (p := ⟨gb165, 3, none⟩) (Kd.R_far (p := ⟨gb165, 2, none⟩) (Kd.R_far (p := ⟨gb165, 1, none⟩) (Kd.R_far (p := ⟨gb165, 0, none⟩) (Kd.R_types HO_3.out BK165.out (by decide)) (fun _ hk => hk.2) (.string ((rd_T31 l0 x5_1).f0))) (fun _ hk => hk.2) (.string ((rd_T31 l0 x5_1).f1))) (fun _ hk => hk.2) (.int .i64 ((rd_T31 l0 x5_1).f2))) (fun _ hk => hk.2) (.bool ((rd_T31 l0 x5_1).f3))) (fun _ hk => trivial)⟩, ⟨by (with_reducible repeat (first | refine blk_drewN ?_ _ | refine blk_drew ?_ | refine blk_alloc ?_ _)); refine blk_put (cs := #[.string ((rd_T31 l0 x5_1).f0), .string ((rd_T31 l0 x5_1).f1), .int .i64 ((rd_T31 l0 x5_1).f2), .bool false]) ?_ 3 _ rfl; (with_reducible repeat (first | refine blk_drewN ?_ _ | refine blk_drew ?_ | refine blk_alloc ?_ _)); refine blk_put (cs := #[.string ((rd_T31 l0 x5_1).f0), .string ((rd_T31 l0 x5_1).f1), .int .i64 0, .bool false]) ?_ 2 _ rfl; (with_reducible repeat (first | refine blk_drewN ?_ _ | refine blk_drew ?_ | refine blk_alloc ?_ _)); refine blk_put (cs := #[.string ((rd_T31 l0 x5_1).f0), .string (⟨#[]⟩ : ByteArray), .int .i64 0, .bool false]) ?_ 1 _ rfl; (with_reducible repeat (first | refine blk_drewN ?_ _ | refine blk_drew ?_ | refine blk_alloc ?_ _)); refine blk_put (cs := #[.string (⟨#[]⟩ : ByteArray), .string (⟨#[]⟩ : ByteArray), .int .i64 0, .bool false]) ?_ 0 _ rfl; (with_reducible repeat (first | refine blk_drewN ?_ _ | refine blk_drew ?_ | refine blk_alloc ?_ _)); exact BK165.out⟩, ⟨by repeat (first | (with_reducible first | exact HB.out | apply below_alloc | apply pw_below_drewN | apply below_drew1 | refine below_set ?_ GE165.out) | exact HB.out)⟩⟩
    }
    {
    rw [if_neg c9] at H
    have c9b0 : ((Int.tmod x5_1 8) == 0) = false := beq_eq_false_iff_ne.mpr c9
    have c9b1 : ((Int.tmod x5_1 8) != 0) = true := bne_iff_ne.mpr c9
    (first | rw [c9b0] | (simp only [i64_w, i32_w]; rw [c9b0]) | skip)
    have H' := A_ H
    clear H
    go_wp2
    go_meet
    case rel => exact ⟨_, (x4_1), (by first | rfl | (simp; done) | (simp [*]; done)), H', ⟨by have := HK1.out; first | omega | exact Nat.le_refl _⟩, ⟨by (with_reducible repeat (first | apply Kd.R_alloc | apply Kd.R_drewN | apply Kd.R_drew)); exact Kd.R_mono (Kd.R_far (p := ⟨gb165, 3, none⟩) (Kd.R_far (p := ⟨gb165, 2, none⟩) (Kd.R_far (p := ⟨gb165, 1, none⟩) (Kd.R_far (p := ⟨gb165, 0, none⟩) (Kd.R_types HO_3.out BK165.out (by decide)) (fun _ hk => hk.2) (.string ((rd_T31 l0 x5_1).f0))) (fun _ hk => hk.2) (.string ((rd_T31 l0 x5_1).f1))) (fun _ hk => hk.2) (.int .i64 ((rd_T31 l0 x5_1).f2))) (fun _ hk => hk.2) (.bool ((rd_T31 l0 x5_1).f3))) (fun _ hk => trivial)⟩, ⟨by (with_reducible repeat (first | refine blk_drewN ?_ _ | refine blk_drew ?_ | refine blk_alloc ?_ _)); refine blk_put (cs := #[.string ((rd_T31 l0 x5_1).f0), .string ((rd_T31 l0 x5_1).f1), .int .i64 ((rd_T31 l0 x5_1).f2), .bool false]) ?_ 3 _ rfl; (with_reducible repeat (first | refine blk_drewN ?_ _ | refine blk_drew ?_ | refine blk_alloc ?_ _)); refine blk_put (cs := #[.string ((rd_T31 l0 x5_1).f0), .string ((rd_T31 l0 x5_1).f1), .int .i64 0, .bool false]) ?_ 2 _ rfl; (with_reducible repeat (first | refine blk_drewN ?_ _ | refine blk_drew ?_ | refine blk_alloc ?_ _)); refine blk_put (cs := #[.string ((rd_T31 l0 x5_1).f0), .string (⟨#[]⟩ : ByteArray), .int .i64 0, .bool false]) ?_ 1 _ rfl; (with_reducible repeat (first | refine blk_drewN ?_ _ | refine blk_drew ?_ | refine blk_alloc ?_ _)); refine blk_put (cs := #[.string (⟨#[]⟩ : ByteArray), .string (⟨#[]⟩ : ByteArray), .int .i64 0, .bool false]) ?_ 0 _ rfl; (with_reducible repeat (first | refine blk_drewN ?_ _ | refine blk_drew ?_ | refine blk_alloc ?_ _)); exact BK165.out⟩, ⟨by repeat (first | (with_reducible first | exact HB.out | apply below_alloc | apply pw_below_drewN | apply below_drew1 | refine below_set ?_ GE165.out) | exact HB.out)⟩⟩
    }
   case rest =>
    clear HC6
    try clear c1
    try clear p1
    try clear q1
    try clear hx1
    try clear p2
    try clear c4
    try clear c4b0
    try clear c5
    try clear c5b0
    try clear c9
    try clear c9b0
    try clear c9b1
    try clear hcz8_0
    try clear hcz8_1
    try clear hcz8_2
    try clear hcz8_3
    try clear hfz8_0
    try clear hfz8_1
    try clear hfz8_2
    try clear hfz8_3
    try clear hx164_0
    try clear hx164_1
    try clear hx164_2
    try clear hx164_3
    try clear p164
    try clear p2
    try clear q164
    obtain ⟨kq, x4_5, rfl, HA, HJ5, HO_3, BK165, HB⟩ := hcut
    cases kq with
    | zero => exact absurd HA.out (by simp [spec_l4Packed.j1])
    | succ kj5 =>
     have H := HA.out
     clear HA
     simp only [spec_l4Packed.j1] at H
     replace H := Option.bind_eq_some_iff.mp H
     obtain ⟨t166, A100, H⟩ := H
     (try dsimp only at H)
     have A10 := A_ A100
     clear A100
     replace H := Option.bind_eq_some_iff.mp H
     obtain ⟨t167, A110, H⟩ := H
     (try dsimp only at H)
     have A11 := A_ A110
     clear A110
     by_cases c12 : x3_1.length + t167.length < 140737488355328
     {
     rw [if_pos c12] at H
     have LMc12 := A_ c12
     clear c12
     obtain ⟨y170, hy170⟩ : ∃ y_ : List Int, y_ = (x3_1 ++ t167) := ⟨_, rfl⟩
     replace H : (if 0 ≤ t166 then (if t166 ≤ (((rd_T31 l0 x5_1).f0).size : Int) then ((spec_l1Text.f kj5 (((rd_T31 l0 x5_1).f0).extract (t166 : Int).toNat ((rd_T31 l0 x5_1).f0).size)).bind fun t173 => (if y170.length + t173.length < 140737488355328 then ((some (y170 ++ t173 : List Int)).bind fun y176 => ((spec_l4Flag.f ((rd_T31 l0 x5_1).f3)).bind fun t179 => ((spec_l1Number.f kj5 (wrap64 ((wrap64 (2 * ((rd_T31 l0 x5_1).f2))) + t179))).bind fun t180 => (if y176.length + t180.length < 140737488355328 then ((some (y176 ++ t180 : List Int)).bind fun y183 => ((spec_l1Text.f kj5 ((rd_T31 l0 x5_1).f1)).bind fun t186 => (if y183.length + t186.length < 140737488355328 then (spec_l4Packed.l0 kj5 l0 (y183 ++ t186) ((rd_T31 l0 x5_1).f0) (wrap64 (x5_1 + 1))) else (none)))) else (none))))) else (none))) else (none)) else (none)) = some r := by first | (rw [hy170]; with_reducible exact H) | (have H2_ := (Option.bind_some _ _).symm.trans H; rw [hy170]; with_reducible exact H2_) | (have H2_ := (Option.bind_some _ _).symm.trans H; with_reducible exact H2_) | with_reducible exact H | (rw [hy170]; exact H) | exact H
     have Ny170 := A_ hy170
     clear hy170
     by_cases c13 : 0 ≤ t166
     {
     rw [if_pos c13] at H
     have c13b0 := eq_true c13
     have c13b1 : decide (0 ≤ t166) = true := decide_eq_true c13
     clear c13
     by_cases c14 : t166 ≤ (((rd_T31 l0 x5_1).f0).size : Int)
     {
     rw [if_pos c14] at H
     have c14b0 := eq_true c14
     have c14b1 : decide (t166 ≤ (((rd_T31 l0 x5_1).f0).size : Int)) = true := decide_eq_true c14
     clear c14
     replace H := Option.bind_eq_some_iff.mp H
     obtain ⟨t173, A150, H⟩ := H
     (try dsimp only at H)
     have A15 := A_ A150
     clear A150
     by_cases c16 : y170.length + t173.length < 140737488355328
     {
     rw [if_pos c16] at H
     have LMc16 := A_ c16
     clear c16
     obtain ⟨y176, hy176⟩ : ∃ y_ : List Int, y_ = (y170 ++ t173) := ⟨_, rfl⟩
     replace H : ((spec_l4Flag.f ((rd_T31 l0 x5_1).f3)).bind fun t179 => ((spec_l1Number.f kj5 (wrap64 ((wrap64 (2 * ((rd_T31 l0 x5_1).f2))) + t179))).bind fun t180 => (if y176.length + t180.length < 140737488355328 then ((some (y176 ++ t180 : List Int)).bind fun y183 => ((spec_l1Text.f kj5 ((rd_T31 l0 x5_1).f1)).bind fun t186 => (if y183.length + t186.length < 140737488355328 then (spec_l4Packed.l0 kj5 l0 (y183 ++ t186) ((rd_T31 l0 x5_1).f0) (wrap64 (x5_1 + 1))) else (none)))) else (none)))) = some r := by first | (rw [hy176]; with_reducible exact H) | (have H2_ := (Option.bind_some _ _).symm.trans H; rw [hy176]; with_reducible exact H2_) | (have H2_ := (Option.bind_some _ _).symm.trans H; with_reducible exact H2_) | with_reducible exact H | (rw [hy176]; exact H) | exact H
     have Ny176 := A_ hy176
     clear hy176
     replace H := Option.bind_eq_some_iff.mp H
     obtain ⟨t179, A170, H⟩ := H
     (try dsimp only at H)
     have A17 := A_ A170
     clear A170
     replace H := Option.bind_eq_some_iff.mp H
     obtain ⟨t180, A180, H⟩ := H
     (try dsimp only at H)
     have A18 := A_ A180
     clear A180
     by_cases c19 : y176.length + t180.length < 140737488355328
     {
     rw [if_pos c19] at H
     have LMc19 := A_ c19
     clear c19
     obtain ⟨y183, hy183⟩ : ∃ y_ : List Int, y_ = (y176 ++ t180) := ⟨_, rfl⟩
     replace H : ((spec_l1Text.f kj5 ((rd_T31 l0 x5_1).f1)).bind fun t186 => (if y183.length + t186.length < 140737488355328 then (spec_l4Packed.l0 kj5 l0 (y183 ++ t186) ((rd_T31 l0 x5_1).f0) (wrap64 (x5_1 + 1))) else (none))) = some r := by first | (rw [hy183]; with_reducible exact H) | (have H2_ := (Option.bind_some _ _).symm.trans H; rw [hy183]; with_reducible exact H2_) | (have H2_ := (Option.bind_some _ _).symm.trans H; with_reducible exact H2_) | with_reducible exact H | (rw [hy183]; exact H) | exact H
     have Ny183 := A_ hy183
     clear hy183
     replace H := Option.bind_eq_some_iff.mp H
     obtain ⟨t186, A200, H⟩ := H
     (try dsimp only at H)
     have A20 := A_ A200
     clear A200
     by_cases c21 : y183.length + t186.length < 140737488355328
     {
     rw [if_pos c21] at H
     have LMc21 := A_ c21
     clear c21
     obtain ⟨y189, hy189⟩ : ∃ y_ : List Int, y_ = (y183 ++ t186) := ⟨_, rfl⟩
     replace H : (spec_l4Packed.l0 kj5 l0 y189 ((rd_T31 l0 x5_1).f0) (wrap64 (x5_1 + 1))) = some r := by first | (rw [hy189]; with_reducible exact H) | (have H2_ := (Option.bind_some _ _).symm.trans H; rw [hy189]; with_reducible exact H2_) | (have H2_ := (Option.bind_some _ _).symm.trans H; with_reducible exact H2_) | with_reducible exact H | (rw [hy189]; exact H) | exact H
     have Ny189 := A_ hy189
     clear hy189
     have H' := A_ H
     clear H
     have hcz22_0 : wc.cell? ⟨gb165, 0, none⟩ = some (.string ((rd_T31 l0 x5_1).f0)) := (blk_cell BK165.out 0).trans rfl
     have hcz22_1 : wc.cell? ⟨gb165, 1, none⟩ = some (.string ((rd_T31 l0 x5_1).f1)) := (blk_cell BK165.out 1).trans rfl
     have hcz22_2 : wc.cell? ⟨gb165, 2, none⟩ = some (.int .i64 ((rd_T31 l0 x5_1).f2)) := (blk_cell BK165.out 2).trans rfl
     have hcz22_3 : wc.cell? ⟨gb165, 3, none⟩ = some (.bool ((rd_T31 l0 x5_1).f3)) := (blk_cell BK165.out 3).trans rfl
     have hfz22_0 := blk_frozen BK165.out 0
     have hfz22_1 := blk_frozen BK165.out 1
     have hfz22_2 := blk_frozen BK165.out 2
     have hfz22_3 := blk_frozen BK165.out 3
     try go_wp2_with (first | ((with_reducible refine gate_callee (f := 131) rfl ?_); refine goesL_ (some 27) rfl rfl Try.func131 (by kernel_rfl) rfl #[.string x4_5, .string ((rd_T31 l0 x5_1).f0)] rfl z110e ?_; (with_reducible refine (spec_Common.calls kj5 x4_5 ((rd_T31 l0 x5_1).f0) t166 _ A10.out).mono ?_); rintro e w' ⟨rfl, ⟨nd, rfl⟩⟩; refine ⟨_, rfl, ?_⟩))
     (try (rw [drewN_self wc]; generalize hq_ : World.drewN wc _ = wc; have n0_ : Aside0 (Kd.R (Kd.int .u8) 5 wc w.heap.size (fun _ => True) u3 x3_1) := ⟨by rw [← hq_]; exact (by (with_reducible repeat (first | apply Kd.R_alloc | apply Kd.R_drewN | apply Kd.R_drew)); exact HO_3.out)⟩; have n1_ : Aside0 (wc.heap[gb165]? = some (.cells #[.string ((rd_T31 l0 x5_1).f0), .string ((rd_T31 l0 x5_1).f1), .int .i64 ((rd_T31 l0 x5_1).f2), .bool ((rd_T31 l0 x5_1).f3)] 31 (0, 0))) := ⟨by rw [← hq_]; exact z110d⟩; have n2_ : Aside0 (Below w.heap.size w wc) := ⟨by rw [← hq_]; exact z110a⟩; clear HO_3 BK165 HB hq_; have HO_3 := n0_; have BK165 := n1_; have HB := n2_; clear n0_ n1_ n2_))
     replace HO_3 := A_ (Kd.R_drew HO_3.out)
     replace BK165 := A_ (blk_drew BK165.out)
     replace HB := A_ (below_drew1 HB.out)
     refine start_ (n := 11) (S := fun w' => w'.cell? ⟨gb165, 0, none⟩ = some (.string ((rd_T31 l0 x5_1).f0)) ∧ w'.cell? ⟨gb165, 1, none⟩ = some (.string ((rd_T31 l0 x5_1).f1)) ∧ w'.cell? ⟨gb165, 2, none⟩ = some (.int .i64 ((rd_T31 l0 x5_1).f2)) ∧ w'.cell? ⟨gb165, 3, none⟩ = some (.bool ((rd_T31 l0 x5_1).f3))) (ds := []) (yx 0 11) (by kernel_rfl) rfl rfl ⟨(blk_cell BK165.out 0).trans rfl, (blk_cell BK165.out 1).trans rfl, (blk_cell BK165.out 2).trans rfl, (blk_cell BK165.out 3).trans rfl⟩ (fun hHeld => ?_); refine with_tabW spec_l4Packed.tab10 spec_l4Packed.bits10 (fun HT_ HW_ => ?_)
     generalize wc.drew = w23 at HO_3 BK165 HB hHeld ⊢
     refine pu_ 0 (some 28) (yx 1 10) ?_
     refine pu_ 1 (some 29) (yx 2 9) ?_
     refine pu_ 4 (some 32) (bs "YYXXYXXXXXX") ?_
     refine pu_ 6 (some 34) (bs "YYXXYXYXXXX") ?_
     refine take_ (i := 5) (N := some 33) (v := _) (a' := _) (bs "YYXXYYYXXXX") rfl rfl (take_ofW HT_.out HW_.out (by kernel_rfl)) (fun _ _ _ h => h) (Or.inl ⟨by rfl, (by rintro w' ⟨s0, s1, s2, s3⟩; go_simp; with_reducible rfl)⟩) hHeld z110b ?_
     refine pu_ 7 (some 35) (bs "YYXXYYYYXXX") ?_
     refine one_ (i := 2) (N := some 30) (bs "YYYXYYYYXXX") rfl rfl (one_of HT_.out (by kernel_rfl)) (by decide) (fun K hK => ?_)
     refine goes_ Try.func130 (by kernel_rfl) rfl #[.int .i64 t166] (by rfl) rfl rfl z110e ?_
     with_reducible refine (spec_l1Number.calls kj5 t166 t167 _ A11.out).mono ?_
     rintro e w24 ⟨v168, rfl, ho0, hb⟩
     refine ⟨_, rfl, ?_⟩
     have n0_ := A_ (Kd.R_elder' (by (with_reducible repeat (first | apply Kd.R_alloc | apply Kd.R_drewN | apply Kd.R_drew)); exact HO_3.out) (Kd.R_base ho0) hb)
     have n1_ := A_ (Kd.R_lower (Kd.R_new' ho0 (Kd.R_lt (by (with_reducible repeat (first | apply Kd.R_alloc | apply Kd.R_drewN | apply Kd.R_drew)); exact HO_3.out))) (below_size z110a))
     have n2_ := A_ (blk_below (g := gb165) (o := .cells #[.string ((rd_T31 l0 x5_1).f0), .string ((rd_T31 l0 x5_1).f1), .int .i64 ((rd_T31 l0 x5_1).f2), .bool ((rd_T31 l0 x5_1).f3)] 31 (0, 0)) z110d hb)
     have n3_ := A_ (below_step z110a hb)
     clear HO_3
     clear BK165
     clear HB
     have HO_3 := n0_
     have HO169 := n1_
     have BK165 := n2_
     have HB := n3_
     clear n0_ n1_ n2_ n3_
     obtain ⟨Ao26, co26, eo26⟩ := Kd.R_slice HO169.out
     (first | subst eo26 | (injection eo26 with f1_ f2_ f3_; have f4_ := f1_.symm; have f5_ := f3_.symm; clear f1_ f2_ f3_; subst f4_; subst f5_))
     refine hK.out _ _ ⟨(blk_cell BK165.out 0).trans rfl, (blk_cell BK165.out 1).trans rfl, (blk_cell BK165.out 2).trans rfl, (blk_cell BK165.out 3).trans rfl⟩ (fun hHeld => ?_)
     clear hK K
     refine norm_ (nz_ 30) ?_
     refine one_ (i := 3) (N := some 31) (yx 8 3) rfl rfl (one_of HT_.out (by kernel_rfl)) (by decide) (fun K hK => ?_)
     refine Kd.R_append_rows_step (Kd.int .u8) (w0 := w) w.heap.size (by rfl) (.tmp 28) (.tmp 30) 36 5 (.int .u8 0) 1 rfl Try.underlying36 info5 rfl (by decide) (by omega) u3 x3_1 t167 _ _ _ (fun k_ => some k_ ≠ (.slice Ao26 t167.length co26 : Value).ownBlock) (fun _ => False) rfl rfl ?aO ?aR (fun _ _ h => h) (fun _ h => h.elim) ?aF ?aB ?aS ?aL ?_
     (case aR => exact (by repeat (first | exact (Kd.R_reads' HO169.out).2.2 | (with_reducible refine Kd.C_alloc ?_ _) | (with_reducible refine Kd.C_drewN ?_ _) | (with_reducible refine Kd.C_drew ?_))))
     (case aB => exact z110a)
     (case aF => exact (fun k_ hk => Kd.fresh' (Kd.R_lt z110c) k_ hk))
     (case aO => exact (by (with_reducible repeat (first | apply Kd.R_alloc | apply Kd.R_drewN | apply Kd.R_drew)); exact Kd.R_mono HO_3.out (fun _ hk => hk.2)))
     (case aS => exact (below_size z110a))
     (case aL => have := LMc12.out; omega)
     intro v171 w25 ho hb hg hat
     rw [← Ny170.out] at ho
     have n0_ := A_ (blk_grown (g := gb165) (o := .cells #[.string ((rd_T31 l0 x5_1).f0), .string ((rd_T31 l0 x5_1).f1), .int .i64 ((rd_T31 l0 x5_1).f2), .bool ((rd_T31 l0 x5_1).f3)] 31 (0, 0)) z110d hg (Kd.R_ne HO_3.out BK165.out (by decide)))
     have n1_ := A_ (Kd.R_after (ok := (fun _ => True)) z110c hg hat)
     have n2_ := A_ (hb)
     have n3_ := A_ (ho)
     clear BK165
     clear HO169
     clear HB
     clear HO_3
     have BK165 := n0_
     have HO169 := n1_
     have HB := n2_
     have HO172 := n3_
     clear n0_ n1_ n2_ n3_
     clear ho hb hg hat
     refine hK.out _ _ ⟨(blk_cell BK165.out 0).trans rfl, (blk_cell BK165.out 1).trans rfl, (blk_cell BK165.out 2).trans rfl, (blk_cell BK165.out 3).trans rfl⟩ (fun hHeld => ?_)
     clear hK K
     refine norm_ (nz_ 31) ?_
     refine one_ (i := 8) (N := some 36) (yx 9 2) rfl rfl (one_of HT_.out (by kernel_rfl)) (by decide) (fun K hK => ?_)
     refine goes_ Try.func132 (by kernel_rfl) rfl #[.string (((rd_T31 l0 x5_1).f0).extract (t166 : Int).toNat ((rd_T31 l0 x5_1).f0).size)] (by rfl) rfl rfl z110e ?_
     with_reducible refine (spec_l1Text.calls kj5 (((rd_T31 l0 x5_1).f0).extract (t166 : Int).toNat ((rd_T31 l0 x5_1).f0).size) t173 _ A15.out).mono ?_
     rintro e w27 ⟨v174, rfl, ho0, hb⟩
     refine ⟨_, rfl, ?_⟩
     have n0_ := A_ (Kd.R_elder' z110c (Kd.R_base ho0) hb)
     have n1_ := A_ (Kd.R_elder' (by (with_reducible repeat (first | apply Kd.R_alloc | apply Kd.R_drewN | apply Kd.R_drew)); exact HO172.out) (Kd.R_base ho0) hb)
     have n2_ := A_ (Kd.R_lower (Kd.R_new' (Kd.R_new' ho0 (Kd.R_lt z110c)) (Kd.R_lt (by (with_reducible repeat (first | apply Kd.R_alloc | apply Kd.R_drewN | apply Kd.R_drew)); exact HO172.out))) (below_size z110a))
     have n3_ := A_ (blk_below (g := gb165) (o := .cells #[.string ((rd_T31 l0 x5_1).f0), .string ((rd_T31 l0 x5_1).f1), .int .i64 ((rd_T31 l0 x5_1).f2), .bool ((rd_T31 l0 x5_1).f3)] 31 (0, 0)) z110d hb)
     have n4_ := A_ (below_step z110a hb)
     clear HO169
     clear HO172
     clear BK165
     clear HB
     have HO169 := n0_
     have HO172 := n1_
     have HO175 := n2_
     have BK165 := n3_
     have HB := n4_
     clear n0_ n1_ n2_ n3_ n4_
     obtain ⟨Ao29, co29, eo29⟩ := Kd.R_slice HO175.out
     (first | subst eo29 | (injection eo29 with f1_ f2_ f3_; have f4_ := f1_.symm; have f5_ := f3_.symm; clear f1_ f2_ f3_; subst f4_; subst f5_))
     refine hK.out _ _ ⟨(blk_cell BK165.out 0).trans rfl, (blk_cell BK165.out 1).trans rfl, (blk_cell BK165.out 2).trans rfl, (blk_cell BK165.out 3).trans rfl⟩ (fun hHeld => ?_)
     clear hK K
     refine norm_ (nz_ 36) ?_
     refine one_ (i := 9) (N := some 37) (yx 10 1) rfl rfl (one_of HT_.out (by kernel_rfl)) (by decide) (fun K hK => ?_)
     refine Kd.R_append_rows_step (Kd.int .u8) (w0 := w) w.heap.size (by rfl) (.tmp 31) (.tmp 36) 36 5 (.int .u8 0) 1 rfl Try.underlying36 info5 rfl (by decide) (by omega) v171 y170 t173 _ _ _ (fun k_ => some k_ ≠ (.slice Ao26 t167.length co26 : Value).ownBlock ∧ some k_ ≠ (.slice Ao29 t173.length co29 : Value).ownBlock) (fun _ => False) rfl rfl ?aO ?aR (fun _ _ h => h) (fun _ h => h.elim) ?aF ?aB ?aS ?aL ?_
     (case aR => exact (by repeat (first | exact (Kd.R_reads' HO175.out).2.2 | (with_reducible refine Kd.C_alloc ?_ _) | (with_reducible refine Kd.C_drewN ?_ _) | (with_reducible refine Kd.C_drew ?_))))
     (case aB => exact z110a)
     (case aF => exact (fun k_ hk => ⟨Kd.fresh' (Kd.R_lt z110c) k_ hk, Kd.fresh' (Kd.R_lt z110f) k_ hk⟩))
     (case aO => exact (by (with_reducible repeat (first | apply Kd.R_alloc | apply Kd.R_drewN | apply Kd.R_drew)); exact HO172.out))
     (case aS => exact (below_size z110a))
     (case aL => have := LMc16.out; omega)
     intro v177 w28 ho hb hg hat
     rw [← Ny176.out] at ho
     have n0_ := A_ (blk_grown (g := gb165) (o := .cells #[.string ((rd_T31 l0 x5_1).f0), .string ((rd_T31 l0 x5_1).f1), .int .i64 ((rd_T31 l0 x5_1).f2), .bool ((rd_T31 l0 x5_1).f3)] 31 (0, 0)) z110d hg (Kd.R_ne HO172.out BK165.out (by decide)))
     have n1_ := A_ (Kd.R_after (ok := (fun k_ => some k_ ≠ (.slice Ao29 t173.length co29 : Value).ownBlock)) (by (with_reducible repeat (first | apply Kd.R_alloc | apply Kd.R_drewN | apply Kd.R_drew)); exact Kd.R_mono HO169.out (fun _ hk => ⟨hk.2, hk.1.2⟩)) hg hat)
     have n2_ := A_ (Kd.R_after (ok := (fun k_ => some k_ ≠ (.slice Ao26 t167.length co26 : Value).ownBlock)) (by (with_reducible repeat (first | apply Kd.R_alloc | apply Kd.R_drewN | apply Kd.R_drew)); exact Kd.R_mono HO175.out (fun _ hk => ⟨hk.1.2, hk.2⟩)) hg hat)
     have n3_ := A_ (hb)
     have n4_ := A_ (ho)
     clear BK165
     clear HO169
     clear HO175
     clear HB
     clear HO172
     have BK165 := n0_
     have HO169 := n1_
     have HO175 := n2_
     have HB := n3_
     have HO178 := n4_
     clear n0_ n1_ n2_ n3_ n4_
     clear ho hb hg hat
     refine hK.out _ _ ⟨(blk_cell BK165.out 0).trans rfl, (blk_cell BK165.out 1).trans rfl, (blk_cell BK165.out 2).trans rfl, (blk_cell BK165.out 3).trans rfl⟩ (fun hHeld => ?_)
     clear hK K
     refine norm_ (nz_ 37) ?_
     refine pu_ 10 (some 3) (yx 11 0) ?_
     refine done_ (done_of HT_.out (by kernel_rfl)) ?_
     try go_wp2
     replace HO169 := A_ (Kd.R_drew HO169.out)
     replace HO175 := A_ (Kd.R_drew HO175.out)
     replace HO178 := A_ (Kd.R_drew HO178.out)
     replace BK165 := A_ (blk_drew BK165.out)
     replace HB := A_ (below_drew1 HB.out)
     refine start_ (n := 15) (S := fun w' => w'.cell? ⟨gb165, 0, none⟩ = some (.string ((rd_T31 l0 x5_1).f0)) ∧ w'.cell? ⟨gb165, 1, none⟩ = some (.string ((rd_T31 l0 x5_1).f1)) ∧ w'.cell? ⟨gb165, 2, none⟩ = some (.int .i64 ((rd_T31 l0 x5_1).f2)) ∧ w'.cell? ⟨gb165, 3, none⟩ = some (.bool ((rd_T31 l0 x5_1).f3))) (ds := []) (yx 0 15) (by kernel_rfl) rfl rfl ⟨(blk_cell BK165.out 0).trans rfl, (blk_cell BK165.out 1).trans rfl, (blk_cell BK165.out 2).trans rfl, (blk_cell BK165.out 3).trans rfl⟩ (fun hHeld => ?_); refine with_tabW spec_l4Packed.tab11 spec_l4Packed.bits11 (fun HT_ HW_ => ?_)
     generalize w28.drew = w30 at HO169 HO175 HO178 BK165 HB hHeld ⊢
     refine pu_ 0 (some 38) (yx 1 14) ?_
     refine pu_ 1 (some 39) (yx 2 13) ?_
     refine pu_ 4 (some 42) (bs "YYXXYXXXXXXXXXX") ?_
     refine pu_ 10 (some 48) (bs "YYXXYXXXXXYXXXX") ?_
     refine take_ (i := 2) (N := some 40) (v := _) (a' := _) (bs "YYYXYXXXXXYXXXX") rfl rfl (take_ofW HT_.out HW_.out (by kernel_rfl)) (fun _ _ _ h => h) (Or.inl ⟨by rfl, (by rintro w' ⟨s0, s1, s2, s3⟩; go_simp; with_reducible rfl)⟩) hHeld z110b ?_
     refine pu_ 3 (some 41) (bs "YYYYYXXXXXYXXXX") ?_
     refine take_ (i := 5) (N := some 43) (v := _) (a' := _) (bs "YYYYYYXXXXYXXXX") rfl rfl (take_ofW HT_.out HW_.out (by kernel_rfl)) (fun _ _ _ h => h) (Or.inl ⟨by rfl, (by rintro w' ⟨s0, s1, s2, s3⟩; go_simp; with_reducible rfl)⟩) hHeld z110b ?_
     refine take_ (i := 11) (N := some 49) (v := _) (a' := _) (bs "YYYYYYXXXXYYXXX") rfl rfl (take_ofW HT_.out HW_.out (by kernel_rfl)) (fun _ _ _ h => h) (Or.inl ⟨by rfl, (by rintro w' ⟨s0, s1, s2, s3⟩; go_simp; with_reducible rfl)⟩) hHeld z110b ?_
     refine one_ (i := 6) (N := some 44) (bs "YYYYYYYXXXYYXXX") rfl rfl (one_of HT_.out (by kernel_rfl)) (by decide) (fun K hK => ?_)
     refine goes_ Try.func133 (by kernel_rfl) rfl #[.bool ((rd_T31 l0 x5_1).f3)] (by rfl) rfl rfl z110e ?_
     with_reducible refine (spec_l4Flag.calls ((rd_T31 l0 x5_1).f3) t179 _ A17.out).mono ?_
     rintro e w' ⟨rfl, ⟨nd, rfl⟩⟩
     refine ⟨_, rfl, ?_⟩
     refine hK.out _ _ ⟨(blk_cell BK165.out 0).trans rfl, (blk_cell BK165.out 1).trans rfl, (blk_cell BK165.out 2).trans rfl, (blk_cell BK165.out 3).trans rfl⟩ (fun hHeld => ?_)
     clear hK K
     refine norm_ (nz_ 44) ?_
     refine pu_ 7 (some 45) (bs "YYYYYYYYXXYYXXX") ?_
     refine one_ (i := 8) (N := some 46) (bs "YYYYYYYYYXYYXXX") rfl rfl (one_of HT_.out (by kernel_rfl)) (by decide) (fun K hK => ?_)
     refine goes_ Try.func130 (by kernel_rfl) rfl #[.int .i64 (wrap64 ((wrap64 (2 * ((rd_T31 l0 x5_1).f2))) + t179))] (by rfl) rfl rfl z110e ?_
     with_reducible refine (spec_l1Number.calls kj5 (wrap64 ((wrap64 (2 * ((rd_T31 l0 x5_1).f2))) + t179)) t180 _ A18.out).mono ?_
     rintro e w31 ⟨v181, rfl, ho0, hb⟩
     refine ⟨_, rfl, ?_⟩
     have n0_ := A_ (Kd.R_elder' z110c (Kd.R_base ho0) hb)
     have n1_ := A_ (Kd.R_elder' z110f (Kd.R_base ho0) hb)
     have n2_ := A_ (Kd.R_elder' (by (with_reducible repeat (first | apply Kd.R_alloc | apply Kd.R_drewN | apply Kd.R_drew)); exact HO178.out) (Kd.R_base ho0) hb)
     have n3_ := A_ (Kd.R_lower (Kd.R_new' (Kd.R_new' (Kd.R_new' ho0 (Kd.R_lt z110c)) (Kd.R_lt z110f)) (Kd.R_lt (by (with_reducible repeat (first | apply Kd.R_alloc | apply Kd.R_drewN | apply Kd.R_drew)); exact HO178.out))) (below_size z110a))
     have n4_ := A_ (blk_below (g := gb165) (o := .cells #[.string ((rd_T31 l0 x5_1).f0), .string ((rd_T31 l0 x5_1).f1), .int .i64 ((rd_T31 l0 x5_1).f2), .bool ((rd_T31 l0 x5_1).f3)] 31 (0, 0)) z110d hb)
     have n5_ := A_ (below_step z110a hb)
     clear HO169
     clear HO175
     clear HO178
     clear BK165
     clear HB
     have HO169 := n0_
     have HO175 := n1_
     have HO178 := n2_
     have HO182 := n3_
     have BK165 := n4_
     have HB := n5_
     clear n0_ n1_ n2_ n3_ n4_ n5_
     obtain ⟨Ao33, co33, eo33⟩ := Kd.R_slice HO182.out
     (first | subst eo33 | (injection eo33 with f1_ f2_ f3_; have f4_ := f1_.symm; have f5_ := f3_.symm; clear f1_ f2_ f3_; subst f4_; subst f5_))
     refine hK.out _ _ ⟨(blk_cell BK165.out 0).trans rfl, (blk_cell BK165.out 1).trans rfl, (blk_cell BK165.out 2).trans rfl, (blk_cell BK165.out 3).trans rfl⟩ (fun hHeld => ?_)
     clear hK K
     refine norm_ (nz_ 46) ?_
     refine one_ (i := 9) (N := some 47) (yx 12 3) rfl rfl (one_of HT_.out (by kernel_rfl)) (by decide) (fun K hK => ?_)
     refine Kd.R_append_rows_step (Kd.int .u8) (w0 := w) w.heap.size (by rfl) (.tmp 38) (.tmp 46) 36 5 (.int .u8 0) 1 rfl Try.underlying36 info5 rfl (by decide) (by omega) v177 y176 t180 _ _ _ (fun k_ => some k_ ≠ (.slice Ao26 t167.length co26 : Value).ownBlock ∧ some k_ ≠ (.slice Ao29 t173.length co29 : Value).ownBlock ∧ some k_ ≠ (.slice Ao33 t180.length co33 : Value).ownBlock) (fun _ => False) rfl rfl ?aO ?aR (fun _ _ h => h) (fun _ h => h.elim) ?aF ?aB ?aS ?aL ?_
     (case aR => exact (by repeat (first | exact (Kd.R_reads' HO182.out).2.2 | (with_reducible refine Kd.C_alloc ?_ _) | (with_reducible refine Kd.C_drewN ?_ _) | (with_reducible refine Kd.C_drew ?_))))
     (case aB => exact z110a)
     (case aF => exact (fun k_ hk => ⟨Kd.fresh' (Kd.R_lt z110c) k_ hk, Kd.fresh' (Kd.R_lt z110f) k_ hk, Kd.fresh' (Kd.R_lt (by (with_reducible repeat (first | apply Kd.R_alloc | apply Kd.R_drewN | apply Kd.R_drew)); exact HO182.out)) k_ hk⟩))
     (case aO => exact (by (with_reducible repeat (first | apply Kd.R_alloc | apply Kd.R_drewN | apply Kd.R_drew)); exact Kd.R_mono HO178.out (fun _ hk => ⟨hk.1.1, ⟨hk.1.2, hk.2⟩⟩)))
     (case aS => exact (below_size z110a))
     (case aL => have := LMc19.out; omega)
     intro v184 w32 ho hb hg hat
     rw [← Ny183.out] at ho
     have n0_ := A_ (blk_grown (g := gb165) (o := .cells #[.string ((rd_T31 l0 x5_1).f0), .string ((rd_T31 l0 x5_1).f1), .int .i64 ((rd_T31 l0 x5_1).f2), .bool ((rd_T31 l0 x5_1).f3)] 31 (0, 0)) z110d hg (Kd.R_ne HO178.out BK165.out (by decide)))
     have n1_ := A_ (Kd.R_after (ok := (fun k_ => some k_ ≠ (.slice Ao29 t173.length co29 : Value).ownBlock ∧ some k_ ≠ (.slice Ao33 t180.length co33 : Value).ownBlock)) (by (with_reducible repeat (first | apply Kd.R_alloc | apply Kd.R_drewN | apply Kd.R_drew)); exact Kd.R_mono HO169.out (fun _ hk => ⟨⟨hk.1.1, hk.2⟩, hk.1.2⟩)) hg hat)
     have n2_ := A_ (Kd.R_after (ok := (fun k_ => some k_ ≠ (.slice Ao26 t167.length co26 : Value).ownBlock ∧ some k_ ≠ (.slice Ao33 t180.length co33 : Value).ownBlock)) (by (with_reducible repeat (first | apply Kd.R_alloc | apply Kd.R_drewN | apply Kd.R_drew)); exact Kd.R_mono HO175.out (fun _ hk => ⟨⟨hk.1.1, hk.2⟩, hk.1.2⟩)) hg hat)
     have n3_ := A_ (Kd.R_after (ok := (fun k_ => some k_ ≠ (.slice Ao26 t167.length co26 : Value).ownBlock ∧ some k_ ≠ (.slice Ao29 t173.length co29 : Value).ownBlock)) (by (with_reducible repeat (first | apply Kd.R_alloc | apply Kd.R_drewN | apply Kd.R_drew)); exact Kd.R_mono HO182.out (fun _ hk => ⟨⟨hk.1.1.2, hk.1.2⟩, hk.2⟩)) hg hat)
     have n4_ := A_ (hb)
     have n5_ := A_ (ho)
     clear BK165
     clear HO169
     clear HO175
     clear HO182
     clear HB
     clear HO178
     have BK165 := n0_
     have HO169 := n1_
     have HO175 := n2_
     have HO182 := n3_
     have HB := n4_
     have HO185 := n5_
     clear n0_ n1_ n2_ n3_ n4_ n5_
     clear ho hb hg hat
     refine hK.out _ _ ⟨(blk_cell BK165.out 0).trans rfl, (blk_cell BK165.out 1).trans rfl, (blk_cell BK165.out 2).trans rfl, (blk_cell BK165.out 3).trans rfl⟩ (fun hHeld => ?_)
     clear hK K
     refine norm_ (nz_ 47) ?_
     refine one_ (i := 12) (N := some 50) (yx 13 2) rfl rfl (one_of HT_.out (by kernel_rfl)) (by decide) (fun K hK => ?_)
     refine goes_ Try.func132 (by kernel_rfl) rfl #[.string ((rd_T31 l0 x5_1).f1)] (by rfl) rfl rfl z110e ?_
     with_reducible refine (spec_l1Text.calls kj5 ((rd_T31 l0 x5_1).f1) t186 _ A20.out).mono ?_
     rintro e w34 ⟨v187, rfl, ho0, hb⟩
     refine ⟨_, rfl, ?_⟩
     have n0_ := A_ (Kd.R_elder' z110c (Kd.R_base ho0) hb)
     have n1_ := A_ (Kd.R_elder' z110f (Kd.R_base ho0) hb)
     have n2_ := A_ (Kd.R_elder' (by (with_reducible repeat (first | apply Kd.R_alloc | apply Kd.R_drewN | apply Kd.R_drew)); exact HO182.out) (Kd.R_base ho0) hb)
     have n3_ := A_ (Kd.R_elder' (by (with_reducible repeat (first | apply Kd.R_alloc | apply Kd.R_drewN | apply Kd.R_drew)); exact HO185.out) (Kd.R_base ho0) hb)
     have n4_ := A_ (Kd.R_lower (Kd.R_new' (Kd.R_new' (Kd.R_new' (Kd.R_new' ho0 (Kd.R_lt z110c)) (Kd.R_lt z110f)) (Kd.R_lt (by (with_reducible repeat (first | apply Kd.R_alloc | apply Kd.R_drewN | apply Kd.R_drew)); exact HO182.out))) (Kd.R_lt (by (with_reducible repeat (first | apply Kd.R_alloc | apply Kd.R_drewN | apply Kd.R_drew)); exact HO185.out))) (below_size z110a))
     have n5_ := A_ (blk_below (g := gb165) (o := .cells #[.string ((rd_T31 l0 x5_1).f0), .string ((rd_T31 l0 x5_1).f1), .int .i64 ((rd_T31 l0 x5_1).f2), .bool ((rd_T31 l0 x5_1).f3)] 31 (0, 0)) z110d hb)
     have n6_ := A_ (below_step z110a hb)
     clear HO169
     clear HO175
     clear HO182
     clear HO185
     clear BK165
     clear HB
     have HO169 := n0_
     have HO175 := n1_
     have HO182 := n2_
     have HO185 := n3_
     have HO188 := n4_
     have BK165 := n5_
     have HB := n6_
     clear n0_ n1_ n2_ n3_ n4_ n5_ n6_
     obtain ⟨Ao36, co36, eo36⟩ := Kd.R_slice HO188.out
     (first | subst eo36 | (injection eo36 with f1_ f2_ f3_; have f4_ := f1_.symm; have f5_ := f3_.symm; clear f1_ f2_ f3_; subst f4_; subst f5_))
     refine hK.out _ _ ⟨(blk_cell BK165.out 0).trans rfl, (blk_cell BK165.out 1).trans rfl, (blk_cell BK165.out 2).trans rfl, (blk_cell BK165.out 3).trans rfl⟩ (fun hHeld => ?_)
     clear hK K
     refine norm_ (nz_ 50) ?_
     refine one_ (i := 13) (N := some 51) (yx 14 1) rfl rfl (one_of HT_.out (by kernel_rfl)) (by decide) (fun K hK => ?_)
     refine Kd.R_append_rows_step (Kd.int .u8) (w0 := w) w.heap.size (by rfl) (.tmp 47) (.tmp 50) 36 5 (.int .u8 0) 1 rfl Try.underlying36 info5 rfl (by decide) (by omega) v184 y183 t186 _ _ _ (fun k_ => some k_ ≠ (.slice Ao26 t167.length co26 : Value).ownBlock ∧ some k_ ≠ (.slice Ao29 t173.length co29 : Value).ownBlock ∧ some k_ ≠ (.slice Ao33 t180.length co33 : Value).ownBlock ∧ some k_ ≠ (.slice Ao36 t186.length co36 : Value).ownBlock) (fun _ => False) rfl rfl ?aO ?aR (fun _ _ h => h) (fun _ h => h.elim) ?aF ?aB ?aS ?aL ?_
     (case aR => exact (by repeat (first | exact (Kd.R_reads' HO188.out).2.2 | (with_reducible refine Kd.C_alloc ?_ _) | (with_reducible refine Kd.C_drewN ?_ _) | (with_reducible refine Kd.C_drew ?_))))
     (case aB => exact z110a)
     (case aF => exact (fun k_ hk => ⟨Kd.fresh' (Kd.R_lt z110c) k_ hk, Kd.fresh' (Kd.R_lt z110f) k_ hk, Kd.fresh' (Kd.R_lt (by (with_reducible repeat (first | apply Kd.R_alloc | apply Kd.R_drewN | apply Kd.R_drew)); exact HO182.out)) k_ hk, Kd.fresh' (Kd.R_lt (by (with_reducible repeat (first | apply Kd.R_alloc | apply Kd.R_drewN | apply Kd.R_drew)); exact HO188.out)) k_ hk⟩))
     (case aO => exact (by (with_reducible repeat (first | apply Kd.R_alloc | apply Kd.R_drewN | apply Kd.R_drew)); exact Kd.R_mono HO185.out (fun _ hk => ⟨hk.1.1, ⟨hk.1.2.1, ⟨hk.1.2.2, hk.2⟩⟩⟩)))
     (case aS => exact (below_size z110a))
     (case aL => have := LMc21.out; omega)
     intro v190 w35 ho hb hg hat
     rw [← Ny189.out] at ho
     have n0_ := A_ (blk_grown (g := gb165) (o := .cells #[.string ((rd_T31 l0 x5_1).f0), .string ((rd_T31 l0 x5_1).f1), .int .i64 ((rd_T31 l0 x5_1).f2), .bool ((rd_T31 l0 x5_1).f3)] 31 (0, 0)) z110d hg (Kd.R_ne HO185.out BK165.out (by decide)))
     have n1_ := A_ (Kd.R_after (ok := (fun k_ => some k_ ≠ (.slice Ao29 t173.length co29 : Value).ownBlock ∧ some k_ ≠ (.slice Ao33 t180.length co33 : Value).ownBlock ∧ some k_ ≠ (.slice Ao36 t186.length co36 : Value).ownBlock)) (by (with_reducible repeat (first | apply Kd.R_alloc | apply Kd.R_drewN | apply Kd.R_drew)); exact Kd.R_mono HO169.out (fun _ hk => ⟨⟨hk.1.1.1, ⟨hk.1.1.2, hk.2⟩⟩, hk.1.2⟩)) hg hat)
     have n2_ := A_ (Kd.R_after (ok := (fun k_ => some k_ ≠ (.slice Ao26 t167.length co26 : Value).ownBlock ∧ some k_ ≠ (.slice Ao33 t180.length co33 : Value).ownBlock ∧ some k_ ≠ (.slice Ao36 t186.length co36 : Value).ownBlock)) (by (with_reducible repeat (first | apply Kd.R_alloc | apply Kd.R_drewN | apply Kd.R_drew)); exact Kd.R_mono HO175.out (fun _ hk => ⟨⟨hk.1.1.1, ⟨hk.1.1.2, hk.2⟩⟩, hk.1.2⟩)) hg hat)
     have n3_ := A_ (Kd.R_after (ok := (fun k_ => some k_ ≠ (.slice Ao26 t167.length co26 : Value).ownBlock ∧ some k_ ≠ (.slice Ao29 t173.length co29 : Value).ownBlock ∧ some k_ ≠ (.slice Ao36 t186.length co36 : Value).ownBlock)) (by (with_reducible repeat (first | apply Kd.R_alloc | apply Kd.R_drewN | apply Kd.R_drew)); exact Kd.R_mono HO182.out (fun _ hk => ⟨⟨hk.1.1.1, ⟨hk.1.1.2, hk.2⟩⟩, hk.1.2⟩)) hg hat)
     have n4_ := A_ (Kd.R_after (ok := (fun k_ => some k_ ≠ (.slice Ao26 t167.length co26 : Value).ownBlock ∧ some k_ ≠ (.slice Ao29 t173.length co29 : Value).ownBlock ∧ some k_ ≠ (.slice Ao33 t180.length co33 : Value).ownBlock)) (by (with_reducible repeat (first | apply Kd.R_alloc | apply Kd.R_drewN | apply Kd.R_drew)); exact Kd.R_mono HO188.out (fun _ hk => ⟨⟨hk.1.1.1.2, ⟨hk.1.1.2, hk.1.2⟩⟩, hk.2⟩)) hg hat)
     have n5_ := A_ (hb)
     have n6_ := A_ (ho)
     clear BK165
     clear HO169
     clear HO175
     clear HO182
     clear HO188
     clear HB
     clear HO185
     have BK165 := n0_
     have HO169 := n1_
     have HO175 := n2_
     have HO182 := n3_
     have HO188 := n4_
     have HB := n5_
     have HO191 := n6_
     clear n0_ n1_ n2_ n3_ n4_ n5_ n6_
     clear ho hb hg hat
     refine hK.out _ _ ⟨(blk_cell BK165.out 0).trans rfl, (blk_cell BK165.out 1).trans rfl, (blk_cell BK165.out 2).trans rfl, (blk_cell BK165.out 3).trans rfl⟩ (fun hHeld => ?_)
     clear hK K
     refine norm_ (nz_ 51) ?_
     refine pu_ 14 (some 3) (yx 15 0) ?_
     refine done_ (done_of HT_.out (by kernel_rfl)) ?_
     have hcz37_0 : w35.cell? ⟨gb165, 0, none⟩ = some (.string ((rd_T31 l0 x5_1).f0)) := (blk_cell BK165.out 0).trans rfl
     have hcz37_1 : w35.cell? ⟨gb165, 1, none⟩ = some (.string ((rd_T31 l0 x5_1).f1)) := (blk_cell BK165.out 1).trans rfl
     have hcz37_2 : w35.cell? ⟨gb165, 2, none⟩ = some (.int .i64 ((rd_T31 l0 x5_1).f2)) := (blk_cell BK165.out 2).trans rfl
     have hcz37_3 : w35.cell? ⟨gb165, 3, none⟩ = some (.bool ((rd_T31 l0 x5_1).f3)) := (blk_cell BK165.out 3).trans rfl
     have hfz37_0 := blk_frozen BK165.out 0
     have hfz37_1 := blk_frozen BK165.out 1
     have hfz37_2 := blk_frozen BK165.out 2
     have hfz37_3 := blk_frozen BK165.out 3
     try go_wp2
     go_roundg kj5
     case measure => have := HK1.out; have := HJ5.out; omega
     case rel => exact ⟨(y189), (((rd_T31 l0 x5_1).f0)), (wrap64 (x5_1 + 1)), (by first | rfl | (simp; done) | (simp [*]; done)), (by first | rfl | (simp; done) | (simp [*]; done)), H', ⟨by have := HK1.out; have := HJ5.out; omega⟩, ⟨by (with_reducible repeat (first | apply Kd.R_alloc | apply Kd.R_drewN | apply Kd.R_drew)); exact Kd.R_mono HO191.out (fun _ hk => trivial)⟩, ⟨by repeat (first | (with_reducible first | exact HB.out | apply below_alloc | apply pw_below_drewN | apply below_drew1 | refine below_set ?_ GE165.out) | exact HB.out)⟩⟩
     }
     {
     rw [if_neg c21] at H
     exact absurd H (by simp)
     }
     }
     {
     rw [if_neg c19] at H
     exact absurd H (by simp)
     }
     }
     {
     rw [if_neg c16] at H
     exact absurd H (by simp)
     }
     }
     {
     rw [if_neg c14] at H
     exact absurd H (by simp)
     }
     }
     {
     rw [if_neg c13] at H
     exact absurd H (by simp)
     }
     }
     {
     rw [if_neg c12] at H
     exact absurd H (by simp)
     }
   }
   {
   rw [if_neg c5] at H
   exact absurd H (by simp)
   }
   }
   {
   rw [if_neg c4] at H
   have c4b0 : decide (x5_1 < (l0.length : Int)) = false := decide_eq_false c4
   clear c4
   obtain rfl := Option.some.inj H
   go_wp2
   go_ret
   exact ⟨_, by first | rfl | (simp [errW_none, errW_some] <;> rfl) | (simp [*, errW_none, errW_some] <;> rfl), by (with_reducible repeat (first | apply Kd.R_alloc | apply Kd.R_drewN | apply Kd.R_drew)); exact HO_3.out, by repeat (first | (with_reducible first | exact HB.out | apply below_alloc | apply pw_below_drewN | apply below_drew1) | exact HB.out)⟩
   
   }
theorem z142a {p_ : Prop} (h_ : p_ := by repeat (first | (with_reducible first | exact HB.out | apply below_alloc | apply pw_below_drewN | apply below_drew1) | exact HB.out)) : p_ := h_
def spec_Packed.f (k : Nat) (l0 : List (S31)) : Option (List Int) := (spec_EntriesOk.f k l0).bind fun t192 => (if t192 = true then ((spec_l4Packed.f k l0).bind fun t193 => (some t193)) else (some (([] : List Int))))
set_option maxHeartbeats 8000000 in
set_option maxRecDepth 100000 in
theorem spec_Packed.calls (k : Nat) (A0 : Option Addr) (c0 : Nat) (l0 : List (S31)) (r : List Int) (w : World) (hr0 : Kd.C k31 w A0 l0.length l0) (hc0 : l0.length ≤ c0) (h : spec_Packed.f k l0 = some r) :
  Calls Try.prog 142 #[.slice A0 l0.length c0] w fun e w' => ∃ v0_ : Value, e = .returned (v0_) ∧ Kd.R (Kd.int .u8) 5 w' w.heap.size (fun _ => True) v0_ r ∧ Below w.heap.size w w' := by
 have HR0 := A_ hr0
 have HC0 := A_ hc0
 clear hr0 hc0
 have HB := A_ (Below.refl w.heap.size w)
 have H : ((spec_EntriesOk.f k l0).bind fun t192 => (if t192 = true then ((spec_l4Packed.f k l0).bind fun t193 => (some t193)) else (some (([] : List Int))))) = some r := h
 clear h
 replace H := Option.bind_eq_some_iff.mp H
 obtain ⟨t192, A20, H⟩ := H
 (try dsimp only at H)
 have A2 := A_ A20
 clear A20
 by_cases c3 : t192 = true
 {
 subst c3
 rw [if_pos rfl] at H
 replace H := Option.bind_eq_some_iff.mp H
 obtain ⟨t193, A40, H⟩ := H
 (try dsimp only at H)
 have A4 := A_ A40
 clear A40
 obtain rfl := Option.some.inj H
 go_enter Try.func142, Try.ntmps142
 go_wp2_with (first | ((with_reducible refine gate_callee (f := 27) rfl ?_); refine goesL_ (some 4) rfl rfl Try.func27 (by kernel_rfl) rfl #[.slice A0 l0.length c0] rfl (by (try simp only [List.map_toArray, List.map_cons, List.map_nil]); first | done | rfl | (simp only [List.length_drop, List.length_take]; rfl)) ?_; (with_reducible refine (spec_EntriesOk.calls k _ _ l0 true _ ?side1 ?side2 A2.out).mono ?_); (case side1 => exact (by repeat (first | exact HR0.out | (with_reducible refine Kd.C_alloc ?_ _) | (with_reducible refine Kd.C_drewN ?_ _) | (with_reducible refine Kd.C_drew ?_)))); (case side2 => exact HC0.out); rintro e w5 ⟨rfl, hb⟩; refine ⟨_, rfl, ?_⟩; replace HB := A_ (below_step z142a hb)) | ((with_reducible refine gate_callee (f := 110) rfl ?_); refine goesL_ (some 8) rfl rfl Try.func110 (by kernel_rfl) rfl #[.slice A0 l0.length c0] rfl (by (try simp only [List.map_toArray, List.map_cons, List.map_nil]); first | done | rfl | (simp only [List.length_drop, List.length_take]; rfl)) ?_; (with_reducible refine (spec_l4Packed.calls k _ _ l0 t193 _ ?side1 ?side2 A4.out).mono ?_); (case side1 => exact (by repeat (first | exact (Kd.C_below HR0.out HB.out) | (with_reducible refine Kd.C_alloc ?_ _) | (with_reducible refine Kd.C_drewN ?_ _) | (with_reducible refine Kd.C_drew ?_)))); (case side2 => exact HC0.out); rintro e w6 ⟨v194, rfl, ho0, hb⟩; refine ⟨_, rfl, ?_⟩; have n0_ := A_ (Kd.R_lower ho0 (below_size z142a)); have n1_ := A_ (below_step z142a hb); clear HB; have HO195 := n0_; have HB := n1_; clear n0_ n1_))
 go_ret
 exact ⟨_, by first | rfl | (simp [errW_none, errW_some] <;> rfl) | (simp [*, errW_none, errW_some] <;> rfl), by (with_reducible repeat (first | apply Kd.R_alloc | apply Kd.R_drewN | apply Kd.R_drew)); exact HO195.out, by repeat (first | (with_reducible first | exact HB.out | apply below_alloc | apply pw_below_drewN | apply below_drew1) | exact HB.out)⟩
 }
 {
 replace c3 := Bool.eq_false_iff.mpr c3
 subst c3
 rw [if_neg Bool.false_ne_true] at H
 obtain ⟨y196, hy196⟩ : ∃ y_ : List Int, y_ = (([] : List Int)) := ⟨_, rfl⟩
 replace H : (some y196) = some r := by first | (rw [hy196]; with_reducible exact H) | (have H2_ := (Option.bind_some _ _).symm.trans H; rw [hy196]; with_reducible exact H2_) | (have H2_ := (Option.bind_some _ _).symm.trans H; with_reducible exact H2_) | with_reducible exact H | (rw [hy196]; exact H) | exact H
 have Ny196 := A_ hy196
 clear hy196
 obtain rfl := Option.some.inj H
 go_enter Try.func142, Try.ntmps142
 go_wp2_with (first | ((with_reducible refine gate_callee (f := 27) rfl ?_); refine goesL_ (some 4) rfl rfl Try.func27 (by kernel_rfl) rfl #[.slice A0 l0.length c0] rfl (by (try simp only [List.map_toArray, List.map_cons, List.map_nil]); first | done | rfl | (simp only [List.length_drop, List.length_take]; rfl)) ?_; (with_reducible refine (spec_EntriesOk.calls k _ _ l0 false _ ?side1 ?side2 A2.out).mono ?_); (case side1 => exact (by repeat (first | exact HR0.out | (with_reducible refine Kd.C_alloc ?_ _) | (with_reducible refine Kd.C_drewN ?_ _) | (with_reducible refine Kd.C_drew ?_)))); (case side2 => exact HC0.out); rintro e w7 ⟨rfl, hb⟩; refine ⟨_, rfl, ?_⟩; replace HB := A_ (below_step z142a hb)) | ((with_reducible refine gate_dst (N := 6) rfl ?_); refine Kd.R_lit (Kd.int .u8) _ 5 ?hg (N := 6) ?hd (xs := ([] : List Int)) (inner := []) (ok := fun _ => True) (okp := fun _ => True) ?hr ?hp (fun _ hk => hk) trivial (Below.refl _ _) (Nat.le_refl _) (by simp) ?_; (case hd => rfl); (case hg => rfl); (case hr => first | (go_simp; done) | (go_simp; rfl)); (case hp => exact (Reps.none _ _)); intro v197 w8 ho9 hb hg_ hnew_; clear hg_ hnew_; (first | rw [← Ny196.out] at ho9 | (simp only [Int.reduceToNat] at ho9; rw [← Ny196.out] at ho9)); have n0_ := A_ (Kd.R_lower ho9 (below_size z142a)); have n1_ := A_ (below_step z142a hb); clear HB; have HO198 := n0_; have HB := n1_; clear n0_ n1_; clear hb ho9))
 go_ret
 exact ⟨_, by first | rfl | (simp [errW_none, errW_some] <;> rfl) | (simp [*, errW_none, errW_some] <;> rfl), by (with_reducible repeat (first | apply Kd.R_alloc | apply Kd.R_drewN | apply Kd.R_drew)); exact HO198.out, by repeat (first | (with_reducible first | exact HB.out | apply below_alloc | apply pw_below_drewN | apply below_drew1) | exact HB.out)⟩
 
 }
end Go.Proofs.Ytaiggfjkikfcbaa.PFnExactMay

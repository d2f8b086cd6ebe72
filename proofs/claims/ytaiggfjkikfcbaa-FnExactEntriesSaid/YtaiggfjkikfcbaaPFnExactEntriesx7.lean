-- by a program of this session (wip/print/run.py) for this claim
import Derived.Test.YtaiggfjkikfcbaaLibPu
import Derived.Test.YtaiggfjkikfcbaaPFnExactEntriesx0
import Derived.Test.YtaiggfjkikfcbaaPFnExactEntriesx5
import Derived.Test.YtaiggfjkikfcbaaPFnExactEntriesx6
namespace Go.Proofs.Ytaiggfjkikfcbaa.PFnExactEntries
open Go.Proofs.Ytaiggfjkikfcbaa.Lib Go.RowKit Go.Proofs.YtaiggfjkikfcbaaW.PrintWords Go.Proofs.YtaiggfjkikfcbaaW.PrintLast Go.Proofs.YtaiggfjkikfcbaaW.PrintMore
attribute [local go_sem] max2_int min2_int max_two min_two max_three min_three max_four min_four   -- for this text's walks alone
set_option linter.unusedVariables false
set_option linter.unusedSimpArgs false

theorem z110a {p_ : Prop} (h_ : p_ := by repeat (first | (with_reducible first | exact HB.out | apply below_alloc | apply pw_below_drewN | apply below_drew1 | refine below_set ?_ GE193.out) | exact HB.out)) : p_ := h_
theorem z110c {p_ : Prop} (h_ : p_ := by (with_reducible repeat (first | apply Kd.R_alloc | apply Kd.R_drewN | apply Kd.R_drew)); exact HO197.out) : p_ := h_
theorem z110d {p_ : Prop} (h_ : p_ := by (with_reducible repeat (first | refine blk_drewN ?_ _ | refine blk_drew ?_ | refine blk_alloc ?_ _)); exact BK193.out) : p_ := h_
theorem z110f {p_ : Prop} (h_ : p_ := by (with_reducible repeat (first | apply Kd.R_alloc | apply Kd.R_drewN | apply Kd.R_drew)); exact HO203.out) : p_ := h_
mutual
def spec_l4Packed.l0 : Nat → List (S31) → List Int → ByteArray → Int → Option (List Int)
 | 0, _, _, _, _ => none
 | k + 1, x0, x3, x4, x5 => if x5 < (x0.length : Int) then (if 0 ≤ x5 then (if (Int.tmod x5 8) = 0 then (spec_l4Packed.j1 k x0 x3 (⟨#[]⟩ : ByteArray) x5 ((rd_T31 x0 x5).f0) ((rd_T31 x0 x5).f1) ((rd_T31 x0 x5).f2) ((rd_T31 x0 x5).f3)) else (spec_l4Packed.j1 k x0 x3 x4 x5 ((rd_T31 x0 x5).f0) ((rd_T31 x0 x5).f1) ((rd_T31 x0 x5).f2) ((rd_T31 x0 x5).f3))) else (none)) else (some x3)
def spec_l4Packed.j1 : Nat → List (S31) → List Int → ByteArray → Int → ByteArray → ByteArray → Int → Bool → Option (List Int)
 | 0, _, _, _, _, _, _, _, _ => none
 | k + 1, x0, x3, x4, x5, x194000, x194001, x194002, x194003 => (spec_Common.f k x4 x194000).bind fun t194 => ((spec_l1Number.f k t194).bind fun t195 => (if x3.length + t195.length < 140737488355328 then ((some (x3 ++ t195 : List Int)).bind fun y198 => (if 0 ≤ t194 then (if t194 ≤ (x194000.size : Int) then ((spec_l1Text.f k (x194000.extract (t194 : Int).toNat x194000.size)).bind fun t201 => (if y198.length + t201.length < 140737488355328 then ((some (y198 ++ t201 : List Int)).bind fun y204 => ((spec_l4Flag.f x194003).bind fun t207 => ((spec_l1Number.f k (wrap64 ((wrap64 (2 * x194002)) + t207))).bind fun t208 => (if y204.length + t208.length < 140737488355328 then ((some (y204 ++ t208 : List Int)).bind fun y211 => ((spec_l1Text.f k x194001).bind fun t214 => (if y211.length + t214.length < 140737488355328 then (spec_l4Packed.l0 k x0 (y211 ++ t214) x194000 (wrap64 (x5 + 1))) else (none)))) else (none))))) else (none))) else (none)) else (none))) else (none)))
end
def spec_l4Packed.f (k : Nat) (l0 : List (S31)) : Option (List Int) := (spec_l1Number.f k (l0.length : Int)).bind fun t189 => (spec_l4Packed.l0 k l0 t189 (⟨#[]⟩ : ByteArray) 0)
def spec_l4Packed.T10 : Bool × List (List Nat × List Nat) := (true, [([], []), ([], []), ([1], [1]), ([0, 2, 2], [0, 2]), ([], []), ([4], [4]), ([], []), ([5, 6], [5, 6]), ([7, 3], [7]), ([3, 8, 8], [3, 8]), ([9, 9, 0, 1, 2, 3, 4, 5, 6, 7, 8, 9], [0, 9])])
def spec_l4Packed.B10 : List Nat := [0, 0, 2, 7, 0, 16, 0, 112, 255, 511, 1023]
theorem spec_l4Packed.tab10 : rtab .any (opsOf Try.f110 10) = spec_l4Packed.T10 := by kernel_rfl
theorem spec_l4Packed.bits10 : waitsOk spec_l4Packed.T10.2 spec_l4Packed.B10 = true := by kernel_rfl
def spec_l4Packed.T11 : Bool × List (List Nat × List Nat) := (true, [([], []), ([], []), ([1], [1]), ([2], [2]), ([], []), ([4], [4]), ([5], [5]), ([3, 6], [3, 6]), ([7, 6], [7]), ([0, 8, 8], [0, 8]), ([], []), ([10], [10]), ([11, 9], [11]), ([9, 12, 12], [9, 12]), ([13, 13, 0, 1, 2, 3, 4, 5, 6, 7, 8, 9, 10, 11, 12, 13], [0, 13])])
def spec_l4Packed.B11 : List Nat := [0, 0, 2, 6, 0, 16, 48, 126, 254, 511, 0, 1024, 4095, 8191, 16383]
theorem spec_l4Packed.tab11 : rtab .any (opsOf Try.f110 11) = spec_l4Packed.T11 := by kernel_rfl
theorem spec_l4Packed.bits11 : waitsOk spec_l4Packed.T11.2 spec_l4Packed.B11 = true := by kernel_rfl
set_option maxHeartbeats 8000000 in
set_option maxRecDepth 100000 in
theorem spec_l4Packed.calls (k : Nat) (A0 : Option Addr) (c0 : Nat) (l0 : List (S31)) (r : List Int) (w : World) (hr0 : Kd.C k31 w A0 l0.length l0) (hc0 : l0.length ≤ c0) (h : spec_l4Packed.f k l0 = some r) :
  Calls Try.prog 110 #[.slice A0 l0.length c0] w fun e w' => ∃ v0_ : Value, e = .returned (v0_) ∧ Kd.R (Kd.int .u8) 5 w' w.heap.size (fun _ => True) v0_ r ∧ Below w.heap.size w w' := by
 have hu31 := Try.underlying31
 have HR0 := A_ hr0
 have HC0 := A_ hc0
 clear hr0 hc0
 have HB := A_ (Below.refl w.heap.size w)
 have H : ((spec_l1Number.f k (l0.length : Int)).bind fun t189 => (spec_l4Packed.l0 k l0 t189 (⟨#[]⟩ : ByteArray) 0)) = some r := h
 clear h
 replace H := Option.bind_eq_some_iff.mp H
 obtain ⟨t189, A20, H⟩ := H
 (try dsimp only at H)
 have A2 := A_ A20
 clear A20
 have H' := A_ H
 clear H
 go_enter Try.func110, Try.ntmps110
 go_wp2_with (first | ((with_reducible refine gate_callee (f := 130) rfl ?_); refine goesL_ (some 10) rfl rfl Try.func130 (by kernel_rfl) rfl #[.int .i64 (l0.length : Int)] rfl zg7 ?_; (with_reducible refine (spec_l1Number.calls k (l0.length : Int) t189 _ A2.out).mono ?_); rintro e w3 ⟨v190, rfl, ho0, hb⟩; refine ⟨_, rfl, ?_⟩; have n0_ := A_ (Kd.R_lower ho0 (below_size zg0)); have n1_ := A_ (below_step zg0 hb); clear HB; have HO191 := n0_; have HB := n1_; clear n0_ n1_))
 go_loopg [3, 4, 5] k (fun kq v3 v4 v5 w' => ∃ (x3_1 : List Int) (x4_1 : ByteArray) (x5_1 : Int), v4 = .string x4_1 ∧ v5 = .int .i64 x5_1 ∧ Aside0 (spec_l4Packed.l0 kq l0 x3_1 x4_1 x5_1 = some r) ∧ Aside0 (kq ≤ k) ∧ Aside0 (Kd.R (Kd.int .u8) 5 w' w.heap.size (fun _ => True) v3 x3_1) ∧ Aside0 (Below w.heap.size w w'))
 case atStart => exact ⟨(t189), ((⟨#[]⟩ : ByteArray)), (0), (zs), (zs), H', ⟨Nat.le_refl _⟩, ⟨by (with_reducible repeat (first | apply Kd.R_alloc | apply Kd.R_drewN | apply Kd.R_drew)); exact HO191.out⟩, ⟨zg0⟩⟩
 case round =>
  clear H'
  try clear c1
  try clear p2
  obtain ⟨x3_1, x4_1, x5_1, rfl, rfl, HA, HK1, HO_3, HB⟩ := hrel
  cases gk with
  | zero => exact absurd HA.out (by simp [spec_l4Packed.l0])
  | succ k1 =>
   have H := HA.out
   clear HA
   simp only [spec_l4Packed.l0] at H
   by_cases c4 : x5_1 < (l0.length : Int)
   {
   rw [if_pos c4] at H
   have c4b0 : decide (x5_1 < (l0.length : Int)) = true := decide_eq_true c4
   clear c4
   by_cases c5 : 0 ≤ x5_1
   {
   rw [if_pos c5] at H
   have c5b0 : decide (0 ≤ x5_1) = true := decide_eq_true c5
   clear c5
   have HC6 := A_ H
   clear H
   have p192 : 0 ≤ (x5_1 : Int) := of_decide_eq_true zg2
   have q192 : x5_1 < (l0.length : Int) := of_decide_eq_true zg2
   obtain ⟨ad192, e192, hx192_0, hx192_1, hx192_2, hx192_3⟩ := at_T31 HR0.out x5_1 p192 q192
   cases e192
   replace hx192_0 := bq HB.out hx192_0
   replace hx192_1 := bq HB.out hx192_1
   replace hx192_2 := bq HB.out hx192_2
   replace hx192_3 := bq HB.out hx192_3
   replace p192 := eq_true p192
   replace q192 := eq_true q192
   go_upto_if 23 with (first | ((with_reducible refine gate_dst (N := 6) rfl ?_); refine box_event ?hg (N := 6) ?hd (cs := #[.string (⟨#[]⟩ : ByteArray), .string (⟨#[]⟩ : ByteArray), .int .i64 0, .bool false]) (t := 31) ?hr ?_; (case hd => rfl); (case hg => rfl); (case hr => first | (go_simp; done) | (go_simp; rfl)); intro gb193 hg w7 hbox hb; have n0_ := A_ (Kd.R_below (by (with_reducible repeat (first | apply Kd.R_alloc | apply Kd.R_drewN | apply Kd.R_drew)); exact HO_3.out) hb); have n1_ := A_ (below_step zg0 hb); have n2_ := A_ (hbox); have n3_ := A_ ((by rw [hg]; exact (below_size zg0) : w.heap.size ≤ gb193)); have n4_ := A_ ((by rw [hg]; exact (below_size zg0) : w.heap.size ≤ gb193)); clear HO_3; clear HB; have HO_3 := n0_; have HB := n1_; have BK193 := n2_; have GW193 := n3_; have GE193 := n4_; clear n0_ n1_ n2_ n3_ n4_; clear hb hbox hg; obtain ⟨hcz8_0, hcz8_1, hcz8_2, hcz8_3, hfz8_0, hfz8_1, hfz8_2, hfz8_3⟩ := bz4 BK193.out))
   (try simp only [Act.put, List.setIfInBounds_toArray, List.set_cons_zero, List.set_cons_succ])
   go_cut [4] (fun v4 wc => ∃ (kq : Nat) (x4_5 : ByteArray), v4 = .string x4_5 ∧ Aside0 (spec_l4Packed.j1 kq l0 x3_1 x4_5 x5_1 ((rd_T31 l0 x5_1).f0) ((rd_T31 l0 x5_1).f1) ((rd_T31 l0 x5_1).f2) ((rd_T31 l0 x5_1).f3) = some r) ∧ Aside0 (kq ≤ k1) ∧ Aside0 (Kd.R (Kd.int .u8) 5 wc w.heap.size (fun _ => True) u3 x3_1) ∧ Aside0 (wc.heap[gb193]? = some (.cells #[.string ((rd_T31 l0 x5_1).f0), .string ((rd_T31 l0 x5_1).f1), .int .i64 ((rd_T31 l0 x5_1).f2), .bool ((rd_T31 l0 x5_1).f3)] 31 (0, 0))) ∧ Aside0 (Below w.heap.size w wc))
   case first =>
    have H := HC6.out
    clear HC6
    by_cases c9 : (Int.tmod x5_1 8) = 0
    {
    rw [if_pos c9] at H
    have c9b0 : ((Int.tmod x5_1 8) == 0) = true := beq_iff_eq.mpr c9
    have c9b1 : ((Int.tmod x5_1 8) != 0) = false := bne_eq_false_iff_eq.mpr c9
    clear c9
    (first | rw [c9b0] | (simp only [i64_w, i32_w]; rw [c9b0]) | skip)
    have H' := A_ H
    clear H
    go_wp2
    go_meet
    case rel => exact ⟨_, ((⟨#[]⟩ : ByteArray)), (zs), H', ⟨by have := HK1.out; first | omega | exact Nat.le_refl _⟩, ⟨by (with_reducible repeat (first | apply Kd.R_alloc | apply Kd.R_drewN | apply Kd.R_drew)); exact Kd.R_mono (Kd.R_far (p := ⟨gb193, 3, none⟩) (Kd.R_far (p := ⟨gb193, 2, none⟩) (Kd.R_far (p := ⟨gb193, 1, none⟩) (Kd.R_far (p := ⟨gb193, 0, none⟩) (Kd.R_types HO_3.out BK193.out (by decide)) (fun _ hk => hk.2) (.string ((rd_T31 l0 x5_1).f0))) (fun _ hk => hk.2) (.string ((rd_T31 l0 x5_1).f1))) (fun _ hk => hk.2) (.int .i64 ((rd_T31 l0 x5_1).f2))) (fun _ hk => hk.2) (.bool ((rd_T31 l0 x5_1).f3))) (fun _ hk => trivial)⟩, ⟨by (with_reducible repeat (first | refine blk_drewN ?_ _ | refine blk_drew ?_ | refine blk_alloc ?_ _)); refine blk_put (cs := #[.string ((rd_T31 l0 x5_1).f0), .string ((rd_T31 l0 x5_1).f1), .int .i64 ((rd_T31 l0 x5_1).f2), .bool false]) ?_ 3 _ rfl; (with_reducible repeat (first | refine blk_drewN ?_ _ | refine blk_drew ?_ | refine blk_alloc ?_ _)); refine blk_put (cs := #[.string ((rd_T31 l0 x5_1).f0), .string ((rd_T31 l0 x5_1).f1), .int .i64 0, .bool false]) ?_ 2 _ rfl; (with_reducible repeat (first | refine blk_drewN ?_ _ | refine blk_drew ?_ | refine blk_alloc ?_ _)); refine blk_put (cs := #[.string ((rd_T31 l0 x5_1).f0), .string (⟨#[]⟩ : ByteArray), .int .i64 0, .bool false]) ?_ 1 _ rfl; (with_reducible repeat (first | refine blk_drewN ?_ _ | refine blk_drew ?_ | refine blk_alloc ?_ _)); refine blk_put (cs := #[.string (⟨#[]⟩ : ByteArray), .string (⟨#[]⟩ : ByteArray), .int .i64 0, .bool false]) ?_ 0 _ rfl; (with_reducible repeat (first | refine blk_drewN ?_ _ | refine blk_drew ?_ | refine blk_alloc ?_ _)); exact BK193.out⟩, ⟨z110a⟩⟩
    }
    {
    rw [if_neg c9] at H
    have c9b0 : ((Int.tmod x5_1 8) == 0) = false := beq_eq_false_iff_ne.mpr c9
    have c9b1 : ((Int.tmod x5_1 8) != 0) = true := bne_iff_ne.mpr c9
    (first | rw [c9b0] | (simp only [i64_w, i32_w]; rw [c9b0]) | skip)
    have H' := A_ H
    clear H
    go_wp2
    go_meet
    case rel => exact ⟨_, (x4_1), (zs), H', ⟨by have := HK1.out; first | omega | exact Nat.le_refl _⟩, ⟨by (with_reducible repeat (first | apply Kd.R_alloc | apply Kd.R_drewN | apply Kd.R_drew)); exact Kd.R_mono (Kd.R_far (p := ⟨gb193, 3, none⟩) (Kd.R_far (p := ⟨gb193, 2, none⟩) (Kd.R_far (p := ⟨gb193, 1, none⟩) (Kd.R_far (p := ⟨gb193, 0, none⟩) (Kd.R_types HO_3.out BK193.out (by decide)) (fun _ hk => hk.2) (.string ((rd_T31 l0 x5_1).f0))) (fun _ hk => hk.2) (.string ((rd_T31 l0 x5_1).f1))) (fun _ hk => hk.2) (.int .i64 ((rd_T31 l0 x5_1).f2))) (fun _ hk => hk.2) (.bool ((rd_T31 l0 x5_1).f3))) (fun _ hk => trivial)⟩, ⟨by (with_reducible repeat (first | refine blk_drewN ?_ _ | refine blk_drew ?_ | refine blk_alloc ?_ _)); refine blk_put (cs := #[.string ((rd_T31 l0 x5_1).f0), .string ((rd_T31 l0 x5_1).f1), .int .i64 ((rd_T31 l0 x5_1).f2), .bool false]) ?_ 3 _ rfl; (with_reducible repeat (first | refine blk_drewN ?_ _ | refine blk_drew ?_ | refine blk_alloc ?_ _)); refine blk_put (cs := #[.string ((rd_T31 l0 x5_1).f0), .string ((rd_T31 l0 x5_1).f1), .int .i64 0, .bool false]) ?_ 2 _ rfl; (with_reducible repeat (first | refine blk_drewN ?_ _ | refine blk_drew ?_ | refine blk_alloc ?_ _)); refine blk_put (cs := #[.string ((rd_T31 l0 x5_1).f0), .string (⟨#[]⟩ : ByteArray), .int .i64 0, .bool false]) ?_ 1 _ rfl; (with_reducible repeat (first | refine blk_drewN ?_ _ | refine blk_drew ?_ | refine blk_alloc ?_ _)); refine blk_put (cs := #[.string (⟨#[]⟩ : ByteArray), .string (⟨#[]⟩ : ByteArray), .int .i64 0, .bool false]) ?_ 0 _ rfl; (with_reducible repeat (first | refine blk_drewN ?_ _ | refine blk_drew ?_ | refine blk_alloc ?_ _)); exact BK193.out⟩, ⟨z110a⟩⟩
    }
   case rest =>
    clear HC6
    try clear c1
    try clear p1
    try clear q1
    try clear hx1
    try clear p2
    try clear c4
    try clear c4b0
    try clear c5
    try clear c5b0
    try clear c9
    try clear c9b0
    try clear c9b1
    try clear hcz8_0
    try clear hcz8_1
    try clear hcz8_2
    try clear hcz8_3
    try clear hfz8_0
    try clear hfz8_1
    try clear hfz8_2
    try clear hfz8_3
    try clear hx192_0
    try clear hx192_1
    try clear hx192_2
    try clear hx192_3
    try clear p192
    try clear p2
    try clear q192
    obtain ⟨kq, x4_5, rfl, HA, HJ5, HO_3, BK193, HB⟩ := hcut
    cases kq with
    | zero => exact absurd HA.out (by simp [spec_l4Packed.j1])
    | succ kj5 =>
     have H := HA.out
     clear HA
     simp only [spec_l4Packed.j1] at H
     replace H := Option.bind_eq_some_iff.mp H
     obtain ⟨t194, A100, H⟩ := H
     (try dsimp only at H)
     have A10 := A_ A100
     clear A100
     replace H := Option.bind_eq_some_iff.mp H
     obtain ⟨t195, A110, H⟩ := H
     (try dsimp only at H)
     have A11 := A_ A110
     clear A110
     by_cases c12 : x3_1.length + t195.length < 140737488355328
     {
     rw [if_pos c12] at H
     have LMc12 := A_ c12
     clear c12
     obtain ⟨y198, hy198⟩ : ∃ y_ : List Int, y_ = (x3_1 ++ t195) := ⟨_, rfl⟩
     replace H : (if 0 ≤ t194 then (if t194 ≤ (((rd_T31 l0 x5_1).f0).size : Int) then ((spec_l1Text.f kj5 (((rd_T31 l0 x5_1).f0).extract (t194 : Int).toNat ((rd_T31 l0 x5_1).f0).size)).bind fun t201 => (if y198.length + t201.length < 140737488355328 then ((some (y198 ++ t201 : List Int)).bind fun y204 => ((spec_l4Flag.f ((rd_T31 l0 x5_1).f3)).bind fun t207 => ((spec_l1Number.f kj5 (wrap64 ((wrap64 (2 * ((rd_T31 l0 x5_1).f2))) + t207))).bind fun t208 => (if y204.length + t208.length < 140737488355328 then ((some (y204 ++ t208 : List Int)).bind fun y211 => ((spec_l1Text.f kj5 ((rd_T31 l0 x5_1).f1)).bind fun t214 => (if y211.length + t214.length < 140737488355328 then (spec_l4Packed.l0 kj5 l0 (y211 ++ t214) ((rd_T31 l0 x5_1).f0) (wrap64 (x5_1 + 1))) else (none)))) else (none))))) else (none))) else (none)) else (none)) = some r := by first | (rw [hy198]; with_reducible exact H) | (have H2_ := (Option.bind_some _ _).symm.trans H; rw [hy198]; with_reducible exact H2_) | (have H2_ := (Option.bind_some _ _).symm.trans H; with_reducible exact H2_) | with_reducible exact H | (rw [hy198]; exact H) | exact H
     have Ny198 := A_ hy198
     clear hy198
     by_cases c13 : 0 ≤ t194
     {
     rw [if_pos c13] at H
     have c13b0 := eq_true c13
     have c13b1 : decide (0 ≤ t194) = true := decide_eq_true c13
     clear c13
     by_cases c14 : t194 ≤ (((rd_T31 l0 x5_1).f0).size : Int)
     {
     rw [if_pos c14] at H
     have c14b0 := eq_true c14
     have c14b1 : decide (t194 ≤ (((rd_T31 l0 x5_1).f0).size : Int)) = true := decide_eq_true c14
     clear c14
     replace H := Option.bind_eq_some_iff.mp H
     obtain ⟨t201, A150, H⟩ := H
     (try dsimp only at H)
     have A15 := A_ A150
     clear A150
     by_cases c16 : y198.length + t201.length < 140737488355328
     {
     rw [if_pos c16] at H
     have LMc16 := A_ c16
     clear c16
     obtain ⟨y204, hy204⟩ : ∃ y_ : List Int, y_ = (y198 ++ t201) := ⟨_, rfl⟩
     replace H : ((spec_l4Flag.f ((rd_T31 l0 x5_1).f3)).bind fun t207 => ((spec_l1Number.f kj5 (wrap64 ((wrap64 (2 * ((rd_T31 l0 x5_1).f2))) + t207))).bind fun t208 => (if y204.length + t208.length < 140737488355328 then ((some (y204 ++ t208 : List Int)).bind fun y211 => ((spec_l1Text.f kj5 ((rd_T31 l0 x5_1).f1)).bind fun t214 => (if y211.length + t214.length < 140737488355328 then (spec_l4Packed.l0 kj5 l0 (y211 ++ t214) ((rd_T31 l0 x5_1).f0) (wrap64 (x5_1 + 1))) else (none)))) else (none)))) = some r := by first | (rw [hy204]; with_reducible exact H) | (have H2_ := (Option.bind_some _ _).symm.trans H; rw [hy204]; with_reducible exact H2_) | (have H2_ := (Option.bind_some _ _).symm.trans H; with_reducible exact H2_) | with_reducible exact H | (rw [hy204]; exact H) | exact H
     have Ny204 := A_ hy204
     clear hy204
     replace H := Option.bind_eq_some_iff.mp H
     obtain ⟨t207, A170, H⟩ := H
     (try dsimp only at H)
     have A17 := A_ A170
     clear A170
     replace H := Option.bind_eq_some_iff.mp H
     obtain ⟨t208, A180, H⟩ := H
     (try dsimp only at H)
     have A18 := A_ A180
     clear A180
     by_cases c19 : y204.length + t208.length < 140737488355328
     {
     rw [if_pos c19] at H
     have LMc19 := A_ c19
     clear c19
     obtain ⟨y211, hy211⟩ : ∃ y_ : List Int, y_ = (y204 ++ t208) := ⟨_, rfl⟩
     replace H : ((spec_l1Text.f kj5 ((rd_T31 l0 x5_1).f1)).bind fun t214 => (if y211.length + t214.length < 140737488355328 then (spec_l4Packed.l0 kj5 l0 (y211 ++ t214) ((rd_T31 l0 x5_1).f0) (wrap64 (x5_1 + 1))) else (none))) = some r := by first | (rw [hy211]; with_reducible exact H) | (have H2_ := (Option.bind_some _ _).symm.trans H; rw [hy211]; with_reducible exact H2_) | (have H2_ := (Option.bind_some _ _).symm.trans H; with_reducible exact H2_) | with_reducible exact H | (rw [hy211]; exact H) | exact H
     have Ny211 := A_ hy211
     clear hy211
     replace H := Option.bind_eq_some_iff.mp H
     obtain ⟨t214, A200, H⟩ := H
     (try dsimp only at H)
     have A20 := A_ A200
     clear A200
     by_cases c21 : y211.length + t214.length < 140737488355328
     {
     rw [if_pos c21] at H
     have LMc21 := A_ c21
     clear c21
     obtain ⟨y217, hy217⟩ : ∃ y_ : List Int, y_ = (y211 ++ t214) := ⟨_, rfl⟩
     replace H : (spec_l4Packed.l0 kj5 l0 y217 ((rd_T31 l0 x5_1).f0) (wrap64 (x5_1 + 1))) = some r := by first | (rw [hy217]; with_reducible exact H) | (have H2_ := (Option.bind_some _ _).symm.trans H; rw [hy217]; with_reducible exact H2_) | (have H2_ := (Option.bind_some _ _).symm.trans H; with_reducible exact H2_) | with_reducible exact H | (rw [hy217]; exact H) | exact H
     have Ny217 := A_ hy217
     clear hy217
     have H' := A_ H
     clear H
     obtain ⟨hcz22_0, hcz22_1, hcz22_2, hcz22_3, hfz22_0, hfz22_1, hfz22_2, hfz22_3⟩ := bz4 BK193.out
     try go_wp2_with (first | ((with_reducible refine gate_callee (f := 131) rfl ?_); refine goesL_ (some 27) rfl rfl Try.func131 (by kernel_rfl) rfl #[.string x4_5, .string ((rd_T31 l0 x5_1).f0)] rfl zg7 ?_; (with_reducible refine (spec_Common.calls kj5 x4_5 ((rd_T31 l0 x5_1).f0) t194 _ A10.out).mono ?_); rintro e w' ⟨rfl, ⟨nd, rfl⟩⟩; refine ⟨_, rfl, ?_⟩))
     (try (rw [drewN_self wc]; generalize hq_ : World.drewN wc _ = wc; have n0_ : Aside0 (Kd.R (Kd.int .u8) 5 wc w.heap.size (fun _ => True) u3 x3_1) := ⟨by rw [← hq_]; exact (by (with_reducible repeat (first | apply Kd.R_alloc | apply Kd.R_drewN | apply Kd.R_drew)); exact HO_3.out)⟩; have n1_ : Aside0 (wc.heap[gb193]? = some (.cells #[.string ((rd_T31 l0 x5_1).f0), .string ((rd_T31 l0 x5_1).f1), .int .i64 ((rd_T31 l0 x5_1).f2), .bool ((rd_T31 l0 x5_1).f3)] 31 (0, 0))) := ⟨by rw [← hq_]; exact z110d⟩; have n2_ : Aside0 (Below w.heap.size w wc) := ⟨by rw [← hq_]; exact z110a⟩; clear HO_3 BK193 HB hq_; have HO_3 := n0_; have BK193 := n1_; have HB := n2_; clear n0_ n1_ n2_))
     replace HO_3 := A_ (Kd.R_drew HO_3.out)
     replace BK193 := A_ (blk_drew BK193.out)
     replace HB := A_ (below_drew1 HB.out)
     refine start_ (n := 11) (S := fun w' => w'.cell? ⟨gb193, 0, none⟩ = some (.string ((rd_T31 l0 x5_1).f0)) ∧ w'.cell? ⟨gb193, 1, none⟩ = some (.string ((rd_T31 l0 x5_1).f1)) ∧ w'.cell? ⟨gb193, 2, none⟩ = some (.int .i64 ((rd_T31 l0 x5_1).f2)) ∧ w'.cell? ⟨gb193, 3, none⟩ = some (.bool ((rd_T31 l0 x5_1).f3))) (ds := []) (yx 0 11) (by kernel_rfl) rfl rfl (bc4 BK193.out) (fun hHeld => ?_); refine with_tabW spec_l4Packed.tab10 spec_l4Packed.bits10 (fun HT_ HW_ => ?_)
     generalize wc.drew = w23 at HO_3 BK193 HB hHeld ⊢
     refine pu_ 0 (some 28) (yx 1 10) ?_
     refine pu_ 1 (some 29) (yx 2 9) ?_
     refine pu_ 4 (some 32) (bs "YYXXYXXXXXX") ?_
     refine pu_ 6 (some 34) (bs "YYXXYXYXXXX") ?_
     refine take_ (i := 5) (N := some 33) (v := _) (a' := _) (bs "YYXXYYYXXXX") rfl rfl (take_ofW HT_.out HW_.out (by kernel_rfl)) (fun _ _ _ h => h) (Or.inl ⟨by rfl, (by rintro w' ⟨s0, s1, s2, s3⟩; go_simp; with_reducible rfl)⟩) hHeld zg1 ?_
     refine pu_ 7 (some 35) (bs "YYXXYYYYXXX") ?_
     refine one_ (i := 2) (N := some 30) (bs "YYYXYYYYXXX") rfl rfl (one_of HT_.out (by kernel_rfl)) (by decide) (fun K hK => ?_)
     refine goes_ Try.func130 (by kernel_rfl) rfl #[.int .i64 t194] (by rfl) rfl rfl zg7 ?_
     with_reducible refine (spec_l1Number.calls kj5 t194 t195 _ A11.out).mono ?_
     rintro e w24 ⟨v196, rfl, ho0, hb⟩
     refine ⟨_, rfl, ?_⟩
     have n0_ := A_ (Kd.R_elder' (by (with_reducible repeat (first | apply Kd.R_alloc | apply Kd.R_drewN | apply Kd.R_drew)); exact HO_3.out) (Kd.R_base ho0) hb)
     have n1_ := A_ (Kd.R_lower (Kd.R_new' ho0 (Kd.R_lt (by (with_reducible repeat (first | apply Kd.R_alloc | apply Kd.R_drewN | apply Kd.R_drew)); exact HO_3.out))) (below_size z110a))
     have n2_ := A_ (blk_below (g := gb193) (o := .cells #[.string ((rd_T31 l0 x5_1).f0), .string ((rd_T31 l0 x5_1).f1), .int .i64 ((rd_T31 l0 x5_1).f2), .bool ((rd_T31 l0 x5_1).f3)] 31 (0, 0)) z110d hb)
     have n3_ := A_ (below_step z110a hb)
     clear HO_3
     clear BK193
     clear HB
     have HO_3 := n0_
     have HO197 := n1_
     have BK193 := n2_
     have HB := n3_
     clear n0_ n1_ n2_ n3_
     obtain ⟨Ao26, co26, eo26⟩ := Kd.R_slice HO197.out
     (first | subst eo26 | (injection eo26 with f1_ f2_ f3_; have f4_ := f1_.symm; have f5_ := f3_.symm; clear f1_ f2_ f3_; subst f4_; subst f5_))
     refine hK.out _ _ (bc4 BK193.out) (fun hHeld => ?_)
     clear hK K
     refine norm_ (nz_ 30) ?_
     refine one_ (i := 3) (N := some 31) (yx 8 3) rfl rfl (one_of HT_.out (by kernel_rfl)) (by decide) (fun K hK => ?_)
     refine Kd.R_append_rows_step (Kd.int .u8) (w0 := w) w.heap.size (by rfl) (.tmp 28) (.tmp 30) 36 5 (.int .u8 0) 1 rfl Try.underlying36 info5 rfl (by decide) (by omega) u3 x3_1 t195 _ _ _ (fun k_ => some k_ ≠ (.slice Ao26 t195.length co26 : Value).ownBlock) (fun _ => False) rfl rfl ?aO ?aR (fun _ _ h => h) (fun _ h => h.elim) ?aF ?aB ?aS ?aL ?_
     (case aR => exact (by repeat (first | exact (Kd.R_reads' HO197.out).2.2 | (with_reducible refine Kd.C_alloc ?_ _) | (with_reducible refine Kd.C_drewN ?_ _) | (with_reducible refine Kd.C_drew ?_))))
     (case aB => exact z110a)
     (case aF => exact (fun k_ hk => Kd.fresh' (Kd.R_lt z110c) k_ hk))
     (case aO => exact (by (with_reducible repeat (first | apply Kd.R_alloc | apply Kd.R_drewN | apply Kd.R_drew)); exact Kd.R_mono HO_3.out (fun _ hk => hk.2)))
     (case aS => exact (below_size z110a))
     (case aL => have := LMc12.out; omega)
     intro v199 w25 ho hb hg hat
     rw [← Ny198.out] at ho
     have n0_ := A_ (blk_grown (g := gb193) (o := .cells #[.string ((rd_T31 l0 x5_1).f0), .string ((rd_T31 l0 x5_1).f1), .int .i64 ((rd_T31 l0 x5_1).f2), .bool ((rd_T31 l0 x5_1).f3)] 31 (0, 0)) z110d hg (Kd.R_ne HO_3.out BK193.out (by decide)))
     have n1_ := A_ (Kd.R_after (ok := (fun _ => True)) z110c hg hat)
     have n2_ := A_ (hb)
     have n3_ := A_ (ho)
     clear BK193
     clear HO197
     clear HB
     clear HO_3
     have BK193 := n0_
     have HO197 := n1_
     have HB := n2_
     have HO200 := n3_
     clear n0_ n1_ n2_ n3_
     clear ho hb hg hat
     refine hK.out _ _ (bc4 BK193.out) (fun hHeld => ?_)
     clear hK K
     refine norm_ (nz_ 31) ?_
     refine one_ (i := 8) (N := some 36) (yx 9 2) rfl rfl (one_of HT_.out (by kernel_rfl)) (by decide) (fun K hK => ?_)
     refine goes_ Try.func132 (by kernel_rfl) rfl #[.string (((rd_T31 l0 x5_1).f0).extract (t194 : Int).toNat ((rd_T31 l0 x5_1).f0).size)] (by rfl) rfl rfl zg7 ?_
     with_reducible refine (spec_l1Text.calls kj5 (((rd_T31 l0 x5_1).f0).extract (t194 : Int).toNat ((rd_T31 l0 x5_1).f0).size) t201 _ A15.out).mono ?_
     rintro e w27 ⟨v202, rfl, ho0, hb⟩
     refine ⟨_, rfl, ?_⟩
     have n0_ := A_ (Kd.R_elder' z110c (Kd.R_base ho0) hb)
     have n1_ := A_ (Kd.R_elder' (by (with_reducible repeat (first | apply Kd.R_alloc | apply Kd.R_drewN | apply Kd.R_drew)); exact HO200.out) (Kd.R_base ho0) hb)
     have n2_ := A_ (Kd.R_lower (Kd.R_new' (Kd.R_new' ho0 (Kd.R_lt z110c)) (Kd.R_lt (by (with_reducible repeat (first | apply Kd.R_alloc | apply Kd.R_drewN | apply Kd.R_drew)); exact HO200.out))) (below_size z110a))
     have n3_ := A_ (blk_below (g := gb193) (o := .cells #[.string ((rd_T31 l0 x5_1).f0), .string ((rd_T31 l0 x5_1).f1), .int .i64 ((rd_T31 l0 x5_1).f2), .bool ((rd_T31 l0 x5_1).f3)] 31 (0, 0)) z110d hb)
     have n4_ := A_ (below_step z110a hb)
     clear HO197
     clear HO200
     clear BK193
     clear HB
     have HO197 := n0_
     have HO200 := n1_
     have HO203 := n2_
     have BK193 := n3_
     have HB := n4_
     clear n0_ n1_ n2_ n3_ n4_
     obtain ⟨Ao29, co29, eo29⟩ := Kd.R_slice HO203.out
     (first | subst eo29 | (injection eo29 with f1_ f2_ f3_; have f4_ := f1_.symm; have f5_ := f3_.symm; clear f1_ f2_ f3_; subst f4_; subst f5_))
     refine hK.out _ _ (bc4 BK193.out) (fun hHeld => ?_)
     clear hK K
     refine norm_ (nz_ 36) ?_
     refine one_ (i := 9) (N := some 37) (yx 10 1) rfl rfl (one_of HT_.out (by kernel_rfl)) (by decide) (fun K hK => ?_)
     refine Kd.R_append_rows_step (Kd.int .u8) (w0 := w) w.heap.size (by rfl) (.tmp 31) (.tmp 36) 36 5 (.int .u8 0) 1 rfl Try.underlying36 info5 rfl (by decide) (by omega) v199 y198 t201 _ _ _ (fun k_ => some k_ ≠ (.slice Ao26 t195.length co26 : Value).ownBlock ∧ some k_ ≠ (.slice Ao29 t201.length co29 : Value).ownBlock) (fun _ => False) rfl rfl ?aO ?aR (fun _ _ h => h) (fun _ h => h.elim) ?aF ?aB ?aS ?aL ?_
     (case aR => exact (by repeat (first | exact (Kd.R_reads' HO203.out).2.2 | (with_reducible refine Kd.C_alloc ?_ _) | (with_reducible refine Kd.C_drewN ?_ _) | (with_reducible refine Kd.C_drew ?_))))
     (case aB => exact z110a)
     (case aF => exact (fun k_ hk => ⟨Kd.fresh' (Kd.R_lt z110c) k_ hk, Kd.fresh' (Kd.R_lt z110f) k_ hk⟩))
     (case aO => exact (by (with_reducible repeat (first | apply Kd.R_alloc | apply Kd.R_drewN | apply Kd.R_drew)); exact HO200.out))
     (case aS => exact (below_size z110a))
     (case aL => have := LMc16.out; omega)
     intro v205 w28 ho hb hg hat
     rw [← Ny204.out] at ho
     have n0_ := A_ (blk_grown (g := gb193) (o := .cells #[.string ((rd_T31 l0 x5_1).f0), .string ((rd_T31 l0 x5_1).f1), .int .i64 ((rd_T31 l0 x5_1).f2), .bool ((rd_T31 l0 x5_1).f3)] 31 (0, 0)) z110d hg (Kd.R_ne HO200.out BK193.out (by decide)))
     have n1_ := A_ (Kd.R_after (ok := (fun k_ => some k_ ≠ (.slice Ao29 t201.length co29 : Value).ownBlock)) (by (with_reducible repeat (first | apply Kd.R_alloc | apply Kd.R_drewN | apply Kd.R_drew)); exact Kd.R_mono HO197.out (fun _ hk => ⟨hk.2, hk.1.2⟩)) hg hat)
     have n2_ := A_ (Kd.R_after (ok := (fun k_ => some k_ ≠ (.slice Ao26 t195.length co26 : Value).ownBlock)) (by (with_reducible repeat (first | apply Kd.R_alloc | apply Kd.R_drewN | apply Kd.R_drew)); exact Kd.R_mono HO203.out (fun _ hk => ⟨hk.1.2, hk.2⟩)) hg hat)
     have n3_ := A_ (hb)
     have n4_ := A_ (ho)
     clear BK193
     clear HO197
     clear HO203
     clear HB
     clear HO200
     have BK193 := n0_
     have HO197 := n1_
     have HO203 := n2_
     have HB := n3_
     have HO206 := n4_
     clear n0_ n1_ n2_ n3_ n4_
     clear ho hb hg hat
     refine hK.out _ _ (bc4 BK193.out) (fun hHeld => ?_)
     clear hK K
     refine norm_ (nz_ 37) ?_
     refine pu_ 10 (some 3) (yx 11 0) ?_
     refine done_ (done_of HT_.out (by kernel_rfl)) ?_
     try go_wp2
     replace HO197 := A_ (Kd.R_drew HO197.out)
     replace HO203 := A_ (Kd.R_drew HO203.out)
     replace HO206 := A_ (Kd.R_drew HO206.out)
     replace BK193 := A_ (blk_drew BK193.out)
     replace HB := A_ (below_drew1 HB.out)
     refine start_ (n := 15) (S := fun w' => w'.cell? ⟨gb193, 0, none⟩ = some (.string ((rd_T31 l0 x5_1).f0)) ∧ w'.cell? ⟨gb193, 1, none⟩ = some (.string ((rd_T31 l0 x5_1).f1)) ∧ w'.cell? ⟨gb193, 2, none⟩ = some (.int .i64 ((rd_T31 l0 x5_1).f2)) ∧ w'.cell? ⟨gb193, 3, none⟩ = some (.bool ((rd_T31 l0 x5_1).f3))) (ds := []) (yx 0 15) (by kernel_rfl) rfl rfl (bc4 BK193.out) (fun hHeld => ?_); refine with_tabW spec_l4Packed.tab11 spec_l4Packed.bits11 (fun HT_ HW_ => ?_)
     generalize w28.drew = w30 at HO197 HO203 HO206 BK193 HB hHeld ⊢
     refine pu_ 0 (some 38) (yx 1 14) ?_
     refine pu_ 1 (some 39) (yx 2 13) ?_
     refine pu_ 4 (some 42) (bs "YYXXYXXXXXXXXXX") ?_
     refine pu_ 10 (some 48) (bs "YYXXYXXXXXYXXXX") ?_
     refine take_ (i := 2) (N := some 40) (v := _) (a' := _) (bs "YYYXYXXXXXYXXXX") rfl rfl (take_ofW HT_.out HW_.out (by kernel_rfl)) (fun _ _ _ h => h) (Or.inl ⟨by rfl, (by rintro w' ⟨s0, s1, s2, s3⟩; go_simp; with_reducible rfl)⟩) hHeld zg1 ?_
     refine pu_ 3 (some 41) (bs "YYYYYXXXXXYXXXX") ?_
     refine take_ (i := 5) (N := some 43) (v := _) (a' := _) (bs "YYYYYYXXXXYXXXX") rfl rfl (take_ofW HT_.out HW_.out (by kernel_rfl)) (fun _ _ _ h => h) (Or.inl ⟨by rfl, (by rintro w' ⟨s0, s1, s2, s3⟩; go_simp; with_reducible rfl)⟩) hHeld zg1 ?_
     refine take_ (i := 11) (N := some 49) (v := _) (a' := _) (bs "YYYYYYXXXXYYXXX") rfl rfl (take_ofW HT_.out HW_.out (by kernel_rfl)) (fun _ _ _ h => h) (Or.inl ⟨by rfl, (by rintro w' ⟨s0, s1, s2, s3⟩; go_simp; with_reducible rfl)⟩) hHeld zg1 ?_
     refine one_ (i := 6) (N := some 44) (bs "YYYYYYYXXXYYXXX") rfl rfl (one_of HT_.out (by kernel_rfl)) (by decide) (fun K hK => ?_)
     refine goes_ Try.func133 (by kernel_rfl) rfl #[.bool ((rd_T31 l0 x5_1).f3)] (by rfl) rfl rfl zg7 ?_
     with_reducible refine (spec_l4Flag.calls ((rd_T31 l0 x5_1).f3) t207 _ A17.out).mono ?_
     rintro e w' ⟨rfl, ⟨nd, rfl⟩⟩
     refine ⟨_, rfl, ?_⟩
     refine hK.out _ _ (bc4 BK193.out) (fun hHeld => ?_)
     clear hK K
     refine norm_ (nz_ 44) ?_
     refine pu_ 7 (some 45) (bs "YYYYYYYYXXYYXXX") ?_
     refine one_ (i := 8) (N := some 46) (bs "YYYYYYYYYXYYXXX") rfl rfl (one_of HT_.out (by kernel_rfl)) (by decide) (fun K hK => ?_)
     refine goes_ Try.func130 (by kernel_rfl) rfl #[.int .i64 (wrap64 ((wrap64 (2 * ((rd_T31 l0 x5_1).f2))) + t207))] (by rfl) rfl rfl zg7 ?_
     with_reducible refine (spec_l1Number.calls kj5 (wrap64 ((wrap64 (2 * ((rd_T31 l0 x5_1).f2))) + t207)) t208 _ A18.out).mono ?_
     rintro e w31 ⟨v209, rfl, ho0, hb⟩
     refine ⟨_, rfl, ?_⟩
     have n0_ := A_ (Kd.R_elder' z110c (Kd.R_base ho0) hb)
     have n1_ := A_ (Kd.R_elder' z110f (Kd.R_base ho0) hb)
     have n2_ := A_ (Kd.R_elder' (by (with_reducible repeat (first | apply Kd.R_alloc | apply Kd.R_drewN | apply Kd.R_drew)); exact HO206.out) (Kd.R_base ho0) hb)
     have n3_ := A_ (Kd.R_lower (Kd.R_new' (Kd.R_new' (Kd.R_new' ho0 (Kd.R_lt z110c)) (Kd.R_lt z110f)) (Kd.R_lt (by (with_reducible repeat (first | apply Kd.R_alloc | apply Kd.R_drewN | apply Kd.R_drew)); exact HO206.out))) (below_size z110a))
     have n4_ := A_ (blk_below (g := gb193) (o := .cells #[.string ((rd_T31 l0 x5_1).f0), .string ((rd_T31 l0 x5_1).f1), .int .i64 ((rd_T31 l0 x5_1).f2), .bool ((rd_T31 l0 x5_1).f3)] 31 (0, 0)) z110d hb)
     have n5_ := A_ (below_step z110a hb)
     clear HO197
     clear HO203
     clear HO206
     clear BK193
     clear HB
     have HO197 := n0_
     have HO203 := n1_
     have HO206 := n2_
     have HO210 := n3_
     have BK193 := n4_
     have HB := n5_
     clear n0_ n1_ n2_ n3_ n4_ n5_
     obtain ⟨Ao33, co33, eo33⟩ := Kd.R_slice HO210.out
     (first | subst eo33 | (injection eo33 with f1_ f2_ f3_; have f4_ := f1_.symm; have f5_ := f3_.symm; clear f1_ f2_ f3_; subst f4_; subst f5_))
     refine hK.out _ _ (bc4 BK193.out) (fun hHeld => ?_)
     clear hK K
     refine norm_ (nz_ 46) ?_
     refine one_ (i := 9) (N := some 47) (yx 12 3) rfl rfl (one_of HT_.out (by kernel_rfl)) (by decide) (fun K hK => ?_)
     refine Kd.R_append_rows_step (Kd.int .u8) (w0 := w) w.heap.size (by rfl) (.tmp 38) (.tmp 46) 36 5 (.int .u8 0) 1 rfl Try.underlying36 info5 rfl (by decide) (by omega) v205 y204 t208 _ _ _ (fun k_ => some k_ ≠ (.slice Ao26 t195.length co26 : Value).ownBlock ∧ some k_ ≠ (.slice Ao29 t201.length co29 : Value).ownBlock ∧ some k_ ≠ (.slice Ao33 t208.length co33 : Value).ownBlock) (fun _ => False) rfl rfl ?aO ?aR (fun _ _ h => h) (fun _ h => h.elim) ?aF ?aB ?aS ?aL ?_
     (case aR => exact (by repeat (first | exact (Kd.R_reads' HO210.out).2.2 | (with_reducible refine Kd.C_alloc ?_ _) | (with_reducible refine Kd.C_drewN ?_ _) | (with_reducible refine Kd.C_drew ?_))))
     (case aB => exact z110a)
     (case aF => exact (fun k_ hk => ⟨Kd.fresh' (Kd.R_lt z110c) k_ hk, Kd.fresh' (Kd.R_lt z110f) k_ hk, Kd.fresh' (Kd.R_lt (by (with_reducible repeat (first | apply Kd.R_alloc | apply Kd.R_drewN | apply Kd.R_drew)); exact HO210.out)) k_ hk⟩))
     (case aO => exact (by (with_reducible repeat (first | apply Kd.R_alloc | apply Kd.R_drewN | apply Kd.R_drew)); exact Kd.R_mono HO206.out (fun _ hk => ⟨hk.1.1, ⟨hk.1.2, hk.2⟩⟩)))
     (case aS => exact (below_size z110a))
     (case aL => have := LMc19.out; omega)
     intro v212 w32 ho hb hg hat
     rw [← Ny211.out] at ho
     have n0_ := A_ (blk_grown (g := gb193) (o := .cells #[.string ((rd_T31 l0 x5_1).f0), .string ((rd_T31 l0 x5_1).f1), .int .i64 ((rd_T31 l0 x5_1).f2), .bool ((rd_T31 l0 x5_1).f3)] 31 (0, 0)) z110d hg (Kd.R_ne HO206.out BK193.out (by decide)))
     have n1_ := A_ (Kd.R_after (ok := (fun k_ => some k_ ≠ (.slice Ao29 t201.length co29 : Value).ownBlock ∧ some k_ ≠ (.slice Ao33 t208.length co33 : Value).ownBlock)) (by (with_reducible repeat (first | apply Kd.R_alloc | apply Kd.R_drewN | apply Kd.R_drew)); exact Kd.R_mono HO197.out (fun _ hk => ⟨⟨hk.1.1, hk.2⟩, hk.1.2⟩)) hg hat)
     have n2_ := A_ (Kd.R_after (ok := (fun k_ => some k_ ≠ (.slice Ao26 t195.length co26 : Value).ownBlock ∧ some k_ ≠ (.slice Ao33 t208.length co33 : Value).ownBlock)) (by (with_reducible repeat (first | apply Kd.R_alloc | apply Kd.R_drewN | apply Kd.R_drew)); exact Kd.R_mono HO203.out (fun _ hk => ⟨⟨hk.1.1, hk.2⟩, hk.1.2⟩)) hg hat)
     have n3_ := A_ (Kd.R_after (ok := (fun k_ => some k_ ≠ (.slice Ao26 t195.length co26 : Value).ownBlock ∧ some k_ ≠ (.slice Ao29 t201.length co29 : Value).ownBlock)) (by (with_reducible repeat (first | apply Kd.R_alloc | apply Kd.R_drewN | apply Kd.R_drew)); exact Kd.R_mono HO210.out (fun _ hk => ⟨⟨hk.1.1.2, hk.1.2⟩, hk.2⟩)) hg hat)
     have n4_ := A_ (hb)
     have n5_ := A_ (ho)
     clear BK193
     clear HO197
     clear HO203
     clear HO210
     clear HB
     clear HO206
     have BK193 := n0_
     have HO197 := n1_
     have HO203 := n2_
     have HO210 := n3_
     have HB := n4_
     have HO213 := n5_
     clear n0_ n1_ n2_ n3_ n4_ n5_
     clear ho hb hg hat
     refine hK.out _ _ (bc4 BK193.out) (fun hHeld => ?_)
     clear hK K
     refine norm_ (nz_ 47) ?_
     refine one_ (i := 12) (N := some 50) (yx 13 2) rfl rfl (one_of HT_.out (by kernel_rfl)) (by decide) (fun K hK => ?_)
     refine goes_ Try.func132 (by kernel_rfl) rfl #[.string ((rd_T31 l0 x5_1).f1)] (by rfl) rfl rfl zg7 ?_
     with_reducible refine (spec_l1Text.calls kj5 ((rd_T31 l0 x5_1).f1) t214 _ A20.out).mono ?_
     rintro e w34 ⟨v215, rfl, ho0, hb⟩
     refine ⟨_, rfl, ?_⟩
     have n0_ := A_ (Kd.R_elder' z110c (Kd.R_base ho0) hb)
     have n1_ := A_ (Kd.R_elder' z110f (Kd.R_base ho0) hb)
     have n2_ := A_ (Kd.R_elder' (by (with_reducible repeat (first | apply Kd.R_alloc | apply Kd.R_drewN | apply Kd.R_drew)); exact HO210.out) (Kd.R_base ho0) hb)
     have n3_ := A_ (Kd.R_elder' (by (with_reducible repeat (first | apply Kd.R_alloc | apply Kd.R_drewN | apply Kd.R_drew)); exact HO213.out) (Kd.R_base ho0) hb)
     have n4_ := A_ (Kd.R_lower (Kd.R_new' (Kd.R_new' (Kd.R_new' (Kd.R_new' ho0 (Kd.R_lt z110c)) (Kd.R_lt z110f)) (Kd.R_lt (by (with_reducible repeat (first | apply Kd.R_alloc | apply Kd.R_drewN | apply Kd.R_drew)); exact HO210.out))) (Kd.R_lt (by (with_reducible repeat (first | apply Kd.R_alloc | apply Kd.R_drewN | apply Kd.R_drew)); exact HO213.out))) (below_size z110a))
     have n5_ := A_ (blk_below (g := gb193) (o := .cells #[.string ((rd_T31 l0 x5_1).f0), .string ((rd_T31 l0 x5_1).f1), .int .i64 ((rd_T31 l0 x5_1).f2), .bool ((rd_T31 l0 x5_1).f3)] 31 (0, 0)) z110d hb)
     have n6_ := A_ (below_step z110a hb)
     clear HO197
     clear HO203
     clear HO210
     clear HO213
     clear BK193
     clear HB
     have HO197 := n0_
     have HO203 := n1_
     have HO210 := n2_
     have HO213 := n3_
     have HO216 := n4_
     have BK193 := n5_
     have HB := n6_
     clear n0_ n1_ n2_ n3_ n4_ n5_ n6_
     obtain ⟨Ao36, co36, eo36⟩ := Kd.R_slice HO216.out
     (first | subst eo36 | (injection eo36 with f1_ f2_ f3_; have f4_ := f1_.symm; have f5_ := f3_.symm; clear f1_ f2_ f3_; subst f4_; subst f5_))
     refine hK.out _ _ (bc4 BK193.out) (fun hHeld => ?_)
     clear hK K
     refine norm_ (nz_ 50) ?_
     refine one_ (i := 13) (N := some 51) (yx 14 1) rfl rfl (one_of HT_.out (by kernel_rfl)) (by decide) (fun K hK => ?_)
     refine Kd.R_append_rows_step (Kd.int .u8) (w0 := w) w.heap.size (by rfl) (.tmp 47) (.tmp 50) 36 5 (.int .u8 0) 1 rfl Try.underlying36 info5 rfl (by decide) (by omega) v212 y211 t214 _ _ _ (fun k_ => some k_ ≠ (.slice Ao26 t195.length co26 : Value).ownBlock ∧ some k_ ≠ (.slice Ao29 t201.length co29 : Value).ownBlock ∧ some k_ ≠ (.slice Ao33 t208.length co33 : Value).ownBlock ∧ some k_ ≠ (.slice Ao36 t214.length co36 : Value).ownBlock) (fun _ => False) rfl rfl ?aO ?aR (fun _ _ h => h) (fun _ h => h.elim) ?aF ?aB ?aS ?aL ?_
     (case aR => exact (by repeat (first | exact (Kd.R_reads' HO216.out).2.2 | (with_reducible refine Kd.C_alloc ?_ _) | (with_reducible refine Kd.C_drewN ?_ _) | (with_reducible refine Kd.C_drew ?_))))
     (case aB => exact z110a)
     (case aF => exact (fun k_ hk => ⟨Kd.fresh' (Kd.R_lt z110c) k_ hk, Kd.fresh' (Kd.R_lt z110f) k_ hk, Kd.fresh' (Kd.R_lt (by (with_reducible repeat (first | apply Kd.R_alloc | apply Kd.R_drewN | apply Kd.R_drew)); exact HO210.out)) k_ hk, Kd.fresh' (Kd.R_lt (by (with_reducible repeat (first | apply Kd.R_alloc | apply Kd.R_drewN | apply Kd.R_drew)); exact HO216.out)) k_ hk⟩))
     (case aO => exact (by (with_reducible repeat (first | apply Kd.R_alloc | apply Kd.R_drewN | apply Kd.R_drew)); exact Kd.R_mono HO213.out (fun _ hk => ⟨hk.1.1, ⟨hk.1.2.1, ⟨hk.1.2.2, hk.2⟩⟩⟩)))
     (case aS => exact (below_size z110a))
     (case aL => have := LMc21.out; omega)
     intro v218 w35 ho hb hg hat
     rw [← Ny217.out] at ho
     have n0_ := A_ (blk_grown (g := gb193) (o := .cells #[.string ((rd_T31 l0 x5_1).f0), .string ((rd_T31 l0 x5_1).f1), .int .i64 ((rd_T31 l0 x5_1).f2), .bool ((rd_T31 l0 x5_1).f3)] 31 (0, 0)) z110d hg (Kd.R_ne HO213.out BK193.out (by decide)))
     have n1_ := A_ (Kd.R_after (ok := (fun k_ => some k_ ≠ (.slice Ao29 t201.length co29 : Value).ownBlock ∧ some k_ ≠ (.slice Ao33 t208.length co33 : Value).ownBlock ∧ some k_ ≠ (.slice Ao36 t214.length co36 : Value).ownBlock)) (by (with_reducible repeat (first | apply Kd.R_alloc | apply Kd.R_drewN | apply Kd.R_drew)); exact Kd.R_mono HO197.out (fun _ hk => ⟨⟨hk.1.1.1, ⟨hk.1.1.2, hk.2⟩⟩, hk.1.2⟩)) hg hat)
     have n2_ := A_ (Kd.R_after (ok := (fun k_ => some k_ ≠ (.slice Ao26 t195.length co26 : Value).ownBlock ∧ some k_ ≠ (.slice Ao33 t208.length co33 : Value).ownBlock ∧ some k_ ≠ (.slice Ao36 t214.length co36 : Value).ownBlock)) (by (with_reducible repeat (first | apply Kd.R_alloc | apply Kd.R_drewN | apply Kd.R_drew)); exact Kd.R_mono HO203.out (fun _ hk => ⟨⟨hk.1.1.1, ⟨hk.1.1.2, hk.2⟩⟩, hk.1.2⟩)) hg hat)
     have n3_ := A_ (Kd.R_after (ok := (fun k_ => some k_ ≠ (.slice Ao26 t195.length co26 : Value).ownBlock ∧ some k_ ≠ (.slice Ao29 t201.length co29 : Value).ownBlock ∧ some k_ ≠ (.slice Ao36 t214.length co36 : Value).ownBlock)) (by (with_reducible repeat (first | apply Kd.R_alloc | apply Kd.R_drewN | apply Kd.R_drew)); exact Kd.R_mono HO210.out (fun _ hk => ⟨⟨hk.1.1.1, ⟨hk.1.1.2, hk.2⟩⟩, hk.1.2⟩)) hg hat)
     have n4_ := A_ (Kd.R_after (ok := (fun k_ => some k_ ≠ (.slice Ao26 t195.length co26 : Value).ownBlock ∧ some k_ ≠ (.slice Ao29 t201.length co29 : Value).ownBlock ∧ some k_ ≠ (.slice Ao33 t208.length co33 : Value).ownBlock)) (by (with_reducible repeat (first | apply Kd.R_alloc | apply Kd.R_drewN | apply Kd.R_drew)); exact Kd.R_mono HO216.out (fun _ hk => ⟨⟨hk.1.1.1.2, ⟨hk.1.1.2, hk.1.2⟩⟩, hk.2⟩)) hg hat)
     have n5_ := A_ (hb)
     have n6_ := A_ (ho)
     clear BK193
     clear HO197
     clear HO203
     clear HO210
     clear HO216
     clear HB
     clear HO213
     have BK193 := n0_
     have HO197 := n1_
     have HO203 := n2_
     have HO210 := n3_
     have HO216 := n4_
     have HB := n5_
     have HO219 := n6_
     clear n0_ n1_ n2_ n3_ n4_ n5_ n6_
     clear ho hb hg hat
     refine hK.out _ _ (bc4 BK193.out) (fun hHeld => ?_)
     clear hK K
     refine norm_ (nz_ 51) ?_
     refine pu_ 14 (some 3) (yx 15 0) ?_
     refine done_ (done_of HT_.out (by kernel_rfl)) ?_
     obtain ⟨hcz37_0, hcz37_1, hcz37_2, hcz37_3, hfz37_0, hfz37_1, hfz37_2, hfz37_3⟩ := bz4 BK193.out
     try go_wp2
     go_roundg kj5
     case measure => have := HK1.out; have := HJ5.out; omega
     case rel => exact ⟨(y217), (((rd_T31 l0 x5_1).f0)), (wrap64 (x5_1 + 1)), (zs), (zs), H', ⟨by have := HK1.out; have := HJ5.out; omega⟩, ⟨by (with_reducible repeat (first | apply Kd.R_alloc | apply Kd.R_drewN | apply Kd.R_drew)); exact Kd.R_mono HO219.out (fun _ hk => trivial)⟩, ⟨z110a⟩⟩
     }
     {
     rw [if_neg c21] at H
     exact absurd H (by simp)
     }
     }
     {
     rw [if_neg c19] at H
     exact absurd H (by simp)
     }
     }
     {
     rw [if_neg c16] at H
     exact absurd H (by simp)
     }
     }
     {
     rw [if_neg c14] at H
     exact absurd H (by simp)
     }
     }
     {
     rw [if_neg c13] at H
     exact absurd H (by simp)
     }
     }
     {
     rw [if_neg c12] at H
     exact absurd H (by simp)
     }
   }
   {
   rw [if_neg c5] at H
   exact absurd H (by simp)
   }
   }
   {
   rw [if_neg c4] at H
   have c4b0 : decide (x5_1 < (l0.length : Int)) = false := decide_eq_false c4
   clear c4
   obtain rfl := Option.some.inj H
   go_wp2
   go_ret
   exact ⟨_, zr, by (with_reducible repeat (first | apply Kd.R_alloc | apply Kd.R_drewN | apply Kd.R_drew)); exact HO_3.out, zg0⟩
   
   }
def spec_Packed.f (k : Nat) (l0 : List (S31)) : Option (List Int) := (spec_EntriesOk.f k l0).bind fun t220 => (if t220 = true then ((spec_l4Packed.f k l0).bind fun t221 => (some t221)) else (some (([] : List Int))))
set_option maxHeartbeats 8000000 in
set_option maxRecDepth 100000 in
theorem spec_Packed.calls (k : Nat) (A0 : Option Addr) (c0 : Nat) (l0 : List (S31)) (r : List Int) (w : World) (hr0 : Kd.C k31 w A0 l0.length l0) (hc0 : l0.length ≤ c0) (h : spec_Packed.f k l0 = some r) :
  Calls Try.prog 142 #[.slice A0 l0.length c0] w fun e w' => ∃ v0_ : Value, e = .returned (v0_) ∧ Kd.R (Kd.int .u8) 5 w' w.heap.size (fun _ => True) v0_ r ∧ Below w.heap.size w w' := by
 have HR0 := A_ hr0
 have HC0 := A_ hc0
 clear hr0 hc0
 have HB := A_ (Below.refl w.heap.size w)
 have H : ((spec_EntriesOk.f k l0).bind fun t220 => (if t220 = true then ((spec_l4Packed.f k l0).bind fun t221 => (some t221)) else (some (([] : List Int))))) = some r := h
 clear h
 replace H := Option.bind_eq_some_iff.mp H
 obtain ⟨t220, A20, H⟩ := H
 (try dsimp only at H)
 have A2 := A_ A20
 clear A20
 by_cases c3 : t220 = true
 {
 subst c3
 rw [if_pos rfl] at H
 replace H := Option.bind_eq_some_iff.mp H
 obtain ⟨t221, A40, H⟩ := H
 (try dsimp only at H)
 have A4 := A_ A40
 clear A40
 obtain rfl := Option.some.inj H
 go_enter Try.func142, Try.ntmps142
 go_wp2_with (first | ((with_reducible refine gate_callee (f := 27) rfl ?_); refine goesL_ (some 4) rfl rfl Try.func27 (by kernel_rfl) rfl #[.slice A0 l0.length c0] rfl (by (try simp only [List.map_toArray, List.map_cons, List.map_nil]); first | done | rfl | (simp only [List.length_drop, List.length_take]; rfl)) ?_; (with_reducible refine (spec_EntriesOk.calls k _ _ l0 true _ ?side1 ?side2 A2.out).mono ?_); (case side1 => exact zg9); (case side2 => exact HC0.out); rintro e w5 ⟨rfl, hb⟩; refine ⟨_, rfl, ?_⟩; replace HB := A_ (below_step zg0 hb)) | ((with_reducible refine gate_callee (f := 110) rfl ?_); refine goesL_ (some 8) rfl rfl Try.func110 (by kernel_rfl) rfl #[.slice A0 l0.length c0] rfl (by (try simp only [List.map_toArray, List.map_cons, List.map_nil]); first | done | rfl | (simp only [List.length_drop, List.length_take]; rfl)) ?_; (with_reducible refine (spec_l4Packed.calls k _ _ l0 t221 _ ?side1 ?side2 A4.out).mono ?_); (case side1 => exact (by repeat (first | exact (Kd.C_below HR0.out HB.out) | (with_reducible refine Kd.C_alloc ?_ _) | (with_reducible refine Kd.C_drewN ?_ _) | (with_reducible refine Kd.C_drew ?_)))); (case side2 => exact HC0.out); rintro e w6 ⟨v222, rfl, ho0, hb⟩; refine ⟨_, rfl, ?_⟩; have n0_ := A_ (Kd.R_lower ho0 (below_size zg0)); have n1_ := A_ (below_step zg0 hb); clear HB; have HO223 := n0_; have HB := n1_; clear n0_ n1_))
 go_ret
 exact ⟨_, zr, by (with_reducible repeat (first | apply Kd.R_alloc | apply Kd.R_drewN | apply Kd.R_drew)); exact HO223.out, zg0⟩
 }
 {
 replace c3 := Bool.eq_false_iff.mpr c3
 subst c3
 rw [if_neg Bool.false_ne_true] at H
 obtain ⟨y224, hy224⟩ : ∃ y_ : List Int, y_ = (([] : List Int)) := ⟨_, rfl⟩
 replace H : (some y224) = some r := by first | (rw [hy224]; with_reducible exact H) | (have H2_ := (Option.bind_some _ _).symm.trans H; rw [hy224]; with_reducible exact H2_) | (have H2_ := (Option.bind_some _ _).symm.trans H; with_reducible exact H2_) | with_reducible exact H | (rw [hy224]; exact H) | exact H
 have Ny224 := A_ hy224
 clear hy224
 obtain rfl := Option.some.inj H
 go_enter Try.func142, Try.ntmps142
 go_wp2_with (first | ((with_reducible refine gate_callee (f := 27) rfl ?_); refine goesL_ (some 4) rfl rfl Try.func27 (by kernel_rfl) rfl #[.slice A0 l0.length c0] rfl (by (try simp only [List.map_toArray, List.map_cons, List.map_nil]); first | done | rfl | (simp only [List.length_drop, List.length_take]; rfl)) ?_; (with_reducible refine (spec_EntriesOk.calls k _ _ l0 false _ ?side1 ?side2 A2.out).mono ?_); (case side1 => exact zg9); (case side2 => exact HC0.out); rintro e w7 ⟨rfl, hb⟩; refine ⟨_, rfl, ?_⟩; replace HB := A_ (below_step zg0 hb)) | ((with_reducible refine gate_dst (N := 6) rfl ?_); refine Kd.R_lit (Kd.int .u8) _ 5 ?hg (N := 6) ?hd (xs := ([] : List Int)) (inner := []) (ok := fun _ => True) (okp := fun _ => True) ?hr ?hp (fun _ hk => hk) trivial (Below.refl _ _) (Nat.le_refl _) (by simp) ?_; (case hd => rfl); (case hg => rfl); (case hr => first | (go_simp; done) | (go_simp; rfl)); (case hp => exact (Reps.none _ _)); intro v225 w8 ho9 hb hg_ hnew_; clear hg_ hnew_; (first | rw [← Ny224.out] at ho9 | (simp only [Int.reduceToNat] at ho9; rw [← Ny224.out] at ho9)); have n0_ := A_ (Kd.R_lower ho9 (below_size zg0)); have n1_ := A_ (below_step zg0 hb); clear HB; have HO226 := n0_; have HB := n1_; clear n0_ n1_; clear hb ho9))
 go_ret
 exact ⟨_, zr, by (with_reducible repeat (first | apply Kd.R_alloc | apply Kd.R_drewN | apply Kd.R_drew)); exact HO226.out, zg0⟩
 
 }
end Go.Proofs.Ytaiggfjkikfcbaa.PFnExactEntries

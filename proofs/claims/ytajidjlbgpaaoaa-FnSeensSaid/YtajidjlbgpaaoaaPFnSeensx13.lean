-- by a program of this session (wip/print/run.py) for this claim
import Derived.Test.YtajidjlbgpaaoaaPFnSeensx0
import Derived.Test.YtajidjlbgpaaoaaPFnSeensx6
namespace Go.Proofs.Ytajidjlbgpaaoaa.PFnSeens
open Go.RowKit Go.Proofs.YtajidjlbgpaaoaaW.PrintWords Go.Proofs.YtajidjlbgpaaoaaW.PrintLast Go.Proofs.YtajidjlbgpaaoaaW.PrintMore
attribute [local go_sem] max2_int min2_int max_two min_two max_three min_three max_four min_four   -- for this text's walks alone
set_option linter.unusedVariables false
set_option linter.unusedSimpArgs false

/-! ### impl_shown: function 84 -/
theorem z84a {p_ : Prop} (h_ : p_ := by repeat (first | (with_reducible first | exact HB.out | apply below_alloc | apply pw_below_drewN | apply below_drew1) | exact HB.out)) : p_ := h_
theorem z84b {p_ : Prop} (h_ : p_ := by first | rfl | (simp; done) | (simp [*]; done)) : p_ := h_
mutual
def impl_shown.l0 : Nat → Int → List (S88) → ByteArray → List (S88) → Int → Int → Option ((List (S88)))
 | 0, _, _, _, _, _, _ => none
 | k + 1, x1, x5, x6, x10, x11, x12 => if x12 < x11 then (if 0 ≤ x12 then (if x12 < (x10.length : Int) then (if ((rd_T88 x10 x12).f0).toList = x6.toList then (impl_shown.j1 k x1 x5 x6 x10 x11 x12 true ((rd_T88 x10 x12).f0) ((rd_T88 x10 x12).f1) ((rd_T88 x10 x12).f2) ((rd_T88 x10 x12).f3)) else (impl_shown.j1 k x1 x5 x6 x10 x11 x12 (decide (((rd_T88 x10 x12).f2) > x1)) ((rd_T88 x10 x12).f0) ((rd_T88 x10 x12).f1) ((rd_T88 x10 x12).f2) ((rd_T88 x10 x12).f3))) else (none)) else (none)) else (some x5)
def impl_shown.j1 : Nat → Int → List (S88) → ByteArray → List (S88) → Int → Int → Bool → ByteArray → ByteArray → Int → Bool → Option ((List (S88)))
 | 0, _, _, _, _, _, _, _, _, _, _, _ => none
 | k + 1, x1, x5, x6, x10, x11, x12, x25, x458000, x458001, x458002, x458003 => if x25 = true then (impl_shown.l0 k x1 x5 x6 x10 x11 (wrap64 (x12 + 1))) else (if x458003 = true then (impl_shown.l0 k x1 x5 x458000 x10 x11 (wrap64 (x12 + 1))) else (if x5.length < 2932031007402 then (impl_shown.l0 k x1 (x5 ++ [(⟨x458000, x458001, x458002, x458003⟩ : S88)]) x458000 x10 x11 (wrap64 (x12 + 1))) else (none)))
end
def impl_shown.f (k : Nat) (l0 : List (S88)) (a1 : Int) : Option ((List (S88))) := impl_shown.l0 k a1 (([] : List (S88))) (⟨#[]⟩ : ByteArray) l0 (l0.length : Int) 0
theorem impl_shown.mono_l : ∀ k, (∀ y0 y1 y2 y3 y4 y5, LeO (impl_shown.l0 k y0 y1 y2 y3 y4 y5) (impl_shown.l0 (k + 1) y0 y1 y2 y3 y4 y5)) ∧ (∀ y0 y1 y2 y3 y4 y5 y6 y7 y8 y9 y10, LeO (impl_shown.j1 k y0 y1 y2 y3 y4 y5 y6 y7 y8 y9 y10) (impl_shown.j1 (k + 1) y0 y1 y2 y3 y4 y5 y6 y7 y8 y9 y10))
 | 0 => ⟨fun _ _ _ _ _ _ r h => by simp [impl_shown.l0] at h, fun _ _ _ _ _ _ _ _ _ _ _ r h => by simp [impl_shown.j1] at h⟩
 | k + 1 => by
  obtain ⟨ih0, ih1⟩ := impl_shown.mono_l k
  refine ⟨?_, ?_⟩
  {
  intro y0 y1 y2 y3 y4 y5
  unfold impl_shown.l0
  repeat' first
  | (with_reducible exact ih0 _ _ _ _ _ _)
  | (with_reducible exact ih1 _ _ _ _ _ _ _ _ _ _ _)
  | (with_reducible exact LeO.refl _)
  | (with_reducible exact LeO.none _)
  | (with_reducible refine LeO.ite ?_ ?_)
  | (with_reducible refine LeO.bind ?_ (fun _ => ?_))
  | exact ih0 _ _ _ _ _ _
  | exact ih1 _ _ _ _ _ _ _ _ _ _ _
  | exact LeO.none _
  | refine LeO.ite ?_ ?_
  | refine LeO.bind ?_ (fun _ => ?_)
  }
  {
  intro y0 y1 y2 y3 y4 y5 y6 y7 y8 y9 y10
  unfold impl_shown.j1
  repeat' first
  | (with_reducible exact ih0 _ _ _ _ _ _)
  | (with_reducible exact ih1 _ _ _ _ _ _ _ _ _ _ _)
  | (with_reducible exact LeO.refl _)
  | (with_reducible exact LeO.none _)
  | (with_reducible refine LeO.ite ?_ ?_)
  | (with_reducible refine LeO.bind ?_ (fun _ => ?_))
  | exact ih0 _ _ _ _ _ _
  | exact ih1 _ _ _ _ _ _ _ _ _ _ _
  | exact LeO.none _
  | refine LeO.ite ?_ ?_
  | refine LeO.bind ?_ (fun _ => ?_)
  }
theorem impl_shown.mono : ∀ a0 a1 k, LeO (impl_shown.f k a0 a1) (impl_shown.f (k + 1) a0 a1) := by
 intro a0 a1 k
 obtain ⟨ih0, ih1⟩ := impl_shown.mono_l k
 unfold impl_shown.f
 repeat' first
   | (with_reducible exact ih0 _ _ _ _ _ _)
   | (with_reducible exact ih1 _ _ _ _ _ _ _ _ _ _ _)
   | (with_reducible exact LeO.refl _)
   | (with_reducible exact LeO.none _)
   | (with_reducible refine LeO.ite ?_ ?_)
   | (with_reducible refine LeO.bind ?_ (fun _ => ?_))
   | exact ih0 _ _ _ _ _ _
   | exact ih1 _ _ _ _ _ _ _ _ _ _ _
   | exact LeO.none _
   | refine LeO.ite ?_ ?_
   | refine LeO.bind ?_ (fun _ => ?_)
set_option maxHeartbeats 8000000 in
set_option maxRecDepth 100000 in
theorem impl_shown.calls (k : Nat) (A0 : Option Addr) (c0 : Nat) (l0 : List (S88)) (a1 : Int) (r : List (S88)) (w : World) (hr0 : Kd.C k88 w A0 l0.length l0) (hc0 : l0.length ≤ c0) (h : impl_shown.f k l0 a1 = some r) :
  Calls Try.prog 84 #[.slice A0 l0.length c0, .int .i64 a1] w fun e w' => ∃ v0_ : Value, e = .returned (v0_) ∧ Kd.R k88 88 w' w.heap.size (fun _ => True) v0_ r ∧ Below w.heap.size w w' := by
 have hu88 := Try.underlying88
 have HR0 := Aside0.mk hr0
 have HC0 := Aside0.mk hc0
 clear hr0 hc0
 have HB := Aside0.mk (Below.refl w.heap.size w)
 have H : (impl_shown.l0 k a1 (([] : List (S88))) (⟨#[]⟩ : ByteArray) l0 (l0.length : Int) 0) = some r := h
 clear h
 obtain ⟨y453, hy453⟩ : ∃ y_ : List (S88), y_ = (([] : List (S88))) := ⟨_, rfl⟩
 replace H : (impl_shown.l0 k a1 y453 (⟨#[]⟩ : ByteArray) l0 (l0.length : Int) 0) = some r := by first | (rw [hy453]; with_reducible exact H) | (have H2_ := (Option.bind_some _ _).symm.trans H; rw [hy453]; with_reducible exact H2_) | (have H2_ := (Option.bind_some _ _).symm.trans H; with_reducible exact H2_) | with_reducible exact H | (rw [hy453]; exact H) | exact H
 have Ny453 := Aside0.mk hy453
 clear hy453
 have H' := Aside0.mk H
 clear H
 go_enter Try.func84, Try.ntmps84
 go_wp2_with (first | ((with_reducible refine gate_dst (N := 9) rfl ?_); refine Kd.R_lit k88 _ 88 ?hg (N := 9) ?hd (xs := ([] : List (S88))) (inner := []) (ok := fun _ => True) (okp := fun _ => True) ?hr ?hp (fun _ hk => hk) trivial (Below.refl _ _) (Nat.le_refl _) (by simp) ?_; (case hd => rfl); (case hg => rfl); (case hr => first | (go_simp; done) | (go_simp; rfl)); (case hp => exact (Reps.none _ _)); intro v454 w3 ho4 hb hg_ hnew_; clear hg_ hnew_; (first | rw [← Ny453.out] at ho4 | (simp only [Int.reduceToNat] at ho4; rw [← Ny453.out] at ho4)); have n0_ := Aside0.mk (Kd.R_lower ho4 (below_size z84a)); have n1_ := Aside0.mk (below_step z84a hb); clear HB; have HO455 := n0_; have HB := n1_; clear n0_ n1_; clear hb ho4))
 go_loopg [5, 6, 12] k (fun kq v5 v6 v12 w' => ∃ (x5_1 : List (S88)) (x6_1 : ByteArray) (x12_1 : Int), v6 = .string x6_1 ∧ v12 = .int .i64 x12_1 ∧ Aside0 (impl_shown.l0 kq a1 x5_1 x6_1 l0 (l0.length : Int) x12_1 = some r) ∧ Aside0 (kq ≤ k) ∧ Aside0 (Kd.R k88 88 w' w.heap.size (fun _ => True) v5 x5_1) ∧ Aside0 (Below w.heap.size w w'))
 case atStart => exact ⟨(y453), ((⟨#[]⟩ : ByteArray)), (0), z84b, z84b, H', ⟨Nat.le_refl _⟩, ⟨by (with_reducible repeat (first | apply Kd.R_alloc | apply Kd.R_drewN | apply Kd.R_drew)); exact HO455.out⟩, ⟨by repeat (first | (with_reducible first | exact HB.out | apply below_alloc | apply pw_below_drewN | apply below_drew1) | exact HB.out)⟩⟩
 case round =>
  clear H'
  try clear p2
  obtain ⟨x5_1, x6_1, x12_1, rfl, rfl, HA, HK1, HO_5, HB⟩ := hrel
  cases gk with
  | zero => exact absurd HA.out (by simp [impl_shown.l0])
  | succ k1 =>
   have H := HA.out
   clear HA
   simp only [impl_shown.l0] at H
   by_cases c5 : x12_1 < (l0.length : Int)
   {
   rw [if_pos c5] at H
   have c5b0 : decide (x12_1 < (l0.length : Int)) = true := decide_eq_true c5
   clear c5
   by_cases c6 : 0 ≤ x12_1
   {
   rw [if_pos c6] at H
   have c6b0 : decide (0 ≤ x12_1) = true := decide_eq_true c6
   clear c6
   by_cases c7 : x12_1 < (l0.length : Int)
   {
   rw [if_pos c7] at H
   have c7b0 : decide (x12_1 < (l0.length : Int)) = true := decide_eq_true c7
   clear c7
   have HC8 := Aside0.mk H
   clear H
   have p456 : 0 ≤ (x12_1 : Int) := of_decide_eq_true (by first | (with_reducible assumption) | assumption)
   have q456 : x12_1 < (l0.length : Int) := of_decide_eq_true (by first | (with_reducible assumption) | assumption)
   obtain ⟨ad456, e456, hx456_0, hx456_1, hx456_2, hx456_3⟩ := at_T88 HR0.out x12_1 p456 q456
   cases e456
   replace hx456_0 := (HB.out.cell (World.block_lt_of_cell? w _ hx456_0)).trans hx456_0
   replace hx456_1 := (HB.out.cell (World.block_lt_of_cell? w _ hx456_1)).trans hx456_1
   replace hx456_2 := (HB.out.cell (World.block_lt_of_cell? w _ hx456_2)).trans hx456_2
   replace hx456_3 := (HB.out.cell (World.block_lt_of_cell? w _ hx456_3)).trans hx456_3
   replace p456 := eq_true p456
   replace q456 := eq_true q456
   go_upto_region 5 with (first | ((with_reducible refine gate_dst (N := 8) rfl ?_); refine box_event ?hg (N := 8) ?hd (cs := #[.string (⟨#[]⟩ : ByteArray), .string (⟨#[]⟩ : ByteArray), .int .i64 0, .bool false]) (t := 88) ?hr ?_; (case hd => rfl); (case hg => rfl); (case hr => first | (go_simp; done) | (go_simp; rfl)); intro gb457 hg w9 hbox hb; have n0_ := Aside0.mk (Kd.R_below (Kd.R_elderB (by (with_reducible repeat (first | apply Kd.R_alloc | apply Kd.R_drewN | apply Kd.R_drew)); exact HO_5.out) gb457 (Nat.le_of_eq hg.symm)) hb); have n1_ := Aside0.mk (below_step z84a hb); have n2_ := Aside0.mk (hbox); have n3_ := Aside0.mk ((by rw [hg]; exact (below_size z84a) : w.heap.size ≤ gb457)); have n4_ := Aside0.mk ((by rw [hg]; exact (below_size z84a) : w.heap.size ≤ gb457)); clear HO_5; clear HB; have HO_5 := n0_; have HB := n1_; have BK457 := n2_; have GW457 := n3_; have GE457 := n4_; clear n0_ n1_ n2_ n3_ n4_; clear hb hbox hg; have hcz10_0 : w9.cell? ⟨gb457, 0, none⟩ = some (.string (⟨#[]⟩ : ByteArray)) := (blk_cell BK457.out 0).trans rfl; have hcz10_1 : w9.cell? ⟨gb457, 1, none⟩ = some (.string (⟨#[]⟩ : ByteArray)) := (blk_cell BK457.out 1).trans rfl; have hcz10_2 : w9.cell? ⟨gb457, 2, none⟩ = some (.int .i64 0) := (blk_cell BK457.out 2).trans rfl; have hcz10_3 : w9.cell? ⟨gb457, 3, none⟩ = some (.bool false) := (blk_cell BK457.out 3).trans rfl; have hfz10_0 := blk_frozen BK457.out 0; have hfz10_1 := blk_frozen BK457.out 1; have hfz10_2 := blk_frozen BK457.out 2; have hfz10_3 := blk_frozen BK457.out 3))
   (try simp only [Act.put, List.setIfInBounds_toArray, List.set_cons_zero, List.set_cons_succ])
   go_cut [25] (fun v25 wc => ∃ (kq : Nat) (x25_7 : Bool), v25 = .bool x25_7 ∧ Aside0 (impl_shown.j1 kq a1 x5_1 x6_1 l0 (l0.length : Int) x12_1 x25_7 ((rd_T88 l0 x12_1).f0) ((rd_T88 l0 x12_1).f1) ((rd_T88 l0 x12_1).f2) ((rd_T88 l0 x12_1).f3) = some r) ∧ Aside0 (kq ≤ k1) ∧ Aside0 (Kd.R k88 88 wc w.heap.size (fun k_ => k_ ≠ gb457) u5 x5_1) ∧ Aside0 (wc.heap[gb457]? = some (.cells #[.string ((rd_T88 l0 x12_1).f0), .string ((rd_T88 l0 x12_1).f1), .int .i64 ((rd_T88 l0 x12_1).f2), .bool ((rd_T88 l0 x12_1).f3)] 88 (0, 0))) ∧ Aside0 (Below w.heap.size w wc))
   case first =>
    have H := HC8.out
    clear HC8
    by_cases c11 : ((rd_T88 l0 x12_1).f0).toList = x6_1.toList
    {
    rw [if_pos c11] at H
    have c11b0 : (((rd_T88 l0 x12_1).f0).toList == x6_1.toList) = true := beq_iff_eq.mpr c11
    have c11b1 : (((rd_T88 l0 x12_1).f0).toList != x6_1.toList) = false := bne_eq_false_iff_eq.mpr c11
    clear c11
    (first | rw [c11b0] | (simp only [i64_w, i32_w]; rw [c11b0]) | skip)
    have H' := Aside0.mk H
    clear H
    have hcz12_0 : w9.cell? ⟨gb457, 0, none⟩ = some (.string (⟨#[]⟩ : ByteArray)) := (blk_cell BK457.out 0).trans rfl
    have hcz12_1 : w9.cell? ⟨gb457, 1, none⟩ = some (.string (⟨#[]⟩ : ByteArray)) := (blk_cell BK457.out 1).trans rfl
    have hcz12_2 : w9.cell? ⟨gb457, 2, none⟩ = some (.int .i64 0) := (blk_cell BK457.out 2).trans rfl
    have hcz12_3 : w9.cell? ⟨gb457, 3, none⟩ = some (.bool false) := (blk_cell BK457.out 3).trans rfl
    have hfz12_0 := blk_frozen BK457.out 0
    have hfz12_1 := blk_frozen BK457.out 1
    have hfz12_2 := blk_frozen BK457.out 2
    have hfz12_3 := blk_frozen BK457.out 3
    go_wp2
    go_meet
    case rel => exact ⟨_, (true), z84b, H', ⟨by have := HK1.out; first | omega | exact Nat.le_refl _⟩, ⟨by (with_reducible repeat (first | apply Kd.R_alloc | apply Kd.R_drewN | apply Kd.R_drew)); exact Kd.R_mono (Kd.R_far (p := ⟨gb457, 3, none⟩) (Kd.R_far (p := ⟨gb457, 2, none⟩) (Kd.R_far (p := ⟨gb457, 1, none⟩) (Kd.R_far (p := ⟨gb457, 0, none⟩) (Kd.R_mono HO_5.out (fun k_ hk => (⟨hk, hk.2⟩ : _ ∧ k_ ≠ gb457))) (fun _ hk => hk.2) (.string ((rd_T88 l0 x12_1).f0))) (fun _ hk => hk.2) (.string ((rd_T88 l0 x12_1).f1))) (fun _ hk => hk.2) (.int .i64 ((rd_T88 l0 x12_1).f2))) (fun _ hk => hk.2) (.bool ((rd_T88 l0 x12_1).f3))) (fun _ hk => hk.1.2)⟩, ⟨by (with_reducible repeat (first | refine blk_drewN ?_ _ | refine blk_drew ?_ | refine blk_alloc ?_ _)); refine blk_put (cs := #[.string ((rd_T88 l0 x12_1).f0), .string ((rd_T88 l0 x12_1).f1), .int .i64 ((rd_T88 l0 x12_1).f2), .bool false]) ?_ 3 _ rfl; (with_reducible repeat (first | refine blk_drewN ?_ _ | refine blk_drew ?_ | refine blk_alloc ?_ _)); refine blk_put (cs := #[.string ((rd_T88 l0 x12_1).f0), .string ((rd_T88 l0 x12_1).f1), .int .i64 0, .bool false]) ?_ 2 _ rfl; (with_reducible repeat (first | refine blk_drewN ?_ _ | refine blk_drew ?_ | refine blk_alloc ?_ _)); refine blk_put (cs := #[.string ((rd_T88 l0 x12_1).f0), .string (⟨#[]⟩ : ByteArray), .int .i64 0, .bool false]) ?_ 1 _ rfl; (with_reducible repeat (first | refine blk_drewN ?_ _ | refine blk_drew ?_ | refine blk_alloc ?_ _)); refine blk_put (cs := #[.string (⟨#[]⟩ : ByteArray), .string (⟨#[]⟩ : ByteArray), .int .i64 0, .bool false]) ?_ 0 _ rfl; (with_reducible repeat (first | refine blk_drewN ?_ _ | refine blk_drew ?_ | refine blk_alloc ?_ _)); exact BK457.out⟩, ⟨by repeat (first | (with_reducible first | exact HB.out | apply below_alloc | apply pw_below_drewN | apply below_drew1 | refine below_set ?_ GE457.out) | exact HB.out)⟩⟩
    }
    {
    rw [if_neg c11] at H
    have c11b0 : (((rd_T88 l0 x12_1).f0).toList == x6_1.toList) = false := beq_eq_false_iff_ne.mpr c11
    have c11b1 : (((rd_T88 l0 x12_1).f0).toList != x6_1.toList) = true := bne_iff_ne.mpr c11
    (first | rw [c11b0] | (simp only [i64_w, i32_w]; rw [c11b0]) | skip)
    have H' := Aside0.mk H
    clear H
    have hcz13_0 : w9.cell? ⟨gb457, 0, none⟩ = some (.string (⟨#[]⟩ : ByteArray)) := (blk_cell BK457.out 0).trans rfl
    have hcz13_1 : w9.cell? ⟨gb457, 1, none⟩ = some (.string (⟨#[]⟩ : ByteArray)) := (blk_cell BK457.out 1).trans rfl
    have hcz13_2 : w9.cell? ⟨gb457, 2, none⟩ = some (.int .i64 0) := (blk_cell BK457.out 2).trans rfl
    have hcz13_3 : w9.cell? ⟨gb457, 3, none⟩ = some (.bool false) := (blk_cell BK457.out 3).trans rfl
    have hfz13_0 := blk_frozen BK457.out 0
    have hfz13_1 := blk_frozen BK457.out 1
    have hfz13_2 := blk_frozen BK457.out 2
    have hfz13_3 := blk_frozen BK457.out 3
    go_wp2
    go_meet
    case rel => exact ⟨_, (decide (((rd_T88 l0 x12_1).f2) > a1)), z84b, H', ⟨by have := HK1.out; first | omega | exact Nat.le_refl _⟩, ⟨by (with_reducible repeat (first | apply Kd.R_alloc | apply Kd.R_drewN | apply Kd.R_drew)); exact Kd.R_mono (Kd.R_far (p := ⟨gb457, 3, none⟩) (Kd.R_far (p := ⟨gb457, 2, none⟩) (Kd.R_far (p := ⟨gb457, 1, none⟩) (Kd.R_far (p := ⟨gb457, 0, none⟩) (Kd.R_mono HO_5.out (fun k_ hk => (⟨hk, hk.2⟩ : _ ∧ k_ ≠ gb457))) (fun _ hk => hk.2) (.string ((rd_T88 l0 x12_1).f0))) (fun _ hk => hk.2) (.string ((rd_T88 l0 x12_1).f1))) (fun _ hk => hk.2) (.int .i64 ((rd_T88 l0 x12_1).f2))) (fun _ hk => hk.2) (.bool ((rd_T88 l0 x12_1).f3))) (fun _ hk => hk.1.2)⟩, ⟨by (with_reducible repeat (first | refine blk_drewN ?_ _ | refine blk_drew ?_ | refine blk_alloc ?_ _)); refine blk_put (cs := #[.string ((rd_T88 l0 x12_1).f0), .string ((rd_T88 l0 x12_1).f1), .int .i64 ((rd_T88 l0 x12_1).f2), .bool false]) ?_ 3 _ rfl; (with_reducible repeat (first | refine blk_drewN ?_ _ | refine blk_drew ?_ | refine blk_alloc ?_ _)); refine blk_put (cs := #[.string ((rd_T88 l0 x12_1).f0), .string ((rd_T88 l0 x12_1).f1), .int .i64 0, .bool false]) ?_ 2 _ rfl; (with_reducible repeat (first | refine blk_drewN ?_ _ | refine blk_drew ?_ | refine blk_alloc ?_ _)); refine blk_put (cs := #[.string ((rd_T88 l0 x12_1).f0), .string (⟨#[]⟩ : ByteArray), .int .i64 0, .bool false]) ?_ 1 _ rfl; (with_reducible repeat (first | refine blk_drewN ?_ _ | refine blk_drew ?_ | refine blk_alloc ?_ _)); refine blk_put (cs := #[.string (⟨#[]⟩ : ByteArray), .string (⟨#[]⟩ : ByteArray), .int .i64 0, .bool false]) ?_ 0 _ rfl; (with_reducible repeat (first | refine blk_drewN ?_ _ | refine blk_drew ?_ | refine blk_alloc ?_ _)); exact BK457.out⟩, ⟨by repeat (first | (with_reducible first | exact HB.out | apply below_alloc | apply pw_below_drewN | apply below_drew1 | refine below_set ?_ GE457.out) | exact HB.out)⟩⟩
    }
   case rest =>
    clear HC8
    try clear c1
    try clear p2
    try clear p4
    try clear q4
    try clear hx4
    try clear c5
    try clear c5b0
    try clear c6
    try clear c6b0
    try clear c7
    try clear c7b0
    try clear c8
    try clear c11
    try clear c11b0
    try clear c11b1
    try clear hcz10_0
    try clear hcz10_1
    try clear hcz10_2
    try clear hcz10_3
    try clear hcz12_0
    try clear hcz12_1
    try clear hcz12_2
    try clear hcz12_3
    try clear hcz13_0
    try clear hcz13_1
    try clear hcz13_2
    try clear hcz13_3
    try clear hfz10_0
    try clear hfz10_1
    try clear hfz10_2
    try clear hfz10_3
    try clear hfz12_0
    try clear hfz12_1
    try clear hfz12_2
    try clear hfz12_3
    try clear hfz13_0
    try clear hfz13_1
    try clear hfz13_2
    try clear hfz13_3
    try clear hx456_0
    try clear hx456_1
    try clear hx456_2
    try clear hx456_3
    try clear p2
    try clear p456
    try clear q456
    obtain ⟨kq, x25_7, rfl, HA, HJ7, HO_5, BK457, HB⟩ := hcut
    cases kq with
    | zero => exact absurd HA.out (by simp [impl_shown.j1])
    | succ kj7 =>
     have H := HA.out
     clear HA
     simp only [impl_shown.j1] at H
     by_cases c14 : x25_7 = true
     {
     subst c14
     have H1 : (impl_shown.l0 kj7 a1 x5_1 x6_1 l0 (l0.length : Int) (wrap64 (x12_1 + 1))) = some r := by rw [if_pos rfl] at H; exact H
     clear H
     have H := H1
     clear H1
     have H' := Aside0.mk H
     clear H
     go_wp2
     go_roundg kj7
     case measure => have := HK1.out; have := HJ7.out; omega
     case rel => exact ⟨(x5_1), (x6_1), (wrap64 (x12_1 + 1)), z84b, z84b, H', ⟨by have := HK1.out; have := HJ7.out; omega⟩, ⟨by (with_reducible repeat (first | apply Kd.R_alloc | apply Kd.R_drewN | apply Kd.R_drew)); exact Kd.R_mono HO_5.out (fun _ hk => trivial)⟩, ⟨by repeat (first | (with_reducible first | exact HB.out | apply below_alloc | apply pw_below_drewN | apply below_drew1 | refine below_set ?_ GE457.out) | exact HB.out)⟩⟩
     }
     {
     replace c14 := Bool.eq_false_iff.mpr c14
     subst c14
     have H1 : (if ((rd_T88 l0 x12_1).f3) = true then (impl_shown.l0 kj7 a1 x5_1 ((rd_T88 l0 x12_1).f0) l0 (l0.length : Int) (wrap64 (x12_1 + 1))) else (if x5_1.length < 2932031007402 then (impl_shown.l0 kj7 a1 (x5_1 ++ [(⟨((rd_T88 l0 x12_1).f0), ((rd_T88 l0 x12_1).f1), ((rd_T88 l0 x12_1).f2), ((rd_T88 l0 x12_1).f3)⟩ : S88)]) ((rd_T88 l0 x12_1).f0) l0 (l0.length : Int) (wrap64 (x12_1 + 1))) else (none))) = some r := by rw [if_neg (show ¬ (false = true) by decide)] at H; exact H
     clear H
     have H := H1
     clear H1
     by_cases c15 : ((rd_T88 l0 x12_1).f3) = true
     {
     rw [if_pos c15] at H
     have c15b0 : ((rd_T88 l0 x12_1).f3) = true := c15
     clear c15
     have H' := Aside0.mk H
     clear H
     have hcz16_0 : wc.cell? ⟨gb457, 0, none⟩ = some (.string ((rd_T88 l0 x12_1).f0)) := (blk_cell BK457.out 0).trans rfl
     have hcz16_1 : wc.cell? ⟨gb457, 1, none⟩ = some (.string ((rd_T88 l0 x12_1).f1)) := (blk_cell BK457.out 1).trans rfl
     have hcz16_2 : wc.cell? ⟨gb457, 2, none⟩ = some (.int .i64 ((rd_T88 l0 x12_1).f2)) := (blk_cell BK457.out 2).trans rfl
     have hcz16_3 : wc.cell? ⟨gb457, 3, none⟩ = some (.bool ((rd_T88 l0 x12_1).f3)) := (blk_cell BK457.out 3).trans rfl
     have hfz16_0 := blk_frozen BK457.out 0
     have hfz16_1 := blk_frozen BK457.out 1
     have hfz16_2 := blk_frozen BK457.out 2
     have hfz16_3 := blk_frozen BK457.out 3
     go_wp2
     go_roundg kj7
     case measure => have := HK1.out; have := HJ7.out; omega
     case rel => exact ⟨(x5_1), (((rd_T88 l0 x12_1).f0)), (wrap64 (x12_1 + 1)), z84b, z84b, H', ⟨by have := HK1.out; have := HJ7.out; omega⟩, ⟨by (with_reducible repeat (first | apply Kd.R_alloc | apply Kd.R_drewN | apply Kd.R_drew)); exact Kd.R_mono HO_5.out (fun _ hk => trivial)⟩, ⟨by repeat (first | (with_reducible first | exact HB.out | apply below_alloc | apply pw_below_drewN | apply below_drew1 | refine below_set ?_ GE457.out) | exact HB.out)⟩⟩
     }
     {
     rw [if_neg c15] at H
     have c15b0 : ((rd_T88 l0 x12_1).f3) = false := by simpa using c15
     clear c15
     by_cases c17 : x5_1.length < 2932031007402
     {
     rw [if_pos c17] at H
     have LMc17 := Aside0.mk c17
     clear c17
     obtain ⟨y458, hy458⟩ : ∃ y_ : List (S88), y_ = (x5_1 ++ [(⟨((rd_T88 l0 x12_1).f0), ((rd_T88 l0 x12_1).f1), ((rd_T88 l0 x12_1).f2), ((rd_T88 l0 x12_1).f3)⟩ : S88)]) := ⟨_, rfl⟩
     replace H : (impl_shown.l0 kj7 a1 y458 ((rd_T88 l0 x12_1).f0) l0 (l0.length : Int) (wrap64 (x12_1 + 1))) = some r := by first | (rw [hy458]; with_reducible exact H) | (have H2_ := (Option.bind_some _ _).symm.trans H; rw [hy458]; with_reducible exact H2_) | (have H2_ := (Option.bind_some _ _).symm.trans H; with_reducible exact H2_) | with_reducible exact H | (rw [hy458]; exact H) | exact H
     have Ny458 := Aside0.mk hy458
     clear hy458
     have H' := Aside0.mk H
     clear H
     have hcz18_0 : wc.cell? ⟨gb457, 0, none⟩ = some (.string ((rd_T88 l0 x12_1).f0)) := (blk_cell BK457.out 0).trans rfl
     have hcz18_1 : wc.cell? ⟨gb457, 1, none⟩ = some (.string ((rd_T88 l0 x12_1).f1)) := (blk_cell BK457.out 1).trans rfl
     have hcz18_2 : wc.cell? ⟨gb457, 2, none⟩ = some (.int .i64 ((rd_T88 l0 x12_1).f2)) := (blk_cell BK457.out 2).trans rfl
     have hcz18_3 : wc.cell? ⟨gb457, 3, none⟩ = some (.bool ((rd_T88 l0 x12_1).f3)) := (blk_cell BK457.out 3).trans rfl
     have hfz18_0 := blk_frozen BK457.out 0
     have hfz18_1 := blk_frozen BK457.out 1
     have hfz18_2 := blk_frozen BK457.out 2
     have hfz18_3 := blk_frozen BK457.out 3
     go_wp2_with (first | ((with_reducible refine gate_builtin (b := .append) (xs := #[.tmp 31, .tmp 33]) rfl ?_); at_builtin; (first | (refine Kd.R_append k88 (w0 := w) w.heap.size rfl (.tmp 31) (.tmp 33) 50 88 (.agg #[(.string ⟨#[]⟩), (.string ⟨#[]⟩), (.int .i64 0), (.bool false)]) 48 rfl Try.underlying50 info88 rfl (by decide) (by omega) u5 x5_1 (⟨((rd_T88 l0 x12_1).f0), ((rd_T88 l0 x12_1).f1), ((rd_T88 l0 x12_1).f2), ((rd_T88 l0 x12_1).f3)⟩ : S88) [.string ((rd_T88 l0 x12_1).f0), .string ((rd_T88 l0 x12_1).f1), .int .i64 ((rd_T88 l0 x12_1).f2), .bool ((rd_T88 l0 x12_1).f3)] (fun k_ => k_ ≠ gb457) (fun _ => False) rfl rfl ?aP (fun _ hk => hk.elim) ?aF ?aO ?aB ?aS ?aL ?_) | (refine Kd.R_append k88 (w0 := w) w.heap.size rfl (.tmp 31) (.tmp 33) 50 88 (.agg #[(.string ⟨#[]⟩), (.string ⟨#[]⟩), (.int .i64 0), (.bool false)]) 48 rfl Try.underlying50 info88 rfl (by decide) (by omega) u5 x5_1 (⟨((rd_T88 l0 x12_1).f0), ((rd_T88 l0 x12_1).f1), ((rd_T88 l0 x12_1).f2), ((rd_T88 l0 x12_1).f3)⟩ : S88) [.string ((rd_T88 l0 x12_1).f0), .string ((rd_T88 l0 x12_1).f1), .int .i64 ((rd_T88 l0 x12_1).f2), .bool false] (fun k_ => k_ ≠ gb457) (fun _ => False) rfl rfl ?aP (fun _ hk => hk.elim) ?aF ?aO ?aB ?aS ?aL ?_) | (refine Kd.R_append k88 (w0 := w) w.heap.size rfl (.tmp 31) (.tmp 33) 50 88 (.agg #[(.string ⟨#[]⟩), (.string ⟨#[]⟩), (.int .i64 0), (.bool false)]) 48 rfl Try.underlying50 info88 rfl (by decide) (by omega) u5 x5_1 (⟨((rd_T88 l0 x12_1).f0), ((rd_T88 l0 x12_1).f1), ((rd_T88 l0 x12_1).f2), ((rd_T88 l0 x12_1).f3)⟩ : S88) [.string ((rd_T88 l0 x12_1).f0), .string ((rd_T88 l0 x12_1).f1), .int .i64 ((rd_T88 l0 x12_1).f2), .bool true] (fun k_ => k_ ≠ gb457) (fun _ => False) rfl rfl ?aP (fun _ hk => hk.elim) ?aF ?aO ?aB ?aS ?aL ?_)); (case aP => first | exact k88_mkM _ _ _ (⟨((rd_T88 l0 x12_1).f0), ((rd_T88 l0 x12_1).f1), ((rd_T88 l0 x12_1).f2), ((rd_T88 l0 x12_1).f3)⟩ : S88) | (rw [show ((rd_T88 l0 x12_1).f3) = false from (by assumption)]; exact k88_mkM _ _ _ _) | (rw [show ((rd_T88 l0 x12_1).f3) = true from (by assumption)]; exact k88_mkM _ _ _ _)); (case aB => exact (by repeat (first | (with_reducible first | exact HB.out | apply below_alloc | apply pw_below_drewN | apply below_drew1 | refine below_set ?_ GE457.out) | exact HB.out))); (case aF => exact (fun k_ hk => Kd.freshB (g := gb457) (o := .cells #[.string ((rd_T88 l0 x12_1).f0), .string ((rd_T88 l0 x12_1).f1), .int .i64 ((rd_T88 l0 x12_1).f2), .bool ((rd_T88 l0 x12_1).f3)] 88 (0, 0)) (by (with_reducible repeat (first | refine blk_drewN ?_ _ | refine blk_drew ?_ | refine blk_alloc ?_ _)); exact BK457.out) k_ hk)); (case aO => exact (by (with_reducible repeat (first | apply Kd.R_alloc | apply Kd.R_drewN | apply Kd.R_drew)); exact HO_5.out)); (case aS => exact (below_size (by repeat (first | (with_reducible first | exact HB.out | apply below_alloc | apply pw_below_drewN | apply below_drew1 | refine below_set ?_ GE457.out) | exact HB.out)))); (case aL => have := LMc17.out; omega); intro v459 w19 ho hb hg hat; rw [← Ny458.out] at ho; have n0_ := Aside0.mk (blk_grown (g := gb457) (o := .cells #[.string ((rd_T88 l0 x12_1).f0), .string ((rd_T88 l0 x12_1).f1), .int .i64 ((rd_T88 l0 x12_1).f2), .bool ((rd_T88 l0 x12_1).f3)] 88 (0, 0)) (by (with_reducible repeat (first | refine blk_drewN ?_ _ | refine blk_drew ?_ | refine blk_alloc ?_ _)); exact BK457.out) hg (Kd.R_away HO_5.out (fun _ hk => hk))); have n1_ := Aside0.mk (hb); have n2_ := Aside0.mk (ho); clear BK457; clear HB; clear HO_5; have BK457 := n0_; have HB := n1_; have HO460 := n2_; clear n0_ n1_ n2_; clear ho hb hg hat))
     go_roundg kj7
     case measure => have := HK1.out; have := HJ7.out; omega
     case rel => exact ⟨(y458), (((rd_T88 l0 x12_1).f0)), (wrap64 (x12_1 + 1)), z84b, z84b, H', ⟨by have := HK1.out; have := HJ7.out; omega⟩, ⟨by (with_reducible repeat (first | apply Kd.R_alloc | apply Kd.R_drewN | apply Kd.R_drew)); exact Kd.R_mono HO460.out (fun _ hk => trivial)⟩, ⟨by repeat (first | (with_reducible first | exact HB.out | apply below_alloc | apply pw_below_drewN | apply below_drew1 | refine below_set ?_ GE457.out) | exact HB.out)⟩⟩
     }
     {
     rw [if_neg c17] at H
     exact absurd H (by simp)
     }
     }
     }
   }
   {
   rw [if_neg c7] at H
   exact absurd H (by simp)
   }
   }
   {
   rw [if_neg c6] at H
   exact absurd H (by simp)
   }
   }
   {
   rw [if_neg c5] at H
   have c5b0 : decide (x12_1 < (l0.length : Int)) = false := decide_eq_false c5
   clear c5
   obtain rfl := Option.some.inj H
   go_wp2
   go_ret
   exact ⟨_, by first | rfl | (simp [errW_none, errW_some] <;> rfl) | (simp [*, errW_none, errW_some] <;> rfl), by (with_reducible repeat (first | apply Kd.R_alloc | apply Kd.R_drewN | apply Kd.R_drew)); exact HO_5.out, by repeat (first | (with_reducible first | exact HB.out | apply below_alloc | apply pw_below_drewN | apply below_drew1) | exact HB.out)⟩
   
   }
/-! ### impl_Shown: function 46 -/
theorem z46a {p_ : Prop} (h_ : p_ := by repeat (first | (with_reducible first | exact HB.out | apply below_alloc | apply pw_below_drewN | apply below_drew1) | exact HB.out)) : p_ := h_
def impl_Shown.f (k : Nat) (l0 : List (S88)) (a1 : Int) : Option ((List (S88))) := (impl_EntriesOk.f k l0).bind fun t461 => (if t461 = true then ((impl_shown.f k l0 a1).bind fun t462 => (some t462)) else (some ([] : List (S88))))
theorem impl_Shown.mono : ∀ a0 a1 k, LeO (impl_Shown.f k a0 a1) (impl_Shown.f (k + 1) a0 a1) := by
 intro a0 a1 k
 unfold impl_Shown.f
 repeat' first
   | (with_reducible exact impl_EntriesOk.mono _ _)
   | (with_reducible exact impl_shown.mono _ _ _)
   | (with_reducible exact LeO.refl _)
   | (with_reducible exact LeO.none _)
   | (with_reducible refine LeO.ite ?_ ?_)
   | (with_reducible refine LeO.bind ?_ (fun _ => ?_))
   | exact impl_EntriesOk.mono _ _
   | exact impl_shown.mono _ _ _
   | exact LeO.none _
   | refine LeO.ite ?_ ?_
   | refine LeO.bind ?_ (fun _ => ?_)
set_option maxHeartbeats 8000000 in
set_option maxRecDepth 100000 in
theorem impl_Shown.calls (k : Nat) (A0 : Option Addr) (c0 : Nat) (l0 : List (S88)) (a1 : Int) (r : List (S88)) (w : World) (hr0 : Kd.C k88 w A0 l0.length l0) (hc0 : l0.length ≤ c0) (h : impl_Shown.f k l0 a1 = some r) :
  Calls Try.prog 46 #[.slice A0 l0.length c0, .int .i64 a1] w fun e w' => ∃ v0_ : Value, e = .returned (v0_) ∧ Kd.R k88 88 w' w.heap.size (fun _ => True) v0_ r ∧ Below w.heap.size w w' := by
 have HR0 := Aside0.mk hr0
 have HC0 := Aside0.mk hc0
 clear hr0 hc0
 have HB := Aside0.mk (Below.refl w.heap.size w)
 have H : ((impl_EntriesOk.f k l0).bind fun t461 => (if t461 = true then ((impl_shown.f k l0 a1).bind fun t462 => (some t462)) else (some ([] : List (S88))))) = some r := h
 clear h
 replace H := Option.bind_eq_some_iff.mp H
 obtain ⟨t461, A30, H⟩ := H
 replace H : (if t461 = true then ((impl_shown.f k l0 a1).bind fun t462 => (some t462)) else (some ([] : List (S88)))) = some r := H
 have A3 := Aside0.mk A30
 clear A30
 by_cases c4 : t461 = true
 {
 subst c4
 have H1 : ((impl_shown.f k l0 a1).bind fun t462 => (some t462)) = some r := by rw [if_pos rfl] at H; exact H
 clear H
 have H := H1
 clear H1
 replace H := Option.bind_eq_some_iff.mp H
 obtain ⟨t462, A50, H⟩ := H
 replace H : (some t462) = some r := H
 have A5 := Aside0.mk A50
 clear A50
 obtain rfl := Option.some.inj H
 go_enter Try.func46, Try.ntmps46
 go_wp2_with (first | ((with_reducible refine gate_callee (f := 47) rfl ?_); refine goesL_ (some 6) rfl rfl Try.func47 (by kernel_rfl) rfl #[.slice A0 l0.length c0] rfl (by (try simp only [List.map_toArray, List.map_cons, List.map_nil]); first | done | rfl | (simp only [List.length_drop, List.length_take]; rfl)) ?_; (with_reducible refine (impl_EntriesOk.calls k _ _ l0 true _ ?side1 ?side2 A3.out).mono ?_); (case side1 => exact (by repeat (first | exact HR0.out | (with_reducible refine Kd.C_alloc ?_ _) | (with_reducible refine Kd.C_drewN ?_ _) | (with_reducible refine Kd.C_drew ?_)))); (case side2 => exact HC0.out); rintro e w6 ⟨rfl, hb⟩; refine ⟨_, rfl, ?_⟩; have n0_ := Aside0.mk (below_step z46a hb); clear HB; have HB := n0_; clear n0_; (try clear hb); (try clear hb2); (try clear hk); (try clear hi)) | ((with_reducible refine gate_callee (f := 84) rfl ?_); refine goesL_ (some 10) rfl rfl Try.func84 (by kernel_rfl) rfl #[.slice A0 l0.length c0, .int .i64 a1] rfl (by (try simp only [List.map_toArray, List.map_cons, List.map_nil]); first | done | rfl | (simp only [List.length_drop, List.length_take]; rfl)) ?_; (with_reducible refine (impl_shown.calls k _ _ l0 a1 t462 _ ?side1 ?side2 A5.out).mono ?_); (case side1 => exact (by repeat (first | exact (Kd.C_below HR0.out HB.out) | (with_reducible refine Kd.C_alloc ?_ _) | (with_reducible refine Kd.C_drewN ?_ _) | (with_reducible refine Kd.C_drew ?_)))); (case side2 => exact HC0.out); rintro e w7 ⟨v463, rfl, ho0, hb⟩; refine ⟨_, rfl, ?_⟩; have n0_ := Aside0.mk (Kd.R_lower ho0 (below_size z46a)); have n1_ := Aside0.mk (below_step z46a hb); clear HB; have HO464 := n0_; have HB := n1_; clear n0_ n1_; (try clear hb); (try clear hb2); (try clear hk); (try clear hi); (try clear ho0)))
 go_ret
 exact ⟨_, by first | rfl | (simp [errW_none, errW_some] <;> rfl) | (simp [*, errW_none, errW_some] <;> rfl), by (with_reducible repeat (first | apply Kd.R_alloc | apply Kd.R_drewN | apply Kd.R_drew)); exact HO464.out, by repeat (first | (with_reducible first | exact HB.out | apply below_alloc | apply pw_below_drewN | apply below_drew1) | exact HB.out)⟩
 }
 {
 replace c4 := Bool.eq_false_iff.mpr c4
 subst c4
 have H1 : (some ([] : List (S88))) = some r := by rw [if_neg (show ¬ (false = true) by decide)] at H; exact H
 clear H
 have H := H1
 clear H1
 obtain rfl := Option.some.inj H
 go_enter Try.func46, Try.ntmps46
 go_wp2_with (first | ((with_reducible refine gate_callee (f := 47) rfl ?_); refine goesL_ (some 6) rfl rfl Try.func47 (by kernel_rfl) rfl #[.slice A0 l0.length c0] rfl (by (try simp only [List.map_toArray, List.map_cons, List.map_nil]); first | done | rfl | (simp only [List.length_drop, List.length_take]; rfl)) ?_; (with_reducible refine (impl_EntriesOk.calls k _ _ l0 false _ ?side1 ?side2 A3.out).mono ?_); (case side1 => exact (by repeat (first | exact HR0.out | (with_reducible refine Kd.C_alloc ?_ _) | (with_reducible refine Kd.C_drewN ?_ _) | (with_reducible refine Kd.C_drew ?_)))); (case side2 => exact HC0.out); rintro e w8 ⟨rfl, hb⟩; refine ⟨_, rfl, ?_⟩; have n0_ := Aside0.mk (below_step z46a hb); clear HB; have HB := n0_; clear n0_; (try clear hb); (try clear hb2); (try clear hk); (try clear hi)))
 go_ret
 exact ⟨_, by first | rfl | (simp [errW_none, errW_some] <;> rfl) | (simp [*, errW_none, errW_some] <;> rfl), by first | exact Kd.R_nil _ _ _ _ _ | exact Kd.N_nil _ _ _ _ _ | exact Kd.V_nil _ _ _ _ _ | exact Kd.Q_nil _ _ _ _ _ | exact Kd.S_nil _ _ _ _ _, by repeat (first | (with_reducible first | exact HB.out | apply below_alloc | apply pw_below_drewN | apply below_drew1) | exact HB.out)⟩
 
 }
end Go.Proofs.Ytajidjlbgpaaoaa.PFnSeens

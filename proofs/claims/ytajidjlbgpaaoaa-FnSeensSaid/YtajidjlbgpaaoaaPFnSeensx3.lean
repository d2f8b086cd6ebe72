-- by a program of this session (wip/print/run.py) for this claim
import Derived.Test.YtajidjlbgpaaoaaPFnSeensx0
namespace Go.Proofs.Ytajidjlbgpaaoaa.PFnSeens
open Go.RowKit Go.Proofs.YtajidjlbgpaaoaaW.PrintWords Go.Proofs.YtajidjlbgpaaoaaW.PrintLast Go.Proofs.YtajidjlbgpaaoaaW.PrintMore
attribute [local go_sem] max2_int min2_int max_two min_two max_three min_three max_four min_four   -- for this text's walks alone
set_option linter.unusedVariables false
set_option linter.unusedSimpArgs false

/-! ### spec_l3Seen: function 95 -/
theorem z95a {p_ : Prop} (h_ : p_ := by first | (with_reducible assumption) | assumption) : p_ := h_
def spec_l3Seen.l0 : Nat → List (S88) → ByteArray → Int → Int → Option (ByteArray × ByteArray × Int × Bool × Bool)
 | 0, _, _, _, _ => none
 | k + 1, x0, x1, x2, x8 => if x8 < (x0.length : Int) then (if 0 ≤ x8 then (if ((rd_T88 x0 x8).f0).toList = x1.toList then (if ((rd_T88 x0 x8).f2) ≤ x2 then (some ((rd_T88 x0 x8).f0, (rd_T88 x0 x8).f1, (rd_T88 x0 x8).f2, (rd_T88 x0 x8).f3, true)) else (spec_l3Seen.l0 k x0 x1 x2 (wrap64 (x8 + 1)))) else (spec_l3Seen.l0 k x0 x1 x2 (wrap64 (x8 + 1)))) else (none)) else (some ((⟨#[]⟩ : ByteArray), (⟨#[]⟩ : ByteArray), 0, false, false))
def spec_l3Seen.f (k : Nat) (l0 : List (S88)) (a1 : ByteArray) (a2 : Int) : Option (ByteArray × ByteArray × Int × Bool × Bool) := spec_l3Seen.l0 k l0 a1 a2 0
theorem spec_l3Seen.mono_l : ∀ k, (∀ y0 y1 y2 y3, LeO (spec_l3Seen.l0 k y0 y1 y2 y3) (spec_l3Seen.l0 (k + 1) y0 y1 y2 y3))
 | 0 => fun _ _ _ _ r h => by simp [spec_l3Seen.l0] at h
 | k + 1 => by
  have ih0 := spec_l3Seen.mono_l k
  {
  intro y0 y1 y2 y3
  unfold spec_l3Seen.l0
  repeat' first
  | (with_reducible exact ih0 _ _ _ _)
  | (with_reducible exact LeO.refl _)
  | (with_reducible exact LeO.none _)
  | (with_reducible refine LeO.ite ?_ ?_)
  | (with_reducible refine LeO.bind ?_ (fun _ => ?_))
  | exact ih0 _ _ _ _
  | exact LeO.none _
  | refine LeO.ite ?_ ?_
  | refine LeO.bind ?_ (fun _ => ?_)
  }
theorem spec_l3Seen.mono : ∀ a0 a1 a2 k, LeO (spec_l3Seen.f k a0 a1 a2) (spec_l3Seen.f (k + 1) a0 a1 a2) := by
 intro a0 a1 a2 k
 have ih0 := spec_l3Seen.mono_l k
 unfold spec_l3Seen.f
 repeat' first
   | (with_reducible exact ih0 _ _ _ _)
   | (with_reducible exact LeO.refl _)
   | (with_reducible exact LeO.none _)
   | (with_reducible refine LeO.ite ?_ ?_)
   | (with_reducible refine LeO.bind ?_ (fun _ => ?_))
   | exact ih0 _ _ _ _
   | exact LeO.none _
   | refine LeO.ite ?_ ?_
   | refine LeO.bind ?_ (fun _ => ?_)
set_option maxHeartbeats 8000000 in
set_option maxRecDepth 100000 in
theorem spec_l3Seen.calls (k : Nat) (A0 : Option Addr) (c0 : Nat) (l0 : List (S88)) (a1 : ByteArray) (a2 : Int) (r1 : ByteArray) (r2 : ByteArray) (r3 : Int) (r4 : Bool) (r5 : Bool) (w : World) (hr0 : Kd.C k88 w A0 l0.length l0) (hc0 : l0.length ≤ c0) (h : spec_l3Seen.f k l0 a1 a2 = some (r1, r2, r3, r4, r5)) :
  Calls Try.prog 95 #[.slice A0 l0.length c0, .string a1, .int .i64 a2] w fun e w' => e = .returned (.tuple #[.agg #[.string r1, .string r2, .int .i64 r3, .bool r4], .bool r5]) ∧ Below w.heap.size w w' := by
 have hu88 := Try.underlying88
 have HR0 := Aside0.mk hr0
 have HC0 := Aside0.mk hc0
 clear hr0 hc0
 have HB := Aside0.mk (Below.refl w.heap.size w)
 have H : (spec_l3Seen.l0 k l0 a1 a2 0) = some (r1, r2, r3, r4, r5) := h
 clear h
 have H' := Aside0.mk H
 clear H
 go_enter Try.func95, Try.ntmps95
 go_wp2_with (first | ((with_reducible refine gate_dst (N := 6) rfl ?_); refine box_event ?hg (N := 6) ?hd (cs := #[.string (⟨#[]⟩ : ByteArray), .string (⟨#[]⟩ : ByteArray), .int .i64 0, .bool false]) (t := 88) ?hr ?_; (case hd => rfl); (case hg => rfl); (case hr => first | (go_simp; done) | (go_simp; rfl)); intro gb112 hg w4 hbox hb; have n0_ := Aside0.mk (below_step (by repeat (first | (with_reducible first | exact HB.out | apply below_alloc | apply pw_below_drewN | apply below_drew1) | exact HB.out)) hb); have n1_ := Aside0.mk (hbox); have n2_ := Aside0.mk ((by rw [hg]; exact (below_size (by repeat (first | (with_reducible first | exact HB.out | apply below_alloc | apply pw_below_drewN | apply below_drew1) | exact HB.out))) : w.heap.size ≤ gb112)); have n3_ := Aside0.mk ((by rw [hg]; exact (below_size (by repeat (first | (with_reducible first | exact HB.out | apply below_alloc | apply pw_below_drewN | apply below_drew1) | exact HB.out))) : w.heap.size ≤ gb112)); clear HB; have HB := n0_; have BK112 := n1_; have GW112 := n2_; have GE112 := n3_; clear n0_ n1_ n2_ n3_; clear hb hbox hg))
 go_loopg [8] k (fun kq v8 w' => ∃ (x8_1 : Int) (x113000_1 : ByteArray) (x113001_1 : ByteArray) (x113002_1 : Int) (x113003_1 : Bool), v8 = .int .i64 x8_1 ∧ Aside0 (spec_l3Seen.l0 kq l0 a1 a2 x8_1 = some (r1, r2, r3, r4, r5)) ∧ Aside0 (kq ≤ k) ∧ Aside0 (w'.heap[gb112]? = some (.cells #[.string x113000_1, .string x113001_1, .int .i64 x113002_1, .bool x113003_1] 88 (0, 0))) ∧ Aside0 (Below w.heap.size w w'))
 case atStart => exact ⟨(0), ((⟨#[]⟩ : ByteArray)), ((⟨#[]⟩ : ByteArray)), (0), (false), (by first | rfl | (simp; done) | (simp [*]; done)), H', ⟨Nat.le_refl _⟩, ⟨by (with_reducible repeat (first | refine blk_drewN ?_ _ | refine blk_drew ?_ | refine blk_alloc ?_ _)); exact BK112.out⟩, ⟨by repeat (first | (with_reducible first | exact HB.out | apply below_alloc | apply pw_below_drewN | apply below_drew1 | refine below_set ?_ GE112.out) | exact HB.out)⟩⟩
 case round =>
  clear H'
  try clear p2
  obtain ⟨x8_1, x113000_1, x113001_1, x113002_1, x113003_1, rfl, HA, HK1, BK112, HB⟩ := hrel
  cases gk with
  | zero => exact absurd HA.out (by simp [spec_l3Seen.l0])
  | succ k1 =>
   have H := HA.out
   clear HA
   simp only [spec_l3Seen.l0] at H
   by_cases c5 : x8_1 < (l0.length : Int)
   {
   rw [if_pos c5] at H
   have c5b0 : decide (x8_1 < (l0.length : Int)) = true := decide_eq_true c5
   clear c5
   by_cases c6 : 0 ≤ x8_1
   {
   rw [if_pos c6] at H
   have c6b0 : decide (0 ≤ x8_1) = true := decide_eq_true c6
   clear c6
   by_cases c7 : ((rd_T88 l0 x8_1).f0).toList = a1.toList
   {
   rw [if_pos c7] at H
   have c7b0 : (((rd_T88 l0 x8_1).f0).toList == a1.toList) = true := beq_iff_eq.mpr c7
   have c7b1 : (((rd_T88 l0 x8_1).f0).toList != a1.toList) = false := bne_eq_false_iff_eq.mpr c7
   clear c7
   by_cases c8 : ((rd_T88 l0 x8_1).f2) ≤ a2
   {
   rw [if_pos c8] at H
   have c8b0 : decide (((rd_T88 l0 x8_1).f2) ≤ a2) = true := decide_eq_true c8
   clear c8
   simp only [Option.some.injEq, Prod.mk.injEq] at H
   obtain ⟨rfl, rfl, rfl, rfl, rfl⟩ := H
   have p113 : 0 ≤ (x8_1 : Int) := of_decide_eq_true z95a
   have q113 : x8_1 < (l0.length : Int) := of_decide_eq_true z95a
   obtain ⟨ad113, e113, hx113_0, hx113_1, hx113_2, hx113_3⟩ := at_T88 HR0.out x8_1 p113 q113
   cases e113
   replace hx113_0 := (HB.out.cell (World.block_lt_of_cell? w _ hx113_0)).trans hx113_0
   replace hx113_1 := (HB.out.cell (World.block_lt_of_cell? w _ hx113_1)).trans hx113_1
   replace hx113_2 := (HB.out.cell (World.block_lt_of_cell? w _ hx113_2)).trans hx113_2
   replace hx113_3 := (HB.out.cell (World.block_lt_of_cell? w _ hx113_3)).trans hx113_3
   replace p113 := eq_true p113
   replace q113 := eq_true q113
   have p114 : 0 ≤ (x8_1 : Int) := of_decide_eq_true z95a
   have q114 : x8_1 < (l0.length : Int) := of_decide_eq_true z95a
   obtain ⟨ad114, e114, hx114_0, hx114_1, hx114_2, hx114_3⟩ := at_T88 HR0.out x8_1 p114 q114
   obtain rfl : ad113 = ad114 := (by injection e114)
   replace hx114_0 := (HB.out.cell (World.block_lt_of_cell? w _ hx114_0)).trans hx114_0
   replace hx114_1 := (HB.out.cell (World.block_lt_of_cell? w _ hx114_1)).trans hx114_1
   replace hx114_2 := (HB.out.cell (World.block_lt_of_cell? w _ hx114_2)).trans hx114_2
   replace hx114_3 := (HB.out.cell (World.block_lt_of_cell? w _ hx114_3)).trans hx114_3
   replace p114 := eq_true p114
   replace q114 := eq_true q114
   have p115 : 0 ≤ (x8_1 : Int) := of_decide_eq_true z95a
   have q115 : x8_1 < (l0.length : Int) := of_decide_eq_true z95a
   obtain ⟨ad115, e115, hx115_0, hx115_1, hx115_2, hx115_3⟩ := at_T88 HR0.out x8_1 p115 q115
   obtain rfl : ad113 = ad115 := (by injection e115)
   replace hx115_0 := (HB.out.cell (World.block_lt_of_cell? w _ hx115_0)).trans hx115_0
   replace hx115_1 := (HB.out.cell (World.block_lt_of_cell? w _ hx115_1)).trans hx115_1
   replace hx115_2 := (HB.out.cell (World.block_lt_of_cell? w _ hx115_2)).trans hx115_2
   replace hx115_3 := (HB.out.cell (World.block_lt_of_cell? w _ hx115_3)).trans hx115_3
   replace p115 := eq_true p115
   replace q115 := eq_true q115
   have hcz9_0 : wr.cell? ⟨gb112, 0, none⟩ = some (.string x113000_1) := (blk_cell BK112.out 0).trans rfl
   have hcz9_1 : wr.cell? ⟨gb112, 1, none⟩ = some (.string x113001_1) := (blk_cell BK112.out 1).trans rfl
   have hcz9_2 : wr.cell? ⟨gb112, 2, none⟩ = some (.int .i64 x113002_1) := (blk_cell BK112.out 2).trans rfl
   have hcz9_3 : wr.cell? ⟨gb112, 3, none⟩ = some (.bool x113003_1) := (blk_cell BK112.out 3).trans rfl
   have hfz9_0 := blk_frozen BK112.out 0
   have hfz9_1 := blk_frozen BK112.out 1
   have hfz9_2 := blk_frozen BK112.out 2
   have hfz9_3 := blk_frozen BK112.out 3
   go_wp2
   refine bodyPost_ret (results_ct rfl _ _ gb112 88 #[.string ((rd_T88 l0 x8_1).f0), .string ((rd_T88 l0 x8_1).f1), .int .i64 ((rd_T88 l0 x8_1).f2), .bool ((rd_T88 l0 x8_1).f3)] (0, 0) _ rfl (by (with_reducible repeat (first | refine blk_drewN ?_ _ | refine blk_drew ?_ | refine blk_alloc ?_ _)); refine blk_put (cs := #[.string ((rd_T88 l0 x8_1).f0), .string ((rd_T88 l0 x8_1).f1), .int .i64 ((rd_T88 l0 x8_1).f2), .bool x113003_1]) ?_ 3 _ rfl; (with_reducible repeat (first | refine blk_drewN ?_ _ | refine blk_drew ?_ | refine blk_alloc ?_ _)); refine blk_put (cs := #[.string ((rd_T88 l0 x8_1).f0), .string ((rd_T88 l0 x8_1).f1), .int .i64 x113002_1, .bool x113003_1]) ?_ 2 _ rfl; (with_reducible repeat (first | refine blk_drewN ?_ _ | refine blk_drew ?_ | refine blk_alloc ?_ _)); refine blk_put (cs := #[.string ((rd_T88 l0 x8_1).f0), .string x113001_1, .int .i64 x113002_1, .bool x113003_1]) ?_ 1 _ rfl; (with_reducible repeat (first | refine blk_drewN ?_ _ | refine blk_drew ?_ | refine blk_alloc ?_ _)); refine blk_put (cs := #[.string x113000_1, .string x113001_1, .int .i64 x113002_1, .bool x113003_1]) ?_ 0 _ rfl; (with_reducible repeat (first | refine blk_drewN ?_ _ | refine blk_drew ?_ | refine blk_alloc ?_ _)); exact BK112.out) Try.underlying88 rfl (by kernel_rfl)) rfl ?_
   exact ⟨by first | rfl | (simp [errW_none, errW_some] <;> rfl) | (simp [*, errW_none, errW_some] <;> rfl), by repeat (first | (with_reducible first | exact HB.out | apply below_alloc | apply pw_below_drewN | apply below_drew1 | refine below_set ?_ GE112.out) | exact HB.out)⟩
   }
   {
   rw [if_neg c8] at H
   have c8b0 : decide (((rd_T88 l0 x8_1).f2) ≤ a2) = false := decide_eq_false c8
   clear c8
   have H' := Aside0.mk H
   clear H
   have p113 : 0 ≤ (x8_1 : Int) := of_decide_eq_true z95a
   have q113 : x8_1 < (l0.length : Int) := of_decide_eq_true z95a
   obtain ⟨ad113, e113, hx113_0, hx113_1, hx113_2, hx113_3⟩ := at_T88 HR0.out x8_1 p113 q113
   cases e113
   replace hx113_0 := (HB.out.cell (World.block_lt_of_cell? w _ hx113_0)).trans hx113_0
   replace hx113_1 := (HB.out.cell (World.block_lt_of_cell? w _ hx113_1)).trans hx113_1
   replace hx113_2 := (HB.out.cell (World.block_lt_of_cell? w _ hx113_2)).trans hx113_2
   replace hx113_3 := (HB.out.cell (World.block_lt_of_cell? w _ hx113_3)).trans hx113_3
   replace p113 := eq_true p113
   replace q113 := eq_true q113
   have p114 : 0 ≤ (x8_1 : Int) := of_decide_eq_true z95a
   have q114 : x8_1 < (l0.length : Int) := of_decide_eq_true z95a
   obtain ⟨ad114, e114, hx114_0, hx114_1, hx114_2, hx114_3⟩ := at_T88 HR0.out x8_1 p114 q114
   obtain rfl : ad113 = ad114 := (by injection e114)
   replace hx114_0 := (HB.out.cell (World.block_lt_of_cell? w _ hx114_0)).trans hx114_0
   replace hx114_1 := (HB.out.cell (World.block_lt_of_cell? w _ hx114_1)).trans hx114_1
   replace hx114_2 := (HB.out.cell (World.block_lt_of_cell? w _ hx114_2)).trans hx114_2
   replace hx114_3 := (HB.out.cell (World.block_lt_of_cell? w _ hx114_3)).trans hx114_3
   replace p114 := eq_true p114
   replace q114 := eq_true q114
   go_wp2
   go_roundg k1
   case measure => have := HK1.out; omega
   case rel => exact ⟨(wrap64 (x8_1 + 1)), (x113000_1), (x113001_1), (x113002_1), (x113003_1), (by first | rfl | (simp; done) | (simp [*]; done)), H', ⟨by have := HK1.out; omega⟩, ⟨by (with_reducible repeat (first | refine blk_drewN ?_ _ | refine blk_drew ?_ | refine blk_alloc ?_ _)); exact BK112.out⟩, ⟨by repeat (first | (with_reducible first | exact HB.out | apply below_alloc | apply pw_below_drewN | apply below_drew1 | refine below_set ?_ GE112.out) | exact HB.out)⟩⟩
   }
   }
   {
   rw [if_neg c7] at H
   have c7b0 : (((rd_T88 l0 x8_1).f0).toList == a1.toList) = false := beq_eq_false_iff_ne.mpr c7
   have c7b1 : (((rd_T88 l0 x8_1).f0).toList != a1.toList) = true := bne_iff_ne.mpr c7
   have H' := Aside0.mk H
   clear H
   have p113 : 0 ≤ (x8_1 : Int) := of_decide_eq_true z95a
   have q113 : x8_1 < (l0.length : Int) := of_decide_eq_true z95a
   obtain ⟨ad113, e113, hx113_0, hx113_1, hx113_2, hx113_3⟩ := at_T88 HR0.out x8_1 p113 q113
   cases e113
   replace hx113_0 := (HB.out.cell (World.block_lt_of_cell? w _ hx113_0)).trans hx113_0
   replace hx113_1 := (HB.out.cell (World.block_lt_of_cell? w _ hx113_1)).trans hx113_1
   replace hx113_2 := (HB.out.cell (World.block_lt_of_cell? w _ hx113_2)).trans hx113_2
   replace hx113_3 := (HB.out.cell (World.block_lt_of_cell? w _ hx113_3)).trans hx113_3
   replace p113 := eq_true p113
   replace q113 := eq_true q113
   go_wp2
   go_roundg k1
   case measure => have := HK1.out; omega
   case rel => exact ⟨(wrap64 (x8_1 + 1)), (x113000_1), (x113001_1), (x113002_1), (x113003_1), (by first | rfl | (simp; done) | (simp [*]; done)), H', ⟨by have := HK1.out; omega⟩, ⟨by (with_reducible repeat (first | refine blk_drewN ?_ _ | refine blk_drew ?_ | refine blk_alloc ?_ _)); exact BK112.out⟩, ⟨by repeat (first | (with_reducible first | exact HB.out | apply below_alloc | apply pw_below_drewN | apply below_drew1 | refine below_set ?_ GE112.out) | exact HB.out)⟩⟩
   }
   }
   {
   rw [if_neg c6] at H
   exact absurd H (by simp)
   }
   }
   {
   rw [if_neg c5] at H
   have c5b0 : decide (x8_1 < (l0.length : Int)) = false := decide_eq_false c5
   clear c5
   simp only [Option.some.injEq, Prod.mk.injEq] at H
   obtain ⟨rfl, rfl, rfl, rfl, rfl⟩ := H
   have hcz10_0 : wr.cell? ⟨gb112, 0, none⟩ = some (.string x113000_1) := (blk_cell BK112.out 0).trans rfl
   have hcz10_1 : wr.cell? ⟨gb112, 1, none⟩ = some (.string x113001_1) := (blk_cell BK112.out 1).trans rfl
   have hcz10_2 : wr.cell? ⟨gb112, 2, none⟩ = some (.int .i64 x113002_1) := (blk_cell BK112.out 2).trans rfl
   have hcz10_3 : wr.cell? ⟨gb112, 3, none⟩ = some (.bool x113003_1) := (blk_cell BK112.out 3).trans rfl
   have hfz10_0 := blk_frozen BK112.out 0
   have hfz10_1 := blk_frozen BK112.out 1
   have hfz10_2 := blk_frozen BK112.out 2
   have hfz10_3 := blk_frozen BK112.out 3
   go_wp2
   refine bodyPost_ret (results_ct rfl _ _ gb112 88 #[.string (⟨#[]⟩ : ByteArray), .string (⟨#[]⟩ : ByteArray), .int .i64 0, .bool false] (0, 0) _ rfl (by (with_reducible repeat (first | refine blk_drewN ?_ _ | refine blk_drew ?_ | refine blk_alloc ?_ _)); refine blk_put (cs := #[.string (⟨#[]⟩ : ByteArray), .string (⟨#[]⟩ : ByteArray), .int .i64 0, .bool x113003_1]) ?_ 3 _ rfl; (with_reducible repeat (first | refine blk_drewN ?_ _ | refine blk_drew ?_ | refine blk_alloc ?_ _)); refine blk_put (cs := #[.string (⟨#[]⟩ : ByteArray), .string (⟨#[]⟩ : ByteArray), .int .i64 x113002_1, .bool x113003_1]) ?_ 2 _ rfl; (with_reducible repeat (first | refine blk_drewN ?_ _ | refine blk_drew ?_ | refine blk_alloc ?_ _)); refine blk_put (cs := #[.string (⟨#[]⟩ : ByteArray), .string x113001_1, .int .i64 x113002_1, .bool x113003_1]) ?_ 1 _ rfl; (with_reducible repeat (first | refine blk_drewN ?_ _ | refine blk_drew ?_ | refine blk_alloc ?_ _)); refine blk_put (cs := #[.string x113000_1, .string x113001_1, .int .i64 x113002_1, .bool x113003_1]) ?_ 0 _ rfl; (with_reducible repeat (first | refine blk_drewN ?_ _ | refine blk_drew ?_ | refine blk_alloc ?_ _)); exact BK112.out) Try.underlying88 rfl (by kernel_rfl)) rfl ?_
   exact ⟨by first | rfl | (simp [errW_none, errW_some] <;> rfl) | (simp [*, errW_none, errW_some] <;> rfl), by repeat (first | (with_reducible first | exact HB.out | apply below_alloc | apply pw_below_drewN | apply below_drew1 | refine below_set ?_ GE112.out) | exact HB.out)⟩
   
   }
end Go.Proofs.Ytajidjlbgpaaoaa.PFnSeens

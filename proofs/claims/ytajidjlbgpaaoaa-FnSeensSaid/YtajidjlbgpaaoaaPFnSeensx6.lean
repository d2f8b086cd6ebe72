-- by a program of this session (wip/print/run.py) for this claim
import Derived.Test.YtajidjlbgpaaoaaPFnSeensx0
import Derived.Test.YtajidjlbgpaaoaaPFnSeensx5
namespace Go.Proofs.Ytajidjlbgpaaoaa.PFnSeens
open Go.RowKit Go.Proofs.YtajidjlbgpaaoaaW.PrintWords Go.Proofs.YtajidjlbgpaaoaaW.PrintLast Go.Proofs.YtajidjlbgpaaoaaW.PrintMore
attribute [local go_sem] max2_int min2_int max_two min_two max_three min_three max_four min_four   -- for this text's walks alone
set_option linter.unusedVariables false
set_option linter.unusedSimpArgs false

/-! ### impl_EntriesOk: function 47 -/
theorem z47a {p_ : Prop} (h_ : p_ := by simp only [Act.put, List.setIfInBounds_toArray, List.set_cons_zero, List.set_cons_succ, i64_w, i32_w]; rfl) : p_ := h_
theorem z47b {p_ : Prop} (h_ : p_ := by repeat (first | (with_reducible first | exact HB.out | apply below_alloc | apply pw_below_drewN | apply below_drew1) | exact HB.out)) : p_ := h_
theorem z47c {p_ : Prop} (h_ : p_ := by repeat (first | (with_reducible first | exact HB.out | apply below_alloc | apply pw_below_drewN | apply below_drew1 | refine below_set ?_ GE159.out) | exact HB.out)) : p_ := h_
theorem z47d {p_ : Prop} (h_ : p_ := by (with_reducible repeat (first | refine blk_drewN ?_ _ | refine blk_drew ?_ | refine blk_alloc ?_ _)); exact BK159.out) : p_ := h_
theorem z47e {p_ : Prop} (h_ : p_ := by first | (with_reducible assumption) | assumption) : p_ := h_
theorem z47f {p_ : Prop} (h_ : p_ := by (try simp only [List.map_toArray, List.map_cons, List.map_nil]); first | done | rfl | (simp only [List.length_drop, List.length_take]; rfl)) : p_ := h_
def impl_EntriesOk.l0 : Nat → List (S88) → List (S88) → Int → Int → Option (Bool)
 | 0, _, _, _, _ => none
 | k + 1, x0, x8, x9, x10 => if x10 < x9 then (if 0 ≤ x10 then (if x10 < (x8.length : Int) then ((impl_entryOk.f ((rd_T88 x8 x10).f0) ((rd_T88 x8 x10).f1) ((rd_T88 x8 x10).f2) ((rd_T88 x8 x10).f3)).bind fun t160 => (if t160 = true then (if x10 > 0 then (if 0 ≤ (wrap64 (x10 - 1)) then (if (wrap64 (x10 - 1)) < (x0.length : Int) then ((impl_byOrder.f k ((rd_T88 x0 (wrap64 (x10 - 1))).f0) ((rd_T88 x0 (wrap64 (x10 - 1))).f1) ((rd_T88 x0 (wrap64 (x10 - 1))).f2) ((rd_T88 x0 (wrap64 (x10 - 1))).f3) ((rd_T88 x8 x10).f0) ((rd_T88 x8 x10).f1) ((rd_T88 x8 x10).f2) ((rd_T88 x8 x10).f3)).bind fun t162 => (if t162 ≥ 0 then (some false) else (impl_EntriesOk.l0 k x0 x8 x9 (wrap64 (x10 + 1))))) else (none)) else (none)) else (impl_EntriesOk.l0 k x0 x8 x9 (wrap64 (x10 + 1)))) else (some false))) else (none)) else (none)) else (some true)
def impl_EntriesOk.f (k : Nat) (l0 : List (S88)) : Option (Bool) := if (l0.length : Int) > 300 then (some false) else (impl_EntriesOk.l0 k l0 l0 (l0.length : Int) 0)
theorem impl_EntriesOk.mono_l : ∀ k, (∀ y0 y1 y2 y3, LeO (impl_EntriesOk.l0 k y0 y1 y2 y3) (impl_EntriesOk.l0 (k + 1) y0 y1 y2 y3))
 | 0 => fun _ _ _ _ r h => by simp [impl_EntriesOk.l0] at h
 | k + 1 => by
  have ih0 := impl_EntriesOk.mono_l k
  {
  intro y0 y1 y2 y3
  unfold impl_EntriesOk.l0
  repeat' first
  | (with_reducible exact ih0 _ _ _ _)
  | (with_reducible exact impl_byOrder.mono _ _ _ _ _ _ _ _ _)
  | (with_reducible exact LeO.refl _)
  | (with_reducible exact LeO.none _)
  | (with_reducible refine LeO.ite ?_ ?_)
  | (with_reducible refine LeO.bind ?_ (fun _ => ?_))
  | exact ih0 _ _ _ _
  | exact impl_byOrder.mono _ _ _ _ _ _ _ _ _
  | exact LeO.none _
  | refine LeO.ite ?_ ?_
  | refine LeO.bind ?_ (fun _ => ?_)
  }
theorem impl_EntriesOk.mono : ∀ a0 k, LeO (impl_EntriesOk.f k a0) (impl_EntriesOk.f (k + 1) a0) := by
 intro a0 k
 have ih0 := impl_EntriesOk.mono_l k
 unfold impl_EntriesOk.f
 repeat' first
   | (with_reducible exact ih0 _ _ _ _)
   | (with_reducible exact impl_byOrder.mono _ _ _ _ _ _ _ _ _)
   | (with_reducible exact LeO.refl _)
   | (with_reducible exact LeO.none _)
   | (with_reducible refine LeO.ite ?_ ?_)
   | (with_reducible refine LeO.bind ?_ (fun _ => ?_))
   | exact ih0 _ _ _ _
   | exact impl_byOrder.mono _ _ _ _ _ _ _ _ _
   | exact LeO.none _
   | refine LeO.ite ?_ ?_
   | refine LeO.bind ?_ (fun _ => ?_)
def impl_EntriesOk.T6 : Bool × List (List Nat × List Nat) := (true, [([], []), ([0], [0]), ([1], [1]), ([2, 1], [2]), ([3], [3]), ([4, 3], [3, 4]), ([5, 3, 3], [3, 5]), ([6], [6]), ([6], [6]), ([8, 6], [6, 8]), ([7, 9, 6], [6, 7, 9]), ([10, 6], [6, 10]), ([6], [6]), ([11, 12, 6, 6], [6, 11, 12]), ([13, 6], [6, 13]), ([6, 14, 3], [3, 6, 14]), ([3, 15], [3, 15])])
def impl_EntriesOk.B6 : List Nat := [0, 1, 3, 7, 15, 31, 63, 127, 127, 383, 1023, 2047, 127, 8191, 16383, 32767, 65535]
theorem impl_EntriesOk.tab6 : rtab .any (opsOf Try.f47 6) = impl_EntriesOk.T6 := by kernel_rfl
theorem impl_EntriesOk.bits6 : waitsOk impl_EntriesOk.T6.2 impl_EntriesOk.B6 = true := by kernel_rfl
set_option maxHeartbeats 8000000 in
set_option maxRecDepth 100000 in
theorem impl_EntriesOk.calls (k : Nat) (A0 : Option Addr) (c0 : Nat) (l0 : List (S88)) (r : Bool) (w : World) (hr0 : Kd.C k88 w A0 l0.length l0) (hc0 : l0.length ≤ c0) (h : impl_EntriesOk.f k l0 = some r) :
  Calls Try.prog 47 #[.slice A0 l0.length c0] w fun e w' => e = .returned (.bool r) ∧ Below w.heap.size w w' := by
 have hu88 := Try.underlying88
 have HR0 := Aside0.mk hr0
 have HC0 := Aside0.mk hc0
 clear hr0 hc0
 have HB := Aside0.mk (Below.refl w.heap.size w)
 have H : (if (l0.length : Int) > 300 then (some false) else (impl_EntriesOk.l0 k l0 l0 (l0.length : Int) 0)) = some r := h
 clear h
 by_cases c2 : (l0.length : Int) > 300
 {
 rw [if_pos c2] at H
 have c2b0 : decide (300 < (l0.length : Int)) = true := decide_eq_true c2
 have c2b1 : decide (300 < l0.length) = true := decide_eq_true (by omega)
 clear c2
 obtain rfl := Option.some.inj H
 go_enter Try.func47, Try.ntmps47
 go_wp2
 go_ret
 exact ⟨by first | rfl | (simp [errW_none, errW_some] <;> rfl) | (simp [*, errW_none, errW_some] <;> rfl), by repeat (first | (with_reducible first | exact HB.out | apply below_alloc | apply pw_below_drewN | apply below_drew1) | exact HB.out)⟩
 }
 {
 rw [if_neg c2] at H
 have c2b0 : decide (300 < (l0.length : Int)) = false := decide_eq_false c2
 have c2b1 : decide (300 < l0.length) = false := decide_eq_false (by omega)
 clear c2
 have H' := Aside0.mk H
 clear H
 go_enter Try.func47, Try.ntmps47
 go_wp2
 go_loopg [10] k (fun kq v10 w' => ∃ (x10_1 : Int), v10 = .int .i64 x10_1 ∧ Aside0 (impl_EntriesOk.l0 kq l0 l0 (l0.length : Int) x10_1 = some r) ∧ Aside0 (kq ≤ k) ∧ Aside0 (Below w.heap.size w w'))
 case atStart => exact ⟨(0), (by first | rfl | (simp; done) | (simp [*]; done)), H', ⟨Nat.le_refl _⟩, ⟨by repeat (first | (with_reducible first | exact HB.out | apply below_alloc | apply pw_below_drewN | apply below_drew1) | exact HB.out)⟩⟩
 case round =>
  clear H'
  try clear c2
  try clear c2b0
  try clear c2b1
  try clear p2
  obtain ⟨x10_1, rfl, HA, HK1, HB⟩ := hrel
  cases gk with
  | zero => exact absurd HA.out (by simp [impl_EntriesOk.l0])
  | succ k1 =>
   have H := HA.out
   clear HA
   simp only [impl_EntriesOk.l0] at H
   by_cases c3 : x10_1 < (l0.length : Int)
   {
   rw [if_pos c3] at H
   have c3b0 : decide (x10_1 < (l0.length : Int)) = true := decide_eq_true c3
   clear c3
   by_cases c4 : 0 ≤ x10_1
   {
   rw [if_pos c4] at H
   have c4b0 : decide (0 ≤ x10_1) = true := decide_eq_true c4
   clear c4
   by_cases c5 : x10_1 < (l0.length : Int)
   {
   rw [if_pos c5] at H
   have c5b0 : decide (x10_1 < (l0.length : Int)) = true := decide_eq_true c5
   clear c5
   replace H := Option.bind_eq_some_iff.mp H
   obtain ⟨t160, A60, H⟩ := H
   replace H : (if t160 = true then (if x10_1 > 0 then (if 0 ≤ (wrap64 (x10_1 - 1)) then (if (wrap64 (x10_1 - 1)) < (l0.length : Int) then ((impl_byOrder.f k1 ((rd_T88 l0 (wrap64 (x10_1 - 1))).f0) ((rd_T88 l0 (wrap64 (x10_1 - 1))).f1) ((rd_T88 l0 (wrap64 (x10_1 - 1))).f2) ((rd_T88 l0 (wrap64 (x10_1 - 1))).f3) ((rd_T88 l0 x10_1).f0) ((rd_T88 l0 x10_1).f1) ((rd_T88 l0 x10_1).f2) ((rd_T88 l0 x10_1).f3)).bind fun t162 => (if t162 ≥ 0 then (some false) else (impl_EntriesOk.l0 k1 l0 l0 (l0.length : Int) (wrap64 (x10_1 + 1))))) else (none)) else (none)) else (impl_EntriesOk.l0 k1 l0 l0 (l0.length : Int) (wrap64 (x10_1 + 1)))) else (some false)) = some r := H
   have A6 := Aside0.mk A60
   clear A60
   by_cases c7 : t160 = true
   {
   subst c7
   have H1 : (if x10_1 > 0 then (if 0 ≤ (wrap64 (x10_1 - 1)) then (if (wrap64 (x10_1 - 1)) < (l0.length : Int) then ((impl_byOrder.f k1 ((rd_T88 l0 (wrap64 (x10_1 - 1))).f0) ((rd_T88 l0 (wrap64 (x10_1 - 1))).f1) ((rd_T88 l0 (wrap64 (x10_1 - 1))).f2) ((rd_T88 l0 (wrap64 (x10_1 - 1))).f3) ((rd_T88 l0 x10_1).f0) ((rd_T88 l0 x10_1).f1) ((rd_T88 l0 x10_1).f2) ((rd_T88 l0 x10_1).f3)).bind fun t162 => (if t162 ≥ 0 then (some false) else (impl_EntriesOk.l0 k1 l0 l0 (l0.length : Int) (wrap64 (x10_1 + 1))))) else (none)) else (none)) else (impl_EntriesOk.l0 k1 l0 l0 (l0.length : Int) (wrap64 (x10_1 + 1)))) = some r := by rw [if_pos rfl] at H; exact H
   clear H
   have H := H1
   clear H1
   by_cases c8 : x10_1 > 0
   {
   rw [if_pos c8] at H
   have c8b0 : decide (0 < x10_1) = true := decide_eq_true c8
   clear c8
   obtain ⟨ji9, hji9⟩ : ∃ j_ : Int, (wrap64 (x10_1 - 1)) = j_ := ⟨_, rfl⟩
   replace H : (if 0 ≤ (ji9) then (if (ji9) < (l0.length : Int) then ((impl_byOrder.f k1 ((rd_T88 l0 (ji9)).f0) ((rd_T88 l0 (ji9)).f1) ((rd_T88 l0 (ji9)).f2) ((rd_T88 l0 (ji9)).f3) ((rd_T88 l0 x10_1).f0) ((rd_T88 l0 x10_1).f1) ((rd_T88 l0 x10_1).f2) ((rd_T88 l0 x10_1).f3)).bind fun t162 => (if t162 ≥ 0 then (some false) else (impl_EntriesOk.l0 k1 l0 l0 (l0.length : Int) (wrap64 (x10_1 + 1))))) else (none)) else (none)) = some r := by first | (rw [hji9] at H; exact H) | (simp only [hji9] at H ⊢; exact H)
   (try rw [hji9])
   (try rw [hji9] at A6)
   have hji9w : (IntKind.i64.wrap (x10_1 - 1)) = ji9 := (i64_w _).trans hji9
   by_cases c10 : 0 ≤ (ji9)
   {
   rw [if_pos c10] at H
   have c10b0 : decide (0 ≤ (ji9)) = true := decide_eq_true c10
   clear c10
   by_cases c11 : (ji9) < (l0.length : Int)
   {
   rw [if_pos c11] at H
   have c11b0 : decide ((ji9) < (l0.length : Int)) = true := decide_eq_true c11
   clear c11
   replace H := Option.bind_eq_some_iff.mp H
   obtain ⟨t162, A120, H⟩ := H
   replace H : (if t162 ≥ 0 then (some false) else (impl_EntriesOk.l0 k1 l0 l0 (l0.length : Int) (wrap64 (x10_1 + 1)))) = some r := H
   have A12 := Aside0.mk A120
   clear A120
   by_cases c13 : t162 ≥ 0
   {
   rw [if_pos c13] at H
   have c13b0 : decide (0 ≤ t162) = true := decide_eq_true c13
   clear c13
   obtain rfl := Option.some.inj H
   have p158 : 0 ≤ (x10_1 : Int) := of_decide_eq_true z47e
   have q158 : x10_1 < (l0.length : Int) := of_decide_eq_true z47e
   obtain ⟨ad158, e158, hx158_0, hx158_1, hx158_2, hx158_3⟩ := at_T88 HR0.out x10_1 p158 q158
   cases e158
   replace hx158_0 := (HB.out.cell (World.block_lt_of_cell? w _ hx158_0)).trans hx158_0
   replace hx158_1 := (HB.out.cell (World.block_lt_of_cell? w _ hx158_1)).trans hx158_1
   replace hx158_2 := (HB.out.cell (World.block_lt_of_cell? w _ hx158_2)).trans hx158_2
   replace hx158_3 := (HB.out.cell (World.block_lt_of_cell? w _ hx158_3)).trans hx158_3
   replace p158 := eq_true p158
   replace q158 := eq_true q158
   try go_wp2_with (first | ((with_reducible refine gate_dst (N := 4) rfl ?_); refine box_event ?hg (N := 4) ?hd (cs := #[.string (⟨#[]⟩ : ByteArray), .string (⟨#[]⟩ : ByteArray), .int .i64 0, .bool false]) (t := 88) ?hr ?_; (case hd => rfl); (case hg => rfl); (case hr => first | (go_simp; done) | (go_simp; rfl)); intro gb159 hg w14 hbox hb; have n0_ := Aside0.mk (below_step z47b hb); have n1_ := Aside0.mk (hbox); have n2_ := Aside0.mk ((by rw [hg]; exact (below_size z47b) : w.heap.size ≤ gb159)); have n3_ := Aside0.mk ((by rw [hg]; exact (below_size z47b) : w.heap.size ≤ gb159)); clear HB; have HB := n0_; have BK159 := n1_; have GW159 := n2_; have GE159 := n3_; clear n0_ n1_ n2_ n3_; clear hb hbox hg; have hcz15_0 : w14.cell? ⟨gb159, 0, none⟩ = some (.string (⟨#[]⟩ : ByteArray)) := (blk_cell BK159.out 0).trans rfl; have hcz15_1 : w14.cell? ⟨gb159, 1, none⟩ = some (.string (⟨#[]⟩ : ByteArray)) := (blk_cell BK159.out 1).trans rfl; have hcz15_2 : w14.cell? ⟨gb159, 2, none⟩ = some (.int .i64 0) := (blk_cell BK159.out 2).trans rfl; have hcz15_3 : w14.cell? ⟨gb159, 3, none⟩ = some (.bool false) := (blk_cell BK159.out 3).trans rfl; have hfz15_0 := blk_frozen BK159.out 0; have hfz15_1 := blk_frozen BK159.out 1; have hfz15_2 := blk_frozen BK159.out 2; have hfz15_3 := blk_frozen BK159.out 3))
   have n0_ : Aside0 (((((w14.setCell ⟨gb159, 0, none⟩ (.string ((rd_T88 l0 x10_1).f0))).setCell ⟨gb159, 1, none⟩ (.string ((rd_T88 l0 x10_1).f1))).setCell ⟨gb159, 2, none⟩ (.int .i64 ((rd_T88 l0 x10_1).f2))).setCell ⟨gb159, 3, none⟩ (.bool ((rd_T88 l0 x10_1).f3))).heap[gb159]? = some (.cells #[.string ((rd_T88 l0 x10_1).f0), .string ((rd_T88 l0 x10_1).f1), .int .i64 ((rd_T88 l0 x10_1).f2), .bool ((rd_T88 l0 x10_1).f3)] 88 (0, 0))) := ⟨by (with_reducible repeat (first | refine blk_drewN ?_ _ | refine blk_drew ?_ | refine blk_alloc ?_ _)); refine blk_put (cs := #[.string ((rd_T88 l0 x10_1).f0), .string ((rd_T88 l0 x10_1).f1), .int .i64 ((rd_T88 l0 x10_1).f2), .bool false]) ?_ 3 _ rfl; (with_reducible repeat (first | refine blk_drewN ?_ _ | refine blk_drew ?_ | refine blk_alloc ?_ _)); refine blk_put (cs := #[.string ((rd_T88 l0 x10_1).f0), .string ((rd_T88 l0 x10_1).f1), .int .i64 0, .bool false]) ?_ 2 _ rfl; (with_reducible repeat (first | refine blk_drewN ?_ _ | refine blk_drew ?_ | refine blk_alloc ?_ _)); refine blk_put (cs := #[.string ((rd_T88 l0 x10_1).f0), .string (⟨#[]⟩ : ByteArray), .int .i64 0, .bool false]) ?_ 1 _ rfl; (with_reducible repeat (first | refine blk_drewN ?_ _ | refine blk_drew ?_ | refine blk_alloc ?_ _)); refine blk_put (cs := #[.string (⟨#[]⟩ : ByteArray), .string (⟨#[]⟩ : ByteArray), .int .i64 0, .bool false]) ?_ 0 _ rfl; (with_reducible repeat (first | refine blk_drewN ?_ _ | refine blk_drew ?_ | refine blk_alloc ?_ _)); exact BK159.out⟩
   have n1_ : Aside0 (Below w.heap.size w ((((w14.setCell ⟨gb159, 0, none⟩ (.string ((rd_T88 l0 x10_1).f0))).setCell ⟨gb159, 1, none⟩ (.string ((rd_T88 l0 x10_1).f1))).setCell ⟨gb159, 2, none⟩ (.int .i64 ((rd_T88 l0 x10_1).f2))).setCell ⟨gb159, 3, none⟩ (.bool ((rd_T88 l0 x10_1).f3)))) := ⟨by repeat (first | (with_reducible first | exact HB.out | apply below_alloc | apply pw_below_drewN | apply below_drew1 | refine below_set ?_ GE159.out) | exact HB.out)⟩
   (try clear BK159)
   (try clear HB)
   generalize ((((w14.setCell ⟨gb159, 0, none⟩ (.string ((rd_T88 l0 x10_1).f0))).setCell ⟨gb159, 1, none⟩ (.string ((rd_T88 l0 x10_1).f1))).setCell ⟨gb159, 2, none⟩ (.int .i64 ((rd_T88 l0 x10_1).f2))).setCell ⟨gb159, 3, none⟩ (.bool ((rd_T88 l0 x10_1).f3))) = w16 at n0_ n1_ ⊢
   have BK159 := n0_
   have HB := n1_
   clear n0_ n1_
   have n0_ := Aside0.mk (blk_drew BK159.out)
   have n1_ := Aside0.mk (below_drew1 HB.out)
   clear BK159
   clear HB
   have BK159 := n0_
   have HB := n1_
   clear n0_ n1_
   have p161 : 0 ≤ ((ji9) : Int) := of_decide_eq_true z47e
   have q161 : (ji9) < (l0.length : Int) := of_decide_eq_true z47e
   obtain ⟨ad161, e161, hx161_0, hx161_1, hx161_2, hx161_3⟩ := at_T88 HR0.out (ji9) p161 q161
   have hw161_3 := hx161_3
   have hw161_2 := hx161_2
   have hw161_1 := hx161_1
   have hw161_0 := hx161_0
   obtain rfl : ad158 = ad161 := (by injection e161)
   replace hx161_0 := (HB.out.cell (World.block_lt_of_cell? w _ hx161_0)).trans hx161_0
   replace hx161_1 := (HB.out.cell (World.block_lt_of_cell? w _ hx161_1)).trans hx161_1
   replace hx161_2 := (HB.out.cell (World.block_lt_of_cell? w _ hx161_2)).trans hx161_2
   replace hx161_3 := (HB.out.cell (World.block_lt_of_cell? w _ hx161_3)).trans hx161_3
   replace p161 := eq_true p161
   replace q161 := eq_true q161
   refine start_ (n := 17) (S := fun w' => w'.cell? ⟨gb159, 0, none⟩ = some (.string ((rd_T88 l0 x10_1).f0)) ∧ w'.cell? ⟨gb159, 1, none⟩ = some (.string ((rd_T88 l0 x10_1).f1)) ∧ w'.cell? ⟨gb159, 2, none⟩ = some (.int .i64 ((rd_T88 l0 x10_1).f2)) ∧ w'.cell? ⟨gb159, 3, none⟩ = some (.bool ((rd_T88 l0 x10_1).f3)) ∧ w'.cell? (ad158.add (((ji9)).toNat * 4)) = some (.string ((rd_T88 l0 (ji9)).f0)) ∧ w'.cell? ⟨(ad158.add (((ji9)).toNat * 4)).block, (ad158.add (((ji9)).toNat * 4)).off + 1, none⟩ = some (.string ((rd_T88 l0 (ji9)).f1)) ∧ w'.cell? ⟨(ad158.add (((ji9)).toNat * 4)).block, (ad158.add (((ji9)).toNat * 4)).off + 2, none⟩ = some (.int .i64 ((rd_T88 l0 (ji9)).f2)) ∧ w'.cell? ⟨(ad158.add (((ji9)).toNat * 4)).block, (ad158.add (((ji9)).toNat * 4)).off + 3, none⟩ = some (.bool ((rd_T88 l0 (ji9)).f3))) (ds := []) #[false, false, false, false, false, false, false, false, false, false, false, false, false, false, false, false, false] (by kernel_rfl) rfl rfl ⟨(blk_cell BK159.out 0).trans rfl, (blk_cell BK159.out 1).trans rfl, (blk_cell BK159.out 2).trans rfl, (blk_cell BK159.out 3).trans rfl, ((HB.out.cell (World.block_lt_of_cell? w _ hw161_0)).trans hw161_0), ((HB.out.cell (World.block_lt_of_cell? w _ hw161_1)).trans hw161_1), ((HB.out.cell (World.block_lt_of_cell? w _ hw161_2)).trans hw161_2), ((HB.out.cell (World.block_lt_of_cell? w _ hw161_3)).trans hw161_3)⟩ (fun hHeld => ?_); refine with_tabW impl_EntriesOk.tab6 impl_EntriesOk.bits6 (fun HT_ HW_ => ?_)
   generalize w16.drew = w17 at BK159 HB hx161_0 hx161_1 hx161_2 hx161_3 hHeld ⊢
   refine take_ (i := 0) (N := some 15) (v := _) (a' := _) #[true, false, false, false, false, false, false, false, false, false, false, false, false, false, false, false, false] rfl rfl (take_ofW HT_.out HW_.out (by kernel_rfl)) (fun _ _ _ h => h) (Or.inl ⟨by rfl, (by rintro w' ⟨s0, s1, s2, s3, s4, s5, s6, s7⟩; go_simp; with_reducible rfl)⟩) hHeld z47a ?_
   refine one_ (i := 1) (N := some 16) #[true, true, false, false, false, false, false, false, false, false, false, false, false, false, false, false, false] rfl rfl (one_of HT_.out (by kernel_rfl)) (by decide) (fun K hK => ?_)
   refine goes_ Try.func85 (by kernel_rfl) rfl #[.agg #[.string ((rd_T88 l0 x10_1).f0), .string ((rd_T88 l0 x10_1).f1), .int .i64 ((rd_T88 l0 x10_1).f2), .bool ((rd_T88 l0 x10_1).f3)]] (by rfl) rfl rfl z47f ?_
   with_reducible refine (impl_entryOk.calls ((rd_T88 l0 x10_1).f0) ((rd_T88 l0 x10_1).f1) ((rd_T88 l0 x10_1).f2) ((rd_T88 l0 x10_1).f3) true _ A6.out).mono ?_
   rintro e w18 ⟨rfl, hb⟩
   refine ⟨_, rfl, ?_⟩
   have n0_ := Aside0.mk (blk_below (g := gb159) (o := .cells #[.string ((rd_T88 l0 x10_1).f0), .string ((rd_T88 l0 x10_1).f1), .int .i64 ((rd_T88 l0 x10_1).f2), .bool ((rd_T88 l0 x10_1).f3)] 88 (0, 0)) z47d hb)
   have n1_ := Aside0.mk (below_step z47c hb)
   clear BK159
   clear HB
   have BK159 := n0_
   have HB := n1_
   clear n0_ n1_
   (try clear hb)
   (try clear hb2)
   (try clear hk)
   (try clear hi)
   refine hK.out _ _ ⟨(blk_cell BK159.out 0).trans rfl, (blk_cell BK159.out 1).trans rfl, (blk_cell BK159.out 2).trans rfl, (blk_cell BK159.out 3).trans rfl, ((HB.out.cell (World.block_lt_of_cell? w _ hw161_0)).trans hw161_0), ((HB.out.cell (World.block_lt_of_cell? w _ hw161_1)).trans hw161_1), ((HB.out.cell (World.block_lt_of_cell? w _ hw161_2)).trans hw161_2), ((HB.out.cell (World.block_lt_of_cell? w _ hw161_3)).trans hw161_3)⟩ (fun hHeld => ?_)
   clear hK K
   refine norm_ (a' := ?_) ?_ ?_
   rotate_left
   {
   show Act.put _ (some 16) _ = _
   simp only [Act.put, List.setIfInBounds_toArray, List.set_cons_zero, List.set_cons_succ, i64_w, i32_w]
   rfl
   }
   refine pure_ (i := 2) (N := some 17) (v := _) (a' := _) #[true, true, true, false, false, false, false, false, false, false, false, false, false, false, false, false, false] rfl rfl (any_of HT_.out (by kernel_rfl)) (fun _ _ _ h => h) (Or.inl ⟨by rfl, (by intro w'; go_simp; with_reducible rfl)⟩) z47a ?_
   refine pure_ (i := 3) (N := some 18) (v := _) (a' := _) #[true, true, true, true, false, false, false, false, false, false, false, false, false, false, false, false, false] rfl rfl (any_of HT_.out (by kernel_rfl)) (fun _ _ _ h => h) (Or.inl ⟨by rfl, (by intro w'; go_simp; with_reducible rfl)⟩) z47a ?_
   refine pure_ (i := 4) (N := some 19) (v := _) (a' := _) #[true, true, true, true, true, false, false, false, false, false, false, false, false, false, false, false, false] rfl rfl (any_of HT_.out (by kernel_rfl)) (fun _ _ _ h => h) (Or.inl ⟨by rfl, (by intro w'; go_simp; with_reducible rfl)⟩) z47a ?_
   refine pure_ (i := 5) (N := some 20) (v := _) (a' := _) #[true, true, true, true, true, true, false, false, false, false, false, false, false, false, false, false, false] rfl rfl (any_of HT_.out (by kernel_rfl)) (fun _ _ _ h => h) (Or.inl ⟨by rfl, (by intro w'; go_simp; with_reducible rfl)⟩) z47a ?_
   refine pure_ (i := 6) (N := some 21) (v := _) (a' := _) #[true, true, true, true, true, true, true, false, false, false, false, false, false, false, false, false, false] rfl rfl (any_of HT_.out (by kernel_rfl)) (fun _ _ _ h => h) (Or.inl ⟨by rfl, (by intro w'; go_simp; with_reducible rfl)⟩) z47a ?_
   refine pure_ (i := 7) (N := some 22) (v := _) (a' := _) #[true, true, true, true, true, true, true, true, false, false, false, false, false, false, false, false, false] rfl rfl (any_of HT_.out (by kernel_rfl)) (fun _ _ _ h => h) (Or.inl ⟨by rfl, (by intro w'; go_simp; with_reducible rfl)⟩) z47a ?_
   refine pure_ (i := 8) (N := some 23) (v := _) (a' := _) #[true, true, true, true, true, true, true, true, true, false, false, false, false, false, false, false, false] rfl rfl (any_of HT_.out (by kernel_rfl)) (fun _ _ _ h => h) (Or.inl ⟨by rfl, (by intro w'; go_simp; with_reducible rfl)⟩) z47a ?_
   refine pure_ (i := 9) (N := some 24) (v := _) (a' := _) #[true, true, true, true, true, true, true, true, true, true, false, false, false, false, false, false, false] rfl rfl (any_of HT_.out (by kernel_rfl)) (fun _ _ _ h => h) (Or.inl ⟨by rfl, (by intro w'; go_simp; with_reducible rfl)⟩) z47a ?_
   refine pure_ (i := 10) (N := some 25) (v := _) (a' := _) #[true, true, true, true, true, true, true, true, true, true, true, false, false, false, false, false, false] rfl rfl (any_of HT_.out (by kernel_rfl)) (fun _ _ _ h => h) (Or.inl ⟨by rfl, (by intro w'; go_simp; with_reducible rfl)⟩) z47a ?_
   refine take_ (i := 11) (N := some 26) (v := _) (a' := _) #[true, true, true, true, true, true, true, true, true, true, true, true, false, false, false, false, false] rfl rfl (take_ofW HT_.out HW_.out (by kernel_rfl)) (fun _ _ _ h => h) (Or.inl ⟨by rfl, (by rintro w' ⟨s0, s1, s2, s3, s4, s5, s6, s7⟩; go_simp; with_reducible rfl)⟩) hHeld z47a ?_
   refine take_ (i := 12) (N := some 27) (v := _) (a' := _) #[true, true, true, true, true, true, true, true, true, true, true, true, true, false, false, false, false] rfl rfl (take_ofW HT_.out HW_.out (by kernel_rfl)) (fun _ _ _ h => h) (Or.inl ⟨by rfl, (by rintro w' ⟨s0, s1, s2, s3, s4, s5, s6, s7⟩; go_simp; with_reducible rfl)⟩) hHeld z47a ?_
   refine one_ (i := 13) (N := some 28) #[true, true, true, true, true, true, true, true, true, true, true, true, true, true, false, false, false] rfl rfl (one_of HT_.out (by kernel_rfl)) (by decide) (fun K hK => ?_)
   refine goes_ Try.func86 (by kernel_rfl) rfl #[.agg #[.string ((rd_T88 l0 (ji9)).f0), .string ((rd_T88 l0 (ji9)).f1), .int .i64 ((rd_T88 l0 (ji9)).f2), .bool ((rd_T88 l0 (ji9)).f3)], .agg #[.string ((rd_T88 l0 x10_1).f0), .string ((rd_T88 l0 x10_1).f1), .int .i64 ((rd_T88 l0 x10_1).f2), .bool ((rd_T88 l0 x10_1).f3)]] (by rfl) rfl rfl (by (try simp only [List.map_toArray, List.map_cons, List.map_nil]); first | done | (simp only [hji9]; rfl) | rfl | (simp only [List.length_drop, List.length_take]; rfl)) ?_
   with_reducible refine (impl_byOrder.calls k1 ((rd_T88 l0 (ji9)).f0) ((rd_T88 l0 (ji9)).f1) ((rd_T88 l0 (ji9)).f2) ((rd_T88 l0 (ji9)).f3) ((rd_T88 l0 x10_1).f0) ((rd_T88 l0 x10_1).f1) ((rd_T88 l0 x10_1).f2) ((rd_T88 l0 x10_1).f3) t162 _ A12.out).mono ?_
   rintro e w19 ⟨rfl, hb⟩
   refine ⟨_, rfl, ?_⟩
   have n0_ := Aside0.mk (blk_below (g := gb159) (o := .cells #[.string ((rd_T88 l0 x10_1).f0), .string ((rd_T88 l0 x10_1).f1), .int .i64 ((rd_T88 l0 x10_1).f2), .bool ((rd_T88 l0 x10_1).f3)] 88 (0, 0)) z47d hb)
   have n1_ := Aside0.mk (below_step z47c hb)
   clear BK159
   clear HB
   have BK159 := n0_
   have HB := n1_
   clear n0_ n1_
   (try clear hb)
   (try clear hb2)
   (try clear hk)
   (try clear hi)
   refine hK.out _ _ ⟨(blk_cell BK159.out 0).trans rfl, (blk_cell BK159.out 1).trans rfl, (blk_cell BK159.out 2).trans rfl, (blk_cell BK159.out 3).trans rfl, ((HB.out.cell (World.block_lt_of_cell? w _ hw161_0)).trans hw161_0), ((HB.out.cell (World.block_lt_of_cell? w _ hw161_1)).trans hw161_1), ((HB.out.cell (World.block_lt_of_cell? w _ hw161_2)).trans hw161_2), ((HB.out.cell (World.block_lt_of_cell? w _ hw161_3)).trans hw161_3)⟩ (fun hHeld => ?_)
   clear hK K
   refine norm_ (a' := ?_) ?_ ?_
   rotate_left
   {
   show Act.put _ (some 28) _ = _
   simp only [Act.put, List.setIfInBounds_toArray, List.set_cons_zero, List.set_cons_succ, i64_w, i32_w]
   rfl
   }
   refine pure_ (i := 14) (N := some 29) (v := _) (a' := _) #[true, true, true, true, true, true, true, true, true, true, true, true, true, true, true, false, false] rfl rfl (any_of HT_.out (by kernel_rfl)) (fun _ _ _ h => h) (Or.inl ⟨by rfl, (by intro w'; go_simp; with_reducible rfl)⟩) z47a ?_
   refine pure_ (i := 15) (N := some 30) (v := _) (a' := _) #[true, true, true, true, true, true, true, true, true, true, true, true, true, true, true, true, false] rfl rfl (any_of HT_.out (by kernel_rfl)) (fun _ _ _ h => h) (Or.inl ⟨by rfl, (by intro w'; go_simp; with_reducible rfl)⟩) z47a ?_
   refine pure_ (i := 16) (N := some 31) (v := _) (a' := _) #[true, true, true, true, true, true, true, true, true, true, true, true, true, true, true, true, true] rfl rfl (any_of HT_.out (by kernel_rfl)) (fun _ _ _ h => h) (Or.inl ⟨by rfl, (by intro w'; go_simp; with_reducible rfl)⟩) z47a ?_
   refine done_ (done_of HT_.out (by kernel_rfl)) ?_
   try go_wp2
   go_ret
   exact ⟨by first | rfl | (simp [errW_none, errW_some] <;> rfl) | (simp only [← hji9]; first | rfl | (simp [errW_none, errW_some] <;> rfl)) | (simp [*, errW_none, errW_some] <;> rfl), by repeat (first | (with_reducible first | exact HB.out | apply below_alloc | apply pw_below_drewN | apply below_drew1 | refine below_set ?_ GE159.out) | exact HB.out)⟩
   }
   {
   rw [if_neg c13] at H
   have c13b0 : decide (0 ≤ t162) = false := decide_eq_false c13
   clear c13
   have H' := Aside0.mk H
   clear H
   have p158 : 0 ≤ (x10_1 : Int) := of_decide_eq_true z47e
   have q158 : x10_1 < (l0.length : Int) := of_decide_eq_true z47e
   obtain ⟨ad158, e158, hx158_0, hx158_1, hx158_2, hx158_3⟩ := at_T88 HR0.out x10_1 p158 q158
   cases e158
   replace hx158_0 := (HB.out.cell (World.block_lt_of_cell? w _ hx158_0)).trans hx158_0
   replace hx158_1 := (HB.out.cell (World.block_lt_of_cell? w _ hx158_1)).trans hx158_1
   replace hx158_2 := (HB.out.cell (World.block_lt_of_cell? w _ hx158_2)).trans hx158_2
   replace hx158_3 := (HB.out.cell (World.block_lt_of_cell? w _ hx158_3)).trans hx158_3
   replace p158 := eq_true p158
   replace q158 := eq_true q158
   try go_wp2_with (first | ((with_reducible refine gate_dst (N := 4) rfl ?_); refine box_event ?hg (N := 4) ?hd (cs := #[.string (⟨#[]⟩ : ByteArray), .string (⟨#[]⟩ : ByteArray), .int .i64 0, .bool false]) (t := 88) ?hr ?_; (case hd => rfl); (case hg => rfl); (case hr => first | (go_simp; done) | (go_simp; rfl)); intro gb159 hg w20 hbox hb; have n0_ := Aside0.mk (below_step z47b hb); have n1_ := Aside0.mk (hbox); have n2_ := Aside0.mk ((by rw [hg]; exact (below_size z47b) : w.heap.size ≤ gb159)); have n3_ := Aside0.mk ((by rw [hg]; exact (below_size z47b) : w.heap.size ≤ gb159)); clear HB; have HB := n0_; have BK159 := n1_; have GW159 := n2_; have GE159 := n3_; clear n0_ n1_ n2_ n3_; clear hb hbox hg; have hcz21_0 : w20.cell? ⟨gb159, 0, none⟩ = some (.string (⟨#[]⟩ : ByteArray)) := (blk_cell BK159.out 0).trans rfl; have hcz21_1 : w20.cell? ⟨gb159, 1, none⟩ = some (.string (⟨#[]⟩ : ByteArray)) := (blk_cell BK159.out 1).trans rfl; have hcz21_2 : w20.cell? ⟨gb159, 2, none⟩ = some (.int .i64 0) := (blk_cell BK159.out 2).trans rfl; have hcz21_3 : w20.cell? ⟨gb159, 3, none⟩ = some (.bool false) := (blk_cell BK159.out 3).trans rfl; have hfz21_0 := blk_frozen BK159.out 0; have hfz21_1 := blk_frozen BK159.out 1; have hfz21_2 := blk_frozen BK159.out 2; have hfz21_3 := blk_frozen BK159.out 3))
   have n0_ : Aside0 (((((w20.setCell ⟨gb159, 0, none⟩ (.string ((rd_T88 l0 x10_1).f0))).setCell ⟨gb159, 1, none⟩ (.string ((rd_T88 l0 x10_1).f1))).setCell ⟨gb159, 2, none⟩ (.int .i64 ((rd_T88 l0 x10_1).f2))).setCell ⟨gb159, 3, none⟩ (.bool ((rd_T88 l0 x10_1).f3))).heap[gb159]? = some (.cells #[.string ((rd_T88 l0 x10_1).f0), .string ((rd_T88 l0 x10_1).f1), .int .i64 ((rd_T88 l0 x10_1).f2), .bool ((rd_T88 l0 x10_1).f3)] 88 (0, 0))) := ⟨by (with_reducible repeat (first | refine blk_drewN ?_ _ | refine blk_drew ?_ | refine blk_alloc ?_ _)); refine blk_put (cs := #[.string ((rd_T88 l0 x10_1).f0), .string ((rd_T88 l0 x10_1).f1), .int .i64 ((rd_T88 l0 x10_1).f2), .bool false]) ?_ 3 _ rfl; (with_reducible repeat (first | refine blk_drewN ?_ _ | refine blk_drew ?_ | refine blk_alloc ?_ _)); refine blk_put (cs := #[.string ((rd_T88 l0 x10_1).f0), .string ((rd_T88 l0 x10_1).f1), .int .i64 0, .bool false]) ?_ 2 _ rfl; (with_reducible repeat (first | refine blk_drewN ?_ _ | refine blk_drew ?_ | refine blk_alloc ?_ _)); refine blk_put (cs := #[.string ((rd_T88 l0 x10_1).f0), .string (⟨#[]⟩ : ByteArray), .int .i64 0, .bool false]) ?_ 1 _ rfl; (with_reducible repeat (first | refine blk_drewN ?_ _ | refine blk_drew ?_ | refine blk_alloc ?_ _)); refine blk_put (cs := #[.string (⟨#[]⟩ : ByteArray), .string (⟨#[]⟩ : ByteArray), .int .i64 0, .bool false]) ?_ 0 _ rfl; (with_reducible repeat (first | refine blk_drewN ?_ _ | refine blk_drew ?_ | refine blk_alloc ?_ _)); exact BK159.out⟩
   have n1_ : Aside0 (Below w.heap.size w ((((w20.setCell ⟨gb159, 0, none⟩ (.string ((rd_T88 l0 x10_1).f0))).setCell ⟨gb159, 1, none⟩ (.string ((rd_T88 l0 x10_1).f1))).setCell ⟨gb159, 2, none⟩ (.int .i64 ((rd_T88 l0 x10_1).f2))).setCell ⟨gb159, 3, none⟩ (.bool ((rd_T88 l0 x10_1).f3)))) := ⟨by repeat (first | (with_reducible first | exact HB.out | apply below_alloc | apply pw_below_drewN | apply below_drew1 | refine below_set ?_ GE159.out) | exact HB.out)⟩
   (try clear BK159)
   (try clear HB)
   generalize ((((w20.setCell ⟨gb159, 0, none⟩ (.string ((rd_T88 l0 x10_1).f0))).setCell ⟨gb159, 1, none⟩ (.string ((rd_T88 l0 x10_1).f1))).setCell ⟨gb159, 2, none⟩ (.int .i64 ((rd_T88 l0 x10_1).f2))).setCell ⟨gb159, 3, none⟩ (.bool ((rd_T88 l0 x10_1).f3))) = w22 at n0_ n1_ ⊢
   have BK159 := n0_
   have HB := n1_
   clear n0_ n1_
   have n0_ := Aside0.mk (blk_drew BK159.out)
   have n1_ := Aside0.mk (below_drew1 HB.out)
   clear BK159
   clear HB
   have BK159 := n0_
   have HB := n1_
   clear n0_ n1_
   have p161 : 0 ≤ ((ji9) : Int) := of_decide_eq_true z47e
   have q161 : (ji9) < (l0.length : Int) := of_decide_eq_true z47e
   obtain ⟨ad161, e161, hx161_0, hx161_1, hx161_2, hx161_3⟩ := at_T88 HR0.out (ji9) p161 q161
   have hw161_3 := hx161_3
   have hw161_2 := hx161_2
   have hw161_1 := hx161_1
   have hw161_0 := hx161_0
   obtain rfl : ad158 = ad161 := (by injection e161)
   replace hx161_0 := (HB.out.cell (World.block_lt_of_cell? w _ hx161_0)).trans hx161_0
   replace hx161_1 := (HB.out.cell (World.block_lt_of_cell? w _ hx161_1)).trans hx161_1
   replace hx161_2 := (HB.out.cell (World.block_lt_of_cell? w _ hx161_2)).trans hx161_2
   replace hx161_3 := (HB.out.cell (World.block_lt_of_cell? w _ hx161_3)).trans hx161_3
   replace p161 := eq_true p161
   replace q161 := eq_true q161
   refine start_ (n := 17) (S := fun w' => w'.cell? ⟨gb159, 0, none⟩ = some (.string ((rd_T88 l0 x10_1).f0)) ∧ w'.cell? ⟨gb159, 1, none⟩ = some (.string ((rd_T88 l0 x10_1).f1)) ∧ w'.cell? ⟨gb159, 2, none⟩ = some (.int .i64 ((rd_T88 l0 x10_1).f2)) ∧ w'.cell? ⟨gb159, 3, none⟩ = some (.bool ((rd_T88 l0 x10_1).f3)) ∧ w'.cell? (ad158.add (((ji9)).toNat * 4)) = some (.string ((rd_T88 l0 (ji9)).f0)) ∧ w'.cell? ⟨(ad158.add (((ji9)).toNat * 4)).block, (ad158.add (((ji9)).toNat * 4)).off + 1, none⟩ = some (.string ((rd_T88 l0 (ji9)).f1)) ∧ w'.cell? ⟨(ad158.add (((ji9)).toNat * 4)).block, (ad158.add (((ji9)).toNat * 4)).off + 2, none⟩ = some (.int .i64 ((rd_T88 l0 (ji9)).f2)) ∧ w'.cell? ⟨(ad158.add (((ji9)).toNat * 4)).block, (ad158.add (((ji9)).toNat * 4)).off + 3, none⟩ = some (.bool ((rd_T88 l0 (ji9)).f3))) (ds := []) #[false, false, false, false, false, false, false, false, false, false, false, false, false, false, false, false, false] (by kernel_rfl) rfl rfl ⟨(blk_cell BK159.out 0).trans rfl, (blk_cell BK159.out 1).trans rfl, (blk_cell BK159.out 2).trans rfl, (blk_cell BK159.out 3).trans rfl, ((HB.out.cell (World.block_lt_of_cell? w _ hw161_0)).trans hw161_0), ((HB.out.cell (World.block_lt_of_cell? w _ hw161_1)).trans hw161_1), ((HB.out.cell (World.block_lt_of_cell? w _ hw161_2)).trans hw161_2), ((HB.out.cell (World.block_lt_of_cell? w _ hw161_3)).trans hw161_3)⟩ (fun hHeld => ?_); refine with_tabW impl_EntriesOk.tab6 impl_EntriesOk.bits6 (fun HT_ HW_ => ?_)
   generalize w22.drew = w23 at BK159 HB hx161_0 hx161_1 hx161_2 hx161_3 hHeld ⊢
   refine take_ (i := 0) (N := some 15) (v := _) (a' := _) #[true, false, false, false, false, false, false, false, false, false, false, false, false, false, false, false, false] rfl rfl (take_ofW HT_.out HW_.out (by kernel_rfl)) (fun _ _ _ h => h) (Or.inl ⟨by rfl, (by rintro w' ⟨s0, s1, s2, s3, s4, s5, s6, s7⟩; go_simp; with_reducible rfl)⟩) hHeld z47a ?_
   refine one_ (i := 1) (N := some 16) #[true, true, false, false, false, false, false, false, false, false, false, false, false, false, false, false, false] rfl rfl (one_of HT_.out (by kernel_rfl)) (by decide) (fun K hK => ?_)
   refine goes_ Try.func85 (by kernel_rfl) rfl #[.agg #[.string ((rd_T88 l0 x10_1).f0), .string ((rd_T88 l0 x10_1).f1), .int .i64 ((rd_T88 l0 x10_1).f2), .bool ((rd_T88 l0 x10_1).f3)]] (by rfl) rfl rfl z47f ?_
   with_reducible refine (impl_entryOk.calls ((rd_T88 l0 x10_1).f0) ((rd_T88 l0 x10_1).f1) ((rd_T88 l0 x10_1).f2) ((rd_T88 l0 x10_1).f3) true _ A6.out).mono ?_
   rintro e w24 ⟨rfl, hb⟩
   refine ⟨_, rfl, ?_⟩
   have n0_ := Aside0.mk (blk_below (g := gb159) (o := .cells #[.string ((rd_T88 l0 x10_1).f0), .string ((rd_T88 l0 x10_1).f1), .int .i64 ((rd_T88 l0 x10_1).f2), .bool ((rd_T88 l0 x10_1).f3)] 88 (0, 0)) z47d hb)
   have n1_ := Aside0.mk (below_step z47c hb)
   clear BK159
   clear HB
   have BK159 := n0_
   have HB := n1_
   clear n0_ n1_
   (try clear hb)
   (try clear hb2)
   (try clear hk)
   (try clear hi)
   refine hK.out _ _ ⟨(blk_cell BK159.out 0).trans rfl, (blk_cell BK159.out 1).trans rfl, (blk_cell BK159.out 2).trans rfl, (blk_cell BK159.out 3).trans rfl, ((HB.out.cell (World.block_lt_of_cell? w _ hw161_0)).trans hw161_0), ((HB.out.cell (World.block_lt_of_cell? w _ hw161_1)).trans hw161_1), ((HB.out.cell (World.block_lt_of_cell? w _ hw161_2)).trans hw161_2), ((HB.out.cell (World.block_lt_of_cell? w _ hw161_3)).trans hw161_3)⟩ (fun hHeld => ?_)
   clear hK K
   refine norm_ (a' := ?_) ?_ ?_
   rotate_left
   {
   show Act.put _ (some 16) _ = _
   simp only [Act.put, List.setIfInBounds_toArray, List.set_cons_zero, List.set_cons_succ, i64_w, i32_w]
   rfl
   }
   refine pure_ (i := 2) (N := some 17) (v := _) (a' := _) #[true, true, true, false, false, false, false, false, false, false, false, false, false, false, false, false, false] rfl rfl (any_of HT_.out (by kernel_rfl)) (fun _ _ _ h => h) (Or.inl ⟨by rfl, (by intro w'; go_simp; with_reducible rfl)⟩) z47a ?_
   refine pure_ (i := 3) (N := some 18) (v := _) (a' := _) #[true, true, true, true, false, false, false, false, false, false, false, false, false, false, false, false, false] rfl rfl (any_of HT_.out (by kernel_rfl)) (fun _ _ _ h => h) (Or.inl ⟨by rfl, (by intro w'; go_simp; with_reducible rfl)⟩) z47a ?_
   refine pure_ (i := 4) (N := some 19) (v := _) (a' := _) #[true, true, true, true, true, false, false, false, false, false, false, false, false, false, false, false, false] rfl rfl (any_of HT_.out (by kernel_rfl)) (fun _ _ _ h => h) (Or.inl ⟨by rfl, (by intro w'; go_simp; with_reducible rfl)⟩) z47a ?_
   refine pure_ (i := 5) (N := some 20) (v := _) (a' := _) #[true, true, true, true, true, true, false, false, false, false, false, false, false, false, false, false, false] rfl rfl (any_of HT_.out (by kernel_rfl)) (fun _ _ _ h => h) (Or.inl ⟨by rfl, (by intro w'; go_simp; with_reducible rfl)⟩) z47a ?_
   refine pure_ (i := 6) (N := some 21) (v := _) (a' := _) #[true, true, true, true, true, true, true, false, false, false, false, false, false, false, false, false, false] rfl rfl (any_of HT_.out (by kernel_rfl)) (fun _ _ _ h => h) (Or.inl ⟨by rfl, (by intro w'; go_simp; with_reducible rfl)⟩) z47a ?_
   refine pure_ (i := 7) (N := some 22) (v := _) (a' := _) #[true, true, true, true, true, true, true, true, false, false, false, false, false, false, false, false, false] rfl rfl (any_of HT_.out (by kernel_rfl)) (fun _ _ _ h => h) (Or.inl ⟨by rfl, (by intro w'; go_simp; with_reducible rfl)⟩) z47a ?_
   refine pure_ (i := 8) (N := some 23) (v := _) (a' := _) #[true, true, true, true, true, true, true, true, true, false, false, false, false, false, false, false, false] rfl rfl (any_of HT_.out (by kernel_rfl)) (fun _ _ _ h => h) (Or.inl ⟨by rfl, (by intro w'; go_simp; with_reducible rfl)⟩) z47a ?_
   refine pure_ (i := 9) (N := some 24) (v := _) (a' := _) #[true, true, true, true, true, true, true, true, true, true, false, false, false, false, false, false, false] rfl rfl (any_of HT_.out (by kernel_rfl)) (fun _ _ _ h => h) (Or.inl ⟨by rfl, (by intro w'; go_simp; with_reducible rfl)⟩) z47a ?_
   refine pure_ (i := 10) (N := some 25) (v := _) (a' := _) #[true, true, true, true, true, true, true, true, true, true, true, false, false, false, false, false, false] rfl rfl (any_of HT_.out (by kernel_rfl)) (fun _ _ _ h => h) (Or.inl ⟨by rfl, (by intro w'; go_simp; with_reducible rfl)⟩) z47a ?_
   refine take_ (i := 11) (N := some 26) (v := _) (a' := _) #[true, true, true, true, true, true, true, true, true, true, true, true, false, false, false, false, false] rfl rfl (take_ofW HT_.out HW_.out (by kernel_rfl)) (fun _ _ _ h => h) (Or.inl ⟨by rfl, (by rintro w' ⟨s0, s1, s2, s3, s4, s5, s6, s7⟩; go_simp; with_reducible rfl)⟩) hHeld z47a ?_
   refine take_ (i := 12) (N := some 27) (v := _) (a' := _) #[true, true, true, true, true, true, true, true, true, true, true, true, true, false, false, false, false] rfl rfl (take_ofW HT_.out HW_.out (by kernel_rfl)) (fun _ _ _ h => h) (Or.inl ⟨by rfl, (by rintro w' ⟨s0, s1, s2, s3, s4, s5, s6, s7⟩; go_simp; with_reducible rfl)⟩) hHeld z47a ?_
   refine one_ (i := 13) (N := some 28) #[true, true, true, true, true, true, true, true, true, true, true, true, true, true, false, false, false] rfl rfl (one_of HT_.out (by kernel_rfl)) (by decide) (fun K hK => ?_)
   refine goes_ Try.func86 (by kernel_rfl) rfl #[.agg #[.string ((rd_T88 l0 (ji9)).f0), .string ((rd_T88 l0 (ji9)).f1), .int .i64 ((rd_T88 l0 (ji9)).f2), .bool ((rd_T88 l0 (ji9)).f3)], .agg #[.string ((rd_T88 l0 x10_1).f0), .string ((rd_T88 l0 x10_1).f1), .int .i64 ((rd_T88 l0 x10_1).f2), .bool ((rd_T88 l0 x10_1).f3)]] (by rfl) rfl rfl (by (try simp only [List.map_toArray, List.map_cons, List.map_nil]); first | done | (simp only [hji9]; rfl) | rfl | (simp only [List.length_drop, List.length_take]; rfl)) ?_
   with_reducible refine (impl_byOrder.calls k1 ((rd_T88 l0 (ji9)).f0) ((rd_T88 l0 (ji9)).f1) ((rd_T88 l0 (ji9)).f2) ((rd_T88 l0 (ji9)).f3) ((rd_T88 l0 x10_1).f0) ((rd_T88 l0 x10_1).f1) ((rd_T88 l0 x10_1).f2) ((rd_T88 l0 x10_1).f3) t162 _ A12.out).mono ?_
   rintro e w25 ⟨rfl, hb⟩
   refine ⟨_, rfl, ?_⟩
   have n0_ := Aside0.mk (blk_below (g := gb159) (o := .cells #[.string ((rd_T88 l0 x10_1).f0), .string ((rd_T88 l0 x10_1).f1), .int .i64 ((rd_T88 l0 x10_1).f2), .bool ((rd_T88 l0 x10_1).f3)] 88 (0, 0)) z47d hb)
   have n1_ := Aside0.mk (below_step z47c hb)
   clear BK159
   clear HB
   have BK159 := n0_
   have HB := n1_
   clear n0_ n1_
   (try clear hb)
   (try clear hb2)
   (try clear hk)
   (try clear hi)
   refine hK.out _ _ ⟨(blk_cell BK159.out 0).trans rfl, (blk_cell BK159.out 1).trans rfl, (blk_cell BK159.out 2).trans rfl, (blk_cell BK159.out 3).trans rfl, ((HB.out.cell (World.block_lt_of_cell? w _ hw161_0)).trans hw161_0), ((HB.out.cell (World.block_lt_of_cell? w _ hw161_1)).trans hw161_1), ((HB.out.cell (World.block_lt_of_cell? w _ hw161_2)).trans hw161_2), ((HB.out.cell (World.block_lt_of_cell? w _ hw161_3)).trans hw161_3)⟩ (fun hHeld => ?_)
   clear hK K
   refine norm_ (a' := ?_) ?_ ?_
   rotate_left
   {
   show Act.put _ (some 28) _ = _
   simp only [Act.put, List.setIfInBounds_toArray, List.set_cons_zero, List.set_cons_succ, i64_w, i32_w]
   rfl
   }
   refine pure_ (i := 14) (N := some 29) (v := _) (a' := _) #[true, true, true, true, true, true, true, true, true, true, true, true, true, true, true, false, false] rfl rfl (any_of HT_.out (by kernel_rfl)) (fun _ _ _ h => h) (Or.inl ⟨by rfl, (by intro w'; go_simp; with_reducible rfl)⟩) z47a ?_
   refine pure_ (i := 15) (N := some 30) (v := _) (a' := _) #[true, true, true, true, true, true, true, true, true, true, true, true, true, true, true, true, false] rfl rfl (any_of HT_.out (by kernel_rfl)) (fun _ _ _ h => h) (Or.inl ⟨by rfl, (by intro w'; go_simp; with_reducible rfl)⟩) z47a ?_
   refine pure_ (i := 16) (N := some 31) (v := _) (a' := _) #[true, true, true, true, true, true, true, true, true, true, true, true, true, true, true, true, true] rfl rfl (any_of HT_.out (by kernel_rfl)) (fun _ _ _ h => h) (Or.inl ⟨by rfl, (by intro w'; go_simp; with_reducible rfl)⟩) z47a ?_
   refine done_ (done_of HT_.out (by kernel_rfl)) ?_
   try go_wp2
   go_roundg k1
   case measure => have := HK1.out; omega
   case rel => exact ⟨(wrap64 (x10_1 + 1)), (by first | rfl | (simp; done) | (simp [*]; done)), H', ⟨by have := HK1.out; omega⟩, ⟨by repeat (first | (with_reducible first | exact HB.out | apply below_alloc | apply pw_below_drewN | apply below_drew1 | refine below_set ?_ GE159.out) | exact HB.out)⟩⟩
   }
   }
   {
   rw [if_neg c11] at H
   exact absurd H (by simp)
   }
   }
   {
   rw [if_neg c10] at H
   exact absurd H (by simp)
   }
   }
   {
   rw [if_neg c8] at H
   have c8b0 : decide (0 < x10_1) = false := decide_eq_false c8
   clear c8
   have H' := Aside0.mk H
   clear H
   have p158 : 0 ≤ (x10_1 : Int) := of_decide_eq_true z47e
   have q158 : x10_1 < (l0.length : Int) := of_decide_eq_true z47e
   obtain ⟨ad158, e158, hx158_0, hx158_1, hx158_2, hx158_3⟩ := at_T88 HR0.out x10_1 p158 q158
   cases e158
   replace hx158_0 := (HB.out.cell (World.block_lt_of_cell? w _ hx158_0)).trans hx158_0
   replace hx158_1 := (HB.out.cell (World.block_lt_of_cell? w _ hx158_1)).trans hx158_1
   replace hx158_2 := (HB.out.cell (World.block_lt_of_cell? w _ hx158_2)).trans hx158_2
   replace hx158_3 := (HB.out.cell (World.block_lt_of_cell? w _ hx158_3)).trans hx158_3
   replace p158 := eq_true p158
   replace q158 := eq_true q158
   try go_wp2_with (first | ((with_reducible refine gate_dst (N := 4) rfl ?_); refine box_event ?hg (N := 4) ?hd (cs := #[.string (⟨#[]⟩ : ByteArray), .string (⟨#[]⟩ : ByteArray), .int .i64 0, .bool false]) (t := 88) ?hr ?_; (case hd => rfl); (case hg => rfl); (case hr => first | (go_simp; done) | (go_simp; rfl)); intro gb159 hg w26 hbox hb; have n0_ := Aside0.mk (below_step z47b hb); have n1_ := Aside0.mk (hbox); have n2_ := Aside0.mk ((by rw [hg]; exact (below_size z47b) : w.heap.size ≤ gb159)); have n3_ := Aside0.mk ((by rw [hg]; exact (below_size z47b) : w.heap.size ≤ gb159)); clear HB; have HB := n0_; have BK159 := n1_; have GW159 := n2_; have GE159 := n3_; clear n0_ n1_ n2_ n3_; clear hb hbox hg; have hcz27_0 : w26.cell? ⟨gb159, 0, none⟩ = some (.string (⟨#[]⟩ : ByteArray)) := (blk_cell BK159.out 0).trans rfl; have hcz27_1 : w26.cell? ⟨gb159, 1, none⟩ = some (.string (⟨#[]⟩ : ByteArray)) := (blk_cell BK159.out 1).trans rfl; have hcz27_2 : w26.cell? ⟨gb159, 2, none⟩ = some (.int .i64 0) := (blk_cell BK159.out 2).trans rfl; have hcz27_3 : w26.cell? ⟨gb159, 3, none⟩ = some (.bool false) := (blk_cell BK159.out 3).trans rfl; have hfz27_0 := blk_frozen BK159.out 0; have hfz27_1 := blk_frozen BK159.out 1; have hfz27_2 := blk_frozen BK159.out 2; have hfz27_3 := blk_frozen BK159.out 3))
   have n0_ : Aside0 (((((w26.setCell ⟨gb159, 0, none⟩ (.string ((rd_T88 l0 x10_1).f0))).setCell ⟨gb159, 1, none⟩ (.string ((rd_T88 l0 x10_1).f1))).setCell ⟨gb159, 2, none⟩ (.int .i64 ((rd_T88 l0 x10_1).f2))).setCell ⟨gb159, 3, none⟩ (.bool ((rd_T88 l0 x10_1).f3))).heap[gb159]? = some (.cells #[.string ((rd_T88 l0 x10_1).f0), .string ((rd_T88 l0 x10_1).f1), .int .i64 ((rd_T88 l0 x10_1).f2), .bool ((rd_T88 l0 x10_1).f3)] 88 (0, 0))) := ⟨by (with_reducible repeat (first | refine blk_drewN ?_ _ | refine blk_drew ?_ | refine blk_alloc ?_ _)); refine blk_put (cs := #[.string ((rd_T88 l0 x10_1).f0), .string ((rd_T88 l0 x10_1).f1), .int .i64 ((rd_T88 l0 x10_1).f2), .bool false]) ?_ 3 _ rfl; (with_reducible repeat (first | refine blk_drewN ?_ _ | refine blk_drew ?_ | refine blk_alloc ?_ _)); refine blk_put (cs := #[.string ((rd_T88 l0 x10_1).f0), .string ((rd_T88 l0 x10_1).f1), .int .i64 0, .bool false]) ?_ 2 _ rfl; (with_reducible repeat (first | refine blk_drewN ?_ _ | refine blk_drew ?_ | refine blk_alloc ?_ _)); refine blk_put (cs := #[.string ((rd_T88 l0 x10_1).f0), .string (⟨#[]⟩ : ByteArray), .int .i64 0, .bool false]) ?_ 1 _ rfl; (with_reducible repeat (first | refine blk_drewN ?_ _ | refine blk_drew ?_ | refine blk_alloc ?_ _)); refine blk_put (cs := #[.string (⟨#[]⟩ : ByteArray), .string (⟨#[]⟩ : ByteArray), .int .i64 0, .bool false]) ?_ 0 _ rfl; (with_reducible repeat (first | refine blk_drewN ?_ _ | refine blk_drew ?_ | refine blk_alloc ?_ _)); exact BK159.out⟩
   have n1_ : Aside0 (Below w.heap.size w ((((w26.setCell ⟨gb159, 0, none⟩ (.string ((rd_T88 l0 x10_1).f0))).setCell ⟨gb159, 1, none⟩ (.string ((rd_T88 l0 x10_1).f1))).setCell ⟨gb159, 2, none⟩ (.int .i64 ((rd_T88 l0 x10_1).f2))).setCell ⟨gb159, 3, none⟩ (.bool ((rd_T88 l0 x10_1).f3)))) := ⟨by repeat (first | (with_reducible first | exact HB.out | apply below_alloc | apply pw_below_drewN | apply below_drew1 | refine below_set ?_ GE159.out) | exact HB.out)⟩
   (try clear BK159)
   (try clear HB)
   generalize ((((w26.setCell ⟨gb159, 0, none⟩ (.string ((rd_T88 l0 x10_1).f0))).setCell ⟨gb159, 1, none⟩ (.string ((rd_T88 l0 x10_1).f1))).setCell ⟨gb159, 2, none⟩ (.int .i64 ((rd_T88 l0 x10_1).f2))).setCell ⟨gb159, 3, none⟩ (.bool ((rd_T88 l0 x10_1).f3))) = w28 at n0_ n1_ ⊢
   have BK159 := n0_
   have HB := n1_
   clear n0_ n1_
   have n0_ := Aside0.mk (blk_drew BK159.out)
   have n1_ := Aside0.mk (below_drew1 HB.out)
   clear BK159
   clear HB
   have BK159 := n0_
   have HB := n1_
   clear n0_ n1_
   refine start_ (n := 17) (S := fun w' => w'.cell? ⟨gb159, 0, none⟩ = some (.string ((rd_T88 l0 x10_1).f0)) ∧ w'.cell? ⟨gb159, 1, none⟩ = some (.string ((rd_T88 l0 x10_1).f1)) ∧ w'.cell? ⟨gb159, 2, none⟩ = some (.int .i64 ((rd_T88 l0 x10_1).f2)) ∧ w'.cell? ⟨gb159, 3, none⟩ = some (.bool ((rd_T88 l0 x10_1).f3))) (ds := []) #[false, false, false, false, false, false, false, false, false, false, false, false, false, false, false, false, false] (by kernel_rfl) rfl rfl ⟨(blk_cell BK159.out 0).trans rfl, (blk_cell BK159.out 1).trans rfl, (blk_cell BK159.out 2).trans rfl, (blk_cell BK159.out 3).trans rfl⟩ (fun hHeld => ?_); refine with_tabW impl_EntriesOk.tab6 impl_EntriesOk.bits6 (fun HT_ HW_ => ?_)
   generalize w28.drew = w29 at BK159 HB hHeld ⊢
   refine take_ (i := 0) (N := some 15) (v := _) (a' := _) #[true, false, false, false, false, false, false, false, false, false, false, false, false, false, false, false, false] rfl rfl (take_ofW HT_.out HW_.out (by kernel_rfl)) (fun _ _ _ h => h) (Or.inl ⟨by rfl, (by rintro w' ⟨s0, s1, s2, s3⟩; go_simp; with_reducible rfl)⟩) hHeld z47a ?_
   refine one_ (i := 1) (N := some 16) #[true, true, false, false, false, false, false, false, false, false, false, false, false, false, false, false, false] rfl rfl (one_of HT_.out (by kernel_rfl)) (by decide) (fun K hK => ?_)
   refine goes_ Try.func85 (by kernel_rfl) rfl #[.agg #[.string ((rd_T88 l0 x10_1).f0), .string ((rd_T88 l0 x10_1).f1), .int .i64 ((rd_T88 l0 x10_1).f2), .bool ((rd_T88 l0 x10_1).f3)]] (by rfl) rfl rfl z47f ?_
   with_reducible refine (impl_entryOk.calls ((rd_T88 l0 x10_1).f0) ((rd_T88 l0 x10_1).f1) ((rd_T88 l0 x10_1).f2) ((rd_T88 l0 x10_1).f3) true _ A6.out).mono ?_
   rintro e w30 ⟨rfl, hb⟩
   refine ⟨_, rfl, ?_⟩
   have n0_ := Aside0.mk (blk_below (g := gb159) (o := .cells #[.string ((rd_T88 l0 x10_1).f0), .string ((rd_T88 l0 x10_1).f1), .int .i64 ((rd_T88 l0 x10_1).f2), .bool ((rd_T88 l0 x10_1).f3)] 88 (0, 0)) z47d hb)
   have n1_ := Aside0.mk (below_step z47c hb)
   clear BK159
   clear HB
   have BK159 := n0_
   have HB := n1_
   clear n0_ n1_
   (try clear hb)
   (try clear hb2)
   (try clear hk)
   (try clear hi)
   refine hK.out _ _ ⟨(blk_cell BK159.out 0).trans rfl, (blk_cell BK159.out 1).trans rfl, (blk_cell BK159.out 2).trans rfl, (blk_cell BK159.out 3).trans rfl⟩ (fun hHeld => ?_)
   clear hK K
   refine norm_ (a' := ?_) ?_ ?_
   rotate_left
   {
   show Act.put _ (some 16) _ = _
   simp only [Act.put, List.setIfInBounds_toArray, List.set_cons_zero, List.set_cons_succ, i64_w, i32_w]
   rfl
   }
   refine pure_ (i := 2) (N := some 17) (v := _) (a' := _) #[true, true, true, false, false, false, false, false, false, false, false, false, false, false, false, false, false] rfl rfl (any_of HT_.out (by kernel_rfl)) (fun _ _ _ h => h) (Or.inl ⟨by rfl, (by intro w'; go_simp; with_reducible rfl)⟩) z47a ?_
   refine pure_ (i := 3) (N := some 18) (v := _) (a' := _) #[true, true, true, true, false, false, false, false, false, false, false, false, false, false, false, false, false] rfl rfl (any_of HT_.out (by kernel_rfl)) (fun _ _ _ h => h) (Or.inl ⟨by rfl, (by intro w'; go_simp; with_reducible rfl)⟩) z47a ?_
   refine pure_ (i := 4) (N := some 19) (v := _) (a' := _) #[true, true, true, true, true, false, false, false, false, false, false, false, false, false, false, false, false] rfl rfl (any_of HT_.out (by kernel_rfl)) (fun _ _ _ h => h) (Or.inl ⟨by rfl, (by intro w'; go_simp; with_reducible rfl)⟩) z47a ?_
   refine pure_ (i := 5) (N := some 20) (v := _) (a' := _) #[true, true, true, true, true, true, false, false, false, false, false, false, false, false, false, false, false] rfl rfl (any_of HT_.out (by kernel_rfl)) (fun _ _ _ h => h) (Or.inl ⟨by rfl, (by intro w'; go_simp; with_reducible rfl)⟩) z47a ?_
   refine pure_ (i := 6) (N := some 21) (v := _) (a' := _) #[true, true, true, true, true, true, true, false, false, false, false, false, false, false, false, false, false] rfl rfl (any_of HT_.out (by kernel_rfl)) (fun _ _ _ h => h) (Or.inl ⟨by rfl, (by intro w'; go_simp; with_reducible rfl)⟩) z47a ?_
   refine pure_ (i := 7) (N := some 22) (v := undef) (a' := ?_) #[true, true, true, true, true, true, true, true, false, false, false, false, false, false, false, false, false] rfl rfl (any_of HT_.out (by kernel_rfl)) (fun _ _ _ h => h) (Or.inr ⟨by rfl, rfl⟩) ?_ ?_
   rotate_left
   exact z47a
   refine pure_ (i := 8) (N := some 23) (v := undef) (a' := ?_) #[true, true, true, true, true, true, true, true, true, false, false, false, false, false, false, false, false] rfl rfl (any_of HT_.out (by kernel_rfl)) (fun _ _ _ h => h) (Or.inr ⟨by rfl, rfl⟩) ?_ ?_
   rotate_left
   exact z47a
   refine pure_ (i := 9) (N := some 24) (v := undef) (a' := ?_) #[true, true, true, true, true, true, true, true, true, true, false, false, false, false, false, false, false] rfl rfl (any_of HT_.out (by kernel_rfl)) (fun _ _ _ h => h) (Or.inr ⟨by rfl, rfl⟩) ?_ ?_
   rotate_left
   exact z47a
   refine pure_ (i := 10) (N := some 25) (v := undef) (a' := ?_) #[true, true, true, true, true, true, true, true, true, true, true, false, false, false, false, false, false] rfl rfl (any_of HT_.out (by kernel_rfl)) (fun _ _ _ h => h) (Or.inr ⟨by rfl, rfl⟩) ?_ ?_
   rotate_left
   exact z47a
   refine pure_ (i := 11) (N := some 26) (v := undef) (a' := ?_) #[true, true, true, true, true, true, true, true, true, true, true, true, false, false, false, false, false] rfl rfl (any_of HT_.out (by kernel_rfl)) (fun _ _ _ h => h) (Or.inr ⟨by rfl, rfl⟩) ?_ ?_
   rotate_left
   exact z47a
   refine pure_ (i := 12) (N := some 27) (v := undef) (a' := ?_) #[true, true, true, true, true, true, true, true, true, true, true, true, true, false, false, false, false] rfl rfl (any_of HT_.out (by kernel_rfl)) (fun _ _ _ h => h) (Or.inr ⟨by rfl, rfl⟩) ?_ ?_
   rotate_left
   exact z47a
   refine pure_ (i := 13) (N := some 28) (v := undef) (a' := ?_) #[true, true, true, true, true, true, true, true, true, true, true, true, true, true, false, false, false] rfl rfl (any_of HT_.out (by kernel_rfl)) (fun _ _ _ h => h) (Or.inr ⟨by rfl, rfl⟩) ?_ ?_
   rotate_left
   exact z47a
   refine pure_ (i := 14) (N := some 29) (v := undef) (a' := ?_) #[true, true, true, true, true, true, true, true, true, true, true, true, true, true, true, false, false] rfl rfl (any_of HT_.out (by kernel_rfl)) (fun _ _ _ h => h) (Or.inr ⟨by rfl, rfl⟩) ?_ ?_
   rotate_left
   exact z47a
   refine pure_ (i := 15) (N := some 30) (v := _) (a' := _) #[true, true, true, true, true, true, true, true, true, true, true, true, true, true, true, true, false] rfl rfl (any_of HT_.out (by kernel_rfl)) (fun _ _ _ h => h) (Or.inl ⟨by rfl, (by intro w'; go_simp; with_reducible rfl)⟩) z47a ?_
   refine pure_ (i := 16) (N := some 31) (v := _) (a' := _) #[true, true, true, true, true, true, true, true, true, true, true, true, true, true, true, true, true] rfl rfl (any_of HT_.out (by kernel_rfl)) (fun _ _ _ h => h) (Or.inl ⟨by rfl, (by intro w'; go_simp; with_reducible rfl)⟩) z47a ?_
   refine done_ (done_of HT_.out (by kernel_rfl)) ?_
   try go_wp2
   go_roundg k1
   case measure => have := HK1.out; omega
   case rel => exact ⟨(wrap64 (x10_1 + 1)), (by first | rfl | (simp; done) | (simp [*]; done)), H', ⟨by have := HK1.out; omega⟩, ⟨by repeat (first | (with_reducible first | exact HB.out | apply below_alloc | apply pw_below_drewN | apply below_drew1 | refine below_set ?_ GE159.out) | exact HB.out)⟩⟩
   }
   }
   {
   replace c7 := Bool.eq_false_iff.mpr c7
   subst c7
   have H1 : (some false) = some r := by rw [if_neg (show ¬ (false = true) by decide)] at H; exact H
   clear H
   have H := H1
   clear H1
   obtain rfl := Option.some.inj H
   have p158 : 0 ≤ (x10_1 : Int) := of_decide_eq_true z47e
   have q158 : x10_1 < (l0.length : Int) := of_decide_eq_true z47e
   obtain ⟨ad158, e158, hx158_0, hx158_1, hx158_2, hx158_3⟩ := at_T88 HR0.out x10_1 p158 q158
   cases e158
   replace hx158_0 := (HB.out.cell (World.block_lt_of_cell? w _ hx158_0)).trans hx158_0
   replace hx158_1 := (HB.out.cell (World.block_lt_of_cell? w _ hx158_1)).trans hx158_1
   replace hx158_2 := (HB.out.cell (World.block_lt_of_cell? w _ hx158_2)).trans hx158_2
   replace hx158_3 := (HB.out.cell (World.block_lt_of_cell? w _ hx158_3)).trans hx158_3
   replace p158 := eq_true p158
   replace q158 := eq_true q158
   try go_wp2_with (first | ((with_reducible refine gate_dst (N := 4) rfl ?_); refine box_event ?hg (N := 4) ?hd (cs := #[.string (⟨#[]⟩ : ByteArray), .string (⟨#[]⟩ : ByteArray), .int .i64 0, .bool false]) (t := 88) ?hr ?_; (case hd => rfl); (case hg => rfl); (case hr => first | (go_simp; done) | (go_simp; rfl)); intro gb159 hg w31 hbox hb; have n0_ := Aside0.mk (below_step z47b hb); have n1_ := Aside0.mk (hbox); have n2_ := Aside0.mk ((by rw [hg]; exact (below_size z47b) : w.heap.size ≤ gb159)); have n3_ := Aside0.mk ((by rw [hg]; exact (below_size z47b) : w.heap.size ≤ gb159)); clear HB; have HB := n0_; have BK159 := n1_; have GW159 := n2_; have GE159 := n3_; clear n0_ n1_ n2_ n3_; clear hb hbox hg; have hcz32_0 : w31.cell? ⟨gb159, 0, none⟩ = some (.string (⟨#[]⟩ : ByteArray)) := (blk_cell BK159.out 0).trans rfl; have hcz32_1 : w31.cell? ⟨gb159, 1, none⟩ = some (.string (⟨#[]⟩ : ByteArray)) := (blk_cell BK159.out 1).trans rfl; have hcz32_2 : w31.cell? ⟨gb159, 2, none⟩ = some (.int .i64 0) := (blk_cell BK159.out 2).trans rfl; have hcz32_3 : w31.cell? ⟨gb159, 3, none⟩ = some (.bool false) := (blk_cell BK159.out 3).trans rfl; have hfz32_0 := blk_frozen BK159.out 0; have hfz32_1 := blk_frozen BK159.out 1; have hfz32_2 := blk_frozen BK159.out 2; have hfz32_3 := blk_frozen BK159.out 3))
   have n0_ : Aside0 (((((w31.setCell ⟨gb159, 0, none⟩ (.string ((rd_T88 l0 x10_1).f0))).setCell ⟨gb159, 1, none⟩ (.string ((rd_T88 l0 x10_1).f1))).setCell ⟨gb159, 2, none⟩ (.int .i64 ((rd_T88 l0 x10_1).f2))).setCell ⟨gb159, 3, none⟩ (.bool ((rd_T88 l0 x10_1).f3))).heap[gb159]? = some (.cells #[.string ((rd_T88 l0 x10_1).f0), .string ((rd_T88 l0 x10_1).f1), .int .i64 ((rd_T88 l0 x10_1).f2), .bool ((rd_T88 l0 x10_1).f3)] 88 (0, 0))) := ⟨by (with_reducible repeat (first | refine blk_drewN ?_ _ | refine blk_drew ?_ | refine blk_alloc ?_ _)); refine blk_put (cs := #[.string ((rd_T88 l0 x10_1).f0), .string ((rd_T88 l0 x10_1).f1), .int .i64 ((rd_T88 l0 x10_1).f2), .bool false]) ?_ 3 _ rfl; (with_reducible repeat (first | refine blk_drewN ?_ _ | refine blk_drew ?_ | refine blk_alloc ?_ _)); refine blk_put (cs := #[.string ((rd_T88 l0 x10_1).f0), .string ((rd_T88 l0 x10_1).f1), .int .i64 0, .bool false]) ?_ 2 _ rfl; (with_reducible repeat (first | refine blk_drewN ?_ _ | refine blk_drew ?_ | refine blk_alloc ?_ _)); refine blk_put (cs := #[.string ((rd_T88 l0 x10_1).f0), .string (⟨#[]⟩ : ByteArray), .int .i64 0, .bool false]) ?_ 1 _ rfl; (with_reducible repeat (first | refine blk_drewN ?_ _ | refine blk_drew ?_ | refine blk_alloc ?_ _)); refine blk_put (cs := #[.string (⟨#[]⟩ : ByteArray), .string (⟨#[]⟩ : ByteArray), .int .i64 0, .bool false]) ?_ 0 _ rfl; (with_reducible repeat (first | refine blk_drewN ?_ _ | refine blk_drew ?_ | refine blk_alloc ?_ _)); exact BK159.out⟩
   have n1_ : Aside0 (Below w.heap.size w ((((w31.setCell ⟨gb159, 0, none⟩ (.string ((rd_T88 l0 x10_1).f0))).setCell ⟨gb159, 1, none⟩ (.string ((rd_T88 l0 x10_1).f1))).setCell ⟨gb159, 2, none⟩ (.int .i64 ((rd_T88 l0 x10_1).f2))).setCell ⟨gb159, 3, none⟩ (.bool ((rd_T88 l0 x10_1).f3)))) := ⟨by repeat (first | (with_reducible first | exact HB.out | apply below_alloc | apply pw_below_drewN | apply below_drew1 | refine below_set ?_ GE159.out) | exact HB.out)⟩
   (try clear BK159)
   (try clear HB)
   generalize ((((w31.setCell ⟨gb159, 0, none⟩ (.string ((rd_T88 l0 x10_1).f0))).setCell ⟨gb159, 1, none⟩ (.string ((rd_T88 l0 x10_1).f1))).setCell ⟨gb159, 2, none⟩ (.int .i64 ((rd_T88 l0 x10_1).f2))).setCell ⟨gb159, 3, none⟩ (.bool ((rd_T88 l0 x10_1).f3))) = w33 at n0_ n1_ ⊢
   have BK159 := n0_
   have HB := n1_
   clear n0_ n1_
   have n0_ := Aside0.mk (blk_drew BK159.out)
   have n1_ := Aside0.mk (below_drew1 HB.out)
   clear BK159
   clear HB
   have BK159 := n0_
   have HB := n1_
   clear n0_ n1_
   refine start_ (n := 17) (S := fun w' => w'.cell? ⟨gb159, 0, none⟩ = some (.string ((rd_T88 l0 x10_1).f0)) ∧ w'.cell? ⟨gb159, 1, none⟩ = some (.string ((rd_T88 l0 x10_1).f1)) ∧ w'.cell? ⟨gb159, 2, none⟩ = some (.int .i64 ((rd_T88 l0 x10_1).f2)) ∧ w'.cell? ⟨gb159, 3, none⟩ = some (.bool ((rd_T88 l0 x10_1).f3))) (ds := []) #[false, false, false, false, false, false, false, false, false, false, false, false, false, false, false, false, false] (by kernel_rfl) rfl rfl ⟨(blk_cell BK159.out 0).trans rfl, (blk_cell BK159.out 1).trans rfl, (blk_cell BK159.out 2).trans rfl, (blk_cell BK159.out 3).trans rfl⟩ (fun hHeld => ?_); refine with_tabW impl_EntriesOk.tab6 impl_EntriesOk.bits6 (fun HT_ HW_ => ?_)
   generalize w33.drew = w34 at BK159 HB hHeld ⊢
   refine take_ (i := 0) (N := some 15) (v := _) (a' := _) #[true, false, false, false, false, false, false, false, false, false, false, false, false, false, false, false, false] rfl rfl (take_ofW HT_.out HW_.out (by kernel_rfl)) (fun _ _ _ h => h) (Or.inl ⟨by rfl, (by rintro w' ⟨s0, s1, s2, s3⟩; go_simp; with_reducible rfl)⟩) hHeld z47a ?_
   refine one_ (i := 1) (N := some 16) #[true, true, false, false, false, false, false, false, false, false, false, false, false, false, false, false, false] rfl rfl (one_of HT_.out (by kernel_rfl)) (by decide) (fun K hK => ?_)
   refine goes_ Try.func85 (by kernel_rfl) rfl #[.agg #[.string ((rd_T88 l0 x10_1).f0), .string ((rd_T88 l0 x10_1).f1), .int .i64 ((rd_T88 l0 x10_1).f2), .bool ((rd_T88 l0 x10_1).f3)]] (by rfl) rfl rfl z47f ?_
   with_reducible refine (impl_entryOk.calls ((rd_T88 l0 x10_1).f0) ((rd_T88 l0 x10_1).f1) ((rd_T88 l0 x10_1).f2) ((rd_T88 l0 x10_1).f3) false _ A6.out).mono ?_
   rintro e w35 ⟨rfl, hb⟩
   refine ⟨_, rfl, ?_⟩
   have n0_ := Aside0.mk (blk_below (g := gb159) (o := .cells #[.string ((rd_T88 l0 x10_1).f0), .string ((rd_T88 l0 x10_1).f1), .int .i64 ((rd_T88 l0 x10_1).f2), .bool ((rd_T88 l0 x10_1).f3)] 88 (0, 0)) z47d hb)
   have n1_ := Aside0.mk (below_step z47c hb)
   clear BK159
   clear HB
   have BK159 := n0_
   have HB := n1_
   clear n0_ n1_
   (try clear hb)
   (try clear hb2)
   (try clear hk)
   (try clear hi)
   refine hK.out _ _ ⟨(blk_cell BK159.out 0).trans rfl, (blk_cell BK159.out 1).trans rfl, (blk_cell BK159.out 2).trans rfl, (blk_cell BK159.out 3).trans rfl⟩ (fun hHeld => ?_)
   clear hK K
   refine norm_ (a' := ?_) ?_ ?_
   rotate_left
   {
   show Act.put _ (some 16) _ = _
   simp only [Act.put, List.setIfInBounds_toArray, List.set_cons_zero, List.set_cons_succ, i64_w, i32_w]
   rfl
   }
   refine pure_ (i := 2) (N := some 17) (v := _) (a' := _) #[true, true, true, false, false, false, false, false, false, false, false, false, false, false, false, false, false] rfl rfl (any_of HT_.out (by kernel_rfl)) (fun _ _ _ h => h) (Or.inl ⟨by rfl, (by intro w'; go_simp; with_reducible rfl)⟩) z47a ?_
   refine pure_ (i := 3) (N := some 18) (v := _) (a' := _) #[true, true, true, true, false, false, false, false, false, false, false, false, false, false, false, false, false] rfl rfl (any_of HT_.out (by kernel_rfl)) (fun _ _ _ h => h) (Or.inl ⟨by rfl, (by intro w'; go_simp; with_reducible rfl)⟩) z47a ?_
   refine pure_ (i := 4) (N := some 19) (v := undef) (a' := ?_) #[true, true, true, true, true, false, false, false, false, false, false, false, false, false, false, false, false] rfl rfl (any_of HT_.out (by kernel_rfl)) (fun _ _ _ h => h) (Or.inr ⟨by rfl, rfl⟩) ?_ ?_
   rotate_left
   exact z47a
   refine pure_ (i := 5) (N := some 20) (v := undef) (a' := ?_) #[true, true, true, true, true, true, false, false, false, false, false, false, false, false, false, false, false] rfl rfl (any_of HT_.out (by kernel_rfl)) (fun _ _ _ h => h) (Or.inr ⟨by rfl, rfl⟩) ?_ ?_
   rotate_left
   exact z47a
   refine pure_ (i := 6) (N := some 21) (v := undef) (a' := ?_) #[true, true, true, true, true, true, true, false, false, false, false, false, false, false, false, false, false] rfl rfl (any_of HT_.out (by kernel_rfl)) (fun _ _ _ h => h) (Or.inr ⟨by rfl, rfl⟩) ?_ ?_
   rotate_left
   exact z47a
   refine pure_ (i := 7) (N := some 22) (v := undef) (a' := ?_) #[true, true, true, true, true, true, true, true, false, false, false, false, false, false, false, false, false] rfl rfl (any_of HT_.out (by kernel_rfl)) (fun _ _ _ h => h) (Or.inr ⟨by rfl, rfl⟩) ?_ ?_
   rotate_left
   exact z47a
   refine pure_ (i := 8) (N := some 23) (v := undef) (a' := ?_) #[true, true, true, true, true, true, true, true, true, false, false, false, false, false, false, false, false] rfl rfl (any_of HT_.out (by kernel_rfl)) (fun _ _ _ h => h) (Or.inr ⟨by rfl, rfl⟩) ?_ ?_
   rotate_left
   exact z47a
   refine pure_ (i := 9) (N := some 24) (v := undef) (a' := ?_) #[true, true, true, true, true, true, true, true, true, true, false, false, false, false, false, false, false] rfl rfl (any_of HT_.out (by kernel_rfl)) (fun _ _ _ h => h) (Or.inr ⟨by rfl, rfl⟩) ?_ ?_
   rotate_left
   exact z47a
   refine pure_ (i := 10) (N := some 25) (v := undef) (a' := ?_) #[true, true, true, true, true, true, true, true, true, true, true, false, false, false, false, false, false] rfl rfl (any_of HT_.out (by kernel_rfl)) (fun _ _ _ h => h) (Or.inr ⟨by rfl, rfl⟩) ?_ ?_
   rotate_left
   exact z47a
   refine pure_ (i := 11) (N := some 26) (v := undef) (a' := ?_) #[true, true, true, true, true, true, true, true, true, true, true, true, false, false, false, false, false] rfl rfl (any_of HT_.out (by kernel_rfl)) (fun _ _ _ h => h) (Or.inr ⟨by rfl, rfl⟩) ?_ ?_
   rotate_left
   exact z47a
   refine pure_ (i := 12) (N := some 27) (v := undef) (a' := ?_) #[true, true, true, true, true, true, true, true, true, true, true, true, true, false, false, false, false] rfl rfl (any_of HT_.out (by kernel_rfl)) (fun _ _ _ h => h) (Or.inr ⟨by rfl, rfl⟩) ?_ ?_
   rotate_left
   exact z47a
   refine pure_ (i := 13) (N := some 28) (v := undef) (a' := ?_) #[true, true, true, true, true, true, true, true, true, true, true, true, true, true, false, false, false] rfl rfl (any_of HT_.out (by kernel_rfl)) (fun _ _ _ h => h) (Or.inr ⟨by rfl, rfl⟩) ?_ ?_
   rotate_left
   exact z47a
   refine pure_ (i := 14) (N := some 29) (v := undef) (a' := ?_) #[true, true, true, true, true, true, true, true, true, true, true, true, true, true, true, false, false] rfl rfl (any_of HT_.out (by kernel_rfl)) (fun _ _ _ h => h) (Or.inr ⟨by rfl, rfl⟩) ?_ ?_
   rotate_left
   exact z47a
   refine pure_ (i := 15) (N := some 30) (v := undef) (a' := ?_) #[true, true, true, true, true, true, true, true, true, true, true, true, true, true, true, true, false] rfl rfl (any_of HT_.out (by kernel_rfl)) (fun _ _ _ h => h) (Or.inr ⟨by rfl, rfl⟩) ?_ ?_
   rotate_left
   exact z47a
   refine pure_ (i := 16) (N := some 31) (v := _) (a' := _) #[true, true, true, true, true, true, true, true, true, true, true, true, true, true, true, true, true] rfl rfl (any_of HT_.out (by kernel_rfl)) (fun _ _ _ h => h) (Or.inl ⟨by rfl, (by intro w'; go_simp; with_reducible rfl)⟩) z47a ?_
   refine done_ (done_of HT_.out (by kernel_rfl)) ?_
   try go_wp2
   go_ret
   exact ⟨by first | rfl | (simp [errW_none, errW_some] <;> rfl) | (simp [*, errW_none, errW_some] <;> rfl), by repeat (first | (with_reducible first | exact HB.out | apply below_alloc | apply pw_below_drewN | apply below_drew1 | refine below_set ?_ GE159.out) | exact HB.out)⟩
   }
   }
   {
   rw [if_neg c5] at H
   exact absurd H (by simp)
   }
   }
   {
   rw [if_neg c4] at H
   exact absurd H (by simp)
   }
   }
   {
   rw [if_neg c3] at H
   have c3b0 : decide (x10_1 < (l0.length : Int)) = false := decide_eq_false c3
   clear c3
   obtain rfl := Option.some.inj H
   go_wp2
   go_ret
   exact ⟨by first | rfl | (simp [errW_none, errW_some] <;> rfl) | (simp [*, errW_none, errW_some] <;> rfl), by repeat (first | (with_reducible first | exact HB.out | apply below_alloc | apply pw_below_drewN | apply below_drew1) | exact HB.out)⟩
   
   }
 }
-- NOT PRINTED: function 109 (slices_IndexFunc_int64)

-- NOT PRINTED: function 96 (slices_ContainsFunc_int64)

-- NOT PRINTED: function 97 (impl_seens_1)

/-! ### impl_seens: function 73 -/
/-! #### slices.IndexFunc and slices.ContainsFunc at numbers, at whatever predicate that leaves what lay as it was -/
set_option maxHeartbeats 8000000 in
set_option maxRecDepth 100000 in
theorem idx_int (g : Nat) (lb : Array Value) (eg : ∀ args w, (callFunc g args).run Try.prog w = .ok (.enter g args) w) (p : Int → Bool) (A0 : Option Addr) (c0 : Nat) (l : List Int) (w : World) (hr : Kd.C (Kd.int .i64) w A0 l.length l)
    (hp : ∀ (W : World) (x : Int), Below w.heap.size w W → Calls Try.prog g (#[.int .i64 x] ++ lb) W fun e w' => e = .returned (.bool (p x)) ∧ Below w.heap.size w w') :
    Calls Try.prog 109 #[.slice A0 l.length c0, .func (.func g) #[] lb] w fun e w' => e = .returned (.int .i64 (Lib.hit p l 0)) ∧ Below w.heap.size w w' := by
  have hbig : l.length ≤ 9223372036854775807 := hr.2.1
  have HP := Aside0.mk hp
  have HR := Aside0.mk hr
  clear hp hr
  go_enter Try.func109, Try.ntmps109
  go_wp2
  go_loopg [8] l.length (fun gg s8 wr => ∃ kk : Nat, kk ≤ l.length ∧ l.length - kk ≤ gg ∧ s8 = .int .i64 kk ∧ Aside0 (Below w.heap.size w wr) ∧ Aside0 (Lib.hit p (l.drop kk) kk = Lib.hit p l 0))
  case atStart => exact ⟨0, Nat.zero_le _, by omega, rfl, ⟨Below.refl _ w⟩, ⟨by simp⟩⟩
  case round =>
    obtain ⟨kk, hkk, hg, rfl, BW, A⟩ := hrel
    by_cases hlt : kk < l.length
    · have hltz : (kk : Int) < (l.length : Int) := by omega
      obtain ⟨ad, e, hx⟩ := Kd.at_int (Kd.C_below HR.out BW.out) kk (by omega) hltz
      cases e
      simp only [Int.toNat_natCast] at hx
      have hcall := HP.out wr (rd l kk) BW.out
      have HD := Aside0.mk (Lib.hit_drop p 0 l kk hlt)
      have HY : Aside0 (rd l kk = l.getD kk 0) := ⟨rfl⟩
      generalize rd l kk = y at hx hcall HY
      cases hq : p y with
      | true =>
        rw [hq] at hcall
        have HQ := Aside0.mk hq
        clear hq
        go_wp2_with (go_at_fn g; refine hcall.mono ?_; rintro e w' ⟨rfl, hb'⟩)
        go_ret
        refine ⟨?_, hb'⟩
        rw [← A.out, HD.out, if_pos (by rw [← HY.out]; exact HQ.out)]
        rfl
      | false =>
        rw [hq] at hcall
        have HQ := Aside0.mk hq
        clear hq
        go_wp2_with (go_at_fn g; refine hcall.mono ?_; rintro e w' ⟨rfl, hb'⟩)
        go_roundg (l.length - (kk + 1))
        case measure => omega
        case rel => exact ⟨kk + 1, by omega, by omega, by go_num, ⟨hb'⟩, ⟨by rw [← A.out, HD.out, if_neg (by rw [← HY.out, HQ.out]; decide)]; norm_cast⟩⟩
    · have hltz : ¬ (kk : Int) < (l.length : Int) := by omega
      obtain rfl : kk = l.length := by omega
      go_wp2
      go_ret
      refine ⟨?_, BW.out⟩
      rw [← A.out, Lib.hit_end p l _ (Nat.le_refl _)]
      rfl
theorem has_int (g : Nat) (lb : Array Value) (eg : ∀ args w, (callFunc g args).run Try.prog w = .ok (.enter g args) w) (p : Int → Bool) (A0 : Option Addr) (c0 : Nat) (l : List Int) (w : World) (hr : Kd.C (Kd.int .i64) w A0 l.length l)
    (hp : ∀ (W : World) (x : Int), Below w.heap.size w W → Calls Try.prog g (#[.int .i64 x] ++ lb) W fun e w' => e = .returned (.bool (p x)) ∧ Below w.heap.size w w') :
    Calls Try.prog 96 #[.slice A0 l.length c0, .func (.func g) #[] lb] w fun e w' => e = .returned (.bool (l.any p)) ∧ Below w.heap.size w w' := by
  have HP := Aside0.mk hp
  have HR := Aside0.mk hr
  clear hp hr
  go_enter Try.func96, Try.ntmps96
  go_wp2_with (first | (go_at_call 109; refine (idx_int g lb eg p A0 c0 l _ HR.out HP.out).mono ?_; rintro e w' ⟨rfl, hb'⟩))
  go_ret
  refine ⟨?_, hb'⟩
  rw [← Lib.hit_any p l 0 (Int.le_refl 0)]
  rfl


/-! #### the literal that has captured an entry, the list and a place -/
set_option maxHeartbeats 8000000 in
set_option maxRecDepth 100000 in
theorem seens_lit (be bl bi : Nat) (x : S88) (A : Option Addr) (c : Nat) (l : List S88) (k : Nat) (W : World) (he : W.cell? ⟨be, 2, none⟩ = some (.int .i64 x.f2)) (hl : W.cell? ⟨bl, 0, none⟩ = some (.slice A l.length c)) (hi : W.cell? ⟨bi, 0, none⟩ = some (.int .i64 ((k + 1 : Nat) : Int)))
    (hr : Kd.C k88 W A l.length l) (hk : k < l.length) (n : Int) :
    Calls Try.prog 97 (#[.int .i64 n] ++ #[.pointer (some ⟨be, 0, none⟩), .pointer (some ⟨bl, 0, none⟩), .pointer (some ⟨bi, 0, none⟩)]) W fun e w' => e = .returned (.bool (decide (x.f2 ≤ n) && decide (n < (rd_T88 l k).f2))) ∧ Below W.heap.size W w' := by
  have hu := Try.underlying88
  have hbig := hr.2.1
  obtain ⟨ad, e, h0, h1, h2, h3⟩ := at_T88 hr k (by omega) (by omega)
  cases e
  simp only [Int.toNat_natCast] at h0 h1 h2 h3
  generalize rd_T88 l k = y at h0 h1 h2 h3
  clear hr
  have ei : wrap64 (((k + 1 : Nat) : Int) - 1) = (k : Int) := by unfold wrap64; omega
  by_cases g1 : x.f2 ≤ n
  · have g1b : decide (x.f2 ≤ n) = true := decide_eq_true g1
    clear g1
    by_cases g2 : n < y.f2
    · have g2b : decide (n < y.f2) = true := decide_eq_true g2
      clear g2
      rw [show (decide (x.f2 ≤ n) && decide (n < y.f2)) = true by rw [g1b, g2b]; rfl]
      go_enter Try.func97, Try.ntmps97
      go_wp2
      go_ret
      exact ⟨rfl, Below.refl _ _⟩
    · have g2b : decide (n < y.f2) = false := decide_eq_false g2
      clear g2
      rw [show (decide (x.f2 ≤ n) && decide (n < y.f2)) = false by rw [g1b, g2b]; rfl]
      go_enter Try.func97, Try.ntmps97
      go_wp2
      go_ret
      exact ⟨rfl, Below.refl _ _⟩
  · have g1b : decide (x.f2 ≤ n) = false := decide_eq_false g1
    clear g1
    rw [show (decide (x.f2 ≤ n) && decide (n < y.f2)) = false by rw [g1b]; rfl]
    go_enter Try.func97, Try.ntmps97
    go_wp2
    go_ret
    exact ⟨rfl, Below.refl _ _⟩
/-! #### the function -/
theorem blk_after {w w1 : World} {g : Nat} {o : Obj} (h : w.heap[g]? = some o) (hb : Below w.heap.size w w1) : w1.heap[g]? = some o := (hb.block g (blk_lt h)).trans h
theorem two_new (w : World) (o0 o1 : Obj) : ((w.alloc o0).alloc o1).heap[w.heap.size]? = some o0 ∧ ((w.alloc o0).alloc o1).heap[w.heap.size + 1]? = some o1 ∧ Below w.heap.size w ((w.alloc o0).alloc o1) := by
  have e1 : (w.alloc o0).heap.size = w.heap.size + 1 := by simp
  refine ⟨?_, ?_, ((Below.refl _ w).alloc (Nat.le_refl _) _).alloc (by omega) _⟩
  · rw [Below.heap_alloc _ _ _ (by omega)]; exact World.alloc_heap_new w _
  · rw [← e1]; exact World.alloc_heap_new _ _
/-- Is the entry at place i kept. -/
def keepE (l : List S88) (snaps : List Int) (i : Nat) : Bool :=
  i == 0 || ((!((rd_T88 l ((i : Int) - 1)).f0.toList == (rd_T88 l i).f0.toList)) || snaps.any (fun n => decide ((rd_T88 l i).f2 ≤ n) && decide (n < (rd_T88 l ((i : Int) - 1)).f2)))
def seensF (l : List S88) (snaps : List Int) : Nat → Nat → List S88
  | 0, _ => []
  | d + 1, i => if keepE l snaps i = true then rd_T88 l i :: seensF l snaps d (i + 1) else seensF l snaps d (i + 1)
def impl_seens.f (l : List S88) (snaps : List Int) : Option (List S88) := if l.length < 2500000000000 then some (seensF l snaps l.length 0) else none
theorem seensF_length (l : List S88) (snaps : List Int) : ∀ d i, (seensF l snaps d i).length ≤ d
  | 0, _ => Nat.le_refl _
  | d + 1, i => by
    have := seensF_length l snaps d (i + 1)
    rw [seensF]
    split
    · rw [List.length_cons]; omega
    · omega
set_option maxHeartbeats 8000000 in
set_option maxRecDepth 100000 in
theorem impl_seens.calls (A0 : Option Addr) (c0 : Nat) (l0 : List S88) (A1 : Option Addr) (c1 : Nat) (l1 : List Int) (r : List S88) (w : World) (hr0 : Kd.C k88 w A0 l0.length l0) (hc0 : l0.length ≤ c0) (hr1 : Kd.C (Kd.int .i64) w A1 l1.length l1) (hc1 : l1.length ≤ c1) (h : impl_seens.f l0 l1 = some r) :
    Calls Try.prog 73 #[.slice A0 l0.length c0, .slice A1 l1.length c1] w fun e w' => ∃ v0_ : Value, e = .returned (v0_) ∧ Kd.R k88 88 w' w.heap.size (fun _ => True) v0_ r ∧ Below w.heap.size w w' := by
  have hu := Try.underlying88
  have hbig := hr0.2.1
  have HR0 := Aside0.mk hr0
  have HR1 := Aside0.mk hr1
  clear hr0 hr1 hc0 hc1
  unfold impl_seens.f at h
  by_cases hl : l0.length < 2500000000000
  · rw [if_pos hl] at h
    obtain rfl := Option.some.inj h
    have LM := Aside0.mk hl
    clear h hl
    have q0 := Aside0.mk (World.alloc_heap_new w (.cells #[.slice A0 l0.length c0] 50))
    have qb := Aside0.mk (below_alloc (Below.refl w.heap.size w) (.cells #[.slice A0 l0.length c0] 50))
    go_enter Try.func73, Try.ntmps73
    go_wp2_with (first | ((with_reducible refine gate_dst (N := 9) rfl ?_); (try (refine gate_guard (by rfl) ?_; dsimp only)); refine Kd.R_lit k88 _ 88 ?hg (N := 9) ?hd (xs := ([] : List S88)) (inner := []) (ok := fun _ => True) (okp := fun _ => True) ?hr ?hp (fun _ hk => hk) trivial (Below.refl _ _) (Nat.le_refl _) (by simp) ?_; (case hd => rfl); (case hg => rfl); (case hr => first | (go_simp; done) | (go_simp; rfl)); (case hp => exact (Reps.none _ _)); intro v1 w1 ho hb hg_ hnew_; clear hg_ hnew_; have HO := Aside0.mk (Kd.R_lower ho (below_size qb.out)); have B0 := Aside0.mk ((hb.block _ (blk_lt q0.out)).trans q0.out); have BB := Aside0.mk (below_step qb.out hb); clear ho hb; have z0 : w1.cell? ⟨w.heap.size, 0, none⟩ = some (.slice A0 l0.length c0) := (by rw [blk_cell B0.out 0]; rfl)))
    go_loopg [5, 12] l0.length (fun gg v5 v12 wr => ∃ (kk : Nat) (acc : List S88), kk ≤ l0.length ∧ l0.length - kk ≤ gg ∧ v12 = .int .i64 kk ∧ Aside0 (Kd.R k88 88 wr w.heap.size (fun _ => True) v5 acc) ∧ Aside0 (acc.length ≤ kk) ∧ Aside0 (acc ++ seensF l0 l1 (l0.length - kk) kk = seensF l0 l1 l0.length 0) ∧ Aside0 (wr.heap[w.heap.size]? = some (.cells #[.slice A0 l0.length c0] 50 (0, 0))) ∧ Aside0 (Below w.heap.size w wr))
    case atStart => exact ⟨0, [], Nat.zero_le _, by omega, rfl, HO, ⟨Nat.zero_le _⟩, ⟨by simp⟩, B0, BB⟩
    case round =>
      clear z0
      obtain ⟨kk, acc, hkk, hgg, rfl, HO, HN, HE, B0, BB⟩ := hrel
      have z0 : wr.cell? ⟨w.heap.size, 0, none⟩ = some (.slice A0 l0.length c0) := (by rw [blk_cell B0.out 0]; rfl)
      by_cases hlt : kk < l0.length
      · have hltz : (kk : Int) < (l0.length : Int) := by omega
        obtain ⟨ad, e, h0, h1, h2, h3⟩ := at_T88 (Kd.C_below HR0.out BB.out) kk (by omega) hltz
        cases e
        simp only [Int.toNat_natCast] at h0 h1 h2 h3
        obtain ⟨bi, be, bB⟩ := two_new wr (.cells #[.int .i64 kk] 3) (.cells #[.string (rd_T88 l0 kk).f0, .string (rd_T88 l0 kk).f1, .int .i64 (rd_T88 l0 kk).f2, .bool (rd_T88 l0 kk).f3] 88)
        have HO2 := Aside0.mk (Kd.R_below HO.out bB)
        have B2 := Aside0.mk ((bB.block _ (blk_lt B0.out)).trans B0.out)
        have HB2 := Aside0.mk (below_step BB.out bB)
        have BI := Aside0.mk bi
        have BE := Aside0.mk be
        clear bi be bB
        go_wp2
        obtain ⟨W2, hW2⟩ : ∃ W2, (wr.alloc (.cells #[.int .i64 kk] 3)).alloc (.cells #[.string (rd_T88 l0 kk).f0, .string (rd_T88 l0 kk).f1, .int .i64 (rd_T88 l0 kk).f2, .bool (rd_T88 l0 kk).f3] 88) = W2 := ⟨_, rfl⟩
        rw [hW2] at HO2 B2 HB2 BI BE ⊢
        clear hW2 h0 h1 h2 h3 z0
        obtain ⟨y, hy⟩ : ∃ y, rd_T88 l0 kk = y := ⟨_, rfl⟩
        rw [hy] at BE ⊢
        have HY := Aside0.mk hy
        clear hy
        have xi : W2.cell? ⟨wr.heap.size, 0, none⟩ = some (.int .i64 kk) := (by rw [blk_cell BI.out 0]; rfl)
        have e0 : W2.cell? ⟨wr.heap.size + 1, 0, none⟩ = some (.string y.f0) := (by rw [blk_cell BE.out 0]; rfl)
        have e1 : W2.cell? ⟨wr.heap.size + 1, 1, none⟩ = some (.string y.f1) := (by rw [blk_cell BE.out 1]; rfl)
        have e2 : W2.cell? ⟨wr.heap.size + 1, 2, none⟩ = some (.int .i64 y.f2) := (by rw [blk_cell BE.out 2]; rfl)
        have e3 : W2.cell? ⟨wr.heap.size + 1, 3, none⟩ = some (.bool y.f3) := (by rw [blk_cell BE.out 3]; rfl)
        have z2 : W2.cell? ⟨w.heap.size, 0, none⟩ = some (.slice (some ad) l0.length c0) := (by rw [blk_cell B2.out 0]; rfl)
        cases kk with
        | zero =>
          have HK : Aside0 (keepE l0 l1 0 = true) := ⟨rfl⟩
          go_quiet (fail)
          go_wp2_with (first | ((with_reducible refine gate_builtin (b := .append) (xs := #[.tmp 36, .tmp 38]) rfl ?_); (try (refine gate_guard (by rfl) ?_; dsimp only)); at_builtin; refine Kd.R_append k88 (w0 := w) w.heap.size rfl (.tmp 36) (.tmp 38) 50 88 (.agg #[(.string ⟨#[]⟩), (.string ⟨#[]⟩), (.int .i64 0), (.bool false)]) 48 rfl Try.underlying50 info88 rfl (by decide) (by omega) u5 acc y [.string y.f0, .string y.f1, .int .i64 y.f2, .bool y.f3] (fun _ => True) (fun _ => False) rfl rfl ?aP (fun _ hk => hk.elim) ?aF ?aO ?aB ?aS ?aL ?_; (case aP => exact k88_mkM _ _ _ y); (case aF => exact fun _ _ => trivial); (case aO => exact Kd.R_drewN HO2.out nq); (case aB => exact pw_below_drewN HB2.out nq); (case aS => exact below_size (pw_below_drewN HB2.out nq)); (case aL => have := LM.out; have := HN.out; omega); intro v6 w6 ho hb hg hat; have HO6 := Aside0.mk ho; have HB6 := Aside0.mk hb; have B06 := Aside0.mk (blk_grown (show (World.drewN W2 nq).heap[w.heap.size]? = some (.cells #[.slice (some ad) l0.length c0] 50 (0, 0)) from B2.out) hg (Kd.R_ne (Kd.R_drewN HO2.out nq) (show (World.drewN W2 nq).heap[w.heap.size]? = some (.cells #[.slice (some ad) l0.length c0] 50 (0, 0)) from B2.out) (by decide))); clear ho hb hg hat))
          go_roundg (l0.length - (0 + 1))
          case measure => omega
          case rel => exact ⟨0 + 1, acc ++ [y], by omega, by omega, by go_num, HO6, ⟨by have := HN.out; rw [List.length_append, List.length_singleton]; omega⟩, ⟨by rw [← HE.out, List.append_assoc, show l0.length - 0 = (l0.length - (0 + 1)) + 1 by omega, seensF, if_pos HK.out, HY.out]; rfl⟩, B06, HB6⟩
        | succ k =>
          obtain ⟨ad', e', g0, g1, g2, g3⟩ := at_T88 (Kd.C_below HR0.out HB2.out) k (by omega) (by omega)
          cases e'
          simp only [Int.toNat_natCast] at g0 g1 g2 g3
          obtain ⟨x, hx⟩ : ∃ x, rd_T88 l0 k = x := ⟨_, rfl⟩
          rw [hx] at g0 g1 g2 g3
          have HX := Aside0.mk hx
          clear hx
          have ei : wrap64 (((k + 1 : Nat) : Int) - 1) = (k : Int) := by unfold wrap64; omega
          have ej : (((k + 1 : Nat) : Int) - 1) = (k : Int) := by omega
          have en : (((k + 1 : Nat) : Int) == 0) = false := beq_eq_false_iff_ne.mpr (by omega)
          have en2 : ((((k : Nat) : Int) + 1) == 0) = false := beq_eq_false_iff_ne.mpr (by omega)
          have HKD : Aside0 (keepE l0 l1 (k + 1) = ((!(x.f0.toList == y.f0.toList)) || l1.any (fun n => decide (y.f2 ≤ n) && decide (n < x.f2)))) := ⟨by
            have a1 : (((k + 1 : Nat) : Int) - 1) = (k : Int) := by omega
            unfold keepE
            rw [a1, HX.out, HY.out]
            simp⟩
          have EI := Aside0.mk ei
          have EJ := Aside0.mk ej
          by_cases hs : x.f0.toList = y.f0.toList
          · have hsb : (x.f0.toList == y.f0.toList) = true := beq_iff_eq.mpr hs
            have hsc : (x.f0.toList != y.f0.toList) = false := bne_eq_false_iff_eq.mpr hs
            have HS := Aside0.mk hs
            clear hs
            have HQ : Aside0 (∀ (nd : Nat) (W : World) (n : Int), Below (World.drewN W2 nd).heap.size (World.drewN W2 nd) W → Calls Try.prog 97 (#[.int .i64 n] ++ #[.pointer (some ⟨wr.heap.size + 1, 0, none⟩), .pointer (some ⟨w.heap.size, 0, none⟩), .pointer (some ⟨wr.heap.size, 0, none⟩)]) W fun e w' => e = .returned (.bool (decide (y.f2 ≤ n) && decide (n < x.f2))) ∧ Below (World.drewN W2 nd).heap.size (World.drewN W2 nd) w') := by
              refine ⟨fun nd W n hb => ?_⟩
              have hk := seens_lit (wr.heap.size + 1) w.heap.size wr.heap.size y (some ad) c0 l0 k W (by rw [blk_cell (blk_after (w := World.drewN W2 nd) BE.out hb) 2]; rfl) (by rw [blk_cell (blk_after (w := World.drewN W2 nd) B2.out hb) 0]; rfl) (by rw [blk_cell (blk_after (w := World.drewN W2 nd) BI.out hb) 0]; rfl) (Kd.C_below HR0.out (below_step (pw_below_drewN HB2.out nd) hb)) (by omega) n
              rw [HX.out] at hk
              exact hk.mono (fun e w' hh => ⟨hh.1, below_step hb hh.2⟩)
            obtain ⟨b, hb⟩ : ∃ b, l1.any (fun n => decide (y.f2 ≤ n) && decide (n < x.f2)) = b := ⟨_, rfl⟩
            have HH := Aside0.mk hb
            clear hb
            have HK : Aside0 (keepE l0 l1 (k + 1) = b) := ⟨by rw [HKD.out, hsb, HH.out]; rfl⟩
            go_quiet (fail)
            cases b with
            | true =>
              go_wp2_with (first | (go_at_call 96; refine (has_int 97 #[.pointer (some ⟨wr.heap.size + 1, 0, none⟩), .pointer (some ⟨w.heap.size, 0, none⟩), .pointer (some ⟨wr.heap.size, 0, none⟩)] (enters_of Try.func97 (by kernel_rfl) rfl) (fun n => decide (y.f2 ≤ n) && decide (n < x.f2)) A1 c1 l1 _ (Kd.C_below HR1.out (pw_below_drewN HB2.out nq)) (HQ.out nq)).mono ?_; rw [HH.out]; rintro e w3 ⟨rfl, hb⟩; have HO3 := Aside0.mk (Kd.R_below (Kd.R_drewN HO2.out nq) hb); have B3 := Aside0.mk (blk_after (w := World.drewN W2 nq) B2.out hb); have HB3 := Aside0.mk (below_step (pw_below_drewN HB2.out nq) hb); have BE3 := Aside0.mk (blk_after (w := World.drewN W2 nq) BE.out hb); clear hb; have f0 : w3.cell? ⟨wr.heap.size + 1, 0, none⟩ = some (.string y.f0) := (by rw [blk_cell BE3.out 0]; rfl); have f1 : w3.cell? ⟨wr.heap.size + 1, 1, none⟩ = some (.string y.f1) := (by rw [blk_cell BE3.out 1]; rfl); have f2 : w3.cell? ⟨wr.heap.size + 1, 2, none⟩ = some (.int .i64 y.f2) := (by rw [blk_cell BE3.out 2]; rfl); have f3 : w3.cell? ⟨wr.heap.size + 1, 3, none⟩ = some (.bool y.f3) := (by rw [blk_cell BE3.out 3]; rfl)) | ((with_reducible refine gate_builtin (b := .append) (xs := #[.tmp 36, .tmp 38]) rfl ?_); (try (refine gate_guard (by rfl) ?_; dsimp only)); at_builtin; refine Kd.R_append k88 (w0 := w) w.heap.size rfl (.tmp 36) (.tmp 38) 50 88 (.agg #[(.string ⟨#[]⟩), (.string ⟨#[]⟩), (.int .i64 0), (.bool false)]) 48 rfl Try.underlying50 info88 rfl (by decide) (by omega) u5 acc y [.string y.f0, .string y.f1, .int .i64 y.f2, .bool y.f3] (fun _ => True) (fun _ => False) rfl rfl ?aP (fun _ hk => hk.elim) ?aF ?aO ?aB ?aS ?aL ?_; (case aP => exact k88_mkM _ _ _ y); (case aF => exact fun _ _ => trivial); (case aO => exact HO3.out); (case aB => exact HB3.out); (case aS => exact below_size (HB3.out)); (case aL => have := LM.out; have := HN.out; omega); intro v6 w6 ho hb hg hat; have HO6 := Aside0.mk ho; have HB6 := Aside0.mk hb; have B06 := Aside0.mk (blk_grown (B3.out) hg (Kd.R_ne (HO3.out) (B3.out) (by decide))); clear ho hb hg hat))
              go_roundg (l0.length - ((k + 1) + 1))
              case measure => omega
              case rel => exact ⟨(k + 1) + 1, acc ++ [y], by omega, by omega, by go_num, HO6, ⟨by have := HN.out; rw [List.length_append, List.length_singleton]; omega⟩, ⟨by rw [← HE.out, List.append_assoc, show l0.length - (k + 1) = (l0.length - (k + 1 + 1)) + 1 by omega, seensF, if_pos HK.out, HY.out]; rfl⟩, B06, HB6⟩
            | false =>
              go_wp2_with (first | (go_at_call 96; refine (has_int 97 #[.pointer (some ⟨wr.heap.size + 1, 0, none⟩), .pointer (some ⟨w.heap.size, 0, none⟩), .pointer (some ⟨wr.heap.size, 0, none⟩)] (enters_of Try.func97 (by kernel_rfl) rfl) (fun n => decide (y.f2 ≤ n) && decide (n < x.f2)) A1 c1 l1 _ (Kd.C_below HR1.out (pw_below_drewN HB2.out nq)) (HQ.out nq)).mono ?_; rw [HH.out]; rintro e w3 ⟨rfl, hb⟩; have HO3 := Aside0.mk (Kd.R_below (Kd.R_drewN HO2.out nq) hb); have B3 := Aside0.mk (blk_after (w := World.drewN W2 nq) B2.out hb); have HB3 := Aside0.mk (below_step (pw_below_drewN HB2.out nq) hb); have BE3 := Aside0.mk (blk_after (w := World.drewN W2 nq) BE.out hb); clear hb; have f0 : w3.cell? ⟨wr.heap.size + 1, 0, none⟩ = some (.string y.f0) := (by rw [blk_cell BE3.out 0]; rfl); have f1 : w3.cell? ⟨wr.heap.size + 1, 1, none⟩ = some (.string y.f1) := (by rw [blk_cell BE3.out 1]; rfl); have f2 : w3.cell? ⟨wr.heap.size + 1, 2, none⟩ = some (.int .i64 y.f2) := (by rw [blk_cell BE3.out 2]; rfl); have f3 : w3.cell? ⟨wr.heap.size + 1, 3, none⟩ = some (.bool y.f3) := (by rw [blk_cell BE3.out 3]; rfl)))
              go_roundg (l0.length - ((k + 1) + 1))
              case measure => omega
              case rel => exact ⟨(k + 1) + 1, acc, by omega, by omega, by go_num, HO3, ⟨by have := HN.out; omega⟩, ⟨by rw [← HE.out, show l0.length - (k + 1) = (l0.length - (k + 1 + 1)) + 1 by omega, seensF, if_neg (by rw [HK.out]; decide)]⟩, B3, HB3⟩
          · have hsb : (x.f0.toList == y.f0.toList) = false := beq_eq_false_iff_ne.mpr hs
            have hsc : (x.f0.toList != y.f0.toList) = true := bne_iff_ne.mpr hs
            clear hs
            have HK : Aside0 (keepE l0 l1 (k + 1) = true) := ⟨by rw [HKD.out, hsb]; rfl⟩
            go_quiet (fail)
            go_wp2_with (first | ((with_reducible refine gate_builtin (b := .append) (xs := #[.tmp 36, .tmp 38]) rfl ?_); (try (refine gate_guard (by rfl) ?_; dsimp only)); at_builtin; refine Kd.R_append k88 (w0 := w) w.heap.size rfl (.tmp 36) (.tmp 38) 50 88 (.agg #[(.string ⟨#[]⟩), (.string ⟨#[]⟩), (.int .i64 0), (.bool false)]) 48 rfl Try.underlying50 info88 rfl (by decide) (by omega) u5 acc y [.string y.f0, .string y.f1, .int .i64 y.f2, .bool y.f3] (fun _ => True) (fun _ => False) rfl rfl ?aP (fun _ hk => hk.elim) ?aF ?aO ?aB ?aS ?aL ?_; (case aP => exact k88_mkM _ _ _ y); (case aF => exact fun _ _ => trivial); (case aO => exact Kd.R_drewN HO2.out nq); (case aB => exact pw_below_drewN HB2.out nq); (case aS => exact below_size (pw_below_drewN HB2.out nq)); (case aL => have := LM.out; have := HN.out; omega); intro v6 w6 ho hb hg hat; have HO6 := Aside0.mk ho; have HB6 := Aside0.mk hb; have B06 := Aside0.mk (blk_grown (show (World.drewN W2 nq).heap[w.heap.size]? = some (.cells #[.slice (some ad) l0.length c0] 50 (0, 0)) from B2.out) hg (Kd.R_ne (Kd.R_drewN HO2.out nq) (show (World.drewN W2 nq).heap[w.heap.size]? = some (.cells #[.slice (some ad) l0.length c0] 50 (0, 0)) from B2.out) (by decide))); clear ho hb hg hat))
            go_roundg (l0.length - ((k + 1) + 1))
            case measure => omega
            case rel => exact ⟨(k + 1) + 1, acc ++ [y], by omega, by omega, by go_num, HO6, ⟨by have := HN.out; rw [List.length_append, List.length_singleton]; omega⟩, ⟨by rw [← HE.out, List.append_assoc, show l0.length - (k + 1) = (l0.length - (k + 1 + 1)) + 1 by omega, seensF, if_pos HK.out, HY.out]; rfl⟩, B06, HB6⟩
      · have hltz : ¬ (kk : Int) < (l0.length : Int) := by omega
        obtain rfl : kk = l0.length := by omega
        have HE2 : Aside0 (acc = seensF l0 l1 l0.length 0) := ⟨by have := HE.out; rw [Nat.sub_self, seensF, List.append_nil] at this; exact this⟩
        go_wp2
        go_ret
        exact ⟨_, rfl, by rw [← HE2.out]; exact HO.out, BB.out⟩
  · rw [if_neg hl] at h; cases h

end Go.Proofs.Ytajidjlbgpaaoaa.PFnSeens

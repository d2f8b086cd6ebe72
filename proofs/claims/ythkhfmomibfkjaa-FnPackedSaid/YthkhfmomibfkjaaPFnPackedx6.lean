-- by a program of this session (wip/print/run.py) for this claim
import Derived.Test.YthkhfmomibfkjaaLibPu
import Derived.Test.YthkhfmomibfkjaaPFnPackedx0
import Derived.Test.YthkhfmomibfkjaaPFnPackedx4
import Derived.Test.YthkhfmomibfkjaaPFnPackedx5
namespace Go.Proofs.Ythkhfmomibfkjaa.PFnPacked
open Go.Proofs.Ythkhfmomibfkjaa.Lib Go.RowKit Go.Proofs.YthkhfmomibfkjaaW.PrintWords Go.Proofs.YthkhfmomibfkjaaW.PrintLast Go.Proofs.YthkhfmomibfkjaaW.PrintMore
attribute [local go_sem] max2_int min2_int max_two min_two max_three min_three max_four min_four   -- for this text's walks alone
set_option linter.unusedVariables false
set_option linter.unusedSimpArgs false

theorem z39a {p_ : Prop} (h_ : p_ := by simp only [Act.put, List.setIfInBounds_toArray, List.set_cons_zero, List.set_cons_succ, i64_w, i32_w]; rfl) : p_ := h_
theorem z39b {p_ : Prop} (h_ : p_ := by repeat (first | (with_reducible first | exact HB.out | apply below_alloc | apply pw_below_drewN | apply below_drew1) | exact HB.out)) : p_ := h_
theorem z39c {p_ : Prop} (h_ : p_ := by repeat (first | (with_reducible first | exact HB.out | apply below_alloc | apply pw_below_drewN | apply below_drew1 | refine below_set ?_ GE182.out) | exact HB.out)) : p_ := h_
theorem z39d {p_ : Prop} (h_ : p_ := by (with_reducible repeat (first | refine blk_drewN ?_ _ | refine blk_drew ?_ | refine blk_alloc ?_ _)); exact BK182.out) : p_ := h_
theorem z39e {p_ : Prop} (h_ : p_ := by first | (with_reducible assumption) | assumption) : p_ := h_
theorem z39f {p_ : Prop} (h_ : p_ := by (try simp only [List.map_toArray, List.map_cons, List.map_nil]); first | done | rfl | (simp only [List.length_drop, List.length_take]; rfl)) : p_ := h_
def impl_EntriesOk.l0 : Nat → List (S49) → List (S49) → Int → Int → Option (Bool)
 | 0, _, _, _, _ => none
 | k + 1, x0, x8, x9, x10 => if x10 < x9 then (if 0 ≤ x10 then (if x10 < (x8.length : Int) then ((impl_entryOk.f ((rd_T49 x8 x10).f0) ((rd_T49 x8 x10).f1) ((rd_T49 x8 x10).f2) ((rd_T49 x8 x10).f3)).bind fun t183 => (if t183 = true then (if x10 > 0 then (if 0 ≤ (wrap64 (x10 - 1)) then (if (wrap64 (x10 - 1)) < (x0.length : Int) then ((impl_byOrder.f k ((rd_T49 x0 (wrap64 (x10 - 1))).f0) ((rd_T49 x0 (wrap64 (x10 - 1))).f1) ((rd_T49 x0 (wrap64 (x10 - 1))).f2) ((rd_T49 x0 (wrap64 (x10 - 1))).f3) ((rd_T49 x8 x10).f0) ((rd_T49 x8 x10).f1) ((rd_T49 x8 x10).f2) ((rd_T49 x8 x10).f3)).bind fun t185 => (if t185 ≥ 0 then (some false) else (impl_EntriesOk.l0 k x0 x8 x9 (wrap64 (x10 + 1))))) else (none)) else (none)) else (impl_EntriesOk.l0 k x0 x8 x9 (wrap64 (x10 + 1)))) else (some false))) else (none)) else (none)) else (some true)
def impl_EntriesOk.f (k : Nat) (l0 : List (S49)) : Option (Bool) := if (l0.length : Int) > 300 then (some false) else (impl_EntriesOk.l0 k l0 l0 (l0.length : Int) 0)
def impl_EntriesOk.T6 : Bool × List (List Nat × List Nat) := (true, [([], []), ([0], [0]), ([1], [1]), ([2, 1], [2]), ([3], [3]), ([4, 3], [3, 4]), ([5, 3, 3], [3, 5]), ([6], [6]), ([6], [6]), ([8, 6], [6, 8]), ([7, 9, 6], [6, 7, 9]), ([10, 6], [6, 10]), ([6], [6]), ([11, 12, 6, 6], [6, 11, 12]), ([13, 6], [6, 13]), ([6, 14, 3], [3, 6, 14]), ([3, 15], [3, 15])])
def impl_EntriesOk.B6 : List Nat := [0, 1, 3, 7, 15, 31, 63, 127, 127, 383, 1023, 2047, 127, 8191, 16383, 32767, 65535]
theorem impl_EntriesOk.tab6 : rtab .any (opsOf Try.f39 6) = impl_EntriesOk.T6 := by kernel_rfl
theorem impl_EntriesOk.bits6 : waitsOk impl_EntriesOk.T6.2 impl_EntriesOk.B6 = true := by kernel_rfl
set_option maxHeartbeats 8000000 in
set_option maxRecDepth 100000 in
theorem impl_EntriesOk.calls (k : Nat) (A0 : Option Addr) (c0 : Nat) (l0 : List (S49)) (r : Bool) (w : World) (hr0 : Kd.C k49 w A0 l0.length l0) (hc0 : l0.length ≤ c0) (h : impl_EntriesOk.f k l0 = some r) :
  Calls Try.prog 39 #[.slice A0 l0.length c0] w fun e w' => e = .returned (.bool r) ∧ Below w.heap.size w w' := by
 have hu49 := Try.underlying49
 have HR0 := A_ hr0
 have HC0 := A_ hc0
 clear hr0 hc0
 have HB := A_ (Below.refl w.heap.size w)
 have H : (if (l0.length : Int) > 300 then (some false) else (impl_EntriesOk.l0 k l0 l0 (l0.length : Int) 0)) = some r := h
 clear h
 by_cases c2 : (l0.length : Int) > 300
 {
 rw [if_pos c2] at H
 have c2b0 : decide (300 < (l0.length : Int)) = true := decide_eq_true c2
 have c2b1 : decide (300 < l0.length) = true := decide_eq_true (by omega)
 clear c2
 obtain rfl := Option.some.inj H
 go_enter Try.func39, Try.ntmps39
 go_wp2
 go_ret
 exact ⟨by first | rfl | (simp [errW_none, errW_some] <;> rfl) | (simp [*, errW_none, errW_some] <;> rfl), by repeat (first | (with_reducible first | exact HB.out | apply below_alloc | apply pw_below_drewN | apply below_drew1) | exact HB.out)⟩
 }
 {
 rw [if_neg c2] at H
 have c2b0 : decide (300 < (l0.length : Int)) = false := decide_eq_false c2
 have c2b1 : decide (300 < l0.length) = false := decide_eq_false (by omega)
 clear c2
 have H' := A_ H
 clear H
 go_enter Try.func39, Try.ntmps39
 go_wp2
 go_loopg [10] k (fun kq v10 w' => ∃ (x10_1 : Int), v10 = .int .i64 x10_1 ∧ Aside0 (impl_EntriesOk.l0 kq l0 l0 (l0.length : Int) x10_1 = some r) ∧ Aside0 (kq ≤ k) ∧ Aside0 (Below w.heap.size w w'))
 case atStart => exact ⟨(0), (by first | rfl | (simp; done) | (simp [*]; done)), H', ⟨Nat.le_refl _⟩, ⟨by repeat (first | (with_reducible first | exact HB.out | apply below_alloc | apply pw_below_drewN | apply below_drew1) | exact HB.out)⟩⟩
 case round =>
  clear H'
  try clear c2
  try clear c2b0
  try clear c2b1
  try clear p2
  obtain ⟨x10_1, rfl, HA, HK1, HB⟩ := hrel
  cases gk with
  | zero => exact absurd HA.out (by simp [impl_EntriesOk.l0])
  | succ k1 =>
   have H := HA.out
   clear HA
   simp only [impl_EntriesOk.l0] at H
   by_cases c3 : x10_1 < (l0.length : Int)
   {
   rw [if_pos c3] at H
   have c3b0 : decide (x10_1 < (l0.length : Int)) = true := decide_eq_true c3
   clear c3
   by_cases c4 : 0 ≤ x10_1
   {
   rw [if_pos c4] at H
   have c4b0 : decide (0 ≤ x10_1) = true := decide_eq_true c4
   clear c4
   by_cases c5 : x10_1 < (l0.length : Int)
   {
   rw [if_pos c5] at H
   have c5b0 : decide (x10_1 < (l0.length : Int)) = true := decide_eq_true c5
   clear c5
   replace H := Option.bind_eq_some_iff.mp H
   obtain ⟨t183, A60, H⟩ := H
   (try dsimp only at H)
   have A6 := A_ A60
   clear A60
   by_cases c7 : t183 = true
   {
   subst c7
   rw [if_pos rfl] at H
   by_cases c8 : x10_1 > 0
   {
   rw [if_pos c8] at H
   have c8b0 : decide (0 < x10_1) = true := decide_eq_true c8
   clear c8
   obtain ⟨ji9, hji9⟩ : ∃ j_ : Int, (wrap64 (x10_1 - 1)) = j_ := ⟨_, rfl⟩
   replace H : (if 0 ≤ (ji9) then (if (ji9) < (l0.length : Int) then ((impl_byOrder.f k1 ((rd_T49 l0 (ji9)).f0) ((rd_T49 l0 (ji9)).f1) ((rd_T49 l0 (ji9)).f2) ((rd_T49 l0 (ji9)).f3) ((rd_T49 l0 x10_1).f0) ((rd_T49 l0 x10_1).f1) ((rd_T49 l0 x10_1).f2) ((rd_T49 l0 x10_1).f3)).bind fun t185 => (if t185 ≥ 0 then (some false) else (impl_EntriesOk.l0 k1 l0 l0 (l0.length : Int) (wrap64 (x10_1 + 1))))) else (none)) else (none)) = some r := by first | (rw [hji9] at H; exact H) | (simp only [hji9] at H ⊢; exact H)
   (try rw [hji9])
   (try rw [hji9] at A6)
   have hji9w : (IntKind.i64.wrap (x10_1 - 1)) = ji9 := (i64_w _).trans hji9
   by_cases c10 : 0 ≤ (ji9)
   {
   rw [if_pos c10] at H
   have c10b0 : decide (0 ≤ (ji9)) = true := decide_eq_true c10
   clear c10
   by_cases c11 : (ji9) < (l0.length : Int)
   {
   rw [if_pos c11] at H
   have c11b0 : decide ((ji9) < (l0.length : Int)) = true := decide_eq_true c11
   clear c11
   replace H := Option.bind_eq_some_iff.mp H
   obtain ⟨t185, A120, H⟩ := H
   (try dsimp only at H)
   have A12 := A_ A120
   clear A120
   by_cases c13 : t185 ≥ 0
   {
   rw [if_pos c13] at H
   have c13b0 : decide (0 ≤ t185) = true := decide_eq_true c13
   clear c13
   obtain rfl := Option.some.inj H
   have p181 : 0 ≤ (x10_1 : Int) := of_decide_eq_true z39e
   have q181 : x10_1 < (l0.length : Int) := of_decide_eq_true z39e
   obtain ⟨ad181, e181, hx181_0, hx181_1, hx181_2, hx181_3⟩ := at_T49 HR0.out x10_1 p181 q181
   cases e181
   replace hx181_0 := (HB.out.cell (World.block_lt_of_cell? w _ hx181_0)).trans hx181_0
   replace hx181_1 := (HB.out.cell (World.block_lt_of_cell? w _ hx181_1)).trans hx181_1
   replace hx181_2 := (HB.out.cell (World.block_lt_of_cell? w _ hx181_2)).trans hx181_2
   replace hx181_3 := (HB.out.cell (World.block_lt_of_cell? w _ hx181_3)).trans hx181_3
   replace p181 := eq_true p181
   replace q181 := eq_true q181
   try go_wp2_with (first | ((with_reducible refine gate_dst (N := 4) rfl ?_); refine box_event ?hg (N := 4) ?hd (cs := #[.string (⟨#[]⟩ : ByteArray), .string (⟨#[]⟩ : ByteArray), .int .i64 0, .bool false]) (t := 49) ?hr ?_; (case hd => rfl); (case hg => rfl); (case hr => first | (go_simp; done) | (go_simp; rfl)); intro gb182 hg w14 hbox hb; have n0_ := A_ (below_step z39b hb); have n1_ := A_ (hbox); have n2_ := A_ ((by rw [hg]; exact (below_size z39b) : w.heap.size ≤ gb182)); have n3_ := A_ ((by rw [hg]; exact (below_size z39b) : w.heap.size ≤ gb182)); clear HB; have HB := n0_; have BK182 := n1_; have GW182 := n2_; have GE182 := n3_; clear n0_ n1_ n2_ n3_; clear hb hbox hg; have hcz15_0 : w14.cell? ⟨gb182, 0, none⟩ = some (.string (⟨#[]⟩ : ByteArray)) := (blk_cell BK182.out 0).trans rfl; have hcz15_1 : w14.cell? ⟨gb182, 1, none⟩ = some (.string (⟨#[]⟩ : ByteArray)) := (blk_cell BK182.out 1).trans rfl; have hcz15_2 : w14.cell? ⟨gb182, 2, none⟩ = some (.int .i64 0) := (blk_cell BK182.out 2).trans rfl; have hcz15_3 : w14.cell? ⟨gb182, 3, none⟩ = some (.bool false) := (blk_cell BK182.out 3).trans rfl; have hfz15_0 := blk_frozen BK182.out 0; have hfz15_1 := blk_frozen BK182.out 1; have hfz15_2 := blk_frozen BK182.out 2; have hfz15_3 := blk_frozen BK182.out 3))
   have n0_ : Aside0 (((((w14.setCell ⟨gb182, 0, none⟩ (.string ((rd_T49 l0 x10_1).f0))).setCell ⟨gb182, 1, none⟩ (.string ((rd_T49 l0 x10_1).f1))).setCell ⟨gb182, 2, none⟩ (.int .i64 ((rd_T49 l0 x10_1).f2))).setCell ⟨gb182, 3, none⟩ (.bool ((rd_T49 l0 x10_1).f3))).heap[gb182]? = some (.cells #[.string ((rd_T49 l0 x10_1).f0), .string ((rd_T49 l0 x10_1).f1), .int .i64 ((rd_T49 l0 x10_1).f2), .bool ((rd_T49 l0 x10_1).f3)] 49 (0, 0))) := ⟨by (with_reducible repeat (first | refine blk_drewN ?_ _ | refine blk_drew ?_ | refine blk_alloc ?_ _)); refine blk_put (cs := #[.string ((rd_T49 l0 x10_1).f0), .string ((rd_T49 l0 x10_1).f1), .int .i64 ((rd_T49 l0 x10_1).f2), .bool false]) ?_ 3 _ rfl; (with_reducible repeat (first | refine blk_drewN ?_ _ | refine blk_drew ?_ | refine blk_alloc ?_ _)); refine blk_put (cs := #[.string ((rd_T49 l0 x10_1).f0), .string ((rd_T49 l0 x10_1).f1), .int .i64 0, .bool false]) ?_ 2 _ rfl; (with_reducible repeat (first | refine blk_drewN ?_ _ | refine blk_drew ?_ | refine blk_alloc ?_ _)); refine blk_put (cs := #[.string ((rd_T49 l0 x10_1).f0), .string (⟨#[]⟩ : ByteArray), .int .i64 0, .bool false]) ?_ 1 _ rfl; (with_reducible repeat (first | refine blk_drewN ?_ _ | refine blk_drew ?_ | refine blk_alloc ?_ _)); refine blk_put (cs := #[.string (⟨#[]⟩ : ByteArray), .string (⟨#[]⟩ : ByteArray), .int .i64 0, .bool false]) ?_ 0 _ rfl; (with_reducible repeat (first | refine blk_drewN ?_ _ | refine blk_drew ?_ | refine blk_alloc ?_ _)); exact BK182.out⟩
   have n1_ : Aside0 (Below w.heap.size w ((((w14.setCell ⟨gb182, 0, none⟩ (.string ((rd_T49 l0 x10_1).f0))).setCell ⟨gb182, 1, none⟩ (.string ((rd_T49 l0 x10_1).f1))).setCell ⟨gb182, 2, none⟩ (.int .i64 ((rd_T49 l0 x10_1).f2))).setCell ⟨gb182, 3, none⟩ (.bool ((rd_T49 l0 x10_1).f3)))) := ⟨by repeat (first | (with_reducible first | exact HB.out | apply below_alloc | apply pw_below_drewN | apply below_drew1 | refine below_set ?_ GE182.out) | exact HB.out)⟩
   (try clear BK182)
   (try clear HB)
   generalize ((((w14.setCell ⟨gb182, 0, none⟩ (.string ((rd_T49 l0 x10_1).f0))).setCell ⟨gb182, 1, none⟩ (.string ((rd_T49 l0 x10_1).f1))).setCell ⟨gb182, 2, none⟩ (.int .i64 ((rd_T49 l0 x10_1).f2))).setCell ⟨gb182, 3, none⟩ (.bool ((rd_T49 l0 x10_1).f3))) = w16 at n0_ n1_ ⊢
   have BK182 := n0_
   have HB := n1_
   clear n0_ n1_
   replace BK182 := A_ (blk_drew BK182.out)
   replace HB := A_ (below_drew1 HB.out)
   have p184 : 0 ≤ ((ji9) : Int) := of_decide_eq_true z39e
   have q184 : (ji9) < (l0.length : Int) := of_decide_eq_true z39e
   obtain ⟨ad184, e184, hx184_0, hx184_1, hx184_2, hx184_3⟩ := at_T49 HR0.out (ji9) p184 q184
   have hw184_3 := hx184_3
   have hw184_2 := hx184_2
   have hw184_1 := hx184_1
   have hw184_0 := hx184_0
   obtain rfl : ad181 = ad184 := (by injection e184)
   replace hx184_0 := (HB.out.cell (World.block_lt_of_cell? w _ hx184_0)).trans hx184_0
   replace hx184_1 := (HB.out.cell (World.block_lt_of_cell? w _ hx184_1)).trans hx184_1
   replace hx184_2 := (HB.out.cell (World.block_lt_of_cell? w _ hx184_2)).trans hx184_2
   replace hx184_3 := (HB.out.cell (World.block_lt_of_cell? w _ hx184_3)).trans hx184_3
   replace p184 := eq_true p184
   replace q184 := eq_true q184
   refine start_ (n := 17) (S := fun w' => w'.cell? ⟨gb182, 0, none⟩ = some (.string ((rd_T49 l0 x10_1).f0)) ∧ w'.cell? ⟨gb182, 1, none⟩ = some (.string ((rd_T49 l0 x10_1).f1)) ∧ w'.cell? ⟨gb182, 2, none⟩ = some (.int .i64 ((rd_T49 l0 x10_1).f2)) ∧ w'.cell? ⟨gb182, 3, none⟩ = some (.bool ((rd_T49 l0 x10_1).f3)) ∧ w'.cell? (ad181.add (((ji9)).toNat * 4)) = some (.string ((rd_T49 l0 (ji9)).f0)) ∧ w'.cell? ⟨(ad181.add (((ji9)).toNat * 4)).block, (ad181.add (((ji9)).toNat * 4)).off + 1, none⟩ = some (.string ((rd_T49 l0 (ji9)).f1)) ∧ w'.cell? ⟨(ad181.add (((ji9)).toNat * 4)).block, (ad181.add (((ji9)).toNat * 4)).off + 2, none⟩ = some (.int .i64 ((rd_T49 l0 (ji9)).f2)) ∧ w'.cell? ⟨(ad181.add (((ji9)).toNat * 4)).block, (ad181.add (((ji9)).toNat * 4)).off + 3, none⟩ = some (.bool ((rd_T49 l0 (ji9)).f3))) (ds := []) (bs "XXXXXXXXXXXXXXXXX") (by kernel_rfl) rfl rfl ⟨(blk_cell BK182.out 0).trans rfl, (blk_cell BK182.out 1).trans rfl, (blk_cell BK182.out 2).trans rfl, (blk_cell BK182.out 3).trans rfl, ((HB.out.cell (World.block_lt_of_cell? w _ hw184_0)).trans hw184_0), ((HB.out.cell (World.block_lt_of_cell? w _ hw184_1)).trans hw184_1), ((HB.out.cell (World.block_lt_of_cell? w _ hw184_2)).trans hw184_2), ((HB.out.cell (World.block_lt_of_cell? w _ hw184_3)).trans hw184_3)⟩ (fun hHeld => ?_); refine with_tabW impl_EntriesOk.tab6 impl_EntriesOk.bits6 (fun HT_ HW_ => ?_)
   generalize w16.drew = w17 at BK182 HB hx184_0 hx184_1 hx184_2 hx184_3 hHeld ⊢
   refine take_ (i := 0) (N := some 15) (v := _) (a' := _) (bs "YXXXXXXXXXXXXXXXX") rfl rfl (take_ofW HT_.out HW_.out (by kernel_rfl)) (fun _ _ _ h => h) (Or.inl ⟨by rfl, (by rintro w' ⟨s0, s1, s2, s3, s4, s5, s6, s7⟩; go_simp; with_reducible rfl)⟩) hHeld z39a ?_
   refine one_ (i := 1) (N := some 16) (bs "YYXXXXXXXXXXXXXXX") rfl rfl (one_of HT_.out (by kernel_rfl)) (by decide) (fun K hK => ?_)
   refine goes_ Try.func82 (by kernel_rfl) rfl #[.agg #[.string ((rd_T49 l0 x10_1).f0), .string ((rd_T49 l0 x10_1).f1), .int .i64 ((rd_T49 l0 x10_1).f2), .bool ((rd_T49 l0 x10_1).f3)]] (by rfl) rfl rfl z39f ?_
   with_reducible refine (impl_entryOk.calls ((rd_T49 l0 x10_1).f0) ((rd_T49 l0 x10_1).f1) ((rd_T49 l0 x10_1).f2) ((rd_T49 l0 x10_1).f3) true _ A6.out).mono ?_
   rintro e w18 ⟨rfl, hb⟩
   refine ⟨_, rfl, ?_⟩
   replace BK182 := A_ (blk_below (g := gb182) (o := .cells #[.string ((rd_T49 l0 x10_1).f0), .string ((rd_T49 l0 x10_1).f1), .int .i64 ((rd_T49 l0 x10_1).f2), .bool ((rd_T49 l0 x10_1).f3)] 49 (0, 0)) z39d hb)
   replace HB := A_ (below_step z39c hb)
   refine hK.out _ _ ⟨(blk_cell BK182.out 0).trans rfl, (blk_cell BK182.out 1).trans rfl, (blk_cell BK182.out 2).trans rfl, (blk_cell BK182.out 3).trans rfl, ((HB.out.cell (World.block_lt_of_cell? w _ hw184_0)).trans hw184_0), ((HB.out.cell (World.block_lt_of_cell? w _ hw184_1)).trans hw184_1), ((HB.out.cell (World.block_lt_of_cell? w _ hw184_2)).trans hw184_2), ((HB.out.cell (World.block_lt_of_cell? w _ hw184_3)).trans hw184_3)⟩ (fun hHeld => ?_)
   clear hK K
   refine norm_ (nz_ 16) ?_
   refine pu_ 2 (some 17) (bs "YYYXXXXXXXXXXXXXX") ?_
   refine pu_ 3 (some 18) (bs "YYYYXXXXXXXXXXXXX") ?_
   refine pu_ 4 (some 19) (bs "YYYYYXXXXXXXXXXXX") ?_
   refine pu_ 5 (some 20) (bs "YYYYYYXXXXXXXXXXX") ?_
   refine pu_ 6 (some 21) (bs "YYYYYYYXXXXXXXXXX") ?_
   refine pu_ 7 (some 22) (bs "YYYYYYYYXXXXXXXXX") ?_
   refine pu_ 8 (some 23) (bs "YYYYYYYYYXXXXXXXX") ?_
   refine pu_ 9 (some 24) (bs "YYYYYYYYYYXXXXXXX") ?_
   refine pu_ 10 (some 25) (bs "YYYYYYYYYYYXXXXXX") ?_
   refine take_ (i := 11) (N := some 26) (v := _) (a' := _) (bs "YYYYYYYYYYYYXXXXX") rfl rfl (take_ofW HT_.out HW_.out (by kernel_rfl)) (fun _ _ _ h => h) (Or.inl ⟨by rfl, (by rintro w' ⟨s0, s1, s2, s3, s4, s5, s6, s7⟩; go_simp; with_reducible rfl)⟩) hHeld z39a ?_
   refine take_ (i := 12) (N := some 27) (v := _) (a' := _) (bs "YYYYYYYYYYYYYXXXX") rfl rfl (take_ofW HT_.out HW_.out (by kernel_rfl)) (fun _ _ _ h => h) (Or.inl ⟨by rfl, (by rintro w' ⟨s0, s1, s2, s3, s4, s5, s6, s7⟩; go_simp; with_reducible rfl)⟩) hHeld z39a ?_
   refine one_ (i := 13) (N := some 28) (bs "YYYYYYYYYYYYYYXXX") rfl rfl (one_of HT_.out (by kernel_rfl)) (by decide) (fun K hK => ?_)
   refine goes_ Try.func83 (by kernel_rfl) rfl #[.agg #[.string ((rd_T49 l0 (ji9)).f0), .string ((rd_T49 l0 (ji9)).f1), .int .i64 ((rd_T49 l0 (ji9)).f2), .bool ((rd_T49 l0 (ji9)).f3)], .agg #[.string ((rd_T49 l0 x10_1).f0), .string ((rd_T49 l0 x10_1).f1), .int .i64 ((rd_T49 l0 x10_1).f2), .bool ((rd_T49 l0 x10_1).f3)]] (by rfl) rfl rfl (by (try simp only [List.map_toArray, List.map_cons, List.map_nil]); first | done | (simp only [hji9]; rfl) | rfl | (simp only [List.length_drop, List.length_take]; rfl)) ?_
   with_reducible refine (impl_byOrder.calls k1 ((rd_T49 l0 (ji9)).f0) ((rd_T49 l0 (ji9)).f1) ((rd_T49 l0 (ji9)).f2) ((rd_T49 l0 (ji9)).f3) ((rd_T49 l0 x10_1).f0) ((rd_T49 l0 x10_1).f1) ((rd_T49 l0 x10_1).f2) ((rd_T49 l0 x10_1).f3) t185 _ A12.out).mono ?_
   rintro e w19 ⟨rfl, hb⟩
   refine ⟨_, rfl, ?_⟩
   replace BK182 := A_ (blk_below (g := gb182) (o := .cells #[.string ((rd_T49 l0 x10_1).f0), .string ((rd_T49 l0 x10_1).f1), .int .i64 ((rd_T49 l0 x10_1).f2), .bool ((rd_T49 l0 x10_1).f3)] 49 (0, 0)) z39d hb)
   replace HB := A_ (below_step z39c hb)
   refine hK.out _ _ ⟨(blk_cell BK182.out 0).trans rfl, (blk_cell BK182.out 1).trans rfl, (blk_cell BK182.out 2).trans rfl, (blk_cell BK182.out 3).trans rfl, ((HB.out.cell (World.block_lt_of_cell? w _ hw184_0)).trans hw184_0), ((HB.out.cell (World.block_lt_of_cell? w _ hw184_1)).trans hw184_1), ((HB.out.cell (World.block_lt_of_cell? w _ hw184_2)).trans hw184_2), ((HB.out.cell (World.block_lt_of_cell? w _ hw184_3)).trans hw184_3)⟩ (fun hHeld => ?_)
   clear hK K
   refine norm_ (nz_ 28) ?_
   refine pu_ 14 (some 29) (bs "YYYYYYYYYYYYYYYXX") ?_
   refine pu_ 15 (some 30) (bs "YYYYYYYYYYYYYYYYX") ?_
   refine pu_ 16 (some 31) (bs "YYYYYYYYYYYYYYYYY") ?_
   refine done_ (done_of HT_.out (by kernel_rfl)) ?_
   try go_wp2
   go_ret
   exact ⟨by first | rfl | (simp [errW_none, errW_some] <;> rfl) | (simp only [← hji9]; first | rfl | (simp [errW_none, errW_some] <;> rfl)) | (simp [*, errW_none, errW_some] <;> rfl), by repeat (first | (with_reducible first | exact HB.out | apply below_alloc | apply pw_below_drewN | apply below_drew1 | refine below_set ?_ GE182.out) | exact HB.out)⟩
   }
   {
   rw [if_neg c13] at H
   have c13b0 : decide (0 ≤ t185) = false := decide_eq_false c13
   clear c13
   have H' := A_ H
   clear H
   have p181 : 0 ≤ (x10_1 : Int) := of_decide_eq_true z39e
   have q181 : x10_1 < (l0.length : Int) := of_decide_eq_true z39e
   obtain ⟨ad181, e181, hx181_0, hx181_1, hx181_2, hx181_3⟩ := at_T49 HR0.out x10_1 p181 q181
   cases e181
   replace hx181_0 := (HB.out.cell (World.block_lt_of_cell? w _ hx181_0)).trans hx181_0
   replace hx181_1 := (HB.out.cell (World.block_lt_of_cell? w _ hx181_1)).trans hx181_1
   replace hx181_2 := (HB.out.cell (World.block_lt_of_cell? w _ hx181_2)).trans hx181_2
   replace hx181_3 := (HB.out.cell (World.block_lt_of_cell? w _ hx181_3)).trans hx181_3
   replace p181 := eq_true p181
   replace q181 := eq_true q181
   try go_wp2_with (first | ((with_reducible refine gate_dst (N := 4) rfl ?_); refine box_event ?hg (N := 4) ?hd (cs := #[.string (⟨#[]⟩ : ByteArray), .string (⟨#[]⟩ : ByteArray), .int .i64 0, .bool false]) (t := 49) ?hr ?_; (case hd => rfl); (case hg => rfl); (case hr => first | (go_simp; done) | (go_simp; rfl)); intro gb182 hg w20 hbox hb; have n0_ := A_ (below_step z39b hb); have n1_ := A_ (hbox); have n2_ := A_ ((by rw [hg]; exact (below_size z39b) : w.heap.size ≤ gb182)); have n3_ := A_ ((by rw [hg]; exact (below_size z39b) : w.heap.size ≤ gb182)); clear HB; have HB := n0_; have BK182 := n1_; have GW182 := n2_; have GE182 := n3_; clear n0_ n1_ n2_ n3_; clear hb hbox hg; have hcz21_0 : w20.cell? ⟨gb182, 0, none⟩ = some (.string (⟨#[]⟩ : ByteArray)) := (blk_cell BK182.out 0).trans rfl; have hcz21_1 : w20.cell? ⟨gb182, 1, none⟩ = some (.string (⟨#[]⟩ : ByteArray)) := (blk_cell BK182.out 1).trans rfl; have hcz21_2 : w20.cell? ⟨gb182, 2, none⟩ = some (.int .i64 0) := (blk_cell BK182.out 2).trans rfl; have hcz21_3 : w20.cell? ⟨gb182, 3, none⟩ = some (.bool false) := (blk_cell BK182.out 3).trans rfl; have hfz21_0 := blk_frozen BK182.out 0; have hfz21_1 := blk_frozen BK182.out 1; have hfz21_2 := blk_frozen BK182.out 2; have hfz21_3 := blk_frozen BK182.out 3))
   have n0_ : Aside0 (((((w20.setCell ⟨gb182, 0, none⟩ (.string ((rd_T49 l0 x10_1).f0))).setCell ⟨gb182, 1, none⟩ (.string ((rd_T49 l0 x10_1).f1))).setCell ⟨gb182, 2, none⟩ (.int .i64 ((rd_T49 l0 x10_1).f2))).setCell ⟨gb182, 3, none⟩ (.bool ((rd_T49 l0 x10_1).f3))).heap[gb182]? = some (.cells #[.string ((rd_T49 l0 x10_1).f0), .string ((rd_T49 l0 x10_1).f1), .int .i64 ((rd_T49 l0 x10_1).f2), .bool ((rd_T49 l0 x10_1).f3)] 49 (0, 0))) := ⟨by (with_reducible repeat (first | refine blk_drewN ?_ _ | refine blk_drew ?_ | refine blk_alloc ?_ _)); refine blk_put (cs := #[.string ((rd_T49 l0 x10_1).f0), .string ((rd_T49 l0 x10_1).f1), .int .i64 ((rd_T49 l0 x10_1).f2), .bool false]) ?_ 3 _ rfl; (with_reducible repeat (first | refine blk_drewN ?_ _ | refine blk_drew ?_ | refine blk_alloc ?_ _)); refine blk_put (cs := #[.string ((rd_T49 l0 x10_1).f0), .string ((rd_T49 l0 x10_1).f1), .int .i64 0, .bool false]) ?_ 2 _ rfl; (with_reducible repeat (first | refine blk_drewN ?_ _ | refine blk_drew ?_ | refine blk_alloc ?_ _)); refine blk_put (cs := #[.string ((rd_T49 l0 x10_1).f0), .string (⟨#[]⟩ : ByteArray), .int .i64 0, .bool false]) ?_ 1 _ rfl; (with_reducible repeat (first | refine blk_drewN ?_ _ | refine blk_drew ?_ | refine blk_alloc ?_ _)); refine blk_put (cs := #[.string (⟨#[]⟩ : ByteArray), .string (⟨#[]⟩ : ByteArray), .int .i64 0, .bool false]) ?_ 0 _ rfl; (with_reducible repeat (first | refine blk_drewN ?_ _ | refine blk_drew ?_ | refine blk_alloc ?_ _)); exact BK182.out⟩
   have n1_ : Aside0 (Below w.heap.size w ((((w20.setCell ⟨gb182, 0, none⟩ (.string ((rd_T49 l0 x10_1).f0))).setCell ⟨gb182, 1, none⟩ (.string ((rd_T49 l0 x10_1).f1))).setCell ⟨gb182, 2, none⟩ (.int .i64 ((rd_T49 l0 x10_1).f2))).setCell ⟨gb182, 3, none⟩ (.bool ((rd_T49 l0 x10_1).f3)))) := ⟨by repeat (first | (with_reducible first | exact HB.out | apply below_alloc | apply pw_below_drewN | apply below_drew1 | refine below_set ?_ GE182.out) | exact HB.out)⟩
   (try clear BK182)
   (try clear HB)
   generalize ((((w20.setCell ⟨gb182, 0, none⟩ (.string ((rd_T49 l0 x10_1).f0))).setCell ⟨gb182, 1, none⟩ (.string ((rd_T49 l0 x10_1).f1))).setCell ⟨gb182, 2, none⟩ (.int .i64 ((rd_T49 l0 x10_1).f2))).setCell ⟨gb182, 3, none⟩ (.bool ((rd_T49 l0 x10_1).f3))) = w22 at n0_ n1_ ⊢
   have BK182 := n0_
   have HB := n1_
   clear n0_ n1_
   replace BK182 := A_ (blk_drew BK182.out)
   replace HB := A_ (below_drew1 HB.out)
   have p184 : 0 ≤ ((ji9) : Int) := of_decide_eq_true z39e
   have q184 : (ji9) < (l0.length : Int) := of_decide_eq_true z39e
   obtain ⟨ad184, e184, hx184_0, hx184_1, hx184_2, hx184_3⟩ := at_T49 HR0.out (ji9) p184 q184
   have hw184_3 := hx184_3
   have hw184_2 := hx184_2
   have hw184_1 := hx184_1
   have hw184_0 := hx184_0
   obtain rfl : ad181 = ad184 := (by injection e184)
   replace hx184_0 := (HB.out.cell (World.block_lt_of_cell? w _ hx184_0)).trans hx184_0
   replace hx184_1 := (HB.out.cell (World.block_lt_of_cell? w _ hx184_1)).trans hx184_1
   replace hx184_2 := (HB.out.cell (World.block_lt_of_cell? w _ hx184_2)).trans hx184_2
   replace hx184_3 := (HB.out.cell (World.block_lt_of_cell? w _ hx184_3)).trans hx184_3
   replace p184 := eq_true p184
   replace q184 := eq_true q184
   refine start_ (n := 17) (S := fun w' => w'.cell? ⟨gb182, 0, none⟩ = some (.string ((rd_T49 l0 x10_1).f0)) ∧ w'.cell? ⟨gb182, 1, none⟩ = some (.string ((rd_T49 l0 x10_1).f1)) ∧ w'.cell? ⟨gb182, 2, none⟩ = some (.int .i64 ((rd_T49 l0 x10_1).f2)) ∧ w'.cell? ⟨gb182, 3, none⟩ = some (.bool ((rd_T49 l0 x10_1).f3)) ∧ w'.cell? (ad181.add (((ji9)).toNat * 4)) = some (.string ((rd_T49 l0 (ji9)).f0)) ∧ w'.cell? ⟨(ad181.add (((ji9)).toNat * 4)).block, (ad181.add (((ji9)).toNat * 4)).off + 1, none⟩ = some (.string ((rd_T49 l0 (ji9)).f1)) ∧ w'.cell? ⟨(ad181.add (((ji9)).toNat * 4)).block, (ad181.add (((ji9)).toNat * 4)).off + 2, none⟩ = some (.int .i64 ((rd_T49 l0 (ji9)).f2)) ∧ w'.cell? ⟨(ad181.add (((ji9)).toNat * 4)).block, (ad181.add (((ji9)).toNat * 4)).off + 3, none⟩ = some (.bool ((rd_T49 l0 (ji9)).f3))) (ds := []) (bs "XXXXXXXXXXXXXXXXX") (by kernel_rfl) rfl rfl ⟨(blk_cell BK182.out 0).trans rfl, (blk_cell BK182.out 1).trans rfl, (blk_cell BK182.out 2).trans rfl, (blk_cell BK182.out 3).trans rfl, ((HB.out.cell (World.block_lt_of_cell? w _ hw184_0)).trans hw184_0), ((HB.out.cell (World.block_lt_of_cell? w _ hw184_1)).trans hw184_1), ((HB.out.cell (World.block_lt_of_cell? w _ hw184_2)).trans hw184_2), ((HB.out.cell (World.block_lt_of_cell? w _ hw184_3)).trans hw184_3)⟩ (fun hHeld => ?_); refine with_tabW impl_EntriesOk.tab6 impl_EntriesOk.bits6 (fun HT_ HW_ => ?_)
   generalize w22.drew = w23 at BK182 HB hx184_0 hx184_1 hx184_2 hx184_3 hHeld ⊢
   refine take_ (i := 0) (N := some 15) (v := _) (a' := _) (bs "YXXXXXXXXXXXXXXXX") rfl rfl (take_ofW HT_.out HW_.out (by kernel_rfl)) (fun _ _ _ h => h) (Or.inl ⟨by rfl, (by rintro w' ⟨s0, s1, s2, s3, s4, s5, s6, s7⟩; go_simp; with_reducible rfl)⟩) hHeld z39a ?_
   refine one_ (i := 1) (N := some 16) (bs "YYXXXXXXXXXXXXXXX") rfl rfl (one_of HT_.out (by kernel_rfl)) (by decide) (fun K hK => ?_)
   refine goes_ Try.func82 (by kernel_rfl) rfl #[.agg #[.string ((rd_T49 l0 x10_1).f0), .string ((rd_T49 l0 x10_1).f1), .int .i64 ((rd_T49 l0 x10_1).f2), .bool ((rd_T49 l0 x10_1).f3)]] (by rfl) rfl rfl z39f ?_
   with_reducible refine (impl_entryOk.calls ((rd_T49 l0 x10_1).f0) ((rd_T49 l0 x10_1).f1) ((rd_T49 l0 x10_1).f2) ((rd_T49 l0 x10_1).f3) true _ A6.out).mono ?_
   rintro e w24 ⟨rfl, hb⟩
   refine ⟨_, rfl, ?_⟩
   replace BK182 := A_ (blk_below (g := gb182) (o := .cells #[.string ((rd_T49 l0 x10_1).f0), .string ((rd_T49 l0 x10_1).f1), .int .i64 ((rd_T49 l0 x10_1).f2), .bool ((rd_T49 l0 x10_1).f3)] 49 (0, 0)) z39d hb)
   replace HB := A_ (below_step z39c hb)
   refine hK.out _ _ ⟨(blk_cell BK182.out 0).trans rfl, (blk_cell BK182.out 1).trans rfl, (blk_cell BK182.out 2).trans rfl, (blk_cell BK182.out 3).trans rfl, ((HB.out.cell (World.block_lt_of_cell? w _ hw184_0)).trans hw184_0), ((HB.out.cell (World.block_lt_of_cell? w _ hw184_1)).trans hw184_1), ((HB.out.cell (World.block_lt_of_cell? w _ hw184_2)).trans hw184_2), ((HB.out.cell (World.block_lt_of_cell? w _ hw184_3)).trans hw184_3)⟩ (fun hHeld => ?_)
   clear hK K
   refine norm_ (nz_ 16) ?_
   refine pu_ 2 (some 17) (bs "YYYXXXXXXXXXXXXXX") ?_
   refine pu_ 3 (some 18) (bs "YYYYXXXXXXXXXXXXX") ?_
   refine pu_ 4 (some 19) (bs "YYYYYXXXXXXXXXXXX") ?_
   refine pu_ 5 (some 20) (bs "YYYYYYXXXXXXXXXXX") ?_
   refine pu_ 6 (some 21) (bs "YYYYYYYXXXXXXXXXX") ?_
   refine pu_ 7 (some 22) (bs "YYYYYYYYXXXXXXXXX") ?_
   refine pu_ 8 (some 23) (bs "YYYYYYYYYXXXXXXXX") ?_
   refine pu_ 9 (some 24) (bs "YYYYYYYYYYXXXXXXX") ?_
   refine pu_ 10 (some 25) (bs "YYYYYYYYYYYXXXXXX") ?_
   refine take_ (i := 11) (N := some 26) (v := _) (a' := _) (bs "YYYYYYYYYYYYXXXXX") rfl rfl (take_ofW HT_.out HW_.out (by kernel_rfl)) (fun _ _ _ h => h) (Or.inl ⟨by rfl, (by rintro w' ⟨s0, s1, s2, s3, s4, s5, s6, s7⟩; go_simp; with_reducible rfl)⟩) hHeld z39a ?_
   refine take_ (i := 12) (N := some 27) (v := _) (a' := _) (bs "YYYYYYYYYYYYYXXXX") rfl rfl (take_ofW HT_.out HW_.out (by kernel_rfl)) (fun _ _ _ h => h) (Or.inl ⟨by rfl, (by rintro w' ⟨s0, s1, s2, s3, s4, s5, s6, s7⟩; go_simp; with_reducible rfl)⟩) hHeld z39a ?_
   refine one_ (i := 13) (N := some 28) (bs "YYYYYYYYYYYYYYXXX") rfl rfl (one_of HT_.out (by kernel_rfl)) (by decide) (fun K hK => ?_)
   refine goes_ Try.func83 (by kernel_rfl) rfl #[.agg #[.string ((rd_T49 l0 (ji9)).f0), .string ((rd_T49 l0 (ji9)).f1), .int .i64 ((rd_T49 l0 (ji9)).f2), .bool ((rd_T49 l0 (ji9)).f3)], .agg #[.string ((rd_T49 l0 x10_1).f0), .string ((rd_T49 l0 x10_1).f1), .int .i64 ((rd_T49 l0 x10_1).f2), .bool ((rd_T49 l0 x10_1).f3)]] (by rfl) rfl rfl (by (try simp only [List.map_toArray, List.map_cons, List.map_nil]); first | done | (simp only [hji9]; rfl) | rfl | (simp only [List.length_drop, List.length_take]; rfl)) ?_
   with_reducible refine (impl_byOrder.calls k1 ((rd_T49 l0 (ji9)).f0) ((rd_T49 l0 (ji9)).f1) ((rd_T49 l0 (ji9)).f2) ((rd_T49 l0 (ji9)).f3) ((rd_T49 l0 x10_1).f0) ((rd_T49 l0 x10_1).f1) ((rd_T49 l0 x10_1).f2) ((rd_T49 l0 x10_1).f3) t185 _ A12.out).mono ?_
   rintro e w25 ⟨rfl, hb⟩
   refine ⟨_, rfl, ?_⟩
   replace BK182 := A_ (blk_below (g := gb182) (o := .cells #[.string ((rd_T49 l0 x10_1).f0), .string ((rd_T49 l0 x10_1).f1), .int .i64 ((rd_T49 l0 x10_1).f2), .bool ((rd_T49 l0 x10_1).f3)] 49 (0, 0)) z39d hb)
   replace HB := A_ (below_step z39c hb)
   refine hK.out _ _ ⟨(blk_cell BK182.out 0).trans rfl, (blk_cell BK182.out 1).trans rfl, (blk_cell BK182.out 2).trans rfl, (blk_cell BK182.out 3).trans rfl, ((HB.out.cell (World.block_lt_of_cell? w _ hw184_0)).trans hw184_0), ((HB.out.cell (World.block_lt_of_cell? w _ hw184_1)).trans hw184_1), ((HB.out.cell (World.block_lt_of_cell? w _ hw184_2)).trans hw184_2), ((HB.out.cell (World.block_lt_of_cell? w _ hw184_3)).trans hw184_3)⟩ (fun hHeld => ?_)
   clear hK K
   refine norm_ (nz_ 28) ?_
   refine pu_ 14 (some 29) (bs "YYYYYYYYYYYYYYYXX") ?_
   refine pu_ 15 (some 30) (bs "YYYYYYYYYYYYYYYYX") ?_
   refine pu_ 16 (some 31) (bs "YYYYYYYYYYYYYYYYY") ?_
   refine done_ (done_of HT_.out (by kernel_rfl)) ?_
   try go_wp2
   go_roundg k1
   case measure => have := HK1.out; omega
   case rel => exact ⟨(wrap64 (x10_1 + 1)), (by first | rfl | (simp; done) | (simp [*]; done)), H', ⟨by have := HK1.out; omega⟩, ⟨by repeat (first | (with_reducible first | exact HB.out | apply below_alloc | apply pw_below_drewN | apply below_drew1 | refine below_set ?_ GE182.out) | exact HB.out)⟩⟩
   }
   }
   {
   rw [if_neg c11] at H
   exact absurd H (by simp)
   }
   }
   {
   rw [if_neg c10] at H
   exact absurd H (by simp)
   }
   }
   {
   rw [if_neg c8] at H
   have c8b0 : decide (0 < x10_1) = false := decide_eq_false c8
   clear c8
   have H' := A_ H
   clear H
   have p181 : 0 ≤ (x10_1 : Int) := of_decide_eq_true z39e
   have q181 : x10_1 < (l0.length : Int) := of_decide_eq_true z39e
   obtain ⟨ad181, e181, hx181_0, hx181_1, hx181_2, hx181_3⟩ := at_T49 HR0.out x10_1 p181 q181
   cases e181
   replace hx181_0 := (HB.out.cell (World.block_lt_of_cell? w _ hx181_0)).trans hx181_0
   replace hx181_1 := (HB.out.cell (World.block_lt_of_cell? w _ hx181_1)).trans hx181_1
   replace hx181_2 := (HB.out.cell (World.block_lt_of_cell? w _ hx181_2)).trans hx181_2
   replace hx181_3 := (HB.out.cell (World.block_lt_of_cell? w _ hx181_3)).trans hx181_3
   replace p181 := eq_true p181
   replace q181 := eq_true q181
   try go_wp2_with (first | ((with_reducible refine gate_dst (N := 4) rfl ?_); refine box_event ?hg (N := 4) ?hd (cs := #[.string (⟨#[]⟩ : ByteArray), .string (⟨#[]⟩ : ByteArray), .int .i64 0, .bool false]) (t := 49) ?hr ?_; (case hd => rfl); (case hg => rfl); (case hr => first | (go_simp; done) | (go_simp; rfl)); intro gb182 hg w26 hbox hb; have n0_ := A_ (below_step z39b hb); have n1_ := A_ (hbox); have n2_ := A_ ((by rw [hg]; exact (below_size z39b) : w.heap.size ≤ gb182)); have n3_ := A_ ((by rw [hg]; exact (below_size z39b) : w.heap.size ≤ gb182)); clear HB; have HB := n0_; have BK182 := n1_; have GW182 := n2_; have GE182 := n3_; clear n0_ n1_ n2_ n3_; clear hb hbox hg; have hcz27_0 : w26.cell? ⟨gb182, 0, none⟩ = some (.string (⟨#[]⟩ : ByteArray)) := (blk_cell BK182.out 0).trans rfl; have hcz27_1 : w26.cell? ⟨gb182, 1, none⟩ = some (.string (⟨#[]⟩ : ByteArray)) := (blk_cell BK182.out 1).trans rfl; have hcz27_2 : w26.cell? ⟨gb182, 2, none⟩ = some (.int .i64 0) := (blk_cell BK182.out 2).trans rfl; have hcz27_3 : w26.cell? ⟨gb182, 3, none⟩ = some (.bool false) := (blk_cell BK182.out 3).trans rfl; have hfz27_0 := blk_frozen BK182.out 0; have hfz27_1 := blk_frozen BK182.out 1; have hfz27_2 := blk_frozen BK182.out 2; have hfz27_3 := blk_frozen BK182.out 3))
   have n0_ : Aside0 (((((w26.setCell ⟨gb182, 0, none⟩ (.string ((rd_T49 l0 x10_1).f0))).setCell ⟨gb182, 1, none⟩ (.string ((rd_T49 l0 x10_1).f1))).setCell ⟨gb182, 2, none⟩ (.int .i64 ((rd_T49 l0 x10_1).f2))).setCell ⟨gb182, 3, none⟩ (.bool ((rd_T49 l0 x10_1).f3))).heap[gb182]? = some (.cells #[.string ((rd_T49 l0 x10_1).f0), .string ((rd_T49 l0 x10_1).f1), .int .i64 ((rd_T49 l0 x10_1).f2), .bool ((rd_T49 l0 x10_1).f3)] 49 (0, 0))) := ⟨by (with_reducible repeat (first | refine blk_drewN ?_ _ | refine blk_drew ?_ | refine blk_alloc ?_ _)); refine blk_put (cs := #[.string ((rd_T49 l0 x10_1).f0), .string ((rd_T49 l0 x10_1).f1), .int .i64 ((rd_T49 l0 x10_1).f2), .bool false]) ?_ 3 _ rfl; (with_reducible repeat (first | refine blk_drewN ?_ _ | refine blk_drew ?_ | refine blk_alloc ?_ _)); refine blk_put (cs := #[.string ((rd_T49 l0 x10_1).f0), .string ((rd_T49 l0 x10_1).f1), .int .i64 0, .bool false]) ?_ 2 _ rfl; (with_reducible repeat (first | refine blk_drewN ?_ _ | refine blk_drew ?_ | refine blk_alloc ?_ _)); refine blk_put (cs := #[.string ((rd_T49 l0 x10_1).f0), .string (⟨#[]⟩ : ByteArray), .int .i64 0, .bool false]) ?_ 1 _ rfl; (with_reducible repeat (first | refine blk_drewN ?_ _ | refine blk_drew ?_ | refine blk_alloc ?_ _)); refine blk_put (cs := #[.string (⟨#[]⟩ : ByteArray), .string (⟨#[]⟩ : ByteArray), .int .i64 0, .bool false]) ?_ 0 _ rfl; (with_reducible repeat (first | refine blk_drewN ?_ _ | refine blk_drew ?_ | refine blk_alloc ?_ _)); exact BK182.out⟩
   have n1_ : Aside0 (Below w.heap.size w ((((w26.setCell ⟨gb182, 0, none⟩ (.string ((rd_T49 l0 x10_1).f0))).setCell ⟨gb182, 1, none⟩ (.string ((rd_T49 l0 x10_1).f1))).setCell ⟨gb182, 2, none⟩ (.int .i64 ((rd_T49 l0 x10_1).f2))).setCell ⟨gb182, 3, none⟩ (.bool ((rd_T49 l0 x10_1).f3)))) := ⟨by repeat (first | (with_reducible first | exact HB.out | apply below_alloc | apply pw_below_drewN | apply below_drew1 | refine below_set ?_ GE182.out) | exact HB.out)⟩
   (try clear BK182)
   (try clear HB)
   generalize ((((w26.setCell ⟨gb182, 0, none⟩ (.string ((rd_T49 l0 x10_1).f0))).setCell ⟨gb182, 1, none⟩ (.string ((rd_T49 l0 x10_1).f1))).setCell ⟨gb182, 2, none⟩ (.int .i64 ((rd_T49 l0 x10_1).f2))).setCell ⟨gb182, 3, none⟩ (.bool ((rd_T49 l0 x10_1).f3))) = w28 at n0_ n1_ ⊢
   have BK182 := n0_
   have HB := n1_
   clear n0_ n1_
   replace BK182 := A_ (blk_drew BK182.out)
   replace HB := A_ (below_drew1 HB.out)
   refine start_ (n := 17) (S := fun w' => w'.cell? ⟨gb182, 0, none⟩ = some (.string ((rd_T49 l0 x10_1).f0)) ∧ w'.cell? ⟨gb182, 1, none⟩ = some (.string ((rd_T49 l0 x10_1).f1)) ∧ w'.cell? ⟨gb182, 2, none⟩ = some (.int .i64 ((rd_T49 l0 x10_1).f2)) ∧ w'.cell? ⟨gb182, 3, none⟩ = some (.bool ((rd_T49 l0 x10_1).f3))) (ds := []) (bs "XXXXXXXXXXXXXXXXX") (by kernel_rfl) rfl rfl ⟨(blk_cell BK182.out 0).trans rfl, (blk_cell BK182.out 1).trans rfl, (blk_cell BK182.out 2).trans rfl, (blk_cell BK182.out 3).trans rfl⟩ (fun hHeld => ?_); refine with_tabW impl_EntriesOk.tab6 impl_EntriesOk.bits6 (fun HT_ HW_ => ?_)
   generalize w28.drew = w29 at BK182 HB hHeld ⊢
   refine take_ (i := 0) (N := some 15) (v := _) (a' := _) (bs "YXXXXXXXXXXXXXXXX") rfl rfl (take_ofW HT_.out HW_.out (by kernel_rfl)) (fun _ _ _ h => h) (Or.inl ⟨by rfl, (by rintro w' ⟨s0, s1, s2, s3⟩; go_simp; with_reducible rfl)⟩) hHeld z39a ?_
   refine one_ (i := 1) (N := some 16) (bs "YYXXXXXXXXXXXXXXX") rfl rfl (one_of HT_.out (by kernel_rfl)) (by decide) (fun K hK => ?_)
   refine goes_ Try.func82 (by kernel_rfl) rfl #[.agg #[.string ((rd_T49 l0 x10_1).f0), .string ((rd_T49 l0 x10_1).f1), .int .i64 ((rd_T49 l0 x10_1).f2), .bool ((rd_T49 l0 x10_1).f3)]] (by rfl) rfl rfl z39f ?_
   with_reducible refine (impl_entryOk.calls ((rd_T49 l0 x10_1).f0) ((rd_T49 l0 x10_1).f1) ((rd_T49 l0 x10_1).f2) ((rd_T49 l0 x10_1).f3) true _ A6.out).mono ?_
   rintro e w30 ⟨rfl, hb⟩
   refine ⟨_, rfl, ?_⟩
   replace BK182 := A_ (blk_below (g := gb182) (o := .cells #[.string ((rd_T49 l0 x10_1).f0), .string ((rd_T49 l0 x10_1).f1), .int .i64 ((rd_T49 l0 x10_1).f2), .bool ((rd_T49 l0 x10_1).f3)] 49 (0, 0)) z39d hb)
   replace HB := A_ (below_step z39c hb)
   refine hK.out _ _ ⟨(blk_cell BK182.out 0).trans rfl, (blk_cell BK182.out 1).trans rfl, (blk_cell BK182.out 2).trans rfl, (blk_cell BK182.out 3).trans rfl⟩ (fun hHeld => ?_)
   clear hK K
   refine norm_ (nz_ 16) ?_
   refine pu_ 2 (some 17) (bs "YYYXXXXXXXXXXXXXX") ?_
   refine pu_ 3 (some 18) (bs "YYYYXXXXXXXXXXXXX") ?_
   refine pu_ 4 (some 19) (bs "YYYYYXXXXXXXXXXXX") ?_
   refine pu_ 5 (some 20) (bs "YYYYYYXXXXXXXXXXX") ?_
   refine pu_ 6 (some 21) (bs "YYYYYYYXXXXXXXXXX") ?_
   refine pure_ (i := 7) (N := some 22) (v := undef) (a' := ?_) (bs "YYYYYYYYXXXXXXXXX") rfl rfl (any_of HT_.out (by kernel_rfl)) (fun _ _ _ h => h) (Or.inr ⟨by rfl, rfl⟩) ?_ ?_
   rotate_left
   exact z39a
   refine pure_ (i := 8) (N := some 23) (v := undef) (a' := ?_) (bs "YYYYYYYYYXXXXXXXX") rfl rfl (any_of HT_.out (by kernel_rfl)) (fun _ _ _ h => h) (Or.inr ⟨by rfl, rfl⟩) ?_ ?_
   rotate_left
   exact z39a
   refine pure_ (i := 9) (N := some 24) (v := undef) (a' := ?_) (bs "YYYYYYYYYYXXXXXXX") rfl rfl (any_of HT_.out (by kernel_rfl)) (fun _ _ _ h => h) (Or.inr ⟨by rfl, rfl⟩) ?_ ?_
   rotate_left
   exact z39a
   refine pure_ (i := 10) (N := some 25) (v := undef) (a' := ?_) (bs "YYYYYYYYYYYXXXXXX") rfl rfl (any_of HT_.out (by kernel_rfl)) (fun _ _ _ h => h) (Or.inr ⟨by rfl, rfl⟩) ?_ ?_
   rotate_left
   exact z39a
   refine pure_ (i := 11) (N := some 26) (v := undef) (a' := ?_) (bs "YYYYYYYYYYYYXXXXX") rfl rfl (any_of HT_.out (by kernel_rfl)) (fun _ _ _ h => h) (Or.inr ⟨by rfl, rfl⟩) ?_ ?_
   rotate_left
   exact z39a
   refine pure_ (i := 12) (N := some 27) (v := undef) (a' := ?_) (bs "YYYYYYYYYYYYYXXXX") rfl rfl (any_of HT_.out (by kernel_rfl)) (fun _ _ _ h => h) (Or.inr ⟨by rfl, rfl⟩) ?_ ?_
   rotate_left
   exact z39a
   refine pure_ (i := 13) (N := some 28) (v := undef) (a' := ?_) (bs "YYYYYYYYYYYYYYXXX") rfl rfl (any_of HT_.out (by kernel_rfl)) (fun _ _ _ h => h) (Or.inr ⟨by rfl, rfl⟩) ?_ ?_
   rotate_left
   exact z39a
   refine pure_ (i := 14) (N := some 29) (v := undef) (a' := ?_) (bs "YYYYYYYYYYYYYYYXX") rfl rfl (any_of HT_.out (by kernel_rfl)) (fun _ _ _ h => h) (Or.inr ⟨by rfl, rfl⟩) ?_ ?_
   rotate_left
   exact z39a
   refine pu_ 15 (some 30) (bs "YYYYYYYYYYYYYYYYX") ?_
   refine pu_ 16 (some 31) (bs "YYYYYYYYYYYYYYYYY") ?_
   refine done_ (done_of HT_.out (by kernel_rfl)) ?_
   try go_wp2
   go_roundg k1
   case measure => have := HK1.out; omega
   case rel => exact ⟨(wrap64 (x10_1 + 1)), (by first | rfl | (simp; done) | (simp [*]; done)), H', ⟨by have := HK1.out; omega⟩, ⟨by repeat (first | (with_reducible first | exact HB.out | apply below_alloc | apply pw_below_drewN | apply below_drew1 | refine below_set ?_ GE182.out) | exact HB.out)⟩⟩
   }
   }
   {
   replace c7 := Bool.eq_false_iff.mpr c7
   subst c7
   rw [if_neg Bool.false_ne_true] at H
   obtain rfl := Option.some.inj H
   have p181 : 0 ≤ (x10_1 : Int) := of_decide_eq_true z39e
   have q181 : x10_1 < (l0.length : Int) := of_decide_eq_true z39e
   obtain ⟨ad181, e181, hx181_0, hx181_1, hx181_2, hx181_3⟩ := at_T49 HR0.out x10_1 p181 q181
   cases e181
   replace hx181_0 := (HB.out.cell (World.block_lt_of_cell? w _ hx181_0)).trans hx181_0
   replace hx181_1 := (HB.out.cell (World.block_lt_of_cell? w _ hx181_1)).trans hx181_1
   replace hx181_2 := (HB.out.cell (World.block_lt_of_cell? w _ hx181_2)).trans hx181_2
   replace hx181_3 := (HB.out.cell (World.block_lt_of_cell? w _ hx181_3)).trans hx181_3
   replace p181 := eq_true p181
   replace q181 := eq_true q181
   try go_wp2_with (first | ((with_reducible refine gate_dst (N := 4) rfl ?_); refine box_event ?hg (N := 4) ?hd (cs := #[.string (⟨#[]⟩ : ByteArray), .string (⟨#[]⟩ : ByteArray), .int .i64 0, .bool false]) (t := 49) ?hr ?_; (case hd => rfl); (case hg => rfl); (case hr => first | (go_simp; done) | (go_simp; rfl)); intro gb182 hg w31 hbox hb; have n0_ := A_ (below_step z39b hb); have n1_ := A_ (hbox); have n2_ := A_ ((by rw [hg]; exact (below_size z39b) : w.heap.size ≤ gb182)); have n3_ := A_ ((by rw [hg]; exact (below_size z39b) : w.heap.size ≤ gb182)); clear HB; have HB := n0_; have BK182 := n1_; have GW182 := n2_; have GE182 := n3_; clear n0_ n1_ n2_ n3_; clear hb hbox hg; have hcz32_0 : w31.cell? ⟨gb182, 0, none⟩ = some (.string (⟨#[]⟩ : ByteArray)) := (blk_cell BK182.out 0).trans rfl; have hcz32_1 : w31.cell? ⟨gb182, 1, none⟩ = some (.string (⟨#[]⟩ : ByteArray)) := (blk_cell BK182.out 1).trans rfl; have hcz32_2 : w31.cell? ⟨gb182, 2, none⟩ = some (.int .i64 0) := (blk_cell BK182.out 2).trans rfl; have hcz32_3 : w31.cell? ⟨gb182, 3, none⟩ = some (.bool false) := (blk_cell BK182.out 3).trans rfl; have hfz32_0 := blk_frozen BK182.out 0; have hfz32_1 := blk_frozen BK182.out 1; have hfz32_2 := blk_frozen BK182.out 2; have hfz32_3 := blk_frozen BK182.out 3))
   have n0_ : Aside0 (((((w31.setCell ⟨gb182, 0, none⟩ (.string ((rd_T49 l0 x10_1).f0))).setCell ⟨gb182, 1, none⟩ (.string ((rd_T49 l0 x10_1).f1))).setCell ⟨gb182, 2, none⟩ (.int .i64 ((rd_T49 l0 x10_1).f2))).setCell ⟨gb182, 3, none⟩ (.bool ((rd_T49 l0 x10_1).f3))).heap[gb182]? = some (.cells #[.string ((rd_T49 l0 x10_1).f0), .string ((rd_T49 l0 x10_1).f1), .int .i64 ((rd_T49 l0 x10_1).f2), .bool ((rd_T49 l0 x10_1).f3)] 49 (0, 0))) := ⟨by (with_reducible repeat (first | refine blk_drewN ?_ _ | refine blk_drew ?_ | refine blk_alloc ?_ _)); refine blk_put (cs := #[.string ((rd_T49 l0 x10_1).f0), .string ((rd_T49 l0 x10_1).f1), .int .i64 ((rd_T49 l0 x10_1).f2), .bool false]) ?_ 3 _ rfl; (with_reducible repeat (first | refine blk_drewN ?_ _ | refine blk_drew ?_ | refine blk_alloc ?_ _)); refine blk_put (cs := #[.string ((rd_T49 l0 x10_1).f0), .string ((rd_T49 l0 x10_1).f1), .int .i64 0, .bool false]) ?_ 2 _ rfl; (with_reducible repeat (first | refine blk_drewN ?_ _ | refine blk_drew ?_ | refine blk_alloc ?_ _)); refine blk_put (cs := #[.string ((rd_T49 l0 x10_1).f0), .string (⟨#[]⟩ : ByteArray), .int .i64 0, .bool false]) ?_ 1 _ rfl; (with_reducible repeat (first | refine blk_drewN ?_ _ | refine blk_drew ?_ | refine blk_alloc ?_ _)); refine blk_put (cs := #[.string (⟨#[]⟩ : ByteArray), .string (⟨#[]⟩ : ByteArray), .int .i64 0, .bool false]) ?_ 0 _ rfl; (with_reducible repeat (first | refine blk_drewN ?_ _ | refine blk_drew ?_ | refine blk_alloc ?_ _)); exact BK182.out⟩
   have n1_ : Aside0 (Below w.heap.size w ((((w31.setCell ⟨gb182, 0, none⟩ (.string ((rd_T49 l0 x10_1).f0))).setCell ⟨gb182, 1, none⟩ (.string ((rd_T49 l0 x10_1).f1))).setCell ⟨gb182, 2, none⟩ (.int .i64 ((rd_T49 l0 x10_1).f2))).setCell ⟨gb182, 3, none⟩ (.bool ((rd_T49 l0 x10_1).f3)))) := ⟨by repeat (first | (with_reducible first | exact HB.out | apply below_alloc | apply pw_below_drewN | apply below_drew1 | refine below_set ?_ GE182.out) | exact HB.out)⟩
   (try clear BK182)
   (try clear HB)
   generalize ((((w31.setCell ⟨gb182, 0, none⟩ (.string ((rd_T49 l0 x10_1).f0))).setCell ⟨gb182, 1, none⟩ (.string ((rd_T49 l0 x10_1).f1))).setCell ⟨gb182, 2, none⟩ (.int .i64 ((rd_T49 l0 x10_1).f2))).setCell ⟨gb182, 3, none⟩ (.bool ((rd_T49 l0 x10_1).f3))) = w33 at n0_ n1_ ⊢
   have BK182 := n0_
   have HB := n1_
   clear n0_ n1_
   replace BK182 := A_ (blk_drew BK182.out)
   replace HB := A_ (below_drew1 HB.out)
   refine start_ (n := 17) (S := fun w' => w'.cell? ⟨gb182, 0, none⟩ = some (.string ((rd_T49 l0 x10_1).f0)) ∧ w'.cell? ⟨gb182, 1, none⟩ = some (.string ((rd_T49 l0 x10_1).f1)) ∧ w'.cell? ⟨gb182, 2, none⟩ = some (.int .i64 ((rd_T49 l0 x10_1).f2)) ∧ w'.cell? ⟨gb182, 3, none⟩ = some (.bool ((rd_T49 l0 x10_1).f3))) (ds := []) (bs "XXXXXXXXXXXXXXXXX") (by kernel_rfl) rfl rfl ⟨(blk_cell BK182.out 0).trans rfl, (blk_cell BK182.out 1).trans rfl, (blk_cell BK182.out 2).trans rfl, (blk_cell BK182.out 3).trans rfl⟩ (fun hHeld => ?_); refine with_tabW impl_EntriesOk.tab6 impl_EntriesOk.bits6 (fun HT_ HW_ => ?_)
   generalize w33.drew = w34 at BK182 HB hHeld ⊢
   refine take_ (i := 0) (N := some 15) (v := _) (a' := _) (bs "YXXXXXXXXXXXXXXXX") rfl rfl (take_ofW HT_.out HW_.out (by kernel_rfl)) (fun _ _ _ h => h) (Or.inl ⟨by rfl, (by rintro w' ⟨s0, s1, s2, s3⟩; go_simp; with_reducible rfl)⟩) hHeld z39a ?_
   refine one_ (i := 1) (N := some 16) (bs "YYXXXXXXXXXXXXXXX") rfl rfl (one_of HT_.out (by kernel_rfl)) (by decide) (fun K hK => ?_)
   refine goes_ Try.func82 (by kernel_rfl) rfl #[.agg #[.string ((rd_T49 l0 x10_1).f0), .string ((rd_T49 l0 x10_1).f1), .int .i64 ((rd_T49 l0 x10_1).f2), .bool ((rd_T49 l0 x10_1).f3)]] (by rfl) rfl rfl z39f ?_
   with_reducible refine (impl_entryOk.calls ((rd_T49 l0 x10_1).f0) ((rd_T49 l0 x10_1).f1) ((rd_T49 l0 x10_1).f2) ((rd_T49 l0 x10_1).f3) false _ A6.out).mono ?_
   rintro e w35 ⟨rfl, hb⟩
   refine ⟨_, rfl, ?_⟩
   replace BK182 := A_ (blk_below (g := gb182) (o := .cells #[.string ((rd_T49 l0 x10_1).f0), .string ((rd_T49 l0 x10_1).f1), .int .i64 ((rd_T49 l0 x10_1).f2), .bool ((rd_T49 l0 x10_1).f3)] 49 (0, 0)) z39d hb)
   replace HB := A_ (below_step z39c hb)
   refine hK.out _ _ ⟨(blk_cell BK182.out 0).trans rfl, (blk_cell BK182.out 1).trans rfl, (blk_cell BK182.out 2).trans rfl, (blk_cell BK182.out 3).trans rfl⟩ (fun hHeld => ?_)
   clear hK K
   refine norm_ (nz_ 16) ?_
   refine pu_ 2 (some 17) (bs "YYYXXXXXXXXXXXXXX") ?_
   refine pu_ 3 (some 18) (bs "YYYYXXXXXXXXXXXXX") ?_
   refine pure_ (i := 4) (N := some 19) (v := undef) (a' := ?_) (bs "YYYYYXXXXXXXXXXXX") rfl rfl (any_of HT_.out (by kernel_rfl)) (fun _ _ _ h => h) (Or.inr ⟨by rfl, rfl⟩) ?_ ?_
   rotate_left
   exact z39a
   refine pure_ (i := 5) (N := some 20) (v := undef) (a' := ?_) (bs "YYYYYYXXXXXXXXXXX") rfl rfl (any_of HT_.out (by kernel_rfl)) (fun _ _ _ h => h) (Or.inr ⟨by rfl, rfl⟩) ?_ ?_
   rotate_left
   exact z39a
   refine pure_ (i := 6) (N := some 21) (v := undef) (a' := ?_) (bs "YYYYYYYXXXXXXXXXX") rfl rfl (any_of HT_.out (by kernel_rfl)) (fun _ _ _ h => h) (Or.inr ⟨by rfl, rfl⟩) ?_ ?_
   rotate_left
   exact z39a
   refine pure_ (i := 7) (N := some 22) (v := undef) (a' := ?_) (bs "YYYYYYYYXXXXXXXXX") rfl rfl (any_of HT_.out (by kernel_rfl)) (fun _ _ _ h => h) (Or.inr ⟨by rfl, rfl⟩) ?_ ?_
   rotate_left
   exact z39a
   refine pure_ (i := 8) (N := some 23) (v := undef) (a' := ?_) (bs "YYYYYYYYYXXXXXXXX") rfl rfl (any_of HT_.out (by kernel_rfl)) (fun _ _ _ h => h) (Or.inr ⟨by rfl, rfl⟩) ?_ ?_
   rotate_left
   exact z39a
   refine pure_ (i := 9) (N := some 24) (v := undef) (a' := ?_) (bs "YYYYYYYYYYXXXXXXX") rfl rfl (any_of HT_.out (by kernel_rfl)) (fun _ _ _ h => h) (Or.inr ⟨by rfl, rfl⟩) ?_ ?_
   rotate_left
   exact z39a
   refine pure_ (i := 10) (N := some 25) (v := undef) (a' := ?_) (bs "YYYYYYYYYYYXXXXXX") rfl rfl (any_of HT_.out (by kernel_rfl)) (fun _ _ _ h => h) (Or.inr ⟨by rfl, rfl⟩) ?_ ?_
   rotate_left
   exact z39a
   refine pure_ (i := 11) (N := some 26) (v := undef) (a' := ?_) (bs "YYYYYYYYYYYYXXXXX") rfl rfl (any_of HT_.out (by kernel_rfl)) (fun _ _ _ h => h) (Or.inr ⟨by rfl, rfl⟩) ?_ ?_
   rotate_left
   exact z39a
   refine pure_ (i := 12) (N := some 27) (v := undef) (a' := ?_) (bs "YYYYYYYYYYYYYXXXX") rfl rfl (any_of HT_.out (by kernel_rfl)) (fun _ _ _ h => h) (Or.inr ⟨by rfl, rfl⟩) ?_ ?_
   rotate_left
   exact z39a
   refine pure_ (i := 13) (N := some 28) (v := undef) (a' := ?_) (bs "YYYYYYYYYYYYYYXXX") rfl rfl (any_of HT_.out (by kernel_rfl)) (fun _ _ _ h => h) (Or.inr ⟨by rfl, rfl⟩) ?_ ?_
   rotate_left
   exact z39a
   refine pure_ (i := 14) (N := some 29) (v := undef) (a' := ?_) (bs "YYYYYYYYYYYYYYYXX") rfl rfl (any_of HT_.out (by kernel_rfl)) (fun _ _ _ h => h) (Or.inr ⟨by rfl, rfl⟩) ?_ ?_
   rotate_left
   exact z39a
   refine pure_ (i := 15) (N := some 30) (v := undef) (a' := ?_) (bs "YYYYYYYYYYYYYYYYX") rfl rfl (any_of HT_.out (by kernel_rfl)) (fun _ _ _ h => h) (Or.inr ⟨by rfl, rfl⟩) ?_ ?_
   rotate_left
   exact z39a
   refine pu_ 16 (some 31) (bs "YYYYYYYYYYYYYYYYY") ?_
   refine done_ (done_of HT_.out (by kernel_rfl)) ?_
   try go_wp2
   go_ret
   exact ⟨by first | rfl | (simp [errW_none, errW_some] <;> rfl) | (simp [*, errW_none, errW_some] <;> rfl), by repeat (first | (with_reducible first | exact HB.out | apply below_alloc | apply pw_below_drewN | apply below_drew1 | refine below_set ?_ GE182.out) | exact HB.out)⟩
   }
   }
   {
   rw [if_neg c5] at H
   exact absurd H (by simp)
   }
   }
   {
   rw [if_neg c4] at H
   exact absurd H (by simp)
   }
   }
   {
   rw [if_neg c3] at H
   have c3b0 : decide (x10_1 < (l0.length : Int)) = false := decide_eq_false c3
   clear c3
   obtain rfl := Option.some.inj H
   go_wp2
   go_ret
   exact ⟨by first | rfl | (simp [errW_none, errW_some] <;> rfl) | (simp [*, errW_none, errW_some] <;> rfl), by repeat (first | (with_reducible first | exact HB.out | apply below_alloc | apply pw_below_drewN | apply below_drew1) | exact HB.out)⟩
   
   }
 }
theorem z18a {p_ : Prop} (h_ : p_ := by repeat (first | (with_reducible first | exact HB.out | apply below_alloc | apply pw_below_drewN | apply below_drew1) | exact HB.out)) : p_ := h_
def impl_Number.l0 : Nat → Int → List Int → Option (List Int)
 | 0, _, _ => none
 | k + 1, x0, x3 => if x0 > 127 then (if x3.length < 140737488355328 then (impl_Number.l0 k (x0 / 128) (x3 ++ [Go.bits .or .u8 ((x0) % 256) 128])) else (none)) else (if x3.length < 140737488355328 then (some (x3 ++ [(x0) % 256])) else (none))
def impl_Number.f (k : Nat) (a0 : Int) : Option (List Int) := (impl_within.f a0 0 1099511627776).bind fun t186 => (if t186 = true then (impl_Number.l0 k a0 (([] : List Int))) else (some ([] : List Int)))
set_option maxHeartbeats 8000000 in
set_option maxRecDepth 100000 in
theorem impl_Number.calls (k : Nat) (a0 : Int) (r : List Int) (w : World) (h : impl_Number.f k a0 = some r) :
  Calls Try.prog 18 #[.int .i64 a0] w fun e w' => ∃ v0_ : Value, e = .returned (v0_) ∧ Kd.R (Kd.int .u8) 5 w' w.heap.size (fun _ => True) v0_ r ∧ Below w.heap.size w w' := by
 have HB := A_ (Below.refl w.heap.size w)
 have H : ((impl_within.f a0 0 1099511627776).bind fun t186 => (if t186 = true then (impl_Number.l0 k a0 (([] : List Int))) else (some ([] : List Int)))) = some r := h
 clear h
 replace H := Option.bind_eq_some_iff.mp H
 obtain ⟨t186, A20, H⟩ := H
 (try dsimp only at H)
 have A2 := A_ A20
 clear A20
 by_cases c3 : t186 = true
 {
 subst c3
 rw [if_pos rfl] at H
 obtain ⟨y187, hy187⟩ : ∃ y_ : List Int, y_ = (([] : List Int)) := ⟨_, rfl⟩
 replace H : (impl_Number.l0 k a0 y187) = some r := by first | (rw [hy187]; with_reducible exact H) | (have H2_ := (Option.bind_some _ _).symm.trans H; rw [hy187]; with_reducible exact H2_) | (have H2_ := (Option.bind_some _ _).symm.trans H; with_reducible exact H2_) | with_reducible exact H | (rw [hy187]; exact H) | exact H
 have Ny187 := A_ hy187
 clear hy187
 have H' := A_ H
 clear H
 go_enter Try.func18, Try.ntmps18
 go_wp2_with (first | ((with_reducible refine gate_callee (f := 72) rfl ?_); refine goesL_ (some 5) rfl rfl Try.func72 (by kernel_rfl) rfl #[.int .i64 a0, .int .i64 0, .int .i64 1099511627776] rfl (by (try simp only [List.map_toArray, List.map_cons, List.map_nil]); first | done | rfl | (simp only [List.length_drop, List.length_take]; rfl)) ?_; (with_reducible refine (impl_within.calls a0 0 1099511627776 true _ A2.out).mono ?_); rintro e w' ⟨rfl, ⟨nd, rfl⟩⟩; refine ⟨_, rfl, ?_⟩) | ((with_reducible refine gate_dst (N := 7) rfl ?_); refine Kd.R_lit (Kd.int .u8) _ 5 ?hg (N := 7) ?hd (xs := ([] : List Int)) (inner := []) (ok := fun _ => True) (okp := fun _ => True) ?hr ?hp (fun _ hk => hk) trivial (Below.refl _ _) (Nat.le_refl _) (by simp) ?_; (case hd => rfl); (case hg => rfl); (case hr => first | (go_simp; done) | (go_simp; rfl)); (case hp => exact (Reps.none _ _)); intro v188 w4 ho5 hb hg_ hnew_; clear hg_ hnew_; (first | rw [← Ny187.out] at ho5 | (simp only [Int.reduceToNat] at ho5; rw [← Ny187.out] at ho5)); have n0_ := A_ (Kd.R_lower ho5 (below_size z18a)); have n1_ := A_ (below_step z18a hb); clear HB; have HO189 := n0_; have HB := n1_; clear n0_ n1_; clear hb ho5))
 go_loopg [0, 3] k (fun kq v0 v3 w' => ∃ (x0_1 : Int) (x3_1 : List Int), v0 = .int .i64 x0_1 ∧ Aside0 (impl_Number.l0 kq x0_1 x3_1 = some r) ∧ Aside0 (kq ≤ k) ∧ Aside0 (Kd.R (Kd.int .u8) 5 w' w.heap.size (fun _ => True) v3 x3_1) ∧ Aside0 (Below w.heap.size w w'))
 case atStart => exact ⟨(a0), (y187), (by first | rfl | (simp; done) | (simp [*]; done)), H', ⟨Nat.le_refl _⟩, ⟨by (with_reducible repeat (first | apply Kd.R_alloc | apply Kd.R_drewN | apply Kd.R_drew)); exact HO189.out⟩, ⟨by repeat (first | (with_reducible first | exact HB.out | apply below_alloc | apply pw_below_drewN | apply below_drew1) | exact HB.out)⟩⟩
 case round =>
  clear H'
  try clear c1
  try clear p2
  try clear c3
  obtain ⟨x0_1, x3_1, rfl, HA, HK1, HO_3, HB⟩ := hrel
  cases gk with
  | zero => exact absurd HA.out (by simp [impl_Number.l0])
  | succ k1 =>
   have H := HA.out
   clear HA
   simp only [impl_Number.l0] at H
   by_cases c6 : x0_1 > 127
   {
   rw [if_pos c6] at H
   have c6b0 : decide (127 < x0_1) = true := decide_eq_true c6
   clear c6
   by_cases c7 : x3_1.length < 140737488355328
   {
   rw [if_pos c7] at H
   have LMc7 := A_ c7
   clear c7
   obtain ⟨y190, hy190⟩ : ∃ y_ : List Int, y_ = (x3_1 ++ [Go.bits .or .u8 ((x0_1) % 256) 128]) := ⟨_, rfl⟩
   replace H : (impl_Number.l0 k1 (x0_1 / 128) y190) = some r := by first | (rw [hy190]; with_reducible exact H) | (have H2_ := (Option.bind_some _ _).symm.trans H; rw [hy190]; with_reducible exact H2_) | (have H2_ := (Option.bind_some _ _).symm.trans H; with_reducible exact H2_) | with_reducible exact H | (rw [hy190]; exact H) | exact H
   have Ny190 := A_ hy190
   clear hy190
   have H' := A_ H
   clear H
   go_wp2_with (first | ((with_reducible refine gate_builtin (b := .append) (xs := #[.tmp 12, .tmp 16]) rfl ?_); at_builtin; refine Kd.R_append (Kd.int .u8) (w0 := w) w.heap.size rfl (.tmp 12) (.tmp 16) 22 5 (.int .u8 0) 1 rfl Try.underlying22 info5 rfl (by decide) (by omega) u3 x3_1 (Go.bits .or .u8 ((x0_1) % 256) 128) [.int .u8 (Go.bits .or .u8 ((x0_1) % 256) 128)] (fun _ => True) (fun _ => False) rfl rfl ?aP (fun _ hk => hk.elim) ?aF ?aO ?aB ?aS ?aL ?_; (case aP => exact rfl); (case aB => exact z18a); (case aF => exact (fun _ _ => trivial)); (case aO => exact (by (with_reducible repeat (first | apply Kd.R_alloc | apply Kd.R_drewN | apply Kd.R_drew)); exact HO_3.out)); (case aS => exact (below_size z18a)); (case aL => have := LMc7.out; omega); intro v191 w8 ho hb hg hat; rw [← Ny190.out] at ho; have n0_ := A_ (hb); have n1_ := A_ (ho); clear HB; clear HO_3; have HB := n0_; have HO192 := n1_; clear n0_ n1_; clear ho hb hg hat))
   go_roundg k1
   case measure => have := HK1.out; omega
   case rel => exact ⟨(x0_1 / 128), (y190), (by first | rfl | (simp; done) | (simp [*]; done)), H', ⟨by have := HK1.out; omega⟩, ⟨by (with_reducible repeat (first | apply Kd.R_alloc | apply Kd.R_drewN | apply Kd.R_drew)); exact HO192.out⟩, ⟨by repeat (first | (with_reducible first | exact HB.out | apply below_alloc | apply pw_below_drewN | apply below_drew1) | exact HB.out)⟩⟩
   }
   {
   rw [if_neg c7] at H
   exact absurd H (by simp)
   }
   }
   {
   rw [if_neg c6] at H
   have c6b0 : decide (127 < x0_1) = false := decide_eq_false c6
   clear c6
   by_cases c9 : x3_1.length < 140737488355328
   {
   rw [if_pos c9] at H
   have LMc9 := A_ c9
   clear c9
   obtain ⟨y193, hy193⟩ : ∃ y_ : List Int, y_ = (x3_1 ++ [(x0_1) % 256]) := ⟨_, rfl⟩
   replace H : (some y193) = some r := by first | (rw [hy193]; with_reducible exact H) | (have H2_ := (Option.bind_some _ _).symm.trans H; rw [hy193]; with_reducible exact H2_) | (have H2_ := (Option.bind_some _ _).symm.trans H; with_reducible exact H2_) | with_reducible exact H | (rw [hy193]; exact H) | exact H
   have Ny193 := A_ hy193
   clear hy193
   obtain rfl := Option.some.inj H
   go_wp2_with (first | ((with_reducible refine gate_builtin (b := .append) (xs := #[.tmp 18, .tmp 21]) rfl ?_); at_builtin; refine Kd.R_append (Kd.int .u8) (w0 := w) w.heap.size rfl (.tmp 18) (.tmp 21) 22 5 (.int .u8 0) 1 rfl Try.underlying22 info5 rfl (by decide) (by omega) u3 x3_1 ((x0_1) % 256) [.int .u8 ((x0_1) % 256)] (fun _ => True) (fun _ => False) rfl rfl ?aP (fun _ hk => hk.elim) ?aF ?aO ?aB ?aS ?aL ?_; (case aP => exact rfl); (case aB => exact z18a); (case aF => exact (fun _ _ => trivial)); (case aO => exact (by (with_reducible repeat (first | apply Kd.R_alloc | apply Kd.R_drewN | apply Kd.R_drew)); exact HO_3.out)); (case aS => exact (below_size z18a)); (case aL => have := LMc9.out; omega); intro v194 w10 ho hb hg hat; rw [← Ny193.out] at ho; have n0_ := A_ (hb); have n1_ := A_ (ho); clear HB; clear HO_3; have HB := n0_; have HO195 := n1_; clear n0_ n1_; clear ho hb hg hat))
   go_ret
   exact ⟨_, by first | rfl | (simp [errW_none, errW_some] <;> rfl) | (simp [*, errW_none, errW_some] <;> rfl), by (with_reducible repeat (first | apply Kd.R_alloc | apply Kd.R_drewN | apply Kd.R_drew)); exact HO195.out, by repeat (first | (with_reducible first | exact HB.out | apply below_alloc | apply pw_below_drewN | apply below_drew1) | exact HB.out)⟩
   }
   {
   rw [if_neg c9] at H
   exact absurd H (by simp)
   }
   }
 }
 {
 replace c3 := Bool.eq_false_iff.mpr c3
 subst c3
 rw [if_neg Bool.false_ne_true] at H
 obtain rfl := Option.some.inj H
 go_enter Try.func18, Try.ntmps18
 go_wp2_with (first | ((with_reducible refine gate_callee (f := 72) rfl ?_); refine goesL_ (some 5) rfl rfl Try.func72 (by kernel_rfl) rfl #[.int .i64 a0, .int .i64 0, .int .i64 1099511627776] rfl (by (try simp only [List.map_toArray, List.map_cons, List.map_nil]); first | done | rfl | (simp only [List.length_drop, List.length_take]; rfl)) ?_; (with_reducible refine (impl_within.calls a0 0 1099511627776 false _ A2.out).mono ?_); rintro e w' ⟨rfl, ⟨nd, rfl⟩⟩; refine ⟨_, rfl, ?_⟩))
 go_ret
 exact ⟨_, by first | rfl | (simp [errW_none, errW_some] <;> rfl) | (simp [*, errW_none, errW_some] <;> rfl), by first | exact Kd.R_nil _ _ _ _ _ | exact Kd.N_nil _ _ _ _ _ | exact Kd.V_nil _ _ _ _ _ | exact Kd.Q_nil _ _ _ _ _ | exact Kd.S_nil _ _ _ _ _, by repeat (first | (with_reducible first | exact HB.out | apply below_alloc | apply pw_below_drewN | apply below_drew1) | exact HB.out)⟩
 
 }
theorem z23a {p_ : Prop} (h_ : p_ := by repeat (first | (with_reducible first | exact HB.out | apply below_alloc | apply pw_below_drewN | apply below_drew1) | exact HB.out)) : p_ := h_
def impl_Text.f (k : Nat) (a0 : ByteArray) : Option (List Int) := if (a0.size : Int) > 3000 then (some ([] : List Int)) else ((impl_Number.f k (a0.size : Int)).bind fun t196 => (if t196.length + a0.size < 140737488355328 then (some (t196 ++ bytesOf a0)) else (none)))
set_option maxHeartbeats 8000000 in
set_option maxRecDepth 100000 in
theorem impl_Text.calls (k : Nat) (a0 : ByteArray) (r : List Int) (w : World) (h : impl_Text.f k a0 = some r) :
  Calls Try.prog 23 #[.string a0] w fun e w' => ∃ v0_ : Value, e = .returned (v0_) ∧ Kd.R (Kd.int .u8) 5 w' w.heap.size (fun _ => True) v0_ r ∧ Below w.heap.size w w' := by
 have HB := A_ (Below.refl w.heap.size w)
 have H : (if (a0.size : Int) > 3000 then (some ([] : List Int)) else ((impl_Number.f k (a0.size : Int)).bind fun t196 => (if t196.length + a0.size < 140737488355328 then (some (t196 ++ bytesOf a0)) else (none)))) = some r := h
 clear h
 by_cases c2 : (a0.size : Int) > 3000
 {
 rw [if_pos c2] at H
 have c2b0 : decide (3000 < (a0.size : Int)) = true := decide_eq_true c2
 have c2b1 : decide (3000 < a0.size) = true := decide_eq_true (by omega)
 clear c2
 obtain rfl := Option.some.inj H
 go_enter Try.func23, Try.ntmps23
 go_wp2
 go_ret
 exact ⟨_, by first | rfl | (simp [errW_none, errW_some] <;> rfl) | (simp [*, errW_none, errW_some] <;> rfl), by first | exact Kd.R_nil _ _ _ _ _ | exact Kd.N_nil _ _ _ _ _ | exact Kd.V_nil _ _ _ _ _ | exact Kd.Q_nil _ _ _ _ _ | exact Kd.S_nil _ _ _ _ _, by repeat (first | (with_reducible first | exact HB.out | apply below_alloc | apply pw_below_drewN | apply below_drew1) | exact HB.out)⟩
 }
 {
 rw [if_neg c2] at H
 have c2b0 : decide (3000 < (a0.size : Int)) = false := decide_eq_false c2
 have c2b1 : decide (3000 < a0.size) = false := decide_eq_false (by omega)
 clear c2
 replace H := Option.bind_eq_some_iff.mp H
 obtain ⟨t196, A30, H⟩ := H
 (try dsimp only at H)
 have A3 := A_ A30
 clear A30
 by_cases c4 : t196.length + a0.size < 140737488355328
 {
 rw [if_pos c4] at H
 have LMc4 := A_ c4
 clear c4
 obtain ⟨y199, hy199⟩ : ∃ y_ : List Int, y_ = (t196 ++ bytesOf a0) := ⟨_, rfl⟩
 replace H : (some y199) = some r := by first | (rw [hy199]; with_reducible exact H) | (have H2_ := (Option.bind_some _ _).symm.trans H; rw [hy199]; with_reducible exact H2_) | (have H2_ := (Option.bind_some _ _).symm.trans H; with_reducible exact H2_) | with_reducible exact H | (rw [hy199]; exact H) | exact H
 have Ny199 := A_ hy199
 clear hy199
 obtain rfl := Option.some.inj H
 go_enter Try.func23, Try.ntmps23
 go_wp2_with (first | ((with_reducible refine gate_callee (f := 18) rfl ?_); refine goesL_ (some 8) rfl rfl Try.func18 (by kernel_rfl) rfl #[.int .i64 (a0.size : Int)] rfl (by (try simp only [List.map_toArray, List.map_cons, List.map_nil]); first | done | rfl | (simp only [List.length_drop, List.length_take]; rfl)) ?_; (with_reducible refine (impl_Number.calls k (a0.size : Int) t196 _ A3.out).mono ?_); rintro e w5 ⟨v197, rfl, ho0, hb⟩; refine ⟨_, rfl, ?_⟩; have n0_ := A_ (Kd.R_lower ho0 (below_size z23a)); have n1_ := A_ (below_step z23a hb); clear HB; have HO198 := n0_; have HB := n1_; clear n0_ n1_) | (at_builtin; refine print_append_str (w0 := w) w.heap.size rfl (.tmp 8) _ 22 9 5 rfl Try.underlying22 Try.underlying9 info5 v197 t196 a0 rfl rfl ?aO ?aB ?aS ?aL ?_; (case aB => exact z23a); (case aO => exact (Kd.own_of_R (by (with_reducible repeat (first | apply Kd.R_alloc | apply Kd.R_drewN | apply Kd.R_drew)); exact HO198.out))); (case aS => exact (below_size z23a)); (case aL => have := LMc4.out; omega); intro v200 w6 ho0 hb hg; have ho := Kd.R_of_own (h1 := fun _ => rfl) (ok := fun _ => True) ho0 (fun _ _ => trivial); clear ho0; have hat := True.intro; rw [← Ny199.out] at ho; change Kd.R (Kd.int .u8) 5 w6 w.heap.size (fun _ => True) v200 y199 at ho; have n0_ := A_ (hb); have n1_ := A_ (ho); clear HB; clear HO198; have HB := n0_; have HO201 := n1_; clear n0_ n1_; clear ho hb hg hat))
 go_ret
 exact ⟨_, by first | rfl | (simp [errW_none, errW_some] <;> rfl) | (simp [*, errW_none, errW_some] <;> rfl), by (with_reducible repeat (first | apply Kd.R_alloc | apply Kd.R_drewN | apply Kd.R_drew)); exact HO201.out, by repeat (first | (with_reducible first | exact HB.out | apply below_alloc | apply pw_below_drewN | apply below_drew1) | exact HB.out)⟩
 }
 {
 rw [if_neg c4] at H
 exact absurd H (by simp)
 
 }
 }
end Go.Proofs.Ythkhfmomibfkjaa.PFnPacked

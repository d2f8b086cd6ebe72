-- by a program of this session (wip/print/run.py) for this claim
import Derived.Test.YthkhfmomibfkjaaLibPu
import Derived.Test.YthkhfmomibfkjaaPFnPackedx0
import Derived.Test.YthkhfmomibfkjaaPFnPackedx2
import Derived.Test.YthkhfmomibfkjaaPFnPackedx12
namespace Go.Proofs.Ythkhfmomibfkjaa.PFnPacked
open Go.Proofs.Ythkhfmomibfkjaa.Lib Go.RowKit Go.Proofs.YthkhfmomibfkjaaW.PrintWords Go.Proofs.YthkhfmomibfkjaaW.PrintLast Go.Proofs.YthkhfmomibfkjaaW.PrintMore
attribute [local go_sem] max2_int min2_int max_two min_two max_three min_three max_four min_four   -- for this text's walks alone
set_option linter.unusedVariables false
set_option linter.unusedSimpArgs false

theorem z112a {p_ : Prop} (h_ : p_ := by simp only [Act.put, List.setIfInBounds_toArray, List.set_cons_zero, List.set_cons_succ, i64_w, i32_w]; rfl) : p_ := h_
theorem z112b {p_ : Prop} (h_ : p_ := by repeat (first | (with_reducible first | exact HB.out | apply below_alloc | apply pw_below_drewN | apply below_drew1 | refine below_set ?_ GE373.out) | exact HB.out)) : p_ := h_
theorem z112c {p_ : Prop} (h_ : p_ := by (with_reducible repeat (first | refine blk_drewN ?_ _ | refine blk_drew ?_ | refine blk_alloc ?_ _)); exact BK373.out) : p_ := h_
theorem z112d {p_ : Prop} (h_ : p_ := by first | (with_reducible assumption) | assumption) : p_ := h_
def spec_l3Put.l0 : Nat → List (S49) → Int → ByteArray → ByteArray → Int → Bool → Option ((List (S49)))
 | 0, _, _, _, _, _, _ => none
 | k + 1, x0, x5, x374000, x374001, x374002, x374003 => if x5 < (x0.length : Int) then (if 0 ≤ x5 then ((spec_l3Ahead.f ((rd_T49 x0 x5).f0) ((rd_T49 x0 x5).f1) ((rd_T49 x0 x5).f2) ((rd_T49 x0 x5).f3) x374000 x374001 x374002 x374003).bind fun t375 => (if t375 = true then (spec_l3Put.l0 k x0 (wrap64 (x5 + 1)) x374000 x374001 x374002 x374003) else ((some (([] : List (S49)) : List (S49))).bind fun y376 => (if x5 ≤ (x0.length : Int) then ((some (x0.take (x5 : Int).toNat : List (S49))).bind fun y379 => (if y376.length + y379.length < 2932031007402 then ((some (y376 ++ y379 : List (S49))).bind fun y383 => (if y383.length < 2932031007402 then ((some (y383 ++ [(⟨x374000, x374001, x374002, x374003⟩ : S49)] : List (S49))).bind fun y386 => ((some (x0.drop (x5 : Int).toNat : List (S49))).bind fun y389 => (if y386.length + y389.length < 2932031007402 then (some (y386 ++ y389)) else (none)))) else (none))) else (none))) else (none))))) else (none)) else ((some (([] : List (S49)) : List (S49))).bind fun y396 => (if 0 ≤ x5 then (if x5 ≤ (x0.length : Int) then ((some (x0.take (x5 : Int).toNat : List (S49))).bind fun y399 => (if y396.length + y399.length < 2932031007402 then ((some (y396 ++ y399 : List (S49))).bind fun y403 => (if y403.length < 2932031007402 then ((some (y403 ++ [(⟨x374000, x374001, x374002, x374003⟩ : S49)] : List (S49))).bind fun y406 => ((some (x0.drop (x5 : Int).toNat : List (S49))).bind fun y409 => (if y406.length + y409.length < 2932031007402 then (some (y406 ++ y409)) else (none)))) else (none))) else (none))) else (none)) else (none)))
def spec_l3Put.f (k : Nat) (l0 : List (S49)) (a1_0 : ByteArray) (a1_1 : ByteArray) (a1_2 : Int) (a1_3 : Bool) : Option ((List (S49))) := spec_l3Put.l0 k l0 0 a1_0 a1_1 a1_2 a1_3
def spec_l3Put.T2 : Bool × List (List Nat × List Nat) := (true, [([], []), ([], []), ([1], [1]), ([0, 2], [0, 2]), ([3], [3]), ([4], [4]), ([4], [4]), ([5, 6, 4], [4, 5, 6]), ([7, 4], [4, 7]), ([4], [4]), ([8, 9, 4, 4], [4, 8, 9]), ([4, 10], [4, 10])])
def spec_l3Put.B2 : List Nat := [0, 0, 2, 7, 15, 31, 31, 127, 255, 31, 1023, 2047]
theorem spec_l3Put.tab2 : rtab .any (opsOf Try.f112 2) = spec_l3Put.T2 := by kernel_rfl
theorem spec_l3Put.bits2 : waitsOk spec_l3Put.T2.2 spec_l3Put.B2 = true := by kernel_rfl
def spec_l3Put.T5 : Bool × List (List Nat × List Nat) := (true, [([], []), ([], []), ([1], [1]), ([0, 2], [0, 2]), ([], []), ([], []), ([4, 5], [4, 5]), ([3, 6, 3], [3, 6]), ([7, 7, 0, 1, 2, 3, 4, 5, 6, 7], [7])])
def spec_l3Put.B5 : List Nat := [0, 0, 2, 7, 0, 0, 48, 127, 255]
theorem spec_l3Put.tab5 : rtab .any (opsOf Try.f112 5) = spec_l3Put.T5 := by kernel_rfl
theorem spec_l3Put.bits5 : waitsOk spec_l3Put.T5.2 spec_l3Put.B5 = true := by kernel_rfl
set_option maxHeartbeats 8000000 in
set_option maxRecDepth 100000 in
theorem spec_l3Put.calls (k : Nat) (A0 : Option Addr) (c0 : Nat) (l0 : List (S49)) (a1_0 : ByteArray) (a1_1 : ByteArray) (a1_2 : Int) (a1_3 : Bool) (r : List (S49)) (w : World) (hr0 : Kd.C k49 w A0 l0.length l0) (hc0 : l0.length ≤ c0) (h : spec_l3Put.f k l0 a1_0 a1_1 a1_2 a1_3 = some r) :
  Calls Try.prog 112 #[.slice A0 l0.length c0, .agg #[.string a1_0, .string a1_1, .int .i64 a1_2, .bool a1_3]] w fun e w' => ∃ v0_ : Value, e = .returned (v0_) ∧ Kd.R k49 49 w' w.heap.size (fun _ => True) v0_ r ∧ Below w.heap.size w w' := by
 have hu49 := Try.underlying49
 have HR0 := A_ hr0
 have HC0 := A_ hc0
 clear hr0 hc0
 have HB := A_ (Below.refl w.heap.size w)
 have H : (spec_l3Put.l0 k l0 0 a1_0 a1_1 a1_2 a1_3) = some r := h
 clear h
 have H' := A_ H
 clear H
 go_enter Try.func112, Try.ntmps112
 go_wp2_with (first | ((with_reducible refine gate_dst (N := 3) rfl ?_); refine box_event ?hg (N := 3) ?hd (cs := #[.string a1_0, .string a1_1, .int .i64 a1_2, .bool a1_3]) (t := 49) ?hr ?_; (case hd => rfl); (case hg => rfl); (case hr => first | (go_simp; done) | (go_simp; rfl)); intro gb373 hg w3 hbox hb; have n0_ := A_ (below_step (by repeat (first | (with_reducible first | exact HB.out | apply below_alloc | apply pw_below_drewN | apply below_drew1) | exact HB.out)) hb); have n1_ := A_ (hbox); have n2_ := A_ ((by rw [hg]; exact (below_size (by repeat (first | (with_reducible first | exact HB.out | apply below_alloc | apply pw_below_drewN | apply below_drew1) | exact HB.out))) : w.heap.size ≤ gb373)); have n3_ := A_ ((by rw [hg]; exact (below_size (by repeat (first | (with_reducible first | exact HB.out | apply below_alloc | apply pw_below_drewN | apply below_drew1) | exact HB.out))) : w.heap.size ≤ gb373)); clear HB; have HB := n0_; have BK373 := n1_; have GW373 := n2_; have GE373 := n3_; clear n0_ n1_ n2_ n3_; clear hb hbox hg))
 go_loopg [5] k (fun kq v5 w' => ∃ (x5_1 : Int), v5 = .int .i64 x5_1 ∧ Aside0 (spec_l3Put.l0 kq l0 x5_1 a1_0 a1_1 a1_2 a1_3 = some r) ∧ Aside0 (kq ≤ k) ∧ Aside0 (w'.heap[gb373]? = some (.cells #[.string a1_0, .string a1_1, .int .i64 a1_2, .bool a1_3] 49 (0, 0))) ∧ Aside0 (Below w.heap.size w w'))
 case atStart => exact ⟨(0), (by first | rfl | (simp; done) | (simp [*]; done)), H', ⟨Nat.le_refl _⟩, ⟨by (with_reducible repeat (first | refine blk_drewN ?_ _ | refine blk_drew ?_ | refine blk_alloc ?_ _)); exact BK373.out⟩, ⟨by repeat (first | (with_reducible first | exact HB.out | apply below_alloc | apply pw_below_drewN | apply below_drew1 | refine below_set ?_ GE373.out) | exact HB.out)⟩⟩
 case round =>
  clear H'
  try clear c1
  try clear p2
  obtain ⟨x5_1, rfl, HA, HK1, BK373, HB⟩ := hrel
  cases gk with
  | zero => exact absurd HA.out (by simp [spec_l3Put.l0])
  | succ k1 =>
   have H := HA.out
   clear HA
   simp only [spec_l3Put.l0] at H
   by_cases c4 : x5_1 < (l0.length : Int)
   {
   rw [if_pos c4] at H
   have c4b0 : decide (x5_1 < (l0.length : Int)) = true := decide_eq_true c4
   clear c4
   by_cases c5 : 0 ≤ x5_1
   {
   rw [if_pos c5] at H
   have c5b0 : decide (0 ≤ x5_1) = true := decide_eq_true c5
   clear c5
   replace H := Option.bind_eq_some_iff.mp H
   obtain ⟨t375, A60, H⟩ := H
   (try dsimp only at H)
   have A6 := A_ A60
   clear A60
   by_cases c7 : t375 = true
   {
   subst c7
   rw [if_pos rfl] at H
   have H' := A_ H
   clear H
   try go_wp2
   replace BK373 := A_ (blk_drew BK373.out)
   replace HB := A_ (below_drew1 HB.out)
   have p374 : 0 ≤ (x5_1 : Int) := of_decide_eq_true z112d
   have q374 : x5_1 < (l0.length : Int) := of_decide_eq_true z112d
   obtain ⟨ad374, e374, hx374_0, hx374_1, hx374_2, hx374_3⟩ := at_T49 HR0.out x5_1 p374 q374
   have hw374_3 := hx374_3
   have hw374_2 := hx374_2
   have hw374_1 := hx374_1
   have hw374_0 := hx374_0
   cases e374
   replace hx374_0 := (HB.out.cell (World.block_lt_of_cell? w _ hx374_0)).trans hx374_0
   replace hx374_1 := (HB.out.cell (World.block_lt_of_cell? w _ hx374_1)).trans hx374_1
   replace hx374_2 := (HB.out.cell (World.block_lt_of_cell? w _ hx374_2)).trans hx374_2
   replace hx374_3 := (HB.out.cell (World.block_lt_of_cell? w _ hx374_3)).trans hx374_3
   replace p374 := eq_true p374
   replace q374 := eq_true q374
   refine start_ (n := 12) (S := fun w' => w'.cell? ⟨gb373, 0, none⟩ = some (.string a1_0) ∧ w'.cell? ⟨gb373, 1, none⟩ = some (.string a1_1) ∧ w'.cell? ⟨gb373, 2, none⟩ = some (.int .i64 a1_2) ∧ w'.cell? ⟨gb373, 3, none⟩ = some (.bool a1_3) ∧ w'.cell? (ad374.add ((x5_1).toNat * 4)) = some (.string ((rd_T49 l0 x5_1).f0)) ∧ w'.cell? ⟨(ad374.add ((x5_1).toNat * 4)).block, (ad374.add ((x5_1).toNat * 4)).off + 1, none⟩ = some (.string ((rd_T49 l0 x5_1).f1)) ∧ w'.cell? ⟨(ad374.add ((x5_1).toNat * 4)).block, (ad374.add ((x5_1).toNat * 4)).off + 2, none⟩ = some (.int .i64 ((rd_T49 l0 x5_1).f2)) ∧ w'.cell? ⟨(ad374.add ((x5_1).toNat * 4)).block, (ad374.add ((x5_1).toNat * 4)).off + 3, none⟩ = some (.bool ((rd_T49 l0 x5_1).f3))) (ds := []) (bs "XXXXXXXXXXXX") (by kernel_rfl) rfl rfl ⟨(blk_cell BK373.out 0).trans rfl, (blk_cell BK373.out 1).trans rfl, (blk_cell BK373.out 2).trans rfl, (blk_cell BK373.out 3).trans rfl, ((HB.out.cell (World.block_lt_of_cell? w _ hw374_0)).trans hw374_0), ((HB.out.cell (World.block_lt_of_cell? w _ hw374_1)).trans hw374_1), ((HB.out.cell (World.block_lt_of_cell? w _ hw374_2)).trans hw374_2), ((HB.out.cell (World.block_lt_of_cell? w _ hw374_3)).trans hw374_3)⟩ (fun hHeld => ?_); refine with_tabW spec_l3Put.tab2 spec_l3Put.bits2 (fun HT_ HW_ => ?_)
   generalize wr.drew = w8 at BK373 HB hx374_0 hx374_1 hx374_2 hx374_3 hHeld ⊢
   refine pu_ 0 (some 7) (bs "YXXXXXXXXXXX") ?_
   refine pu_ 1 (some 8) (bs "YYXXXXXXXXXX") ?_
   refine pu_ 2 (some 9) (bs "YYYXXXXXXXXX") ?_
   refine pu_ 3 (some 10) (bs "YYYYXXXXXXXX") ?_
   refine pu_ 4 (some 11) (bs "YYYYYXXXXXXX") ?_
   refine pu_ 5 (some 12) (bs "YYYYYYXXXXXX") ?_
   refine pu_ 6 (some 13) (bs "YYYYYYYXXXXX") ?_
   refine pu_ 7 (some 14) (bs "YYYYYYYYXXXX") ?_
   refine take_ (i := 8) (N := some 15) (v := _) (a' := _) (bs "YYYYYYYYYXXX") rfl rfl (take_ofW HT_.out HW_.out (by kernel_rfl)) (fun _ _ _ h => h) (Or.inl ⟨by rfl, (by rintro w' ⟨s0, s1, s2, s3, s4, s5, s6, s7⟩; go_simp; with_reducible rfl)⟩) hHeld z112a ?_
   refine take_ (i := 9) (N := some 16) (v := _) (a' := _) (bs "YYYYYYYYYYXX") rfl rfl (take_ofW HT_.out HW_.out (by kernel_rfl)) (fun _ _ _ h => h) (Or.inl ⟨by rfl, (by rintro w' ⟨s0, s1, s2, s3, s4, s5, s6, s7⟩; go_simp; with_reducible rfl)⟩) hHeld z112a ?_
   refine one_ (i := 10) (N := some 17) (bs "YYYYYYYYYYYX") rfl rfl (one_of HT_.out (by kernel_rfl)) (by decide) (fun K hK => ?_)
   refine goes_ Try.func80 (by kernel_rfl) rfl #[.agg #[.string ((rd_T49 l0 x5_1).f0), .string ((rd_T49 l0 x5_1).f1), .int .i64 ((rd_T49 l0 x5_1).f2), .bool ((rd_T49 l0 x5_1).f3)], .agg #[.string a1_0, .string a1_1, .int .i64 a1_2, .bool a1_3]] (by rfl) rfl rfl (by (try simp only [List.map_toArray, List.map_cons, List.map_nil]); first | done | rfl | (simp only [List.length_drop, List.length_take]; rfl)) ?_
   with_reducible refine (spec_l3Ahead.calls ((rd_T49 l0 x5_1).f0) ((rd_T49 l0 x5_1).f1) ((rd_T49 l0 x5_1).f2) ((rd_T49 l0 x5_1).f3) a1_0 a1_1 a1_2 a1_3 true _ A6.out).mono ?_
   rintro e w9 ⟨rfl, hb⟩
   refine ⟨_, rfl, ?_⟩
   replace BK373 := A_ (blk_below (g := gb373) (o := .cells #[.string a1_0, .string a1_1, .int .i64 a1_2, .bool a1_3] 49 (0, 0)) z112c hb)
   replace HB := A_ (below_step z112b hb)
   refine hK.out _ _ ⟨(blk_cell BK373.out 0).trans rfl, (blk_cell BK373.out 1).trans rfl, (blk_cell BK373.out 2).trans rfl, (blk_cell BK373.out 3).trans rfl, ((HB.out.cell (World.block_lt_of_cell? w _ hw374_0)).trans hw374_0), ((HB.out.cell (World.block_lt_of_cell? w _ hw374_1)).trans hw374_1), ((HB.out.cell (World.block_lt_of_cell? w _ hw374_2)).trans hw374_2), ((HB.out.cell (World.block_lt_of_cell? w _ hw374_3)).trans hw374_3)⟩ (fun hHeld => ?_)
   clear hK K
   refine norm_ (nz_ 17) ?_
   refine pu_ 11 (some 18) (bs "YYYYYYYYYYYY") ?_
   refine done_ (done_of HT_.out (by kernel_rfl)) ?_
   try go_wp2
   go_roundg k1
   case measure => have := HK1.out; omega
   case rel => exact ⟨(wrap64 (x5_1 + 1)), (by first | rfl | (simp; done) | (simp [*]; done)), H', ⟨by have := HK1.out; omega⟩, ⟨by (with_reducible repeat (first | refine blk_drewN ?_ _ | refine blk_drew ?_ | refine blk_alloc ?_ _)); exact BK373.out⟩, ⟨by repeat (first | (with_reducible first | exact HB.out | apply below_alloc | apply pw_below_drewN | apply below_drew1 | refine below_set ?_ GE373.out) | exact HB.out)⟩⟩
   }
   {
   replace c7 := Bool.eq_false_iff.mpr c7
   subst c7
   rw [if_neg Bool.false_ne_true] at H
   obtain ⟨y376, hy376⟩ : ∃ y_ : List (S49), y_ = (([] : List (S49))) := ⟨_, rfl⟩
   replace H : (if x5_1 ≤ (l0.length : Int) then ((some (l0.take (x5_1 : Int).toNat : List (S49))).bind fun y379 => (if y376.length + y379.length < 2932031007402 then ((some (y376 ++ y379 : List (S49))).bind fun y383 => (if y383.length < 2932031007402 then ((some (y383 ++ [(⟨a1_0, a1_1, a1_2, a1_3⟩ : S49)] : List (S49))).bind fun y386 => ((some (l0.drop (x5_1 : Int).toNat : List (S49))).bind fun y389 => (if y386.length + y389.length < 2932031007402 then (some (y386 ++ y389)) else (none)))) else (none))) else (none))) else (none)) = some r := by first | (rw [hy376]; with_reducible exact H) | (have H2_ := (Option.bind_some _ _).symm.trans H; rw [hy376]; with_reducible exact H2_) | (have H2_ := (Option.bind_some _ _).symm.trans H; with_reducible exact H2_) | with_reducible exact H | (rw [hy376]; exact H) | exact H
   have Ny376 := A_ hy376
   clear hy376
   have c10b0 := eq_true (of_decide_eq_true z112d : 0 ≤ x5_1)
   by_cases c11 : x5_1 ≤ (l0.length : Int)
   {
   rw [if_pos c11] at H
   have c11b0 := eq_true c11
   have c11b1 : decide (x5_1 ≤ (l0.length : Int)) = true := decide_eq_true c11
   clear c11
   obtain ⟨y379, hy379⟩ : ∃ y_ : List (S49), y_ = (l0.take (x5_1 : Int).toNat) := ⟨_, rfl⟩
   replace H : (if y376.length + y379.length < 2932031007402 then ((some (y376 ++ y379 : List (S49))).bind fun y383 => (if y383.length < 2932031007402 then ((some (y383 ++ [(⟨a1_0, a1_1, a1_2, a1_3⟩ : S49)] : List (S49))).bind fun y386 => ((some (l0.drop (x5_1 : Int).toNat : List (S49))).bind fun y389 => (if y386.length + y389.length < 2932031007402 then (some (y386 ++ y389)) else (none)))) else (none))) else (none)) = some r := by first | (rw [hy379]; with_reducible exact H) | (have H2_ := (Option.bind_some _ _).symm.trans H; rw [hy379]; with_reducible exact H2_) | (have H2_ := (Option.bind_some _ _).symm.trans H; with_reducible exact H2_) | with_reducible exact H | (rw [hy379]; exact H) | exact H
   have Ny379 := A_ hy379
   clear hy379
   by_cases c12 : y376.length + y379.length < 2932031007402
   {
   rw [if_pos c12] at H
   have LMc12 := A_ c12
   clear c12
   obtain ⟨y383, hy383⟩ : ∃ y_ : List (S49), y_ = (y376 ++ y379) := ⟨_, rfl⟩
   replace H : (if y383.length < 2932031007402 then ((some (y383 ++ [(⟨a1_0, a1_1, a1_2, a1_3⟩ : S49)] : List (S49))).bind fun y386 => ((some (l0.drop (x5_1 : Int).toNat : List (S49))).bind fun y389 => (if y386.length + y389.length < 2932031007402 then (some (y386 ++ y389)) else (none)))) else (none)) = some r := by first | (rw [hy383]; with_reducible exact H) | (have H2_ := (Option.bind_some _ _).symm.trans H; rw [hy383]; with_reducible exact H2_) | (have H2_ := (Option.bind_some _ _).symm.trans H; with_reducible exact H2_) | with_reducible exact H | (rw [hy383]; exact H) | exact H
   have Ny383 := A_ hy383
   clear hy383
   by_cases c13 : y383.length < 2932031007402
   {
   rw [if_pos c13] at H
   have LMc13 := A_ c13
   clear c13
   obtain ⟨y386, hy386⟩ : ∃ y_ : List (S49), y_ = (y383 ++ [(⟨a1_0, a1_1, a1_2, a1_3⟩ : S49)]) := ⟨_, rfl⟩
   replace H : ((some (l0.drop (x5_1 : Int).toNat : List (S49))).bind fun y389 => (if y386.length + y389.length < 2932031007402 then (some (y386 ++ y389)) else (none))) = some r := by first | (rw [hy386]; with_reducible exact H) | (have H2_ := (Option.bind_some _ _).symm.trans H; rw [hy386]; with_reducible exact H2_) | (have H2_ := (Option.bind_some _ _).symm.trans H; with_reducible exact H2_) | with_reducible exact H | (rw [hy386]; exact H) | exact H
   have Ny386 := A_ hy386
   clear hy386
   have c14b0 := eq_true (of_decide_eq_true z112d : 0 ≤ x5_1)
   have c15b0 := eq_true (of_decide_eq_true z112d : x5_1 ≤ (l0.length : Int))
   obtain ⟨y389, hy389⟩ : ∃ y_ : List (S49), y_ = (l0.drop (x5_1 : Int).toNat) := ⟨_, rfl⟩
   replace H : (if y386.length + y389.length < 2932031007402 then (some (y386 ++ y389)) else (none)) = some r := by first | (rw [hy389]; with_reducible exact H) | (have H2_ := (Option.bind_some _ _).symm.trans H; rw [hy389]; with_reducible exact H2_) | (have H2_ := (Option.bind_some _ _).symm.trans H; with_reducible exact H2_) | with_reducible exact H | (rw [hy389]; exact H) | exact H
   have Ny389 := A_ hy389
   clear hy389
   by_cases c16 : y386.length + y389.length < 2932031007402
   {
   rw [if_pos c16] at H
   have LMc16 := A_ c16
   clear c16
   obtain ⟨y393, hy393⟩ : ∃ y_ : List (S49), y_ = (y386 ++ y389) := ⟨_, rfl⟩
   replace H : (some y393) = some r := by first | (rw [hy393]; with_reducible exact H) | (have H2_ := (Option.bind_some _ _).symm.trans H; rw [hy393]; with_reducible exact H2_) | (have H2_ := (Option.bind_some _ _).symm.trans H; with_reducible exact H2_) | with_reducible exact H | (rw [hy393]; exact H) | exact H
   have Ny393 := A_ hy393
   clear hy393
   obtain rfl := Option.some.inj H
   try go_wp2
   replace BK373 := A_ (blk_drew BK373.out)
   replace HB := A_ (below_drew1 HB.out)
   have p374 : 0 ≤ (x5_1 : Int) := of_decide_eq_true z112d
   have q374 : x5_1 < (l0.length : Int) := of_decide_eq_true z112d
   obtain ⟨ad374, e374, hx374_0, hx374_1, hx374_2, hx374_3⟩ := at_T49 HR0.out x5_1 p374 q374
   have hw374_3 := hx374_3
   have hw374_2 := hx374_2
   have hw374_1 := hx374_1
   have hw374_0 := hx374_0
   cases e374
   replace hx374_0 := (HB.out.cell (World.block_lt_of_cell? w _ hx374_0)).trans hx374_0
   replace hx374_1 := (HB.out.cell (World.block_lt_of_cell? w _ hx374_1)).trans hx374_1
   replace hx374_2 := (HB.out.cell (World.block_lt_of_cell? w _ hx374_2)).trans hx374_2
   replace hx374_3 := (HB.out.cell (World.block_lt_of_cell? w _ hx374_3)).trans hx374_3
   replace p374 := eq_true p374
   replace q374 := eq_true q374
   refine start_ (n := 12) (S := fun w' => w'.cell? ⟨gb373, 0, none⟩ = some (.string a1_0) ∧ w'.cell? ⟨gb373, 1, none⟩ = some (.string a1_1) ∧ w'.cell? ⟨gb373, 2, none⟩ = some (.int .i64 a1_2) ∧ w'.cell? ⟨gb373, 3, none⟩ = some (.bool a1_3) ∧ w'.cell? (ad374.add ((x5_1).toNat * 4)) = some (.string ((rd_T49 l0 x5_1).f0)) ∧ w'.cell? ⟨(ad374.add ((x5_1).toNat * 4)).block, (ad374.add ((x5_1).toNat * 4)).off + 1, none⟩ = some (.string ((rd_T49 l0 x5_1).f1)) ∧ w'.cell? ⟨(ad374.add ((x5_1).toNat * 4)).block, (ad374.add ((x5_1).toNat * 4)).off + 2, none⟩ = some (.int .i64 ((rd_T49 l0 x5_1).f2)) ∧ w'.cell? ⟨(ad374.add ((x5_1).toNat * 4)).block, (ad374.add ((x5_1).toNat * 4)).off + 3, none⟩ = some (.bool ((rd_T49 l0 x5_1).f3))) (ds := []) (bs "XXXXXXXXXXXX") (by kernel_rfl) rfl rfl ⟨(blk_cell BK373.out 0).trans rfl, (blk_cell BK373.out 1).trans rfl, (blk_cell BK373.out 2).trans rfl, (blk_cell BK373.out 3).trans rfl, ((HB.out.cell (World.block_lt_of_cell? w _ hw374_0)).trans hw374_0), ((HB.out.cell (World.block_lt_of_cell? w _ hw374_1)).trans hw374_1), ((HB.out.cell (World.block_lt_of_cell? w _ hw374_2)).trans hw374_2), ((HB.out.cell (World.block_lt_of_cell? w _ hw374_3)).trans hw374_3)⟩ (fun hHeld => ?_); refine with_tabW spec_l3Put.tab2 spec_l3Put.bits2 (fun HT_ HW_ => ?_)
   generalize wr.drew = w17 at BK373 HB hx374_0 hx374_1 hx374_2 hx374_3 hHeld ⊢
   refine pu_ 0 (some 7) (bs "YXXXXXXXXXXX") ?_
   refine pu_ 1 (some 8) (bs "YYXXXXXXXXXX") ?_
   refine pu_ 2 (some 9) (bs "YYYXXXXXXXXX") ?_
   refine pu_ 3 (some 10) (bs "YYYYXXXXXXXX") ?_
   refine pu_ 4 (some 11) (bs "YYYYYXXXXXXX") ?_
   refine pu_ 5 (some 12) (bs "YYYYYYXXXXXX") ?_
   refine pu_ 6 (some 13) (bs "YYYYYYYXXXXX") ?_
   refine pu_ 7 (some 14) (bs "YYYYYYYYXXXX") ?_
   refine take_ (i := 8) (N := some 15) (v := _) (a' := _) (bs "YYYYYYYYYXXX") rfl rfl (take_ofW HT_.out HW_.out (by kernel_rfl)) (fun _ _ _ h => h) (Or.inl ⟨by rfl, (by rintro w' ⟨s0, s1, s2, s3, s4, s5, s6, s7⟩; go_simp; with_reducible rfl)⟩) hHeld z112a ?_
   refine take_ (i := 9) (N := some 16) (v := _) (a' := _) (bs "YYYYYYYYYYXX") rfl rfl (take_ofW HT_.out HW_.out (by kernel_rfl)) (fun _ _ _ h => h) (Or.inl ⟨by rfl, (by rintro w' ⟨s0, s1, s2, s3, s4, s5, s6, s7⟩; go_simp; with_reducible rfl)⟩) hHeld z112a ?_
   refine one_ (i := 10) (N := some 17) (bs "YYYYYYYYYYYX") rfl rfl (one_of HT_.out (by kernel_rfl)) (by decide) (fun K hK => ?_)
   refine goes_ Try.func80 (by kernel_rfl) rfl #[.agg #[.string ((rd_T49 l0 x5_1).f0), .string ((rd_T49 l0 x5_1).f1), .int .i64 ((rd_T49 l0 x5_1).f2), .bool ((rd_T49 l0 x5_1).f3)], .agg #[.string a1_0, .string a1_1, .int .i64 a1_2, .bool a1_3]] (by rfl) rfl rfl (by (try simp only [List.map_toArray, List.map_cons, List.map_nil]); first | done | rfl | (simp only [List.length_drop, List.length_take]; rfl)) ?_
   with_reducible refine (spec_l3Ahead.calls ((rd_T49 l0 x5_1).f0) ((rd_T49 l0 x5_1).f1) ((rd_T49 l0 x5_1).f2) ((rd_T49 l0 x5_1).f3) a1_0 a1_1 a1_2 a1_3 false _ A6.out).mono ?_
   rintro e w18 ⟨rfl, hb⟩
   refine ⟨_, rfl, ?_⟩
   replace BK373 := A_ (blk_below (g := gb373) (o := .cells #[.string a1_0, .string a1_1, .int .i64 a1_2, .bool a1_3] 49 (0, 0)) z112c hb)
   replace HB := A_ (below_step z112b hb)
   refine hK.out _ _ ⟨(blk_cell BK373.out 0).trans rfl, (blk_cell BK373.out 1).trans rfl, (blk_cell BK373.out 2).trans rfl, (blk_cell BK373.out 3).trans rfl, ((HB.out.cell (World.block_lt_of_cell? w _ hw374_0)).trans hw374_0), ((HB.out.cell (World.block_lt_of_cell? w _ hw374_1)).trans hw374_1), ((HB.out.cell (World.block_lt_of_cell? w _ hw374_2)).trans hw374_2), ((HB.out.cell (World.block_lt_of_cell? w _ hw374_3)).trans hw374_3)⟩ (fun hHeld => ?_)
   clear hK K
   refine norm_ (nz_ 17) ?_
   refine pu_ 11 (some 18) (bs "YYYYYYYYYYYY") ?_
   refine done_ (done_of HT_.out (by kernel_rfl)) ?_
   try go_wp2_with (first | ((with_reducible refine gate_dst (N := 21) rfl ?_); refine Kd.R_lit k49 _ 49 ?hg (N := 21) ?hd (xs := ([] : List (S49))) (inner := []) (ok := fun _ => True) (okp := fun _ => True) ?hr ?hp (fun _ hk => hk) trivial (Below.refl _ _) (Nat.le_refl _) (by simp) ?_; (case hd => rfl); (case hg => rfl); (case hr => first | (go_simp; done) | (go_simp; rfl)); (case hp => exact (Reps.none _ _)); intro v377 w19 ho20 hb hg_ hnew_; clear hg_ hnew_; (first | rw [← Ny376.out] at ho20 | (simp only [Int.reduceToNat] at ho20; rw [← Ny376.out] at ho20)); have n0_ := A_ (Kd.R_lower (Kd.R_newB ho20 (g := gb373) (o := .cells #[.string a1_0, .string a1_1, .int .i64 a1_2, .bool a1_3] 49 (0, 0)) z112c) (below_size z112b)); have n1_ := A_ (blk_below (g := gb373) (o := .cells #[.string a1_0, .string a1_1, .int .i64 a1_2, .bool a1_3] 49 (0, 0)) z112c hb); have n2_ := A_ (below_step z112b hb); clear BK373; clear HB; have HO378 := n0_; have BK373 := n1_; have HB := n2_; clear n0_ n1_ n2_; clear hb ho20; have q21 : (x5_1 : Int) ≤ ((l0.length : Int) : Int) := of_decide_eq_true z112d; obtain ⟨i021, hi021, _, hsz21, _⟩ := info_parts info49; have hroom21 : l0.length ≤ c0 := HC0.out; have hC21 : Kd.C k49 _ (some ad374) l0.length l0 := HR0.out; have hcut21 := cut_to (P := Try.prog) 44 49 .i64 Try.underlying44 hi021 (some ad374) l0.length c0 x5_1 (of_decide_eq_true z112d) q21 hroom21; have hr21 := Kd.C_take (m := (x5_1 : Int).toNat) hC21 (by omega); have hy21 : y379.length = (x5_1 : Int).toNat := (by rw [Ny379.out, List.length_take]; omega); rw [← Ny379.out] at hr21; rw [← hy21] at hcut21; have HR382 := A_ hr21; have HC382 := A_ (show y379.length ≤ c0 from (by omega)); clear hr21 hC21 hroom21 hi021 hsz21; have KY21 := A_ hy21; clear hy21; replace q21 := eq_true q21) | ((with_reducible refine gate_builtin (b := .append) (xs := #[.tmp 21, .tmp 24]) rfl ?_); at_builtin; refine Kd.R_append_rows k49 (w0 := w) w.heap.size rfl (.tmp 21) (.tmp 24) 44 49 (.agg #[(.string ⟨#[]⟩), (.string ⟨#[]⟩), (.int .i64 0), (.bool false)]) 48 rfl Try.underlying44 info49 rfl (by decide) (by omega) v377 y376 y379 _ _ _ (fun k_ => k_ ≠ gb373) (fun _ => False) rfl rfl ?aO ?aR (fun _ _ h => h) (fun _ h => h.elim) ?aF ?aB ?aS ?aL ?_; (case aR => exact (by repeat (first | exact (Kd.C_below HR382.out HB.out) | (with_reducible refine Kd.C_alloc ?_ _) | (with_reducible refine Kd.C_drewN ?_ _) | (with_reducible refine Kd.C_drew ?_)))); (case aB => exact z112b); (case aF => exact (fun k_ hk => Kd.freshB (g := gb373) (o := .cells #[.string a1_0, .string a1_1, .int .i64 a1_2, .bool a1_3] 49 (0, 0)) z112c k_ hk)); (case aO => exact (by (with_reducible repeat (first | apply Kd.R_alloc | apply Kd.R_drewN | apply Kd.R_drew)); exact Kd.R_mono HO378.out (fun _ hk => hk.2))); (case aS => exact (below_size z112b)); (case aL => have := LMc12.out; omega); intro v384 w22 ho hb hg hat; rw [← Ny383.out] at ho; have n0_ := A_ (blk_grown (g := gb373) (o := .cells #[.string a1_0, .string a1_1, .int .i64 a1_2, .bool a1_3] 49 (0, 0)) z112c hg (Kd.R_away HO378.out (fun _ hk => hk.2))); have n1_ := A_ (hb); have n2_ := A_ (ho); clear BK373; clear HB; clear HO378; have BK373 := n0_; have HB := n1_; have HO385 := n2_; clear n0_ n1_ n2_; clear ho hb hg hat))
   replace HO385 := A_ (Kd.R_drew HO385.out)
   replace BK373 := A_ (blk_drew BK373.out)
   replace HB := A_ (below_drew1 HB.out)
   have q24 : (x5_1 : Int) ≤ ((l0.length : Int) : Int) := of_decide_eq_true z112d
   obtain ⟨i024, hi024, _, hsz24, _⟩ := info_parts info49
   have hroom24 : l0.length ≤ c0 := HC0.out
   have hC24 : Kd.C k49 _ (some ad374) l0.length l0 := HR0.out
   have q024 : (0 : Int) ≤ (x5_1 : Int) := of_decide_eq_true z112d
   have hcut24 := cut_from (P := Try.prog) 44 49 .i64 Try.underlying44 hi024 4 hsz24 (some ad374) l0.length c0 x5_1 q024 q24
   have hr24 := Kd.C_drop (m := (x5_1 : Int).toNat) (c := c0) hC24 (by omega) hroom24
   obtain ⟨A24, hA24⟩ : ∃ A1, A1 = (if c0 = (x5_1 : Int).toNat then (some ad374) else ((some ad374) : Option Addr).map (·.add ((x5_1 : Int).toNat * 4))) := ⟨_, rfl⟩
   obtain ⟨c24, hc24⟩ : ∃ c1, c1 = c0 - (x5_1 : Int).toNat := ⟨_, rfl⟩
   have hy24 : y389.length = l0.length - (x5_1 : Int).toNat := (by rw [Ny389.out, List.length_drop] <;> omega)
   rw [show (l0).drop (x5_1 : Int).toNat = y389 from Ny389.out.symm] at hr24
   replace hr24 : Kd.C k49 _ A24 y389.length y389 := (by rw [hA24]; exact hr24)
   rw [← hy24, ← hA24, ← hc24] at hcut24
   have HR392 := A_ hr24
   have HC392 := A_ (show y389.length ≤ c24 from (by rw [hy24, hc24]; exact Nat.sub_le_sub_right hroom24 _))
   clear hr24 hC24 hroom24 hi024 hsz24 hc24
   have KY24 := A_ hy24
   have KA24 := A_ hA24
   clear hy24 hA24
   replace q24 := eq_true q24
   refine start_ (n := 9) (S := fun w' => w'.cell? ⟨gb373, 0, none⟩ = some (.string a1_0) ∧ w'.cell? ⟨gb373, 1, none⟩ = some (.string a1_1) ∧ w'.cell? ⟨gb373, 2, none⟩ = some (.int .i64 a1_2) ∧ w'.cell? ⟨gb373, 3, none⟩ = some (.bool a1_3)) (ds := []) (bs "XXXXXXXXX") (by kernel_rfl) rfl rfl ⟨(blk_cell BK373.out 0).trans rfl, (blk_cell BK373.out 1).trans rfl, (blk_cell BK373.out 2).trans rfl, (blk_cell BK373.out 3).trans rfl⟩ (fun hHeld => ?_); refine with_tabW spec_l3Put.tab5 spec_l3Put.bits5 (fun HT_ HW_ => ?_)
   generalize w22.drew = w23 at HO385 BK373 HB HR392 hHeld ⊢
   refine pu_ 0 (some 26) (bs "YXXXXXXXX") ?_
   refine pu_ 4 (some 30) (bs "YXXXYXXXX") ?_
   refine pu_ 5 (some 31) (bs "YXXXYYXXX") ?_
   refine pu_ 6 (some 32) (bs "YXXXYYYXX") ?_
   refine take_ (i := 1) (N := some 27) (v := _) (a' := _) (bs "YYXXYYYXX") rfl rfl (take_ofW HT_.out HW_.out (by kernel_rfl)) (fun _ _ _ h => h) (Or.inl ⟨by rfl, (by rintro w' ⟨s0, s1, s2, s3⟩; go_simp; with_reducible rfl)⟩) hHeld z112a ?_
   refine one_ (i := 2) (N := some 28) (bs "YYYXYYYXX") rfl rfl (one_of HT_.out (by kernel_rfl)) (by decide) (fun K hK => ?_)
   refine value_ (w1 := ?_) (v := ?_) (by rfl) rfl ?_ ?_
   rotate_left 2
   {
   go_simp
   constructor
   {
   rfl
   }
   {
   rfl
   }
   }
   refine hK.out _ _ ⟨(blk_cell (blk_alloc BK373.out _) 0).trans rfl, (blk_cell (blk_alloc BK373.out _) 1).trans rfl, (blk_cell (blk_alloc BK373.out _) 2).trans rfl, (blk_cell (blk_alloc BK373.out _) 3).trans rfl⟩ (fun hHeld => ?_)
   clear hK K
   refine norm_ (nz_ 28) ?_
   refine one_ (i := 3) (N := some 29) (bs "YYYYYYYXX") rfl rfl (one_of HT_.out (by kernel_rfl)) (by decide) (fun K hK => ?_)
   refine Kd.R_append_step k49 (w0 := w) w.heap.size (by rfl) (.tmp 26) (.tmp 28) 44 49 (.agg #[(.string ⟨#[]⟩), (.string ⟨#[]⟩), (.int .i64 0), (.bool false)]) 48 rfl Try.underlying44 info49 rfl (by decide) (by omega) v384 y383 (⟨a1_0, a1_1, a1_2, a1_3⟩ : S49) [.string a1_0, .string a1_1, .int .i64 a1_2, .bool a1_3] (fun k_ => k_ ≠ gb373) (fun _ => False) rfl rfl ?aP (fun _ hk => hk.elim) ?aF ?aO ?aB ?aS ?aL ?_
   (case aP => exact k49_mkM _ _ _ (⟨a1_0, a1_1, a1_2, a1_3⟩ : S49))
   (case aB => exact z112b)
   (case aF => exact (fun k_ hk => Kd.freshB (g := gb373) (o := .cells #[.string a1_0, .string a1_1, .int .i64 a1_2, .bool a1_3] 49 (0, 0)) z112c k_ hk))
   (case aO => exact (by (with_reducible repeat (first | apply Kd.R_alloc | apply Kd.R_drewN | apply Kd.R_drew)); exact HO385.out))
   (case aS => exact (below_size z112b))
   (case aL => have := LMc13.out; omega)
   intro v387 w25 ho hb hg hat
   rw [← Ny386.out] at ho
   have n0_ := A_ (blk_grown (g := gb373) (o := .cells #[.string a1_0, .string a1_1, .int .i64 a1_2, .bool a1_3] 49 (0, 0)) z112c hg (Kd.R_away HO385.out (fun _ hk => hk)))
   have n1_ := A_ (hb)
   have n2_ := A_ (ho)
   clear BK373
   clear HB
   clear HO385
   have BK373 := n0_
   have HB := n1_
   have HO388 := n2_
   clear n0_ n1_ n2_
   clear ho hb hg hat
   refine hK.out _ _ ⟨(blk_cell BK373.out 0).trans rfl, (blk_cell BK373.out 1).trans rfl, (blk_cell BK373.out 2).trans rfl, (blk_cell BK373.out 3).trans rfl⟩ (fun hHeld => ?_)
   clear hK K
   refine norm_ (nz_ 29) ?_
   refine one_ (i := 7) (N := some 33) (bs "YYYYYYYYX") rfl rfl (one_of HT_.out (by kernel_rfl)) (by decide) (fun K hK => ?_)
   refine Kd.R_append_rows_step k49 (w0 := w) w.heap.size (by rfl) (.tmp 29) (.tmp 32) 44 49 (.agg #[(.string ⟨#[]⟩), (.string ⟨#[]⟩), (.int .i64 0), (.bool false)]) 48 rfl Try.underlying44 info49 rfl (by decide) (by omega) v387 y386 y389 _ _ _ (fun k_ => k_ ≠ gb373) (fun _ => False) rfl rfl ?aO ?aR (fun _ _ h => h) (fun _ h => h.elim) ?aF ?aB ?aS ?aL ?_
   (case aR => exact (by repeat (first | exact (Kd.C_below HR392.out HB.out) | (with_reducible refine Kd.C_alloc ?_ _) | (with_reducible refine Kd.C_drewN ?_ _) | (with_reducible refine Kd.C_drew ?_))))
   (case aB => exact z112b)
   (case aF => exact (fun k_ hk => Kd.freshB (g := gb373) (o := .cells #[.string a1_0, .string a1_1, .int .i64 a1_2, .bool a1_3] 49 (0, 0)) z112c k_ hk))
   (case aO => exact (by (with_reducible repeat (first | apply Kd.R_alloc | apply Kd.R_drewN | apply Kd.R_drew)); exact HO388.out))
   (case aS => exact (below_size z112b))
   (case aL => have := LMc16.out; omega)
   intro v394 w26 ho hb hg hat
   rw [← Ny393.out] at ho
   have n0_ := A_ (blk_grown (g := gb373) (o := .cells #[.string a1_0, .string a1_1, .int .i64 a1_2, .bool a1_3] 49 (0, 0)) z112c hg (Kd.R_away HO388.out (fun _ hk => hk)))
   have n1_ := A_ (hb)
   have n2_ := A_ (ho)
   clear BK373
   clear HB
   clear HO388
   have BK373 := n0_
   have HB := n1_
   have HO395 := n2_
   clear n0_ n1_ n2_
   clear ho hb hg hat
   refine hK.out _ _ ⟨(blk_cell BK373.out 0).trans rfl, (blk_cell BK373.out 1).trans rfl, (blk_cell BK373.out 2).trans rfl, (blk_cell BK373.out 3).trans rfl⟩ (fun hHeld => ?_)
   clear hK K
   refine norm_ (nz_ 33) ?_
   refine pu_ 8 (some 4) (bs "YYYYYYYYY") ?_
   refine done_ (done_of HT_.out (by kernel_rfl)) ?_
   try go_wp2
   go_ret
   exact ⟨_, by first | rfl | (simp [errW_none, errW_some] <;> rfl) | (simp [*, errW_none, errW_some] <;> rfl), by (with_reducible repeat (first | apply Kd.R_alloc | apply Kd.R_drewN | apply Kd.R_drew)); exact Kd.R_mono HO395.out (fun _ hk => trivial), by repeat (first | (with_reducible first | exact HB.out | apply below_alloc | apply pw_below_drewN | apply below_drew1 | refine below_set ?_ GE373.out) | exact HB.out)⟩
   }
   {
   rw [if_neg c16] at H
   exact absurd H (by simp)
   }
   }
   {
   rw [if_neg c13] at H
   exact absurd H (by simp)
   }
   }
   {
   rw [if_neg c12] at H
   exact absurd H (by simp)
   }
   }
   {
   rw [if_neg c11] at H
   exact absurd H (by simp)
   }
   }
   }
   {
   rw [if_neg c5] at H
   exact absurd H (by simp)
   }
   }
   {
   rw [if_neg c4] at H
   have c4b0 : decide (x5_1 < (l0.length : Int)) = false := decide_eq_false c4
   clear c4
   obtain ⟨y396, hy396⟩ : ∃ y_ : List (S49), y_ = (([] : List (S49))) := ⟨_, rfl⟩
   replace H : (if 0 ≤ x5_1 then (if x5_1 ≤ (l0.length : Int) then ((some (l0.take (x5_1 : Int).toNat : List (S49))).bind fun y399 => (if y396.length + y399.length < 2932031007402 then ((some (y396 ++ y399 : List (S49))).bind fun y403 => (if y403.length < 2932031007402 then ((some (y403 ++ [(⟨a1_0, a1_1, a1_2, a1_3⟩ : S49)] : List (S49))).bind fun y406 => ((some (l0.drop (x5_1 : Int).toNat : List (S49))).bind fun y409 => (if y406.length + y409.length < 2932031007402 then (some (y406 ++ y409)) else (none)))) else (none))) else (none))) else (none)) else (none)) = some r := by first | (rw [hy396]; with_reducible exact H) | (have H2_ := (Option.bind_some _ _).symm.trans H; rw [hy396]; with_reducible exact H2_) | (have H2_ := (Option.bind_some _ _).symm.trans H; with_reducible exact H2_) | with_reducible exact H | (rw [hy396]; exact H) | exact H
   have Ny396 := A_ hy396
   clear hy396
   by_cases c27 : 0 ≤ x5_1
   {
   rw [if_pos c27] at H
   have c27b0 := eq_true c27
   have c27b1 : decide (0 ≤ x5_1) = true := decide_eq_true c27
   clear c27
   by_cases c28 : x5_1 ≤ (l0.length : Int)
   {
   rw [if_pos c28] at H
   have c28b0 := eq_true c28
   have c28b1 : decide (x5_1 ≤ (l0.length : Int)) = true := decide_eq_true c28
   clear c28
   obtain ⟨y399, hy399⟩ : ∃ y_ : List (S49), y_ = (l0.take (x5_1 : Int).toNat) := ⟨_, rfl⟩
   replace H : (if y396.length + y399.length < 2932031007402 then ((some (y396 ++ y399 : List (S49))).bind fun y403 => (if y403.length < 2932031007402 then ((some (y403 ++ [(⟨a1_0, a1_1, a1_2, a1_3⟩ : S49)] : List (S49))).bind fun y406 => ((some (l0.drop (x5_1 : Int).toNat : List (S49))).bind fun y409 => (if y406.length + y409.length < 2932031007402 then (some (y406 ++ y409)) else (none)))) else (none))) else (none)) = some r := by first | (rw [hy399]; with_reducible exact H) | (have H2_ := (Option.bind_some _ _).symm.trans H; rw [hy399]; with_reducible exact H2_) | (have H2_ := (Option.bind_some _ _).symm.trans H; with_reducible exact H2_) | with_reducible exact H | (rw [hy399]; exact H) | exact H
   have Ny399 := A_ hy399
   clear hy399
   by_cases c29 : y396.length + y399.length < 2932031007402
   {
   rw [if_pos c29] at H
   have LMc29 := A_ c29
   clear c29
   obtain ⟨y403, hy403⟩ : ∃ y_ : List (S49), y_ = (y396 ++ y399) := ⟨_, rfl⟩
   replace H : (if y403.length < 2932031007402 then ((some (y403 ++ [(⟨a1_0, a1_1, a1_2, a1_3⟩ : S49)] : List (S49))).bind fun y406 => ((some (l0.drop (x5_1 : Int).toNat : List (S49))).bind fun y409 => (if y406.length + y409.length < 2932031007402 then (some (y406 ++ y409)) else (none)))) else (none)) = some r := by first | (rw [hy403]; with_reducible exact H) | (have H2_ := (Option.bind_some _ _).symm.trans H; rw [hy403]; with_reducible exact H2_) | (have H2_ := (Option.bind_some _ _).symm.trans H; with_reducible exact H2_) | with_reducible exact H | (rw [hy403]; exact H) | exact H
   have Ny403 := A_ hy403
   clear hy403
   by_cases c30 : y403.length < 2932031007402
   {
   rw [if_pos c30] at H
   have LMc30 := A_ c30
   clear c30
   obtain ⟨y406, hy406⟩ : ∃ y_ : List (S49), y_ = (y403 ++ [(⟨a1_0, a1_1, a1_2, a1_3⟩ : S49)]) := ⟨_, rfl⟩
   replace H : ((some (l0.drop (x5_1 : Int).toNat : List (S49))).bind fun y409 => (if y406.length + y409.length < 2932031007402 then (some (y406 ++ y409)) else (none))) = some r := by first | (rw [hy406]; with_reducible exact H) | (have H2_ := (Option.bind_some _ _).symm.trans H; rw [hy406]; with_reducible exact H2_) | (have H2_ := (Option.bind_some _ _).symm.trans H; with_reducible exact H2_) | with_reducible exact H | (rw [hy406]; exact H) | exact H
   have Ny406 := A_ hy406
   clear hy406
   have c31b0 := eq_true (of_decide_eq_true z112d : 0 ≤ x5_1)
   have c32b0 := eq_true (of_decide_eq_true z112d : x5_1 ≤ (l0.length : Int))
   obtain ⟨y409, hy409⟩ : ∃ y_ : List (S49), y_ = (l0.drop (x5_1 : Int).toNat) := ⟨_, rfl⟩
   replace H : (if y406.length + y409.length < 2932031007402 then (some (y406 ++ y409)) else (none)) = some r := by first | (rw [hy409]; with_reducible exact H) | (have H2_ := (Option.bind_some _ _).symm.trans H; rw [hy409]; with_reducible exact H2_) | (have H2_ := (Option.bind_some _ _).symm.trans H; with_reducible exact H2_) | with_reducible exact H | (rw [hy409]; exact H) | exact H
   have Ny409 := A_ hy409
   clear hy409
   by_cases c33 : y406.length + y409.length < 2932031007402
   {
   rw [if_pos c33] at H
   have LMc33 := A_ c33
   clear c33
   obtain ⟨y413, hy413⟩ : ∃ y_ : List (S49), y_ = (y406 ++ y409) := ⟨_, rfl⟩
   replace H : (some y413) = some r := by first | (rw [hy413]; with_reducible exact H) | (have H2_ := (Option.bind_some _ _).symm.trans H; rw [hy413]; with_reducible exact H2_) | (have H2_ := (Option.bind_some _ _).symm.trans H; with_reducible exact H2_) | with_reducible exact H | (rw [hy413]; exact H) | exact H
   have Ny413 := A_ hy413
   clear hy413
   obtain rfl := Option.some.inj H
   try go_wp2
   replace BK373 := A_ (blk_drew BK373.out)
   replace HB := A_ (below_drew1 HB.out)
   refine start_ (n := 12) (S := fun w' => True) (ds := []) (bs "XXXXXXXXXXXX") (by kernel_rfl) rfl rfl trivial (fun hHeld => ?_); refine with_tabW spec_l3Put.tab2 spec_l3Put.bits2 (fun HT_ HW_ => ?_)
   generalize wr.drew = w34 at BK373 HB hHeld ⊢
   refine pu_ 0 (some 7) (bs "YXXXXXXXXXXX") ?_
   refine pu_ 1 (some 8) (bs "YYXXXXXXXXXX") ?_
   refine pu_ 2 (some 9) (bs "YYYXXXXXXXXX") ?_
   refine pu_ 3 (some 10) (bs "YYYYXXXXXXXX") ?_
   refine pu_ 4 (some 11) (bs "YYYYYXXXXXXX") ?_
   refine pure_ (i := 5) (N := some 12) (v := undef) (a' := ?_) (bs "YYYYYYXXXXXX") rfl rfl (any_of HT_.out (by kernel_rfl)) (fun _ _ _ h => h) (Or.inr ⟨by rfl, rfl⟩) ?_ ?_
   rotate_left
   exact z112a
   refine pure_ (i := 6) (N := some 13) (v := undef) (a' := ?_) (bs "YYYYYYYXXXXX") rfl rfl (any_of HT_.out (by kernel_rfl)) (fun _ _ _ h => h) (Or.inr ⟨by rfl, rfl⟩) ?_ ?_
   rotate_left
   exact z112a
   refine pure_ (i := 7) (N := some 14) (v := undef) (a' := ?_) (bs "YYYYYYYYXXXX") rfl rfl (any_of HT_.out (by kernel_rfl)) (fun _ _ _ h => h) (Or.inr ⟨by rfl, rfl⟩) ?_ ?_
   rotate_left
   exact z112a
   refine pure_ (i := 8) (N := some 15) (v := undef) (a' := ?_) (bs "YYYYYYYYYXXX") rfl rfl (any_of HT_.out (by kernel_rfl)) (fun _ _ _ h => h) (Or.inr ⟨by rfl, rfl⟩) ?_ ?_
   rotate_left
   exact z112a
   refine pure_ (i := 9) (N := some 16) (v := undef) (a' := ?_) (bs "YYYYYYYYYYXX") rfl rfl (any_of HT_.out (by kernel_rfl)) (fun _ _ _ h => h) (Or.inr ⟨by rfl, rfl⟩) ?_ ?_
   rotate_left
   exact z112a
   refine pure_ (i := 10) (N := some 17) (v := undef) (a' := ?_) (bs "YYYYYYYYYYYX") rfl rfl (any_of HT_.out (by kernel_rfl)) (fun _ _ _ h => h) (Or.inr ⟨by rfl, rfl⟩) ?_ ?_
   rotate_left
   exact z112a
   refine pu_ 11 (some 18) (bs "YYYYYYYYYYYY") ?_
   refine done_ (done_of HT_.out (by kernel_rfl)) ?_
   try go_wp2_with (first | ((with_reducible refine gate_dst (N := 21) rfl ?_); refine Kd.R_lit k49 _ 49 ?hg (N := 21) ?hd (xs := ([] : List (S49))) (inner := []) (ok := fun _ => True) (okp := fun _ => True) ?hr ?hp (fun _ hk => hk) trivial (Below.refl _ _) (Nat.le_refl _) (by simp) ?_; (case hd => rfl); (case hg => rfl); (case hr => first | (go_simp; done) | (go_simp; rfl)); (case hp => exact (Reps.none _ _)); intro v397 w35 ho36 hb hg_ hnew_; clear hg_ hnew_; (first | rw [← Ny396.out] at ho36 | (simp only [Int.reduceToNat] at ho36; rw [← Ny396.out] at ho36)); have n0_ := A_ (Kd.R_lower (Kd.R_newB ho36 (g := gb373) (o := .cells #[.string a1_0, .string a1_1, .int .i64 a1_2, .bool a1_3] 49 (0, 0)) z112c) (below_size z112b)); have n1_ := A_ (blk_below (g := gb373) (o := .cells #[.string a1_0, .string a1_1, .int .i64 a1_2, .bool a1_3] 49 (0, 0)) z112c hb); have n2_ := A_ (below_step z112b hb); clear BK373; clear HB; have HO398 := n0_; have BK373 := n1_; have HB := n2_; clear n0_ n1_ n2_; clear hb ho36; have q37 : (x5_1 : Int) ≤ ((l0.length : Int) : Int) := of_decide_eq_true z112d; obtain ⟨i037, hi037, _, hsz37, _⟩ := info_parts info49; have hroom37 : l0.length ≤ c0 := HC0.out; have hC37 : Kd.C k49 _ A0 l0.length l0 := HR0.out; have hcut37 := cut_to (P := Try.prog) 44 49 .i64 Try.underlying44 hi037 A0 l0.length c0 x5_1 (of_decide_eq_true z112d) q37 hroom37; have hr37 := Kd.C_take (m := (x5_1 : Int).toNat) hC37 (by omega); have hy37 : y399.length = (x5_1 : Int).toNat := (by rw [Ny399.out, List.length_take]; omega); rw [← Ny399.out] at hr37; rw [← hy37] at hcut37; have HR402 := A_ hr37; have HC402 := A_ (show y399.length ≤ c0 from (by omega)); clear hr37 hC37 hroom37 hi037 hsz37; have KY37 := A_ hy37; clear hy37; replace q37 := eq_true q37) | ((with_reducible refine gate_builtin (b := .append) (xs := #[.tmp 21, .tmp 24]) rfl ?_); at_builtin; refine Kd.R_append_rows k49 (w0 := w) w.heap.size rfl (.tmp 21) (.tmp 24) 44 49 (.agg #[(.string ⟨#[]⟩), (.string ⟨#[]⟩), (.int .i64 0), (.bool false)]) 48 rfl Try.underlying44 info49 rfl (by decide) (by omega) v397 y396 y399 _ _ _ (fun k_ => k_ ≠ gb373) (fun _ => False) rfl rfl ?aO ?aR (fun _ _ h => h) (fun _ h => h.elim) ?aF ?aB ?aS ?aL ?_; (case aR => exact (by repeat (first | exact (Kd.C_below HR402.out HB.out) | (with_reducible refine Kd.C_alloc ?_ _) | (with_reducible refine Kd.C_drewN ?_ _) | (with_reducible refine Kd.C_drew ?_)))); (case aB => exact z112b); (case aF => exact (fun k_ hk => Kd.freshB (g := gb373) (o := .cells #[.string a1_0, .string a1_1, .int .i64 a1_2, .bool a1_3] 49 (0, 0)) z112c k_ hk)); (case aO => exact (by (with_reducible repeat (first | apply Kd.R_alloc | apply Kd.R_drewN | apply Kd.R_drew)); exact Kd.R_mono HO398.out (fun _ hk => hk.2))); (case aS => exact (below_size z112b)); (case aL => have := LMc29.out; omega); intro v404 w38 ho hb hg hat; rw [← Ny403.out] at ho; have n0_ := A_ (blk_grown (g := gb373) (o := .cells #[.string a1_0, .string a1_1, .int .i64 a1_2, .bool a1_3] 49 (0, 0)) z112c hg (Kd.R_away HO398.out (fun _ hk => hk.2))); have n1_ := A_ (hb); have n2_ := A_ (ho); clear BK373; clear HB; clear HO398; have BK373 := n0_; have HB := n1_; have HO405 := n2_; clear n0_ n1_ n2_; clear ho hb hg hat))
   replace HO405 := A_ (Kd.R_drew HO405.out)
   replace BK373 := A_ (blk_drew BK373.out)
   replace HB := A_ (below_drew1 HB.out)
   have q40 : (x5_1 : Int) ≤ ((l0.length : Int) : Int) := of_decide_eq_true z112d
   obtain ⟨i040, hi040, _, hsz40, _⟩ := info_parts info49
   have hroom40 : l0.length ≤ c0 := HC0.out
   have hC40 : Kd.C k49 _ A0 l0.length l0 := HR0.out
   have q040 : (0 : Int) ≤ (x5_1 : Int) := of_decide_eq_true z112d
   have hcut40 := cut_from (P := Try.prog) 44 49 .i64 Try.underlying44 hi040 4 hsz40 A0 l0.length c0 x5_1 q040 q40
   have hr40 := Kd.C_drop (m := (x5_1 : Int).toNat) (c := c0) hC40 (by omega) hroom40
   obtain ⟨A40, hA40⟩ : ∃ A1, A1 = (if c0 = (x5_1 : Int).toNat then A0 else (A0 : Option Addr).map (·.add ((x5_1 : Int).toNat * 4))) := ⟨_, rfl⟩
   obtain ⟨c40, hc40⟩ : ∃ c1, c1 = c0 - (x5_1 : Int).toNat := ⟨_, rfl⟩
   have hy40 : y409.length = l0.length - (x5_1 : Int).toNat := (by rw [Ny409.out, List.length_drop] <;> omega)
   rw [show (l0).drop (x5_1 : Int).toNat = y409 from Ny409.out.symm] at hr40
   replace hr40 : Kd.C k49 _ A40 y409.length y409 := (by rw [hA40]; exact hr40)
   rw [← hy40, ← hA40, ← hc40] at hcut40
   have HR412 := A_ hr40
   have HC412 := A_ (show y409.length ≤ c40 from (by rw [hy40, hc40]; exact Nat.sub_le_sub_right hroom40 _))
   clear hr40 hC40 hroom40 hi040 hsz40 hc40
   have KY40 := A_ hy40
   have KA40 := A_ hA40
   clear hy40 hA40
   replace q40 := eq_true q40
   refine start_ (n := 9) (S := fun w' => w'.cell? ⟨gb373, 0, none⟩ = some (.string a1_0) ∧ w'.cell? ⟨gb373, 1, none⟩ = some (.string a1_1) ∧ w'.cell? ⟨gb373, 2, none⟩ = some (.int .i64 a1_2) ∧ w'.cell? ⟨gb373, 3, none⟩ = some (.bool a1_3)) (ds := []) (bs "XXXXXXXXX") (by kernel_rfl) rfl rfl ⟨(blk_cell BK373.out 0).trans rfl, (blk_cell BK373.out 1).trans rfl, (blk_cell BK373.out 2).trans rfl, (blk_cell BK373.out 3).trans rfl⟩ (fun hHeld => ?_); refine with_tabW spec_l3Put.tab5 spec_l3Put.bits5 (fun HT_ HW_ => ?_)
   generalize w38.drew = w39 at HO405 BK373 HB HR412 hHeld ⊢
   refine pu_ 0 (some 26) (bs "YXXXXXXXX") ?_
   refine pu_ 4 (some 30) (bs "YXXXYXXXX") ?_
   refine pu_ 5 (some 31) (bs "YXXXYYXXX") ?_
   refine pu_ 6 (some 32) (bs "YXXXYYYXX") ?_
   refine take_ (i := 1) (N := some 27) (v := _) (a' := _) (bs "YYXXYYYXX") rfl rfl (take_ofW HT_.out HW_.out (by kernel_rfl)) (fun _ _ _ h => h) (Or.inl ⟨by rfl, (by rintro w' ⟨s0, s1, s2, s3⟩; go_simp; with_reducible rfl)⟩) hHeld z112a ?_
   refine one_ (i := 2) (N := some 28) (bs "YYYXYYYXX") rfl rfl (one_of HT_.out (by kernel_rfl)) (by decide) (fun K hK => ?_)
   refine value_ (w1 := ?_) (v := ?_) (by rfl) rfl ?_ ?_
   rotate_left 2
   {
   go_simp
   constructor
   {
   rfl
   }
   {
   rfl
   }
   }
   refine hK.out _ _ ⟨(blk_cell (blk_alloc BK373.out _) 0).trans rfl, (blk_cell (blk_alloc BK373.out _) 1).trans rfl, (blk_cell (blk_alloc BK373.out _) 2).trans rfl, (blk_cell (blk_alloc BK373.out _) 3).trans rfl⟩ (fun hHeld => ?_)
   clear hK K
   refine norm_ (nz_ 28) ?_
   refine one_ (i := 3) (N := some 29) (bs "YYYYYYYXX") rfl rfl (one_of HT_.out (by kernel_rfl)) (by decide) (fun K hK => ?_)
   refine Kd.R_append_step k49 (w0 := w) w.heap.size (by rfl) (.tmp 26) (.tmp 28) 44 49 (.agg #[(.string ⟨#[]⟩), (.string ⟨#[]⟩), (.int .i64 0), (.bool false)]) 48 rfl Try.underlying44 info49 rfl (by decide) (by omega) v404 y403 (⟨a1_0, a1_1, a1_2, a1_3⟩ : S49) [.string a1_0, .string a1_1, .int .i64 a1_2, .bool a1_3] (fun k_ => k_ ≠ gb373) (fun _ => False) rfl rfl ?aP (fun _ hk => hk.elim) ?aF ?aO ?aB ?aS ?aL ?_
   (case aP => exact k49_mkM _ _ _ (⟨a1_0, a1_1, a1_2, a1_3⟩ : S49))
   (case aB => exact z112b)
   (case aF => exact (fun k_ hk => Kd.freshB (g := gb373) (o := .cells #[.string a1_0, .string a1_1, .int .i64 a1_2, .bool a1_3] 49 (0, 0)) z112c k_ hk))
   (case aO => exact (by (with_reducible repeat (first | apply Kd.R_alloc | apply Kd.R_drewN | apply Kd.R_drew)); exact HO405.out))
   (case aS => exact (below_size z112b))
   (case aL => have := LMc30.out; omega)
   intro v407 w41 ho hb hg hat
   rw [← Ny406.out] at ho
   have n0_ := A_ (blk_grown (g := gb373) (o := .cells #[.string a1_0, .string a1_1, .int .i64 a1_2, .bool a1_3] 49 (0, 0)) z112c hg (Kd.R_away HO405.out (fun _ hk => hk)))
   have n1_ := A_ (hb)
   have n2_ := A_ (ho)
   clear BK373
   clear HB
   clear HO405
   have BK373 := n0_
   have HB := n1_
   have HO408 := n2_
   clear n0_ n1_ n2_
   clear ho hb hg hat
   refine hK.out _ _ ⟨(blk_cell BK373.out 0).trans rfl, (blk_cell BK373.out 1).trans rfl, (blk_cell BK373.out 2).trans rfl, (blk_cell BK373.out 3).trans rfl⟩ (fun hHeld => ?_)
   clear hK K
   refine norm_ (nz_ 29) ?_
   refine one_ (i := 7) (N := some 33) (bs "YYYYYYYYX") rfl rfl (one_of HT_.out (by kernel_rfl)) (by decide) (fun K hK => ?_)
   refine Kd.R_append_rows_step k49 (w0 := w) w.heap.size (by rfl) (.tmp 29) (.tmp 32) 44 49 (.agg #[(.string ⟨#[]⟩), (.string ⟨#[]⟩), (.int .i64 0), (.bool false)]) 48 rfl Try.underlying44 info49 rfl (by decide) (by omega) v407 y406 y409 _ _ _ (fun k_ => k_ ≠ gb373) (fun _ => False) rfl rfl ?aO ?aR (fun _ _ h => h) (fun _ h => h.elim) ?aF ?aB ?aS ?aL ?_
   (case aR => exact (by repeat (first | exact (Kd.C_below HR412.out HB.out) | (with_reducible refine Kd.C_alloc ?_ _) | (with_reducible refine Kd.C_drewN ?_ _) | (with_reducible refine Kd.C_drew ?_))))
   (case aB => exact z112b)
   (case aF => exact (fun k_ hk => Kd.freshB (g := gb373) (o := .cells #[.string a1_0, .string a1_1, .int .i64 a1_2, .bool a1_3] 49 (0, 0)) z112c k_ hk))
   (case aO => exact (by (with_reducible repeat (first | apply Kd.R_alloc | apply Kd.R_drewN | apply Kd.R_drew)); exact HO408.out))
   (case aS => exact (below_size z112b))
   (case aL => have := LMc33.out; omega)
   intro v414 w42 ho hb hg hat
   rw [← Ny413.out] at ho
   have n0_ := A_ (blk_grown (g := gb373) (o := .cells #[.string a1_0, .string a1_1, .int .i64 a1_2, .bool a1_3] 49 (0, 0)) z112c hg (Kd.R_away HO408.out (fun _ hk => hk)))
   have n1_ := A_ (hb)
   have n2_ := A_ (ho)
   clear BK373
   clear HB
   clear HO408
   have BK373 := n0_
   have HB := n1_
   have HO415 := n2_
   clear n0_ n1_ n2_
   clear ho hb hg hat
   refine hK.out _ _ ⟨(blk_cell BK373.out 0).trans rfl, (blk_cell BK373.out 1).trans rfl, (blk_cell BK373.out 2).trans rfl, (blk_cell BK373.out 3).trans rfl⟩ (fun hHeld => ?_)
   clear hK K
   refine norm_ (nz_ 33) ?_
   refine pu_ 8 (some 4) (bs "YYYYYYYYY") ?_
   refine done_ (done_of HT_.out (by kernel_rfl)) ?_
   try go_wp2
   go_ret
   exact ⟨_, by first | rfl | (simp [errW_none, errW_some] <;> rfl) | (simp [*, errW_none, errW_some] <;> rfl), by (with_reducible repeat (first | apply Kd.R_alloc | apply Kd.R_drewN | apply Kd.R_drew)); exact Kd.R_mono HO415.out (fun _ hk => trivial), by repeat (first | (with_reducible first | exact HB.out | apply below_alloc | apply pw_below_drewN | apply below_drew1 | refine below_set ?_ GE373.out) | exact HB.out)⟩
   }
   {
   rw [if_neg c33] at H
   exact absurd H (by simp)
   }
   }
   {
   rw [if_neg c30] at H
   exact absurd H (by simp)
   }
   }
   {
   rw [if_neg c29] at H
   exact absurd H (by simp)
   }
   }
   {
   rw [if_neg c28] at H
   exact absurd H (by simp)
   }
   }
   {
   rw [if_neg c27] at H
   exact absurd H (by simp)
   
   }
   }
theorem z108a {p_ : Prop} (h_ : p_ := by repeat (first | (with_reducible first | exact HI0.out | apply IsS105.alloc | apply IsS105.drewN | apply IsS105.drew | apply IsS105.set_1 | apply IsS105.set_2) | exact HI0.out)) : p_ := h_
theorem z108b {p_ : Prop} (h_ : p_ := by repeat (first | (with_reducible first | exact HK.out | apply KeepBut.set_ | apply keep_drewN | apply keep_drew | apply keep_alloc) | exact HK.out)) : p_ := h_
theorem z108c {p_ : Prop} (h_ : p_ := by repeat (first | (with_reducible first | exact HB.out | apply below_alloc | apply pw_below_drewN | apply below_drew1 | refine below_set ?_ (IsS105.ge HI0.out)) | exact HB.out)) : p_ := h_
theorem z108d {p_ : Prop} (h_ : p_ := by (try simp only [List.map_toArray, List.map_cons, List.map_nil]); first | done | rfl | (simp only [List.length_drop, List.length_take]; rfl)) : p_ := h_
def spec_l3DrawFrom.l0 : Nat → Int → List (S49) → Int → List Int → Int → Int → Option ((List (S49)) × Int × Int)
 | 0, _, _, _, _, _, _ => none
 | k + 1, x1, x7, x8, x1000, x1001, x1002 => if x8 > 0 then ((spec_l3DrawEntry.f k x1000 x1001 x1002 x1).bind fun bt422 => ((spec_l3Put.f k x7 bt422.1 bt422.2.1 bt422.2.2.1 bt422.2.2.2.1).bind fun t428 => ((spec_l1Below.f x1000 bt422.2.2.2.2.1 bt422.2.2.2.2.2 2).bind fun bt431 => (spec_l3DrawFrom.l0 k (wrap64 ((wrap64 (x1 + 1)) + bt431.1)) t428 (wrap64 (x8 - 1)) x1000 bt431.2.1 bt431.2.2)))) else (some (x7, x1001, x1002))
def spec_l3DrawFrom.f (k : Nat) (s0_0 : List Int) (s0_1 : Int) (s0_2 : Int) (a1 : Int) (a2 : Int) : Option ((List (S49)) × Int × Int) := (spec_l1Below.f s0_0 s0_1 s0_2 (wrap64 (a2 + 1))).bind fun bt419 => (spec_l3DrawFrom.l0 k a1 (([] : List (S49))) bt419.1 s0_0 bt419.2.1 bt419.2.2)
set_option maxHeartbeats 8000000 in
set_option maxRecDepth 100000 in
theorem spec_l3DrawFrom.calls (k : Nat) (g : Nat) (s0_0 : List Int) (s0_1 : Int) (s0_2 : Int) (a1 : Int) (a2 : Int) (r1 : List (S49)) (r2 : Int) (r3 : Int) (w0 w : World) (hI : IsS105 w0 w g s0_0 s0_1 s0_2) (hB : Below w0.heap.size w0 w) (h : spec_l3DrawFrom.f k s0_0 s0_1 s0_2 a1 a2 = some (r1, r2, r3)) :
  Calls Try.prog 108 #[.pointer (some ⟨g, 0, none⟩), .int .i64 a1, .int .i64 a2] w fun e w' => ∃ v0_ : Value, e = .returned (v0_) ∧ Kd.R k49 49 w' w.heap.size (fun _ => True) v0_ r1 ∧ IsS105 w0 w' g s0_0 r2 r3 ∧ Below w0.heap.size w0 w' ∧ KeepBut w w' g none := by
 have HI0 := A_ hI
 have HK := A_ (KeepBut.refl w g none)
 have HL := A_ hB.size
 clear hI
 have HW0 := A_ hB.size
 have HB := A_ hB
 clear hB
 have H : ((spec_l1Below.f s0_0 s0_1 s0_2 (wrap64 (a2 + 1))).bind fun bt419 => (spec_l3DrawFrom.l0 k a1 (([] : List (S49))) bt419.1 s0_0 bt419.2.1 bt419.2.2)) = some (r1, r2, r3) := h
 clear h
 obtain ⟨y416, hy416⟩ : ∃ y_ : List (S49), y_ = (([] : List (S49))) := ⟨_, rfl⟩
 replace H : ((spec_l1Below.f s0_0 s0_1 s0_2 (wrap64 (a2 + 1))).bind fun bt419 => (spec_l3DrawFrom.l0 k a1 y416 bt419.1 s0_0 bt419.2.1 bt419.2.2)) = some (r1, r2, r3) := by first | (rw [hy416]; with_reducible exact H) | (have H2_ := (Option.bind_some _ _).symm.trans H; rw [hy416]; with_reducible exact H2_) | (have H2_ := (Option.bind_some _ _).symm.trans H; with_reducible exact H2_) | with_reducible exact H | (rw [hy416]; exact H) | exact H
 have Ny416 := A_ hy416
 clear hy416
 replace H := Option.bind_eq_some_iff.mp H
 obtain ⟨⟨t419, t420, t421⟩, A40, H⟩ := H
 (try dsimp only at H)
 have A4 := A_ A40
 clear A40
 have H' := A_ H
 clear H
 go_enter Try.func108, Try.ntmps108
 go_wp2_with (first | ((with_reducible refine gate_dst (N := 9) rfl ?_); refine Kd.R_lit k49 _ 49 ?hg (N := 9) ?hd (xs := ([] : List (S49))) (inner := []) (ok := fun _ => True) (okp := fun _ => True) ?hr ?hp (fun _ hk => hk) trivial (Below.refl _ _) (Nat.le_refl _) (by simp) ?_; (case hd => rfl); (case hg => rfl); (case hr => first | (go_simp; done) | (go_simp; rfl)); (case hp => exact (Reps.none _ _)); intro v417 w5 ho6 hb hg_ hnew_; clear hg_ hnew_; (first | rw [← Ny416.out] at ho6 | (simp only [Int.reduceToNat] at ho6; rw [← Ny416.out] at ho6)); have n0_ := A_ (Kd.R_lower ho6 (keep_size (w := w) (g := g) (row := none) z108b)); have n1_ := A_ (IsS105.below z108a hb); have n2_ := A_ (KeepBut.trans z108b (KeepBut.of_below hb g none) (.inl rfl)); have n3_ := A_ (below_step z108c hb); clear HI0; clear HK; clear HB; have HO418 := n0_; have HI0 := n1_; have HK := n2_; have HB := n3_; clear n0_ n1_ n2_ n3_; clear hb ho6) | ((with_reducible refine gate_callee (f := 95) rfl ?_); refine goesL_ (some 13) rfl rfl Try.func95 (by kernel_rfl) rfl #[.pointer (some ⟨g, 0, none⟩), .int .i64 (wrap64 (a2 + 1))] rfl z108d ?_; (with_reducible refine (spec_l1Below.calls g s0_0 s0_1 s0_2 (wrap64 (a2 + 1)) t419 t420 t421 w0 _ ?side1 ?side2 A4.out).mono ?_); (case side1 => exact z108a); (case side2 => exact z108c); rintro e w7 ⟨rfl, hi, hb, hk⟩; refine ⟨_, rfl, ?_⟩; replace HO418 := A_ (Kd.R_mono (Kd.R_keep (IsS105.apart (show IsS105 w0 _ g s0_0 s0_1 s0_2 from z108a) (by (with_reducible repeat (first | apply Kd.R_alloc | apply Kd.R_drewN | apply Kd.R_drew)); exact HO418.out) (by decide)) hk (fun _ h => h.2)) (fun _ h => h.1)); replace HK := A_ (KeepBut.trans z108b hk (.inl rfl)); replace HB := A_ (hb); replace HI0 := A_ (hi)))
 go_loopg [1, 7, 8] k (fun kq v1 v7 v8 w' => ∃ (x1_1 : Int) (x7_1 : List (S49)) (x8_1 : Int) (x1001_1 : Int) (x1002_1 : Int), v1 = .int .i64 x1_1 ∧ v8 = .int .i64 x8_1 ∧ Aside0 (spec_l3DrawFrom.l0 kq x1_1 x7_1 x8_1 s0_0 x1001_1 x1002_1 = some (r1, r2, r3)) ∧ Aside0 (kq ≤ k) ∧ Aside0 (Kd.R k49 49 w' w.heap.size (fun _ => True) v7 x7_1) ∧ Aside0 (IsS105 w0 w' g s0_0 x1001_1 x1002_1) ∧ Aside0 (KeepBut w w' g none) ∧ Aside0 (Below w0.heap.size w0 w'))
 case atStart => exact ⟨(a1), (y416), (t419), (t420), (t421), (by first | rfl | (simp; done) | (simp [*]; done)), (by first | rfl | (simp; done) | (simp [*]; done)), H', ⟨Nat.le_refl _⟩, ⟨by (with_reducible repeat (first | apply Kd.R_alloc | apply Kd.R_drewN | apply Kd.R_drew)); exact HO418.out⟩, ⟨by repeat (first | (with_reducible first | exact HI0.out | apply IsS105.alloc | apply IsS105.drewN | apply IsS105.drew | apply IsS105.set_1 | apply IsS105.set_2) | exact HI0.out)⟩, ⟨by repeat (first | (with_reducible first | exact HK.out | apply KeepBut.set_ | apply keep_drewN | apply keep_drew | apply keep_alloc) | exact HK.out)⟩, ⟨by repeat (first | (with_reducible first | exact HB.out | apply below_alloc | apply pw_below_drewN | apply below_drew1 | refine below_set ?_ (IsS105.ge HI0.out)) | exact HB.out)⟩⟩
 case round =>
  clear H'
  try clear c1
  try clear p2
  try clear p6
  obtain ⟨x1_1, x7_1, x8_1, x1001_1, x1002_1, rfl, rfl, HA, HK1, HO_7, HI0, HK, HB⟩ := hrel
  cases gk with
  | zero => exact absurd HA.out (by simp [spec_l3DrawFrom.l0])
  | succ k1 =>
   have H := HA.out
   clear HA
   simp only [spec_l3DrawFrom.l0] at H
   by_cases c8 : x8_1 > 0
   {
   rw [if_pos c8] at H
   have c8b0 : decide (0 < x8_1) = true := decide_eq_true c8
   clear c8
   replace H := Option.bind_eq_some_iff.mp H
   obtain ⟨⟨t422, t423, t424, t425, t426, t427⟩, A90, H⟩ := H
   (try dsimp only at H)
   have A9 := A_ A90
   clear A90
   replace H := Option.bind_eq_some_iff.mp H
   obtain ⟨t428, A100, H⟩ := H
   (try dsimp only at H)
   have A10 := A_ A100
   clear A100
   replace H := Option.bind_eq_some_iff.mp H
   obtain ⟨⟨t431, t432, t433⟩, A110, H⟩ := H
   (try dsimp only at H)
   have A11 := A_ A110
   clear A110
   have H' := A_ H
   clear H
   go_wp2_with (first | ((with_reducible refine gate_callee (f := 109) rfl ?_); refine goesL_ (some 21) rfl rfl Try.func109 (by kernel_rfl) rfl #[.pointer (some ⟨g, 0, none⟩), .int .i64 x1_1] rfl z108d ?_; (with_reducible refine (spec_l3DrawEntry.calls k1 g s0_0 x1001_1 x1002_1 x1_1 t422 t423 t424 t425 t426 t427 w0 _ ?side1 ?side2 A9.out).mono ?_); (case side1 => exact z108a); (case side2 => exact z108c); rintro e w12 ⟨rfl, hi, hb, hk⟩; refine ⟨_, rfl, ?_⟩; replace HO_7 := A_ (Kd.R_mono (Kd.R_keep (IsS105.apart (show IsS105 w0 _ g s0_0 x1001_1 x1002_1 from z108a) (by (with_reducible repeat (first | apply Kd.R_alloc | apply Kd.R_drewN | apply Kd.R_drew)); exact HO_7.out) (by decide)) hk (fun _ h => h.2)) (fun _ h => h.1)); replace HK := A_ (KeepBut.trans z108b hk (.inl rfl)); replace HB := A_ (hb); replace HI0 := A_ (hi); obtain ⟨Ao13, co13, eo13⟩ := Kd.R_slice HO_7.out; subst eo13) | ((with_reducible refine gate_callee (f := 112) rfl ?_); refine goesL_ (some 22) rfl rfl Try.func112 (by kernel_rfl) rfl #[.slice Ao13 x7_1.length co13, .agg #[.string t422, .string t423, .int .i64 t424, .bool t425]] rfl z108d ?_; (with_reducible refine (spec_l3Put.calls k1 _ _ x7_1 t422 t423 t424 t425 t428 _ ?side1 ?side2 A10.out).mono ?_); (case side1 => exact (by repeat (first | exact (Kd.R_reads' HO_7.out).2.2 | (with_reducible refine Kd.C_alloc ?_ _) | (with_reducible refine Kd.C_drewN ?_ _) | (with_reducible refine Kd.C_drew ?_)))); (case side2 => exact (Kd.R_reads' HO_7.out).2.1); rintro e w14 ⟨v429, rfl, ho0, hb⟩; refine ⟨_, rfl, ?_⟩; have n0_ := A_ (Kd.R_elder' (by (with_reducible repeat (first | apply Kd.R_alloc | apply Kd.R_drewN | apply Kd.R_drew)); exact HO_7.out) (Kd.R_base ho0) hb); have n1_ := A_ (Kd.R_lower (Kd.R_new' ho0 (Kd.R_lt (by (with_reducible repeat (first | apply Kd.R_alloc | apply Kd.R_drewN | apply Kd.R_drew)); exact HO_7.out))) (keep_size (w := w) (g := g) (row := none) z108b)); have n2_ := A_ (IsS105.below z108a hb); have n3_ := A_ (KeepBut.trans z108b (KeepBut.of_below hb g none) (.inl rfl)); have n4_ := A_ (below_step z108c hb); clear HO_7; clear HI0; clear HK; clear HB; have HO_7 := n0_; have HO430 := n1_; have HI0 := n2_; have HK := n3_; have HB := n4_; clear n0_ n1_ n2_ n3_ n4_) | ((with_reducible refine gate_callee (f := 95) rfl ?_); refine goesL_ (some 26) rfl rfl Try.func95 (by kernel_rfl) rfl #[.pointer (some ⟨g, 0, none⟩), .int .i64 2] rfl z108d ?_; (with_reducible refine (spec_l1Below.calls g s0_0 t426 t427 2 t431 t432 t433 w0 _ ?side1 ?side2 A11.out).mono ?_); (case side1 => exact z108a); (case side2 => exact z108c); rintro e w15 ⟨rfl, hi, hb, hk⟩; refine ⟨_, rfl, ?_⟩; replace HO_7 := A_ (Kd.R_mono (Kd.R_keep (IsS105.apart (show IsS105 w0 _ g s0_0 t426 t427 from z108a) (by (with_reducible repeat (first | apply Kd.R_alloc | apply Kd.R_drewN | apply Kd.R_drew)); exact HO_7.out) (by decide)) hk (fun _ h => h.2)) (fun _ h => h.1)); replace HO430 := A_ (Kd.R_mono (Kd.R_keep (IsS105.apart (show IsS105 w0 _ g s0_0 t426 t427 from z108a) (by (with_reducible repeat (first | apply Kd.R_alloc | apply Kd.R_drewN | apply Kd.R_drew)); exact HO430.out) (by decide)) hk (fun _ h => h.2)) (fun _ h => h.1)); replace HK := A_ (KeepBut.trans z108b hk (.inl rfl)); replace HB := A_ (hb); replace HI0 := A_ (hi)))
   go_roundg k1
   case measure => have := HK1.out; omega
   case rel => exact ⟨(wrap64 ((wrap64 (x1_1 + 1)) + t431)), (t428), (wrap64 (x8_1 - 1)), (t432), (t433), (by first | rfl | (simp; done) | (simp [*]; done)), (by first | rfl | (simp; done) | (simp [*]; done)), H', ⟨by have := HK1.out; omega⟩, ⟨by (with_reducible repeat (first | apply Kd.R_alloc | apply Kd.R_drewN | apply Kd.R_drew)); exact Kd.R_mono HO430.out (fun _ hk => trivial)⟩, ⟨by repeat (first | (with_reducible first | exact HI0.out | apply IsS105.alloc | apply IsS105.drewN | apply IsS105.drew | apply IsS105.set_1 | apply IsS105.set_2) | exact HI0.out)⟩, ⟨by repeat (first | (with_reducible first | exact HK.out | apply KeepBut.set_ | apply keep_drewN | apply keep_drew | apply keep_alloc) | exact HK.out)⟩, ⟨by repeat (first | (with_reducible first | exact HB.out | apply below_alloc | apply pw_below_drewN | apply below_drew1 | refine below_set ?_ (IsS105.ge HI0.out)) | exact HB.out)⟩⟩
   }
   {
   rw [if_neg c8] at H
   have c8b0 : decide (0 < x8_1) = false := decide_eq_false c8
   clear c8
   simp only [Option.some.injEq, Prod.mk.injEq] at H
   obtain ⟨rfl, rfl, rfl⟩ := H
   go_wp2
   go_ret
   exact ⟨_, by first | rfl | (simp [errW_none, errW_some] <;> rfl) | (simp [*, errW_none, errW_some] <;> rfl), by (with_reducible repeat (first | apply Kd.R_alloc | apply Kd.R_drewN | apply Kd.R_drew)); exact HO_7.out, by repeat (first | (with_reducible first | exact HI0.out | apply IsS105.alloc | apply IsS105.drewN | apply IsS105.drew | apply IsS105.set_1 | apply IsS105.set_2) | exact HI0.out), by repeat (first | (with_reducible first | exact HB.out | apply below_alloc | apply pw_below_drewN | apply below_drew1 | refine below_set ?_ (IsS105.ge HI0.out)) | exact HB.out), by repeat (first | (with_reducible first | exact HK.out | apply KeepBut.set_ | apply keep_drewN | apply keep_drew | apply keep_alloc) | exact HK.out)⟩
   
   }
end Go.Proofs.Ythkhfmomibfkjaa.PFnPacked

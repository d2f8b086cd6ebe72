-- by a program of this session (wip/print/run.py) for this claim
import Derived.Test.YtaiggfjkikfcbaaLibPu
import Derived.Test.YtaiggfjkikfcbaaPFnExactEntriesx0
import Derived.Test.YtaiggfjkikfcbaaPFnExactEntriesx12
namespace Go.Proofs.Ytaiggfjkikfcbaa.PFnExactEntries
open Go.Proofs.Ytaiggfjkikfcbaa.Lib Go.RowKit Go.Proofs.YtaiggfjkikfcbaaW.PrintWords Go.Proofs.YtaiggfjkikfcbaaW.PrintLast Go.Proofs.YtaiggfjkikfcbaaW.PrintMore
attribute [local go_sem] max2_int min2_int max_two min_two max_three min_three max_four min_four   -- for this text's walks alone
set_option linter.unusedVariables false
set_option linter.unusedSimpArgs false

theorem z26c {p_ : Prop} (h_ : p_ := by repeat (first | (with_reducible first | exact HB.out | apply below_alloc | apply pw_below_drewN | apply below_drew1 | refine below_set ?_ GE388.out) | exact HB.out)) : p_ := h_
theorem z26d {p_ : Prop} (h_ : p_ := by (with_reducible repeat (first | refine blk_drewN ?_ _ | refine blk_drew ?_ | refine blk_alloc ?_ _)); exact BK388.out) : p_ := h_
def impl_EntriesOk.l0 : Nat → List (S31) → List (S31) → Int → Int → Option (Bool)
 | 0, _, _, _, _ => none
 | k + 1, x0, x8, x9, x10 => if x10 < x9 then (if 0 ≤ x10 then (if x10 < (x8.length : Int) then ((impl_entryOk.f ((rd_T31 x8 x10).f0) ((rd_T31 x8 x10).f1) ((rd_T31 x8 x10).f2) ((rd_T31 x8 x10).f3)).bind fun t389 => (if t389 = true then (if x10 > 0 then (if 0 ≤ (wrap64 (x10 - 1)) then (if (wrap64 (x10 - 1)) < (x0.length : Int) then ((impl_byOrder.f k ((rd_T31 x0 (wrap64 (x10 - 1))).f0) ((rd_T31 x0 (wrap64 (x10 - 1))).f1) ((rd_T31 x0 (wrap64 (x10 - 1))).f2) ((rd_T31 x0 (wrap64 (x10 - 1))).f3) ((rd_T31 x8 x10).f0) ((rd_T31 x8 x10).f1) ((rd_T31 x8 x10).f2) ((rd_T31 x8 x10).f3)).bind fun t391 => (if t391 ≥ 0 then (some false) else (impl_EntriesOk.l0 k x0 x8 x9 (wrap64 (x10 + 1))))) else (none)) else (none)) else (impl_EntriesOk.l0 k x0 x8 x9 (wrap64 (x10 + 1)))) else (some false))) else (none)) else (none)) else (some true)
def impl_EntriesOk.f (k : Nat) (l0 : List (S31)) : Option (Bool) := if (l0.length : Int) > 300 then (some false) else (impl_EntriesOk.l0 k l0 l0 (l0.length : Int) 0)
def impl_EntriesOk.T6 : Bool × List (List Nat × List Nat) := (true, [([], []), ([0], [0]), ([1], [1]), ([2, 1], [2]), ([3], [3]), ([4, 3], [3, 4]), ([5, 3, 3], [3, 5]), ([6], [6]), ([6], [6]), ([8, 6], [6, 8]), ([7, 9, 6], [6, 7, 9]), ([10, 6], [6, 10]), ([6], [6]), ([11, 12, 6, 6], [6, 11, 12]), ([13, 6], [6, 13]), ([6, 14, 3], [3, 6, 14]), ([3, 15], [3, 15])])
def impl_EntriesOk.B6 : List Nat := [0, 1, 3, 7, 15, 31, 63, 127, 127, 383, 1023, 2047, 127, 8191, 16383, 32767, 65535]
theorem impl_EntriesOk.tab6 : rtab .any (opsOf Try.f26 6) = impl_EntriesOk.T6 := by kernel_rfl
theorem impl_EntriesOk.bits6 : waitsOk impl_EntriesOk.T6.2 impl_EntriesOk.B6 = true := by kernel_rfl
set_option maxHeartbeats 8000000 in
set_option maxRecDepth 100000 in
theorem impl_EntriesOk.calls (k : Nat) (A0 : Option Addr) (c0 : Nat) (l0 : List (S31)) (r : Bool) (w : World) (hr0 : Kd.C k31 w A0 l0.length l0) (hc0 : l0.length ≤ c0) (h : impl_EntriesOk.f k l0 = some r) :
  Calls Try.prog 26 #[.slice A0 l0.length c0] w fun e w' => e = .returned (.bool r) ∧ Below w.heap.size w w' := by
 have hu31 := Try.underlying31
 have HR0 := A_ hr0
 have HC0 := A_ hc0
 clear hr0 hc0
 have HB := A_ (Below.refl w.heap.size w)
 have H : (if (l0.length : Int) > 300 then (some false) else (impl_EntriesOk.l0 k l0 l0 (l0.length : Int) 0)) = some r := h
 clear h
 by_cases c2 : (l0.length : Int) > 300
 {
 rw [if_pos c2] at H
 have c2b0 : decide (300 < (l0.length : Int)) = true := decide_eq_true c2
 have c2b1 : decide (300 < l0.length) = true := decide_eq_true (by omega)
 clear c2
 obtain rfl := Option.some.inj H
 go_enter Try.func26, Try.ntmps26
 go_wp2
 go_ret
 exact ⟨zr, zg0⟩
 }
 {
 rw [if_neg c2] at H
 have c2b0 : decide (300 < (l0.length : Int)) = false := decide_eq_false c2
 have c2b1 : decide (300 < l0.length) = false := decide_eq_false (by omega)
 clear c2
 have H' := A_ H
 clear H
 go_enter Try.func26, Try.ntmps26
 go_wp2
 go_loopg [10] k (fun kq v10 w' => ∃ (x10_1 : Int), v10 = .int .i64 x10_1 ∧ Aside0 (impl_EntriesOk.l0 kq l0 l0 (l0.length : Int) x10_1 = some r) ∧ Aside0 (kq ≤ k) ∧ Aside0 (Below w.heap.size w w'))
 case atStart => exact ⟨(0), (zs), H', ⟨Nat.le_refl _⟩, ⟨zg0⟩⟩
 case round =>
  clear H'
  try clear c2
  try clear c2b0
  try clear c2b1
  try clear p2
  obtain ⟨x10_1, rfl, HA, HK1, HB⟩ := hrel
  cases gk with
  | zero => exact absurd HA.out (by simp [impl_EntriesOk.l0])
  | succ k1 =>
   have H := HA.out
   clear HA
   simp only [impl_EntriesOk.l0] at H
   by_cases c3 : x10_1 < (l0.length : Int)
   {
   rw [if_pos c3] at H
   have c3b0 : decide (x10_1 < (l0.length : Int)) = true := decide_eq_true c3
   clear c3
   by_cases c4 : 0 ≤ x10_1
   {
   rw [if_pos c4] at H
   have c4b0 : decide (0 ≤ x10_1) = true := decide_eq_true c4
   clear c4
   by_cases c5 : x10_1 < (l0.length : Int)
   {
   rw [if_pos c5] at H
   have c5b0 : decide (x10_1 < (l0.length : Int)) = true := decide_eq_true c5
   clear c5
   replace H := Option.bind_eq_some_iff.mp H
   obtain ⟨t389, A60, H⟩ := H
   (try dsimp only at H)
   have A6 := A_ A60
   clear A60
   by_cases c7 : t389 = true
   {
   subst c7
   rw [if_pos rfl] at H
   by_cases c8 : x10_1 > 0
   {
   rw [if_pos c8] at H
   have c8b0 : decide (0 < x10_1) = true := decide_eq_true c8
   clear c8
   obtain ⟨ji9, hji9⟩ : ∃ j_ : Int, (wrap64 (x10_1 - 1)) = j_ := ⟨_, rfl⟩
   replace H : (if 0 ≤ (ji9) then (if (ji9) < (l0.length : Int) then ((impl_byOrder.f k1 ((rd_T31 l0 (ji9)).f0) ((rd_T31 l0 (ji9)).f1) ((rd_T31 l0 (ji9)).f2) ((rd_T31 l0 (ji9)).f3) ((rd_T31 l0 x10_1).f0) ((rd_T31 l0 x10_1).f1) ((rd_T31 l0 x10_1).f2) ((rd_T31 l0 x10_1).f3)).bind fun t391 => (if t391 ≥ 0 then (some false) else (impl_EntriesOk.l0 k1 l0 l0 (l0.length : Int) (wrap64 (x10_1 + 1))))) else (none)) else (none)) = some r := by first | (rw [hji9] at H; exact H) | (simp only [hji9] at H ⊢; exact H)
   (try rw [hji9])
   (try rw [hji9] at A6)
   have hji9w : (IntKind.i64.wrap (x10_1 - 1)) = ji9 := (i64_w _).trans hji9
   by_cases c10 : 0 ≤ (ji9)
   {
   rw [if_pos c10] at H
   have c10b0 : decide (0 ≤ (ji9)) = true := decide_eq_true c10
   clear c10
   by_cases c11 : (ji9) < (l0.length : Int)
   {
   rw [if_pos c11] at H
   have c11b0 : decide ((ji9) < (l0.length : Int)) = true := decide_eq_true c11
   clear c11
   replace H := Option.bind_eq_some_iff.mp H
   obtain ⟨t391, A120, H⟩ := H
   (try dsimp only at H)
   have A12 := A_ A120
   clear A120
   by_cases c13 : t391 ≥ 0
   {
   rw [if_pos c13] at H
   have c13b0 : decide (0 ≤ t391) = true := decide_eq_true c13
   clear c13
   obtain rfl := Option.some.inj H
   have p387 : 0 ≤ (x10_1 : Int) := of_decide_eq_true zg2
   have q387 : x10_1 < (l0.length : Int) := of_decide_eq_true zg2
   obtain ⟨ad387, e387, hx387_0, hx387_1, hx387_2, hx387_3⟩ := at_T31 HR0.out x10_1 p387 q387
   cases e387
   replace hx387_0 := bq HB.out hx387_0
   replace hx387_1 := bq HB.out hx387_1
   replace hx387_2 := bq HB.out hx387_2
   replace hx387_3 := bq HB.out hx387_3
   replace p387 := eq_true p387
   replace q387 := eq_true q387
   try go_wp2_with (first | ((with_reducible refine gate_dst (N := 4) rfl ?_); refine box_event ?hg (N := 4) ?hd (cs := #[.string (⟨#[]⟩ : ByteArray), .string (⟨#[]⟩ : ByteArray), .int .i64 0, .bool false]) (t := 31) ?hr ?_; (case hd => rfl); (case hg => rfl); (case hr => first | (go_simp; done) | (go_simp; rfl)); intro gb388 hg w14 hbox hb; have n0_ := A_ (below_step zg0 hb); have n1_ := A_ (hbox); have n2_ := A_ ((by rw [hg]; exact (below_size zg0) : w.heap.size ≤ gb388)); have n3_ := A_ ((by rw [hg]; exact (below_size zg0) : w.heap.size ≤ gb388)); clear HB; have HB := n0_; have BK388 := n1_; have GW388 := n2_; have GE388 := n3_; clear n0_ n1_ n2_ n3_; clear hb hbox hg; obtain ⟨hcz15_0, hcz15_1, hcz15_2, hcz15_3, hfz15_0, hfz15_1, hfz15_2, hfz15_3⟩ := bz4 BK388.out))
   have n0_ : Aside0 (((((w14.setCell ⟨gb388, 0, none⟩ (.string ((rd_T31 l0 x10_1).f0))).setCell ⟨gb388, 1, none⟩ (.string ((rd_T31 l0 x10_1).f1))).setCell ⟨gb388, 2, none⟩ (.int .i64 ((rd_T31 l0 x10_1).f2))).setCell ⟨gb388, 3, none⟩ (.bool ((rd_T31 l0 x10_1).f3))).heap[gb388]? = some (.cells #[.string ((rd_T31 l0 x10_1).f0), .string ((rd_T31 l0 x10_1).f1), .int .i64 ((rd_T31 l0 x10_1).f2), .bool ((rd_T31 l0 x10_1).f3)] 31 (0, 0))) := ⟨by (with_reducible repeat (first | refine blk_drewN ?_ _ | refine blk_drew ?_ | refine blk_alloc ?_ _)); refine blk_put (cs := #[.string ((rd_T31 l0 x10_1).f0), .string ((rd_T31 l0 x10_1).f1), .int .i64 ((rd_T31 l0 x10_1).f2), .bool false]) ?_ 3 _ rfl; (with_reducible repeat (first | refine blk_drewN ?_ _ | refine blk_drew ?_ | refine blk_alloc ?_ _)); refine blk_put (cs := #[.string ((rd_T31 l0 x10_1).f0), .string ((rd_T31 l0 x10_1).f1), .int .i64 0, .bool false]) ?_ 2 _ rfl; (with_reducible repeat (first | refine blk_drewN ?_ _ | refine blk_drew ?_ | refine blk_alloc ?_ _)); refine blk_put (cs := #[.string ((rd_T31 l0 x10_1).f0), .string (⟨#[]⟩ : ByteArray), .int .i64 0, .bool false]) ?_ 1 _ rfl; (with_reducible repeat (first | refine blk_drewN ?_ _ | refine blk_drew ?_ | refine blk_alloc ?_ _)); refine blk_put (cs := #[.string (⟨#[]⟩ : ByteArray), .string (⟨#[]⟩ : ByteArray), .int .i64 0, .bool false]) ?_ 0 _ rfl; (with_reducible repeat (first | refine blk_drewN ?_ _ | refine blk_drew ?_ | refine blk_alloc ?_ _)); exact BK388.out⟩
   have n1_ : Aside0 (Below w.heap.size w ((((w14.setCell ⟨gb388, 0, none⟩ (.string ((rd_T31 l0 x10_1).f0))).setCell ⟨gb388, 1, none⟩ (.string ((rd_T31 l0 x10_1).f1))).setCell ⟨gb388, 2, none⟩ (.int .i64 ((rd_T31 l0 x10_1).f2))).setCell ⟨gb388, 3, none⟩ (.bool ((rd_T31 l0 x10_1).f3)))) := ⟨z26c⟩
   (try clear BK388)
   (try clear HB)
   generalize ((((w14.setCell ⟨gb388, 0, none⟩ (.string ((rd_T31 l0 x10_1).f0))).setCell ⟨gb388, 1, none⟩ (.string ((rd_T31 l0 x10_1).f1))).setCell ⟨gb388, 2, none⟩ (.int .i64 ((rd_T31 l0 x10_1).f2))).setCell ⟨gb388, 3, none⟩ (.bool ((rd_T31 l0 x10_1).f3))) = w16 at n0_ n1_ ⊢
   have BK388 := n0_
   have HB := n1_
   clear n0_ n1_
   replace BK388 := A_ (blk_drew BK388.out)
   replace HB := A_ (below_drew1 HB.out)
   have p390 : 0 ≤ ((ji9) : Int) := of_decide_eq_true zg2
   have q390 : (ji9) < (l0.length : Int) := of_decide_eq_true zg2
   obtain ⟨ad390, e390, hx390_0, hx390_1, hx390_2, hx390_3⟩ := at_T31 HR0.out (ji9) p390 q390
   have hw390_3 := hx390_3
   have hw390_2 := hx390_2
   have hw390_1 := hx390_1
   have hw390_0 := hx390_0
   obtain rfl : ad387 = ad390 := (by injection e390)
   replace hx390_0 := bq HB.out hx390_0
   replace hx390_1 := bq HB.out hx390_1
   replace hx390_2 := bq HB.out hx390_2
   replace hx390_3 := bq HB.out hx390_3
   replace p390 := eq_true p390
   replace q390 := eq_true q390
   refine start_ (n := 17) (S := fun w' => w'.cell? ⟨gb388, 0, none⟩ = some (.string ((rd_T31 l0 x10_1).f0)) ∧ w'.cell? ⟨gb388, 1, none⟩ = some (.string ((rd_T31 l0 x10_1).f1)) ∧ w'.cell? ⟨gb388, 2, none⟩ = some (.int .i64 ((rd_T31 l0 x10_1).f2)) ∧ w'.cell? ⟨gb388, 3, none⟩ = some (.bool ((rd_T31 l0 x10_1).f3)) ∧ w'.cell? (ad387.add (((ji9)).toNat * 4)) = some (.string ((rd_T31 l0 (ji9)).f0)) ∧ w'.cell? ⟨(ad387.add (((ji9)).toNat * 4)).block, (ad387.add (((ji9)).toNat * 4)).off + 1, none⟩ = some (.string ((rd_T31 l0 (ji9)).f1)) ∧ w'.cell? ⟨(ad387.add (((ji9)).toNat * 4)).block, (ad387.add (((ji9)).toNat * 4)).off + 2, none⟩ = some (.int .i64 ((rd_T31 l0 (ji9)).f2)) ∧ w'.cell? ⟨(ad387.add (((ji9)).toNat * 4)).block, (ad387.add (((ji9)).toNat * 4)).off + 3, none⟩ = some (.bool ((rd_T31 l0 (ji9)).f3))) (ds := []) (yx 0 17) (by kernel_rfl) rfl rfl ⟨(blk_cell BK388.out 0).trans rfl, (blk_cell BK388.out 1).trans rfl, (blk_cell BK388.out 2).trans rfl, (blk_cell BK388.out 3).trans rfl, (bq HB.out hw390_0), (bq HB.out hw390_1), (bq HB.out hw390_2), (bq HB.out hw390_3)⟩ (fun hHeld => ?_); refine with_tabW impl_EntriesOk.tab6 impl_EntriesOk.bits6 (fun HT_ HW_ => ?_)
   generalize w16.drew = w17 at BK388 HB hx390_0 hx390_1 hx390_2 hx390_3 hHeld ⊢
   refine take_ (i := 0) (N := some 15) (v := _) (a' := _) (yx 1 16) rfl rfl (take_ofW HT_.out HW_.out (by kernel_rfl)) (fun _ _ _ h => h) (Or.inl ⟨by rfl, (by rintro w' ⟨s0, s1, s2, s3, s4, s5, s6, s7⟩; go_simp; with_reducible rfl)⟩) hHeld zg1 ?_
   refine one_ (i := 1) (N := some 16) (yx 2 15) rfl rfl (one_of HT_.out (by kernel_rfl)) (by decide) (fun K hK => ?_)
   refine goes_ Try.func54 (by kernel_rfl) rfl #[.agg #[.string ((rd_T31 l0 x10_1).f0), .string ((rd_T31 l0 x10_1).f1), .int .i64 ((rd_T31 l0 x10_1).f2), .bool ((rd_T31 l0 x10_1).f3)]] (by rfl) rfl rfl zg7 ?_
   with_reducible refine (impl_entryOk.calls ((rd_T31 l0 x10_1).f0) ((rd_T31 l0 x10_1).f1) ((rd_T31 l0 x10_1).f2) ((rd_T31 l0 x10_1).f3) true _ A6.out).mono ?_
   rintro e w18 ⟨rfl, hb⟩
   refine ⟨_, rfl, ?_⟩
   replace BK388 := A_ (blk_below (g := gb388) (o := .cells #[.string ((rd_T31 l0 x10_1).f0), .string ((rd_T31 l0 x10_1).f1), .int .i64 ((rd_T31 l0 x10_1).f2), .bool ((rd_T31 l0 x10_1).f3)] 31 (0, 0)) z26d hb)
   replace HB := A_ (below_step z26c hb)
   refine hK.out _ _ ⟨(blk_cell BK388.out 0).trans rfl, (blk_cell BK388.out 1).trans rfl, (blk_cell BK388.out 2).trans rfl, (blk_cell BK388.out 3).trans rfl, (bq HB.out hw390_0), (bq HB.out hw390_1), (bq HB.out hw390_2), (bq HB.out hw390_3)⟩ (fun hHeld => ?_)
   clear hK K
   refine norm_ (nz_ 16) ?_
   refine pu_ 2 (some 17) (yx 3 14) ?_
   refine pu_ 3 (some 18) (yx 4 13) ?_
   refine pu_ 4 (some 19) (yx 5 12) ?_
   refine pu_ 5 (some 20) (yx 6 11) ?_
   refine pu_ 6 (some 21) (yx 7 10) ?_
   refine pu_ 7 (some 22) (yx 8 9) ?_
   refine pu_ 8 (some 23) (yx 9 8) ?_
   refine pu_ 9 (some 24) (yx 10 7) ?_
   refine pu_ 10 (some 25) (yx 11 6) ?_
   refine take_ (i := 11) (N := some 26) (v := _) (a' := _) (yx 12 5) rfl rfl (take_ofW HT_.out HW_.out (by kernel_rfl)) (fun _ _ _ h => h) (Or.inl ⟨by rfl, (by rintro w' ⟨s0, s1, s2, s3, s4, s5, s6, s7⟩; go_simp; with_reducible rfl)⟩) hHeld zg1 ?_
   refine take_ (i := 12) (N := some 27) (v := _) (a' := _) (yx 13 4) rfl rfl (take_ofW HT_.out HW_.out (by kernel_rfl)) (fun _ _ _ h => h) (Or.inl ⟨by rfl, (by rintro w' ⟨s0, s1, s2, s3, s4, s5, s6, s7⟩; go_simp; with_reducible rfl)⟩) hHeld zg1 ?_
   refine one_ (i := 13) (N := some 28) (yx 14 3) rfl rfl (one_of HT_.out (by kernel_rfl)) (by decide) (fun K hK => ?_)
   refine goes_ Try.func65 (by kernel_rfl) rfl #[.agg #[.string ((rd_T31 l0 (ji9)).f0), .string ((rd_T31 l0 (ji9)).f1), .int .i64 ((rd_T31 l0 (ji9)).f2), .bool ((rd_T31 l0 (ji9)).f3)], .agg #[.string ((rd_T31 l0 x10_1).f0), .string ((rd_T31 l0 x10_1).f1), .int .i64 ((rd_T31 l0 x10_1).f2), .bool ((rd_T31 l0 x10_1).f3)]] (by rfl) rfl rfl (by (try simp only [List.map_toArray, List.map_cons, List.map_nil]); first | done | (simp only [hji9]; rfl) | rfl | (simp only [List.length_drop, List.length_take]; rfl)) ?_
   with_reducible refine (impl_byOrder.calls k1 ((rd_T31 l0 (ji9)).f0) ((rd_T31 l0 (ji9)).f1) ((rd_T31 l0 (ji9)).f2) ((rd_T31 l0 (ji9)).f3) ((rd_T31 l0 x10_1).f0) ((rd_T31 l0 x10_1).f1) ((rd_T31 l0 x10_1).f2) ((rd_T31 l0 x10_1).f3) t391 _ A12.out).mono ?_
   rintro e w19 ⟨rfl, hb⟩
   refine ⟨_, rfl, ?_⟩
   replace BK388 := A_ (blk_below (g := gb388) (o := .cells #[.string ((rd_T31 l0 x10_1).f0), .string ((rd_T31 l0 x10_1).f1), .int .i64 ((rd_T31 l0 x10_1).f2), .bool ((rd_T31 l0 x10_1).f3)] 31 (0, 0)) z26d hb)
   replace HB := A_ (below_step z26c hb)
   refine hK.out _ _ ⟨(blk_cell BK388.out 0).trans rfl, (blk_cell BK388.out 1).trans rfl, (blk_cell BK388.out 2).trans rfl, (blk_cell BK388.out 3).trans rfl, (bq HB.out hw390_0), (bq HB.out hw390_1), (bq HB.out hw390_2), (bq HB.out hw390_3)⟩ (fun hHeld => ?_)
   clear hK K
   refine norm_ (nz_ 28) ?_
   refine pu_ 14 (some 29) (yx 15 2) ?_
   refine pu_ 15 (some 30) (yx 16 1) ?_
   refine pu_ 16 (some 31) (yx 17 0) ?_
   refine done_ (done_of HT_.out (by kernel_rfl)) ?_
   try go_wp2
   go_ret
   exact ⟨by first | rfl | (simp [errW_none, errW_some] <;> rfl) | (simp only [← hji9]; first | rfl | (simp [errW_none, errW_some] <;> rfl)) | (simp [*, errW_none, errW_some] <;> rfl), z26c⟩
   }
   {
   rw [if_neg c13] at H
   have c13b0 : decide (0 ≤ t391) = false := decide_eq_false c13
   clear c13
   have H' := A_ H
   clear H
   have p387 : 0 ≤ (x10_1 : Int) := of_decide_eq_true zg2
   have q387 : x10_1 < (l0.length : Int) := of_decide_eq_true zg2
   obtain ⟨ad387, e387, hx387_0, hx387_1, hx387_2, hx387_3⟩ := at_T31 HR0.out x10_1 p387 q387
   cases e387
   replace hx387_0 := bq HB.out hx387_0
   replace hx387_1 := bq HB.out hx387_1
   replace hx387_2 := bq HB.out hx387_2
   replace hx387_3 := bq HB.out hx387_3
   replace p387 := eq_true p387
   replace q387 := eq_true q387
   try go_wp2_with (first | ((with_reducible refine gate_dst (N := 4) rfl ?_); refine box_event ?hg (N := 4) ?hd (cs := #[.string (⟨#[]⟩ : ByteArray), .string (⟨#[]⟩ : ByteArray), .int .i64 0, .bool false]) (t := 31) ?hr ?_; (case hd => rfl); (case hg => rfl); (case hr => first | (go_simp; done) | (go_simp; rfl)); intro gb388 hg w20 hbox hb; have n0_ := A_ (below_step zg0 hb); have n1_ := A_ (hbox); have n2_ := A_ ((by rw [hg]; exact (below_size zg0) : w.heap.size ≤ gb388)); have n3_ := A_ ((by rw [hg]; exact (below_size zg0) : w.heap.size ≤ gb388)); clear HB; have HB := n0_; have BK388 := n1_; have GW388 := n2_; have GE388 := n3_; clear n0_ n1_ n2_ n3_; clear hb hbox hg; obtain ⟨hcz21_0, hcz21_1, hcz21_2, hcz21_3, hfz21_0, hfz21_1, hfz21_2, hfz21_3⟩ := bz4 BK388.out))
   have n0_ : Aside0 (((((w20.setCell ⟨gb388, 0, none⟩ (.string ((rd_T31 l0 x10_1).f0))).setCell ⟨gb388, 1, none⟩ (.string ((rd_T31 l0 x10_1).f1))).setCell ⟨gb388, 2, none⟩ (.int .i64 ((rd_T31 l0 x10_1).f2))).setCell ⟨gb388, 3, none⟩ (.bool ((rd_T31 l0 x10_1).f3))).heap[gb388]? = some (.cells #[.string ((rd_T31 l0 x10_1).f0), .string ((rd_T31 l0 x10_1).f1), .int .i64 ((rd_T31 l0 x10_1).f2), .bool ((rd_T31 l0 x10_1).f3)] 31 (0, 0))) := ⟨by (with_reducible repeat (first | refine blk_drewN ?_ _ | refine blk_drew ?_ | refine blk_alloc ?_ _)); refine blk_put (cs := #[.string ((rd_T31 l0 x10_1).f0), .string ((rd_T31 l0 x10_1).f1), .int .i64 ((rd_T31 l0 x10_1).f2), .bool false]) ?_ 3 _ rfl; (with_reducible repeat (first | refine blk_drewN ?_ _ | refine blk_drew ?_ | refine blk_alloc ?_ _)); refine blk_put (cs := #[.string ((rd_T31 l0 x10_1).f0), .string ((rd_T31 l0 x10_1).f1), .int .i64 0, .bool false]) ?_ 2 _ rfl; (with_reducible repeat (first | refine blk_drewN ?_ _ | refine blk_drew ?_ | refine blk_alloc ?_ _)); refine blk_put (cs := #[.string ((rd_T31 l0 x10_1).f0), .string (⟨#[]⟩ : ByteArray), .int .i64 0, .bool false]) ?_ 1 _ rfl; (with_reducible repeat (first | refine blk_drewN ?_ _ | refine blk_drew ?_ | refine blk_alloc ?_ _)); refine blk_put (cs := #[.string (⟨#[]⟩ : ByteArray), .string (⟨#[]⟩ : ByteArray), .int .i64 0, .bool false]) ?_ 0 _ rfl; (with_reducible repeat (first | refine blk_drewN ?_ _ | refine blk_drew ?_ | refine blk_alloc ?_ _)); exact BK388.out⟩
   have n1_ : Aside0 (Below w.heap.size w ((((w20.setCell ⟨gb388, 0, none⟩ (.string ((rd_T31 l0 x10_1).f0))).setCell ⟨gb388, 1, none⟩ (.string ((rd_T31 l0 x10_1).f1))).setCell ⟨gb388, 2, none⟩ (.int .i64 ((rd_T31 l0 x10_1).f2))).setCell ⟨gb388, 3, none⟩ (.bool ((rd_T31 l0 x10_1).f3)))) := ⟨z26c⟩
   (try clear BK388)
   (try clear HB)
   generalize ((((w20.setCell ⟨gb388, 0, none⟩ (.string ((rd_T31 l0 x10_1).f0))).setCell ⟨gb388, 1, none⟩ (.string ((rd_T31 l0 x10_1).f1))).setCell ⟨gb388, 2, none⟩ (.int .i64 ((rd_T31 l0 x10_1).f2))).setCell ⟨gb388, 3, none⟩ (.bool ((rd_T31 l0 x10_1).f3))) = w22 at n0_ n1_ ⊢
   have BK388 := n0_
   have HB := n1_
   clear n0_ n1_
   replace BK388 := A_ (blk_drew BK388.out)
   replace HB := A_ (below_drew1 HB.out)
   have p390 : 0 ≤ ((ji9) : Int) := of_decide_eq_true zg2
   have q390 : (ji9) < (l0.length : Int) := of_decide_eq_true zg2
   obtain ⟨ad390, e390, hx390_0, hx390_1, hx390_2, hx390_3⟩ := at_T31 HR0.out (ji9) p390 q390
   have hw390_3 := hx390_3
   have hw390_2 := hx390_2
   have hw390_1 := hx390_1
   have hw390_0 := hx390_0
   obtain rfl : ad387 = ad390 := (by injection e390)
   replace hx390_0 := bq HB.out hx390_0
   replace hx390_1 := bq HB.out hx390_1
   replace hx390_2 := bq HB.out hx390_2
   replace hx390_3 := bq HB.out hx390_3
   replace p390 := eq_true p390
   replace q390 := eq_true q390
   refine start_ (n := 17) (S := fun w' => w'.cell? ⟨gb388, 0, none⟩ = some (.string ((rd_T31 l0 x10_1).f0)) ∧ w'.cell? ⟨gb388, 1, none⟩ = some (.string ((rd_T31 l0 x10_1).f1)) ∧ w'.cell? ⟨gb388, 2, none⟩ = some (.int .i64 ((rd_T31 l0 x10_1).f2)) ∧ w'.cell? ⟨gb388, 3, none⟩ = some (.bool ((rd_T31 l0 x10_1).f3)) ∧ w'.cell? (ad387.add (((ji9)).toNat * 4)) = some (.string ((rd_T31 l0 (ji9)).f0)) ∧ w'.cell? ⟨(ad387.add (((ji9)).toNat * 4)).block, (ad387.add (((ji9)).toNat * 4)).off + 1, none⟩ = some (.string ((rd_T31 l0 (ji9)).f1)) ∧ w'.cell? ⟨(ad387.add (((ji9)).toNat * 4)).block, (ad387.add (((ji9)).toNat * 4)).off + 2, none⟩ = some (.int .i64 ((rd_T31 l0 (ji9)).f2)) ∧ w'.cell? ⟨(ad387.add (((ji9)).toNat * 4)).block, (ad387.add (((ji9)).toNat * 4)).off + 3, none⟩ = some (.bool ((rd_T31 l0 (ji9)).f3))) (ds := []) (yx 0 17) (by kernel_rfl) rfl rfl ⟨(blk_cell BK388.out 0).trans rfl, (blk_cell BK388.out 1).trans rfl, (blk_cell BK388.out 2).trans rfl, (blk_cell BK388.out 3).trans rfl, (bq HB.out hw390_0), (bq HB.out hw390_1), (bq HB.out hw390_2), (bq HB.out hw390_3)⟩ (fun hHeld => ?_); refine with_tabW impl_EntriesOk.tab6 impl_EntriesOk.bits6 (fun HT_ HW_ => ?_)
   generalize w22.drew = w23 at BK388 HB hx390_0 hx390_1 hx390_2 hx390_3 hHeld ⊢
   refine take_ (i := 0) (N := some 15) (v := _) (a' := _) (yx 1 16) rfl rfl (take_ofW HT_.out HW_.out (by kernel_rfl)) (fun _ _ _ h => h) (Or.inl ⟨by rfl, (by rintro w' ⟨s0, s1, s2, s3, s4, s5, s6, s7⟩; go_simp; with_reducible rfl)⟩) hHeld zg1 ?_
   refine one_ (i := 1) (N := some 16) (yx 2 15) rfl rfl (one_of HT_.out (by kernel_rfl)) (by decide) (fun K hK => ?_)
   refine goes_ Try.func54 (by kernel_rfl) rfl #[.agg #[.string ((rd_T31 l0 x10_1).f0), .string ((rd_T31 l0 x10_1).f1), .int .i64 ((rd_T31 l0 x10_1).f2), .bool ((rd_T31 l0 x10_1).f3)]] (by rfl) rfl rfl zg7 ?_
   with_reducible refine (impl_entryOk.calls ((rd_T31 l0 x10_1).f0) ((rd_T31 l0 x10_1).f1) ((rd_T31 l0 x10_1).f2) ((rd_T31 l0 x10_1).f3) true _ A6.out).mono ?_
   rintro e w24 ⟨rfl, hb⟩
   refine ⟨_, rfl, ?_⟩
   replace BK388 := A_ (blk_below (g := gb388) (o := .cells #[.string ((rd_T31 l0 x10_1).f0), .string ((rd_T31 l0 x10_1).f1), .int .i64 ((rd_T31 l0 x10_1).f2), .bool ((rd_T31 l0 x10_1).f3)] 31 (0, 0)) z26d hb)
   replace HB := A_ (below_step z26c hb)
   refine hK.out _ _ ⟨(blk_cell BK388.out 0).trans rfl, (blk_cell BK388.out 1).trans rfl, (blk_cell BK388.out 2).trans rfl, (blk_cell BK388.out 3).trans rfl, (bq HB.out hw390_0), (bq HB.out hw390_1), (bq HB.out hw390_2), (bq HB.out hw390_3)⟩ (fun hHeld => ?_)
   clear hK K
   refine norm_ (nz_ 16) ?_
   refine pu_ 2 (some 17) (yx 3 14) ?_
   refine pu_ 3 (some 18) (yx 4 13) ?_
   refine pu_ 4 (some 19) (yx 5 12) ?_
   refine pu_ 5 (some 20) (yx 6 11) ?_
   refine pu_ 6 (some 21) (yx 7 10) ?_
   refine pu_ 7 (some 22) (yx 8 9) ?_
   refine pu_ 8 (some 23) (yx 9 8) ?_
   refine pu_ 9 (some 24) (yx 10 7) ?_
   refine pu_ 10 (some 25) (yx 11 6) ?_
   refine take_ (i := 11) (N := some 26) (v := _) (a' := _) (yx 12 5) rfl rfl (take_ofW HT_.out HW_.out (by kernel_rfl)) (fun _ _ _ h => h) (Or.inl ⟨by rfl, (by rintro w' ⟨s0, s1, s2, s3, s4, s5, s6, s7⟩; go_simp; with_reducible rfl)⟩) hHeld zg1 ?_
   refine take_ (i := 12) (N := some 27) (v := _) (a' := _) (yx 13 4) rfl rfl (take_ofW HT_.out HW_.out (by kernel_rfl)) (fun _ _ _ h => h) (Or.inl ⟨by rfl, (by rintro w' ⟨s0, s1, s2, s3, s4, s5, s6, s7⟩; go_simp; with_reducible rfl)⟩) hHeld zg1 ?_
   refine one_ (i := 13) (N := some 28) (yx 14 3) rfl rfl (one_of HT_.out (by kernel_rfl)) (by decide) (fun K hK => ?_)
   refine goes_ Try.func65 (by kernel_rfl) rfl #[.agg #[.string ((rd_T31 l0 (ji9)).f0), .string ((rd_T31 l0 (ji9)).f1), .int .i64 ((rd_T31 l0 (ji9)).f2), .bool ((rd_T31 l0 (ji9)).f3)], .agg #[.string ((rd_T31 l0 x10_1).f0), .string ((rd_T31 l0 x10_1).f1), .int .i64 ((rd_T31 l0 x10_1).f2), .bool ((rd_T31 l0 x10_1).f3)]] (by rfl) rfl rfl (by (try simp only [List.map_toArray, List.map_cons, List.map_nil]); first | done | (simp only [hji9]; rfl) | rfl | (simp only [List.length_drop, List.length_take]; rfl)) ?_
   with_reducible refine (impl_byOrder.calls k1 ((rd_T31 l0 (ji9)).f0) ((rd_T31 l0 (ji9)).f1) ((rd_T31 l0 (ji9)).f2) ((rd_T31 l0 (ji9)).f3) ((rd_T31 l0 x10_1).f0) ((rd_T31 l0 x10_1).f1) ((rd_T31 l0 x10_1).f2) ((rd_T31 l0 x10_1).f3) t391 _ A12.out).mono ?_
   rintro e w25 ⟨rfl, hb⟩
   refine ⟨_, rfl, ?_⟩
   replace BK388 := A_ (blk_below (g := gb388) (o := .cells #[.string ((rd_T31 l0 x10_1).f0), .string ((rd_T31 l0 x10_1).f1), .int .i64 ((rd_T31 l0 x10_1).f2), .bool ((rd_T31 l0 x10_1).f3)] 31 (0, 0)) z26d hb)
   replace HB := A_ (below_step z26c hb)
   refine hK.out _ _ ⟨(blk_cell BK388.out 0).trans rfl, (blk_cell BK388.out 1).trans rfl, (blk_cell BK388.out 2).trans rfl, (blk_cell BK388.out 3).trans rfl, (bq HB.out hw390_0), (bq HB.out hw390_1), (bq HB.out hw390_2), (bq HB.out hw390_3)⟩ (fun hHeld => ?_)
   clear hK K
   refine norm_ (nz_ 28) ?_
   refine pu_ 14 (some 29) (yx 15 2) ?_
   refine pu_ 15 (some 30) (yx 16 1) ?_
   refine pu_ 16 (some 31) (yx 17 0) ?_
   refine done_ (done_of HT_.out (by kernel_rfl)) ?_
   try go_wp2
   go_roundg k1
   case measure => have := HK1.out; omega
   case rel => exact ⟨(wrap64 (x10_1 + 1)), (zs), H', ⟨by have := HK1.out; omega⟩, ⟨z26c⟩⟩
   }
   }
   {
   rw [if_neg c11] at H
   exact absurd H (by simp)
   }
   }
   {
   rw [if_neg c10] at H
   exact absurd H (by simp)
   }
   }
   {
   rw [if_neg c8] at H
   have c8b0 : decide (0 < x10_1) = false := decide_eq_false c8
   clear c8
   have H' := A_ H
   clear H
   have p387 : 0 ≤ (x10_1 : Int) := of_decide_eq_true zg2
   have q387 : x10_1 < (l0.length : Int) := of_decide_eq_true zg2
   obtain ⟨ad387, e387, hx387_0, hx387_1, hx387_2, hx387_3⟩ := at_T31 HR0.out x10_1 p387 q387
   cases e387
   replace hx387_0 := bq HB.out hx387_0
   replace hx387_1 := bq HB.out hx387_1
   replace hx387_2 := bq HB.out hx387_2
   replace hx387_3 := bq HB.out hx387_3
   replace p387 := eq_true p387
   replace q387 := eq_true q387
   try go_wp2_with (first | ((with_reducible refine gate_dst (N := 4) rfl ?_); refine box_event ?hg (N := 4) ?hd (cs := #[.string (⟨#[]⟩ : ByteArray), .string (⟨#[]⟩ : ByteArray), .int .i64 0, .bool false]) (t := 31) ?hr ?_; (case hd => rfl); (case hg => rfl); (case hr => first | (go_simp; done) | (go_simp; rfl)); intro gb388 hg w26 hbox hb; have n0_ := A_ (below_step zg0 hb); have n1_ := A_ (hbox); have n2_ := A_ ((by rw [hg]; exact (below_size zg0) : w.heap.size ≤ gb388)); have n3_ := A_ ((by rw [hg]; exact (below_size zg0) : w.heap.size ≤ gb388)); clear HB; have HB := n0_; have BK388 := n1_; have GW388 := n2_; have GE388 := n3_; clear n0_ n1_ n2_ n3_; clear hb hbox hg; obtain ⟨hcz27_0, hcz27_1, hcz27_2, hcz27_3, hfz27_0, hfz27_1, hfz27_2, hfz27_3⟩ := bz4 BK388.out))
   have n0_ : Aside0 (((((w26.setCell ⟨gb388, 0, none⟩ (.string ((rd_T31 l0 x10_1).f0))).setCell ⟨gb388, 1, none⟩ (.string ((rd_T31 l0 x10_1).f1))).setCell ⟨gb388, 2, none⟩ (.int .i64 ((rd_T31 l0 x10_1).f2))).setCell ⟨gb388, 3, none⟩ (.bool ((rd_T31 l0 x10_1).f3))).heap[gb388]? = some (.cells #[.string ((rd_T31 l0 x10_1).f0), .string ((rd_T31 l0 x10_1).f1), .int .i64 ((rd_T31 l0 x10_1).f2), .bool ((rd_T31 l0 x10_1).f3)] 31 (0, 0))) := ⟨by (with_reducible repeat (first | refine blk_drewN ?_ _ | refine blk_drew ?_ | refine blk_alloc ?_ _)); refine blk_put (cs := #[.string ((rd_T31 l0 x10_1).f0), .string ((rd_T31 l0 x10_1).f1), .int .i64 ((rd_T31 l0 x10_1).f2), .bool false]) ?_ 3 _ rfl; (with_reducible repeat (first | refine blk_drewN ?_ _ | refine blk_drew ?_ | refine blk_alloc ?_ _)); refine blk_put (cs := #[.string ((rd_T31 l0 x10_1).f0), .string ((rd_T31 l0 x10_1).f1), .int .i64 0, .bool false]) ?_ 2 _ rfl; (with_reducible repeat (first | refine blk_drewN ?_ _ | refine blk_drew ?_ | refine blk_alloc ?_ _)); refine blk_put (cs := #[.string ((rd_T31 l0 x10_1).f0), .string (⟨#[]⟩ : ByteArray), .int .i64 0, .bool false]) ?_ 1 _ rfl; (with_reducible repeat (first | refine blk_drewN ?_ _ | refine blk_drew ?_ | refine blk_alloc ?_ _)); refine blk_put (cs := #[.string (⟨#[]⟩ : ByteArray), .string (⟨#[]⟩ : ByteArray), .int .i64 0, .bool false]) ?_ 0 _ rfl; (with_reducible repeat (first | refine blk_drewN ?_ _ | refine blk_drew ?_ | refine blk_alloc ?_ _)); exact BK388.out⟩
   have n1_ : Aside0 (Below w.heap.size w ((((w26.setCell ⟨gb388, 0, none⟩ (.string ((rd_T31 l0 x10_1).f0))).setCell ⟨gb388, 1, none⟩ (.string ((rd_T31 l0 x10_1).f1))).setCell ⟨gb388, 2, none⟩ (.int .i64 ((rd_T31 l0 x10_1).f2))).setCell ⟨gb388, 3, none⟩ (.bool ((rd_T31 l0 x10_1).f3)))) := ⟨z26c⟩
   (try clear BK388)
   (try clear HB)
   generalize ((((w26.setCell ⟨gb388, 0, none⟩ (.string ((rd_T31 l0 x10_1).f0))).setCell ⟨gb388, 1, none⟩ (.string ((rd_T31 l0 x10_1).f1))).setCell ⟨gb388, 2, none⟩ (.int .i64 ((rd_T31 l0 x10_1).f2))).setCell ⟨gb388, 3, none⟩ (.bool ((rd_T31 l0 x10_1).f3))) = w28 at n0_ n1_ ⊢
   have BK388 := n0_
   have HB := n1_
   clear n0_ n1_
   replace BK388 := A_ (blk_drew BK388.out)
   replace HB := A_ (below_drew1 HB.out)
   refine start_ (n := 17) (S := fun w' => w'.cell? ⟨gb388, 0, none⟩ = some (.string ((rd_T31 l0 x10_1).f0)) ∧ w'.cell? ⟨gb388, 1, none⟩ = some (.string ((rd_T31 l0 x10_1).f1)) ∧ w'.cell? ⟨gb388, 2, none⟩ = some (.int .i64 ((rd_T31 l0 x10_1).f2)) ∧ w'.cell? ⟨gb388, 3, none⟩ = some (.bool ((rd_T31 l0 x10_1).f3))) (ds := []) (yx 0 17) (by kernel_rfl) rfl rfl (bc4 BK388.out) (fun hHeld => ?_); refine with_tabW impl_EntriesOk.tab6 impl_EntriesOk.bits6 (fun HT_ HW_ => ?_)
   generalize w28.drew = w29 at BK388 HB hHeld ⊢
   refine take_ (i := 0) (N := some 15) (v := _) (a' := _) (yx 1 16) rfl rfl (take_ofW HT_.out HW_.out (by kernel_rfl)) (fun _ _ _ h => h) (Or.inl ⟨by rfl, (by rintro w' ⟨s0, s1, s2, s3⟩; go_simp; with_reducible rfl)⟩) hHeld zg1 ?_
   refine one_ (i := 1) (N := some 16) (yx 2 15) rfl rfl (one_of HT_.out (by kernel_rfl)) (by decide) (fun K hK => ?_)
   refine goes_ Try.func54 (by kernel_rfl) rfl #[.agg #[.string ((rd_T31 l0 x10_1).f0), .string ((rd_T31 l0 x10_1).f1), .int .i64 ((rd_T31 l0 x10_1).f2), .bool ((rd_T31 l0 x10_1).f3)]] (by rfl) rfl rfl zg7 ?_
   with_reducible refine (impl_entryOk.calls ((rd_T31 l0 x10_1).f0) ((rd_T31 l0 x10_1).f1) ((rd_T31 l0 x10_1).f2) ((rd_T31 l0 x10_1).f3) true _ A6.out).mono ?_
   rintro e w30 ⟨rfl, hb⟩
   refine ⟨_, rfl, ?_⟩
   replace BK388 := A_ (blk_below (g := gb388) (o := .cells #[.string ((rd_T31 l0 x10_1).f0), .string ((rd_T31 l0 x10_1).f1), .int .i64 ((rd_T31 l0 x10_1).f2), .bool ((rd_T31 l0 x10_1).f3)] 31 (0, 0)) z26d hb)
   replace HB := A_ (below_step z26c hb)
   refine hK.out _ _ (bc4 BK388.out) (fun hHeld => ?_)
   clear hK K
   refine norm_ (nz_ 16) ?_
   refine pu_ 2 (some 17) (yx 3 14) ?_
   refine pu_ 3 (some 18) (yx 4 13) ?_
   refine pu_ 4 (some 19) (yx 5 12) ?_
   refine pu_ 5 (some 20) (yx 6 11) ?_
   refine pu_ 6 (some 21) (yx 7 10) ?_
   refine pn_ 7 (some 22) (yx 8 9) ?_
   refine pn_ 8 (some 23) (yx 9 8) ?_
   refine pn_ 9 (some 24) (yx 10 7) ?_
   refine pn_ 10 (some 25) (yx 11 6) ?_
   refine pn_ 11 (some 26) (yx 12 5) ?_
   refine pn_ 12 (some 27) (yx 13 4) ?_
   refine pn_ 13 (some 28) (yx 14 3) ?_
   refine pn_ 14 (some 29) (yx 15 2) ?_
   refine pu_ 15 (some 30) (yx 16 1) ?_
   refine pu_ 16 (some 31) (yx 17 0) ?_
   refine done_ (done_of HT_.out (by kernel_rfl)) ?_
   try go_wp2
   go_roundg k1
   case measure => have := HK1.out; omega
   case rel => exact ⟨(wrap64 (x10_1 + 1)), (zs), H', ⟨by have := HK1.out; omega⟩, ⟨z26c⟩⟩
   }
   }
   {
   replace c7 := Bool.eq_false_iff.mpr c7
   subst c7
   rw [if_neg Bool.false_ne_true] at H
   obtain rfl := Option.some.inj H
   have p387 : 0 ≤ (x10_1 : Int) := of_decide_eq_true zg2
   have q387 : x10_1 < (l0.length : Int) := of_decide_eq_true zg2
   obtain ⟨ad387, e387, hx387_0, hx387_1, hx387_2, hx387_3⟩ := at_T31 HR0.out x10_1 p387 q387
   cases e387
   replace hx387_0 := bq HB.out hx387_0
   replace hx387_1 := bq HB.out hx387_1
   replace hx387_2 := bq HB.out hx387_2
   replace hx387_3 := bq HB.out hx387_3
   replace p387 := eq_true p387
   replace q387 := eq_true q387
   try go_wp2_with (first | ((with_reducible refine gate_dst (N := 4) rfl ?_); refine box_event ?hg (N := 4) ?hd (cs := #[.string (⟨#[]⟩ : ByteArray), .string (⟨#[]⟩ : ByteArray), .int .i64 0, .bool false]) (t := 31) ?hr ?_; (case hd => rfl); (case hg => rfl); (case hr => first | (go_simp; done) | (go_simp; rfl)); intro gb388 hg w31 hbox hb; have n0_ := A_ (below_step zg0 hb); have n1_ := A_ (hbox); have n2_ := A_ ((by rw [hg]; exact (below_size zg0) : w.heap.size ≤ gb388)); have n3_ := A_ ((by rw [hg]; exact (below_size zg0) : w.heap.size ≤ gb388)); clear HB; have HB := n0_; have BK388 := n1_; have GW388 := n2_; have GE388 := n3_; clear n0_ n1_ n2_ n3_; clear hb hbox hg; obtain ⟨hcz32_0, hcz32_1, hcz32_2, hcz32_3, hfz32_0, hfz32_1, hfz32_2, hfz32_3⟩ := bz4 BK388.out))
   have n0_ : Aside0 (((((w31.setCell ⟨gb388, 0, none⟩ (.string ((rd_T31 l0 x10_1).f0))).setCell ⟨gb388, 1, none⟩ (.string ((rd_T31 l0 x10_1).f1))).setCell ⟨gb388, 2, none⟩ (.int .i64 ((rd_T31 l0 x10_1).f2))).setCell ⟨gb388, 3, none⟩ (.bool ((rd_T31 l0 x10_1).f3))).heap[gb388]? = some (.cells #[.string ((rd_T31 l0 x10_1).f0), .string ((rd_T31 l0 x10_1).f1), .int .i64 ((rd_T31 l0 x10_1).f2), .bool ((rd_T31 l0 x10_1).f3)] 31 (0, 0))) := ⟨by (with_reducible repeat (first | refine blk_drewN ?_ _ | refine blk_drew ?_ | refine blk_alloc ?_ _)); refine blk_put (cs := #[.string ((rd_T31 l0 x10_1).f0), .string ((rd_T31 l0 x10_1).f1), .int .i64 ((rd_T31 l0 x10_1).f2), .bool false]) ?_ 3 _ rfl; (with_reducible repeat (first | refine blk_drewN ?_ _ | refine blk_drew ?_ | refine blk_alloc ?_ _)); refine blk_put (cs := #[.string ((rd_T31 l0 x10_1).f0), .string ((rd_T31 l0 x10_1).f1), .int .i64 0, .bool false]) ?_ 2 _ rfl; (with_reducible repeat (first | refine blk_drewN ?_ _ | refine blk_drew ?_ | refine blk_alloc ?_ _)); refine blk_put (cs := #[.string ((rd_T31 l0 x10_1).f0), .string (⟨#[]⟩ : ByteArray), .int .i64 0, .bool false]) ?_ 1 _ rfl; (with_reducible repeat (first | refine blk_drewN ?_ _ | refine blk_drew ?_ | refine blk_alloc ?_ _)); refine blk_put (cs := #[.string (⟨#[]⟩ : ByteArray), .string (⟨#[]⟩ : ByteArray), .int .i64 0, .bool false]) ?_ 0 _ rfl; (with_reducible repeat (first | refine blk_drewN ?_ _ | refine blk_drew ?_ | refine blk_alloc ?_ _)); exact BK388.out⟩
   have n1_ : Aside0 (Below w.heap.size w ((((w31.setCell ⟨gb388, 0, none⟩ (.string ((rd_T31 l0 x10_1).f0))).setCell ⟨gb388, 1, none⟩ (.string ((rd_T31 l0 x10_1).f1))).setCell ⟨gb388, 2, none⟩ (.int .i64 ((rd_T31 l0 x10_1).f2))).setCell ⟨gb388, 3, none⟩ (.bool ((rd_T31 l0 x10_1).f3)))) := ⟨z26c⟩
   (try clear BK388)
   (try clear HB)
   generalize ((((w31.setCell ⟨gb388, 0, none⟩ (.string ((rd_T31 l0 x10_1).f0))).setCell ⟨gb388, 1, none⟩ (.string ((rd_T31 l0 x10_1).f1))).setCell ⟨gb388, 2, none⟩ (.int .i64 ((rd_T31 l0 x10_1).f2))).setCell ⟨gb388, 3, none⟩ (.bool ((rd_T31 l0 x10_1).f3))) = w33 at n0_ n1_ ⊢
   have BK388 := n0_
   have HB := n1_
   clear n0_ n1_
   replace BK388 := A_ (blk_drew BK388.out)
   replace HB := A_ (below_drew1 HB.out)
   refine start_ (n := 17) (S := fun w' => w'.cell? ⟨gb388, 0, none⟩ = some (.string ((rd_T31 l0 x10_1).f0)) ∧ w'.cell? ⟨gb388, 1, none⟩ = some (.string ((rd_T31 l0 x10_1).f1)) ∧ w'.cell? ⟨gb388, 2, none⟩ = some (.int .i64 ((rd_T31 l0 x10_1).f2)) ∧ w'.cell? ⟨gb388, 3, none⟩ = some (.bool ((rd_T31 l0 x10_1).f3))) (ds := []) (yx 0 17) (by kernel_rfl) rfl rfl (bc4 BK388.out) (fun hHeld => ?_); refine with_tabW impl_EntriesOk.tab6 impl_EntriesOk.bits6 (fun HT_ HW_ => ?_)
   generalize w33.drew = w34 at BK388 HB hHeld ⊢
   refine take_ (i := 0) (N := some 15) (v := _) (a' := _) (yx 1 16) rfl rfl (take_ofW HT_.out HW_.out (by kernel_rfl)) (fun _ _ _ h => h) (Or.inl ⟨by rfl, (by rintro w' ⟨s0, s1, s2, s3⟩; go_simp; with_reducible rfl)⟩) hHeld zg1 ?_
   refine one_ (i := 1) (N := some 16) (yx 2 15) rfl rfl (one_of HT_.out (by kernel_rfl)) (by decide) (fun K hK => ?_)
   refine goes_ Try.func54 (by kernel_rfl) rfl #[.agg #[.string ((rd_T31 l0 x10_1).f0), .string ((rd_T31 l0 x10_1).f1), .int .i64 ((rd_T31 l0 x10_1).f2), .bool ((rd_T31 l0 x10_1).f3)]] (by rfl) rfl rfl zg7 ?_
   with_reducible refine (impl_entryOk.calls ((rd_T31 l0 x10_1).f0) ((rd_T31 l0 x10_1).f1) ((rd_T31 l0 x10_1).f2) ((rd_T31 l0 x10_1).f3) false _ A6.out).mono ?_
   rintro e w35 ⟨rfl, hb⟩
   refine ⟨_, rfl, ?_⟩
   replace BK388 := A_ (blk_below (g := gb388) (o := .cells #[.string ((rd_T31 l0 x10_1).f0), .string ((rd_T31 l0 x10_1).f1), .int .i64 ((rd_T31 l0 x10_1).f2), .bool ((rd_T31 l0 x10_1).f3)] 31 (0, 0)) z26d hb)
   replace HB := A_ (below_step z26c hb)
   refine hK.out _ _ (bc4 BK388.out) (fun hHeld => ?_)
   clear hK K
   refine norm_ (nz_ 16) ?_
   refine pu_ 2 (some 17) (yx 3 14) ?_
   refine pu_ 3 (some 18) (yx 4 13) ?_
   refine pn_ 4 (some 19) (yx 5 12) ?_
   refine pn_ 5 (some 20) (yx 6 11) ?_
   refine pn_ 6 (some 21) (yx 7 10) ?_
   refine pn_ 7 (some 22) (yx 8 9) ?_
   refine pn_ 8 (some 23) (yx 9 8) ?_
   refine pn_ 9 (some 24) (yx 10 7) ?_
   refine pn_ 10 (some 25) (yx 11 6) ?_
   refine pn_ 11 (some 26) (yx 12 5) ?_
   refine pn_ 12 (some 27) (yx 13 4) ?_
   refine pn_ 13 (some 28) (yx 14 3) ?_
   refine pn_ 14 (some 29) (yx 15 2) ?_
   refine pn_ 15 (some 30) (yx 16 1) ?_
   refine pu_ 16 (some 31) (yx 17 0) ?_
   refine done_ (done_of HT_.out (by kernel_rfl)) ?_
   try go_wp2
   go_ret
   exact ⟨zr, z26c⟩
   }
   }
   {
   rw [if_neg c5] at H
   exact absurd H (by simp)
   }
   }
   {
   rw [if_neg c4] at H
   exact absurd H (by simp)
   }
   }
   {
   rw [if_neg c3] at H
   have c3b0 : decide (x10_1 < (l0.length : Int)) = false := decide_eq_false c3
   clear c3
   obtain rfl := Option.some.inj H
   go_wp2
   go_ret
   exact ⟨zr, zg0⟩
   
   }
 }
def impl_Digest.l0 : Nat → ByteArray → Int → Int → Int → Option (Int)
 | 0, _, _, _, _ => none
 | k + 1, x0, x3, x6, x7 => if x7 < x6 then (if 0 ≤ x7 then (if x7 < (x0.size : Int) then (impl_Digest.l0 k x0 (Int.tmod (wrap64 ((wrap64 ((wrap64 (x3 * 1000003)) + (wrap64 (bt x0 x7)))) + 1)) 2147483647) x6 (wrap64 (x7 + 1))) else (none)) else (none)) else (some x3)
def impl_Digest.f (k : Nat) (a0 : ByteArray) : Option (Int) := impl_Digest.l0 k a0 1 (a0.size : Int) 0
set_option maxHeartbeats 8000000 in
set_option maxRecDepth 100000 in
theorem impl_Digest.calls (k : Nat) (a0 : ByteArray) (r : Int) (w : World) (h : impl_Digest.f k a0 = some r) :
  Calls Try.prog 122 #[.string a0] w fun e w' => e = .returned (.int .i64 r) ∧ Drawn0 w w' := by
 have H : (impl_Digest.l0 k a0 1 (a0.size : Int) 0) = some r := h
 clear h
 have H' := A_ H
 clear H
 go_enter Try.func122, Try.ntmps122
 go_wp2
 go_loopg [3, 7] k (fun kq v3 v7 w' => ∃ (x3_1 : Int) (x7_1 : Int), v3 = .int .i64 x3_1 ∧ v7 = .int .i64 x7_1 ∧ Aside0 (impl_Digest.l0 kq a0 x3_1 (a0.size : Int) x7_1 = some r) ∧ Aside0 (kq ≤ k) ∧ Drawn0 w w')
 case atStart => exact ⟨(1), (0), (zs), (zs), H', ⟨Nat.le_refl _⟩, by repeat (first | exact Drawn0.refl _ | apply Drawn0.step)⟩
 case round =>
  clear H'
  try clear c1
  obtain ⟨x3_1, x7_1, rfl, rfl, HA, HK1, ⟨m1, rfl⟩⟩ := hrel
  cases gk with
  | zero => exact absurd HA.out (by simp [impl_Digest.l0])
  | succ k1 =>
   have H := HA.out
   clear HA
   simp only [impl_Digest.l0] at H
   by_cases c2 : x7_1 < (a0.size : Int)
   {
   rw [if_pos c2] at H
   have c2b0 : decide (x7_1 < (a0.size : Int)) = true := decide_eq_true c2
   clear c2
   by_cases c3 : 0 ≤ x7_1
   {
   rw [if_pos c3] at H
   have c3b0 : decide (0 ≤ x7_1) = true := decide_eq_true c3
   clear c3
   by_cases c4 : x7_1 < (a0.size : Int)
   {
   rw [if_pos c4] at H
   have c4b0 : decide (x7_1 < (a0.size : Int)) = true := decide_eq_true c4
   clear c4
   have H' := A_ H
   clear H
   have p5 : 0 ≤ (x7_1 : Int) := of_decide_eq_true zg2
   have q5 : x7_1 < (a0.size : Int) := of_decide_eq_true zg2
   have hx5 := bt_at a0 x7_1
   replace p5 := eq_true p5
   replace q5 := eq_true q5
   go_wp2
   go_roundg k1
   case measure => have := HK1.out; omega
   case rel => exact ⟨(Int.tmod (wrap64 ((wrap64 ((wrap64 (x3_1 * 1000003)) + (wrap64 (bt a0 x7_1)))) + 1)) 2147483647), (wrap64 (x7_1 + 1)), (zs), (zs), H', ⟨by have := HK1.out; omega⟩, by repeat (first | exact Drawn0.refl _ | apply Drawn0.step)⟩
   }
   {
   rw [if_neg c4] at H
   exact absurd H (by simp)
   }
   }
   {
   rw [if_neg c3] at H
   exact absurd H (by simp)
   }
   }
   {
   rw [if_neg c2] at H
   have c2b0 : decide (x7_1 < (a0.size : Int)) = false := decide_eq_false c2
   clear c2
   obtain rfl := Option.some.inj H
   go_wp2
   go_ret
   exact ⟨zs, by repeat (first | exact Drawn0.refl _ | apply Drawn0.step)⟩
   
   }
def impl_marks.f (k : Nat) (a0 : ByteArray) : Option (List Int) := (impl_Digest.f k a0).bind fun t392 => (if a0.size + 1 ≤ 9223372036854775807 then ((impl_Digest.f k (a0 ++ (⟨#[42]⟩ : ByteArray))).bind fun t393 => (some (([Int.tmod t392 256, Int.tmod t393 256] : List Int)))) else (none))
set_option maxHeartbeats 8000000 in
set_option maxRecDepth 100000 in
theorem impl_marks.calls (k : Nat) (a0 : ByteArray) (r : List Int) (w : World) (h : impl_marks.f k a0 = some r) :
  Calls Try.prog 92 #[.string a0] w fun e w' => ∃ v0_ : Value, e = .returned (v0_) ∧ Kd.R (Kd.int .i64) 2 w' w.heap.size (fun _ => True) v0_ r ∧ Below w.heap.size w w' := by
 have HB := A_ (Below.refl w.heap.size w)
 have H : ((impl_Digest.f k a0).bind fun t392 => (if a0.size + 1 ≤ 9223372036854775807 then ((impl_Digest.f k (a0 ++ (⟨#[42]⟩ : ByteArray))).bind fun t393 => (some (([Int.tmod t392 256, Int.tmod t393 256] : List Int)))) else (none))) = some r := h
 clear h
 replace H := Option.bind_eq_some_iff.mp H
 obtain ⟨t392, A20, H⟩ := H
 (try dsimp only at H)
 have A2 := A_ A20
 clear A20
 by_cases c3 : a0.size + 1 ≤ 9223372036854775807
 {
 rw [if_pos c3] at H
 have c3b0 := eq_true c3
 have c3b1 : decide (a0.size + 1 ≤ 9223372036854775807) = true := decide_eq_true c3
 try have c3b2 : (9223372036854775807 < a0.size + 1) = False := eq_false (Nat.not_lt.2 c3)
 replace H := Option.bind_eq_some_iff.mp H
 obtain ⟨t393, A40, H⟩ := H
 (try dsimp only at H)
 have A4 := A_ A40
 clear A40
 obtain ⟨y394, hy394⟩ : ∃ y_ : List Int, y_ = (([Int.tmod t392 256, Int.tmod t393 256] : List Int)) := ⟨_, rfl⟩
 replace H : (some y394) = some r := by first | (rw [hy394]; with_reducible exact H) | (have H2_ := (Option.bind_some _ _).symm.trans H; rw [hy394]; with_reducible exact H2_) | (have H2_ := (Option.bind_some _ _).symm.trans H; with_reducible exact H2_) | with_reducible exact H | (rw [hy394]; exact H) | exact H
 have Ny394 := A_ hy394
 clear hy394
 obtain rfl := Option.some.inj H
 go_enter Try.func92, Try.ntmps92
 go_wp2_with (first | ((with_reducible refine gate_callee (f := 122) rfl ?_); refine goesL_ (some 4) rfl rfl Try.func122 (by kernel_rfl) rfl #[.string a0] rfl (by (try simp only [List.map_toArray, List.map_cons, List.map_nil]); first | done | rfl | (simp only [List.length_drop, List.length_take]; rfl)) ?_; (with_reducible refine (impl_Digest.calls k a0 t392 _ A2.out).mono ?_); rintro e w' ⟨rfl, ⟨nd, rfl⟩⟩; refine ⟨_, rfl, ?_⟩) | ((with_reducible refine gate_callee (f := 122) rfl ?_); refine goesL_ (some 8) rfl rfl Try.func122 (by kernel_rfl) rfl #[.string (a0 ++ (⟨#[42]⟩ : ByteArray))] rfl (by (try simp only [List.map_toArray, List.map_cons, List.map_nil]); first | done | rfl | (simp only [List.length_drop, List.length_take]; rfl)) ?_; (with_reducible refine (impl_Digest.calls k (a0 ++ (⟨#[42]⟩ : ByteArray)) t393 _ A4.out).mono ?_); rintro e w' ⟨rfl, ⟨nd, rfl⟩⟩; refine ⟨_, rfl, ?_⟩) | ((with_reducible refine gate_dst (N := 10) rfl ?_); refine Kd.R_lit (Kd.int .i64) _ 2 ?hg (N := 10) ?hd (xs := ([Int.tmod t392 256, Int.tmod t393 256] : List Int)) (inner := [.int .i64 (Int.tmod t392 256), .int .i64 (Int.tmod t393 256)]) (ok := fun _ => True) (okp := fun _ => True) ?hr ?hp (fun _ hk => hk) trivial (Below.refl _ _) (Nat.le_refl _) (by simp) ?_; (case hd => rfl); (case hg => rfl); (case hr => first | (go_simp; done) | (go_simp; rfl)); (case hp => exact (Reps.one (show Kd.M (Kd.int .i64) _ _ _ (Int.tmod t392 256) [.int .i64 (Int.tmod t392 256)] from rfl) (Reps.one (show Kd.M (Kd.int .i64) _ _ _ (Int.tmod t393 256) [.int .i64 (Int.tmod t393 256)] from rfl) (Reps.none _ _)))); intro v395 w5 ho6 hb hg_ hnew_; clear hg_ hnew_; (first | rw [← Ny394.out] at ho6 | (simp only [Int.reduceToNat] at ho6; rw [← Ny394.out] at ho6)); have n0_ := A_ (Kd.R_lower ho6 (below_size zg0)); have n1_ := A_ (below_step zg0 hb); clear HB; have HO396 := n0_; have HB := n1_; clear n0_ n1_; clear hb ho6))
 go_ret
 exact ⟨_, zr, by (with_reducible repeat (first | apply Kd.R_alloc | apply Kd.R_drewN | apply Kd.R_drew)); exact HO396.out, zg0⟩
 }
 {
 rw [if_neg c3] at H
 exact absurd H (by simp)
 
 }
end Go.Proofs.Ytaiggfjkikfcbaa.PFnExactEntries

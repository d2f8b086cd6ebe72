-- by a program of this session (wip/print/run.py) for this claim
import Derived.Test.YtaiggfjkikfcbaaLibPu
import Derived.Test.YtaiggfjkikfcbaaPFnExactEntriesx0
import Derived.Test.YtaiggfjkikfcbaaPFnExactEntriesx1
namespace Go.Proofs.Ytaiggfjkikfcbaa.PFnExactEntries
open Go.Proofs.Ytaiggfjkikfcbaa.Lib Go.RowKit Go.Proofs.YtaiggfjkikfcbaaW.PrintWords Go.Proofs.YtaiggfjkikfcbaaW.PrintLast Go.Proofs.YtaiggfjkikfcbaaW.PrintMore
attribute [local go_sem] max2_int min2_int max_two min_two max_three min_three max_four min_four   -- for this text's walks alone
set_option linter.unusedVariables false
set_option linter.unusedSimpArgs false

theorem z20e {p_ : Prop} (h_ : p_ := by rintro w' ⟨s0, s1, s2, s3⟩; go_simp; with_reducible rfl) : p_ := h_
def laws_heldEntryS.l0 : Nat → List (S31) → Int → Int → Option (Int)
 | 0, _, _, _ => none
 | k + 1, x0, x1, x5 => if x5 < (x0.length : Int) then (if 0 ≤ x5 then ((laws_markText.f k x1).bind fun t116 => (if ((rd_T31 x0 x5).f0).toList = t116.toList then ((laws_markText.f k (wrap64 (x1 + 1))).bind fun t118 => (if ((rd_T31 x0 x5).f1).toList = t118.toList then (if ((rd_T31 x0 x5).f2) = (wrap64 ((wrap64 (x1 + 1)) + 1)) then (if (((rd_T31 x0 x5).f3) != ((Int.tmod (wrap64 ((wrap64 ((wrap64 (x1 + 1)) + 1)) + 1)) 3) == 0)) = true then (some (-1)) else (laws_heldEntryS.l0 k x0 (wrap64 ((wrap64 ((wrap64 ((wrap64 (x1 + 1)) + 1)) + 1)) + 1)) (wrap64 (x5 + 1)))) else (some (-1))) else (some (-1)))) else (some (-1)))) else (none)) else (some x1)
def laws_heldEntryS.f (k : Nat) (l0 : List (S31)) (a1 : Int) : Option (Int) := laws_heldEntryS.l0 k l0 a1 0
def laws_heldEntryS.T4 : Bool × List (List Nat × List Nat) := (true, [([], []), ([], []), ([0, 1], [0, 1]), ([2], [2]), ([3], [3]), ([], []), ([5], [5]), ([4, 6], [4, 6])])
def laws_heldEntryS.B4 : List Nat := [0, 0, 3, 7, 15, 0, 32, 127]
theorem laws_heldEntryS.tab4 : rtab .any (opsOf Try.f20 4) = laws_heldEntryS.T4 := by kernel_rfl
theorem laws_heldEntryS.bits4 : waitsOk laws_heldEntryS.T4.2 laws_heldEntryS.B4 = true := by kernel_rfl
def laws_heldEntryS.T7 : Bool × List (List Nat × List Nat) := (true, [([], []), ([], []), ([0, 1], [0, 1]), ([2], [2]), ([3], [3]), ([], []), ([5], [5]), ([4, 6], [4, 6])])
def laws_heldEntryS.B7 : List Nat := [0, 0, 3, 7, 15, 0, 32, 127]
theorem laws_heldEntryS.tab7 : rtab .any (opsOf Try.f20 7) = laws_heldEntryS.T7 := by kernel_rfl
theorem laws_heldEntryS.bits7 : waitsOk laws_heldEntryS.T7.2 laws_heldEntryS.B7 = true := by kernel_rfl
set_option maxHeartbeats 8000000 in
set_option maxRecDepth 100000 in
theorem laws_heldEntryS.calls (k : Nat) (A0 : Option Addr) (c0 : Nat) (l0 : List (S31)) (a1 : Int) (r : Int) (w : World) (hr0 : Kd.C k31 w A0 l0.length l0) (hc0 : l0.length ≤ c0) (h : laws_heldEntryS.f k l0 a1 = some r) :
  Calls Try.prog 20 #[.slice A0 l0.length c0, .int .i64 a1] w fun e w' => e = .returned (.int .i64 r) ∧ Below w.heap.size w w' := by
 have HR0 := A_ hr0
 have HC0 := A_ hc0
 clear hr0 hc0
 have HB := A_ (Below.refl w.heap.size w)
 have H : (laws_heldEntryS.l0 k l0 a1 0) = some r := h
 clear h
 have H' := A_ H
 clear H
 go_enter Try.func20, Try.ntmps20
 go_wp2
 go_loopg [1, 5] k (fun kq v1 v5 w' => ∃ (x1_1 : Int) (x5_1 : Int), v1 = .int .i64 x1_1 ∧ v5 = .int .i64 x5_1 ∧ Aside0 (laws_heldEntryS.l0 kq l0 x1_1 x5_1 = some r) ∧ Aside0 (kq ≤ k) ∧ Aside0 (Below w.heap.size w w'))
 case atStart => exact ⟨(a1), (0), (zs), (zs), H', ⟨Nat.le_refl _⟩, ⟨zg0⟩⟩
 case round =>
  clear H'
  try clear c2
  try clear p2
  obtain ⟨x1_1, x5_1, rfl, rfl, HA, HK1, HB⟩ := hrel
  cases gk with
  | zero => exact absurd HA.out (by simp [laws_heldEntryS.l0])
  | succ k1 =>
   have H := HA.out
   clear HA
   simp only [laws_heldEntryS.l0] at H
   by_cases c3 : x5_1 < (l0.length : Int)
   {
   rw [if_pos c3] at H
   have c3b0 : decide (x5_1 < (l0.length : Int)) = true := decide_eq_true c3
   clear c3
   by_cases c4 : 0 ≤ x5_1
   {
   rw [if_pos c4] at H
   have c4b0 : decide (0 ≤ x5_1) = true := decide_eq_true c4
   clear c4
   replace H := Option.bind_eq_some_iff.mp H
   obtain ⟨t116, A50, H⟩ := H
   (try dsimp only at H)
   have A5 := A_ A50
   clear A50
   by_cases c6 : ((rd_T31 l0 x5_1).f0).toList = t116.toList
   {
   rw [if_pos c6] at H
   have c6b0 : (((rd_T31 l0 x5_1).f0).toList == t116.toList) = true := beq_iff_eq.mpr c6
   have c6b1 : (((rd_T31 l0 x5_1).f0).toList != t116.toList) = false := bne_eq_false_iff_eq.mpr c6
   clear c6
   replace H := Option.bind_eq_some_iff.mp H
   obtain ⟨t118, A70, H⟩ := H
   (try dsimp only at H)
   have A7 := A_ A70
   clear A70
   by_cases c8 : ((rd_T31 l0 x5_1).f1).toList = t118.toList
   {
   rw [if_pos c8] at H
   have c8b0 : (((rd_T31 l0 x5_1).f1).toList == t118.toList) = true := beq_iff_eq.mpr c8
   have c8b1 : (((rd_T31 l0 x5_1).f1).toList != t118.toList) = false := bne_eq_false_iff_eq.mpr c8
   clear c8
   by_cases c9 : ((rd_T31 l0 x5_1).f2) = (wrap64 ((wrap64 (x1_1 + 1)) + 1))
   {
   rw [if_pos c9] at H
   have c9b0 : (((rd_T31 l0 x5_1).f2) == (wrap64 ((wrap64 (x1_1 + 1)) + 1))) = true := beq_iff_eq.mpr c9
   have c9b1 : (((rd_T31 l0 x5_1).f2) != (wrap64 ((wrap64 (x1_1 + 1)) + 1))) = false := bne_eq_false_iff_eq.mpr c9
   clear c9
   by_cases c10 : (((rd_T31 l0 x5_1).f3) != ((Int.tmod (wrap64 ((wrap64 ((wrap64 (x1_1 + 1)) + 1)) + 1)) 3) == 0)) = true
   {
   rw [if_pos c10] at H
   have c10b0 : (((rd_T31 l0 x5_1).f3) != ((Int.tmod (wrap64 ((wrap64 ((wrap64 (x1_1 + 1)) + 1)) + 1)) 3) == 0)) = true := c10
   (try (have c10b1 : decide (((rd_T31 l0 x5_1).f3) = ((Int.tmod (wrap64 ((wrap64 ((wrap64 (x1_1 + 1)) + 1)) + 1)) 3) == 0)) = false := by simpa using c10))
   (try (have c10b2 : (((rd_T31 l0 x5_1).f3) == ((Int.tmod (wrap64 ((wrap64 ((wrap64 (x1_1 + 1)) + 1)) + 1)) 3) == 0)) = false := by simpa using c10))
   (try (have c10b3 : ¬ (((rd_T31 l0 x5_1).f3) = ((Int.tmod (wrap64 ((wrap64 ((wrap64 (x1_1 + 1)) + 1)) + 1)) 3) == 0)) := by simpa using c10))
   clear c10
   obtain rfl := Option.some.inj H
   try go_wp2
   replace HB := A_ (below_drew1 HB.out)
   have p115 : 0 ≤ (x5_1 : Int) := of_decide_eq_true zg2
   have q115 : x5_1 < (l0.length : Int) := of_decide_eq_true zg2
   obtain ⟨ad115, e115, hx115_0, hx115_1, hx115_2, hx115_3⟩ := at_T31 HR0.out x5_1 p115 q115
   have hw115_3 := hx115_3
   have hw115_2 := hx115_2
   have hw115_1 := hx115_1
   have hw115_0 := hx115_0
   cases e115
   replace hx115_0 := bq HB.out hx115_0
   replace hx115_1 := bq HB.out hx115_1
   replace hx115_2 := bq HB.out hx115_2
   replace hx115_3 := bq HB.out hx115_3
   replace p115 := eq_true p115
   replace q115 := eq_true q115
   refine start_ (n := 8) (S := fun w' => w'.cell? (ad115.add ((x5_1).toNat * 4)) = some (.string ((rd_T31 l0 x5_1).f0)) ∧ w'.cell? ⟨(ad115.add ((x5_1).toNat * 4)).block, (ad115.add ((x5_1).toNat * 4)).off + 1, none⟩ = some (.string ((rd_T31 l0 x5_1).f1)) ∧ w'.cell? ⟨(ad115.add ((x5_1).toNat * 4)).block, (ad115.add ((x5_1).toNat * 4)).off + 2, none⟩ = some (.int .i64 ((rd_T31 l0 x5_1).f2)) ∧ w'.cell? ⟨(ad115.add ((x5_1).toNat * 4)).block, (ad115.add ((x5_1).toNat * 4)).off + 3, none⟩ = some (.bool ((rd_T31 l0 x5_1).f3))) (ds := []) (yx 0 8) (by kernel_rfl) rfl rfl ⟨(bq HB.out hw115_0), (bq HB.out hw115_1), (bq HB.out hw115_2), (bq HB.out hw115_3)⟩ (fun hHeld => ?_); refine with_tabW laws_heldEntryS.tab4 laws_heldEntryS.bits4 (fun HT_ HW_ => ?_)
   generalize wr.drew = w11 at HB hx115_0 hx115_1 hx115_2 hx115_3 hHeld ⊢
   refine pu_ 0 (some 12) (yx 1 7) ?_
   refine pu_ 1 (some 13) (yx 2 6) ?_
   refine pu_ 2 (some 14) (yx 3 5) ?_
   refine pu_ 3 (some 15) (yx 4 4) ?_
   refine pu_ 5 (some 17) (bs "YYYYXYXX") ?_
   refine take_ (i := 4) (N := some 16) (v := _) (a' := _) (yx 6 2) rfl rfl (take_ofW HT_.out HW_.out (by kernel_rfl)) (fun _ _ _ h => h) (Or.inl ⟨by rfl, z20e⟩) hHeld zg1 ?_
   refine one_ (i := 6) (N := some 18) (yx 7 1) rfl rfl (one_of HT_.out (by kernel_rfl)) (by decide) (fun K hK => ?_)
   refine goes_ Try.func56 (by kernel_rfl) rfl #[.int .i64 x1_1] (by rfl) rfl rfl zg7 ?_
   with_reducible refine (laws_markText.calls k1 x1_1 t116 _ A5.out).mono ?_
   rintro e w12 ⟨rfl, hb⟩
   refine ⟨_, rfl, ?_⟩
   replace HB := A_ (below_step zg0 hb)
   refine hK.out _ _ ⟨(bq HB.out hw115_0), (bq HB.out hw115_1), (bq HB.out hw115_2), (bq HB.out hw115_3)⟩ (fun hHeld => ?_)
   clear hK K
   refine norm_ (nz_ 18) ?_
   refine pu_ 7 (some 19) (yx 8 0) ?_
   refine done_ (done_of HT_.out (by kernel_rfl)) ?_
   try go_wp2
   replace HB := A_ (below_drew1 HB.out)
   have p117 : 0 ≤ (x5_1 : Int) := of_decide_eq_true zg2
   have q117 : x5_1 < (l0.length : Int) := of_decide_eq_true zg2
   obtain ⟨ad117, e117, hx117_0, hx117_1, hx117_2, hx117_3⟩ := at_T31 HR0.out x5_1 p117 q117
   have hw117_3 := hx117_3
   have hw117_2 := hx117_2
   have hw117_1 := hx117_1
   have hw117_0 := hx117_0
   obtain rfl : ad115 = ad117 := (by injection e117)
   replace hx117_0 := bq HB.out hx117_0
   replace hx117_1 := bq HB.out hx117_1
   replace hx117_2 := bq HB.out hx117_2
   replace hx117_3 := bq HB.out hx117_3
   replace p117 := eq_true p117
   replace q117 := eq_true q117
   refine start_ (n := 8) (S := fun w' => w'.cell? (ad115.add ((x5_1).toNat * 4)) = some (.string ((rd_T31 l0 x5_1).f0)) ∧ w'.cell? ⟨(ad115.add ((x5_1).toNat * 4)).block, (ad115.add ((x5_1).toNat * 4)).off + 1, none⟩ = some (.string ((rd_T31 l0 x5_1).f1)) ∧ w'.cell? ⟨(ad115.add ((x5_1).toNat * 4)).block, (ad115.add ((x5_1).toNat * 4)).off + 2, none⟩ = some (.int .i64 ((rd_T31 l0 x5_1).f2)) ∧ w'.cell? ⟨(ad115.add ((x5_1).toNat * 4)).block, (ad115.add ((x5_1).toNat * 4)).off + 3, none⟩ = some (.bool ((rd_T31 l0 x5_1).f3))) (ds := []) (yx 0 8) (by kernel_rfl) rfl rfl ⟨(bq HB.out hw117_0), (bq HB.out hw117_1), (bq HB.out hw117_2), (bq HB.out hw117_3)⟩ (fun hHeld => ?_); refine with_tabW laws_heldEntryS.tab7 laws_heldEntryS.bits7 (fun HT_ HW_ => ?_)
   generalize w12.drew = w13 at HB hx117_0 hx117_1 hx117_2 hx117_3 hHeld ⊢
   refine pu_ 0 (some 22) (yx 1 7) ?_
   refine pu_ 1 (some 23) (yx 2 6) ?_
   refine pu_ 2 (some 24) (yx 3 5) ?_
   refine pu_ 3 (some 25) (yx 4 4) ?_
   refine pu_ 5 (some 27) (bs "YYYYXYXX") ?_
   refine take_ (i := 4) (N := some 26) (v := _) (a' := _) (yx 6 2) rfl rfl (take_ofW HT_.out HW_.out (by kernel_rfl)) (fun _ _ _ h => h) (Or.inl ⟨by rfl, z20e⟩) hHeld zg1 ?_
   refine one_ (i := 6) (N := some 28) (yx 7 1) rfl rfl (one_of HT_.out (by kernel_rfl)) (by decide) (fun K hK => ?_)
   refine goes_ Try.func56 (by kernel_rfl) rfl #[.int .i64 (wrap64 (x1_1 + 1))] (by rfl) rfl rfl zg7 ?_
   with_reducible refine (laws_markText.calls k1 (wrap64 (x1_1 + 1)) t118 _ A7.out).mono ?_
   rintro e w14 ⟨rfl, hb⟩
   refine ⟨_, rfl, ?_⟩
   replace HB := A_ (below_step zg0 hb)
   refine hK.out _ _ ⟨(bq HB.out hw117_0), (bq HB.out hw117_1), (bq HB.out hw117_2), (bq HB.out hw117_3)⟩ (fun hHeld => ?_)
   clear hK K
   refine norm_ (nz_ 28) ?_
   refine pu_ 7 (some 29) (yx 8 0) ?_
   refine done_ (done_of HT_.out (by kernel_rfl)) ?_
   have p119 : 0 ≤ (x5_1 : Int) := of_decide_eq_true zg2
   have q119 : x5_1 < (l0.length : Int) := of_decide_eq_true zg2
   obtain ⟨ad119, e119, hx119_0, hx119_1, hx119_2, hx119_3⟩ := at_T31 HR0.out x5_1 p119 q119
   obtain rfl : ad115 = ad119 := (by injection e119)
   replace hx119_0 := bq HB.out hx119_0
   replace hx119_1 := bq HB.out hx119_1
   replace hx119_2 := bq HB.out hx119_2
   replace hx119_3 := bq HB.out hx119_3
   replace p119 := eq_true p119
   replace q119 := eq_true q119
   have p120 : 0 ≤ (x5_1 : Int) := of_decide_eq_true zg2
   have q120 : x5_1 < (l0.length : Int) := of_decide_eq_true zg2
   obtain ⟨ad120, e120, hx120_0, hx120_1, hx120_2, hx120_3⟩ := at_T31 HR0.out x5_1 p120 q120
   obtain rfl : ad115 = ad120 := (by injection e120)
   replace hx120_0 := bq HB.out hx120_0
   replace hx120_1 := bq HB.out hx120_1
   replace hx120_2 := bq HB.out hx120_2
   replace hx120_3 := bq HB.out hx120_3
   replace p120 := eq_true p120
   replace q120 := eq_true q120
   try go_wp2
   go_ret
   exact ⟨zr, zg0⟩
   }
   {
   rw [if_neg c10] at H
   have c10b0 : (((rd_T31 l0 x5_1).f3) != ((Int.tmod (wrap64 ((wrap64 ((wrap64 (x1_1 + 1)) + 1)) + 1)) 3) == 0)) = false := by simpa using c10
   (try (have c10b1 : decide (((rd_T31 l0 x5_1).f3) = ((Int.tmod (wrap64 ((wrap64 ((wrap64 (x1_1 + 1)) + 1)) + 1)) 3) == 0)) = true := by simpa using c10))
   (try (have c10b2 : (((rd_T31 l0 x5_1).f3) == ((Int.tmod (wrap64 ((wrap64 ((wrap64 (x1_1 + 1)) + 1)) + 1)) 3) == 0)) = true := by simpa using c10))
   clear c10
   have H' := A_ H
   clear H
   try go_wp2
   replace HB := A_ (below_drew1 HB.out)
   have p115 : 0 ≤ (x5_1 : Int) := of_decide_eq_true zg2
   have q115 : x5_1 < (l0.length : Int) := of_decide_eq_true zg2
   obtain ⟨ad115, e115, hx115_0, hx115_1, hx115_2, hx115_3⟩ := at_T31 HR0.out x5_1 p115 q115
   have hw115_3 := hx115_3
   have hw115_2 := hx115_2
   have hw115_1 := hx115_1
   have hw115_0 := hx115_0
   cases e115
   replace hx115_0 := bq HB.out hx115_0
   replace hx115_1 := bq HB.out hx115_1
   replace hx115_2 := bq HB.out hx115_2
   replace hx115_3 := bq HB.out hx115_3
   replace p115 := eq_true p115
   replace q115 := eq_true q115
   refine start_ (n := 8) (S := fun w' => w'.cell? (ad115.add ((x5_1).toNat * 4)) = some (.string ((rd_T31 l0 x5_1).f0)) ∧ w'.cell? ⟨(ad115.add ((x5_1).toNat * 4)).block, (ad115.add ((x5_1).toNat * 4)).off + 1, none⟩ = some (.string ((rd_T31 l0 x5_1).f1)) ∧ w'.cell? ⟨(ad115.add ((x5_1).toNat * 4)).block, (ad115.add ((x5_1).toNat * 4)).off + 2, none⟩ = some (.int .i64 ((rd_T31 l0 x5_1).f2)) ∧ w'.cell? ⟨(ad115.add ((x5_1).toNat * 4)).block, (ad115.add ((x5_1).toNat * 4)).off + 3, none⟩ = some (.bool ((rd_T31 l0 x5_1).f3))) (ds := []) (yx 0 8) (by kernel_rfl) rfl rfl ⟨(bq HB.out hw115_0), (bq HB.out hw115_1), (bq HB.out hw115_2), (bq HB.out hw115_3)⟩ (fun hHeld => ?_); refine with_tabW laws_heldEntryS.tab4 laws_heldEntryS.bits4 (fun HT_ HW_ => ?_)
   generalize wr.drew = w15 at HB hx115_0 hx115_1 hx115_2 hx115_3 hHeld ⊢
   refine pu_ 0 (some 12) (yx 1 7) ?_
   refine pu_ 1 (some 13) (yx 2 6) ?_
   refine pu_ 2 (some 14) (yx 3 5) ?_
   refine pu_ 3 (some 15) (yx 4 4) ?_
   refine pu_ 5 (some 17) (bs "YYYYXYXX") ?_
   refine take_ (i := 4) (N := some 16) (v := _) (a' := _) (yx 6 2) rfl rfl (take_ofW HT_.out HW_.out (by kernel_rfl)) (fun _ _ _ h => h) (Or.inl ⟨by rfl, z20e⟩) hHeld zg1 ?_
   refine one_ (i := 6) (N := some 18) (yx 7 1) rfl rfl (one_of HT_.out (by kernel_rfl)) (by decide) (fun K hK => ?_)
   refine goes_ Try.func56 (by kernel_rfl) rfl #[.int .i64 x1_1] (by rfl) rfl rfl zg7 ?_
   with_reducible refine (laws_markText.calls k1 x1_1 t116 _ A5.out).mono ?_
   rintro e w16 ⟨rfl, hb⟩
   refine ⟨_, rfl, ?_⟩
   replace HB := A_ (below_step zg0 hb)
   refine hK.out _ _ ⟨(bq HB.out hw115_0), (bq HB.out hw115_1), (bq HB.out hw115_2), (bq HB.out hw115_3)⟩ (fun hHeld => ?_)
   clear hK K
   refine norm_ (nz_ 18) ?_
   refine pu_ 7 (some 19) (yx 8 0) ?_
   refine done_ (done_of HT_.out (by kernel_rfl)) ?_
   try go_wp2
   replace HB := A_ (below_drew1 HB.out)
   have p117 : 0 ≤ (x5_1 : Int) := of_decide_eq_true zg2
   have q117 : x5_1 < (l0.length : Int) := of_decide_eq_true zg2
   obtain ⟨ad117, e117, hx117_0, hx117_1, hx117_2, hx117_3⟩ := at_T31 HR0.out x5_1 p117 q117
   have hw117_3 := hx117_3
   have hw117_2 := hx117_2
   have hw117_1 := hx117_1
   have hw117_0 := hx117_0
   obtain rfl : ad115 = ad117 := (by injection e117)
   replace hx117_0 := bq HB.out hx117_0
   replace hx117_1 := bq HB.out hx117_1
   replace hx117_2 := bq HB.out hx117_2
   replace hx117_3 := bq HB.out hx117_3
   replace p117 := eq_true p117
   replace q117 := eq_true q117
   refine start_ (n := 8) (S := fun w' => w'.cell? (ad115.add ((x5_1).toNat * 4)) = some (.string ((rd_T31 l0 x5_1).f0)) ∧ w'.cell? ⟨(ad115.add ((x5_1).toNat * 4)).block, (ad115.add ((x5_1).toNat * 4)).off + 1, none⟩ = some (.string ((rd_T31 l0 x5_1).f1)) ∧ w'.cell? ⟨(ad115.add ((x5_1).toNat * 4)).block, (ad115.add ((x5_1).toNat * 4)).off + 2, none⟩ = some (.int .i64 ((rd_T31 l0 x5_1).f2)) ∧ w'.cell? ⟨(ad115.add ((x5_1).toNat * 4)).block, (ad115.add ((x5_1).toNat * 4)).off + 3, none⟩ = some (.bool ((rd_T31 l0 x5_1).f3))) (ds := []) (yx 0 8) (by kernel_rfl) rfl rfl ⟨(bq HB.out hw117_0), (bq HB.out hw117_1), (bq HB.out hw117_2), (bq HB.out hw117_3)⟩ (fun hHeld => ?_); refine with_tabW laws_heldEntryS.tab7 laws_heldEntryS.bits7 (fun HT_ HW_ => ?_)
   generalize w16.drew = w17 at HB hx117_0 hx117_1 hx117_2 hx117_3 hHeld ⊢
   refine pu_ 0 (some 22) (yx 1 7) ?_
   refine pu_ 1 (some 23) (yx 2 6) ?_
   refine pu_ 2 (some 24) (yx 3 5) ?_
   refine pu_ 3 (some 25) (yx 4 4) ?_
   refine pu_ 5 (some 27) (bs "YYYYXYXX") ?_
   refine take_ (i := 4) (N := some 26) (v := _) (a' := _) (yx 6 2) rfl rfl (take_ofW HT_.out HW_.out (by kernel_rfl)) (fun _ _ _ h => h) (Or.inl ⟨by rfl, z20e⟩) hHeld zg1 ?_
   refine one_ (i := 6) (N := some 28) (yx 7 1) rfl rfl (one_of HT_.out (by kernel_rfl)) (by decide) (fun K hK => ?_)
   refine goes_ Try.func56 (by kernel_rfl) rfl #[.int .i64 (wrap64 (x1_1 + 1))] (by rfl) rfl rfl zg7 ?_
   with_reducible refine (laws_markText.calls k1 (wrap64 (x1_1 + 1)) t118 _ A7.out).mono ?_
   rintro e w18 ⟨rfl, hb⟩
   refine ⟨_, rfl, ?_⟩
   replace HB := A_ (below_step zg0 hb)
   refine hK.out _ _ ⟨(bq HB.out hw117_0), (bq HB.out hw117_1), (bq HB.out hw117_2), (bq HB.out hw117_3)⟩ (fun hHeld => ?_)
   clear hK K
   refine norm_ (nz_ 28) ?_
   refine pu_ 7 (some 29) (yx 8 0) ?_
   refine done_ (done_of HT_.out (by kernel_rfl)) ?_
   have p119 : 0 ≤ (x5_1 : Int) := of_decide_eq_true zg2
   have q119 : x5_1 < (l0.length : Int) := of_decide_eq_true zg2
   obtain ⟨ad119, e119, hx119_0, hx119_1, hx119_2, hx119_3⟩ := at_T31 HR0.out x5_1 p119 q119
   obtain rfl : ad115 = ad119 := (by injection e119)
   replace hx119_0 := bq HB.out hx119_0
   replace hx119_1 := bq HB.out hx119_1
   replace hx119_2 := bq HB.out hx119_2
   replace hx119_3 := bq HB.out hx119_3
   replace p119 := eq_true p119
   replace q119 := eq_true q119
   have p120 : 0 ≤ (x5_1 : Int) := of_decide_eq_true zg2
   have q120 : x5_1 < (l0.length : Int) := of_decide_eq_true zg2
   obtain ⟨ad120, e120, hx120_0, hx120_1, hx120_2, hx120_3⟩ := at_T31 HR0.out x5_1 p120 q120
   obtain rfl : ad115 = ad120 := (by injection e120)
   replace hx120_0 := bq HB.out hx120_0
   replace hx120_1 := bq HB.out hx120_1
   replace hx120_2 := bq HB.out hx120_2
   replace hx120_3 := bq HB.out hx120_3
   replace p120 := eq_true p120
   replace q120 := eq_true q120
   try go_wp2
   go_roundg k1
   case measure => have := HK1.out; omega
   case rel => exact ⟨(wrap64 ((wrap64 ((wrap64 ((wrap64 (x1_1 + 1)) + 1)) + 1)) + 1)), (wrap64 (x5_1 + 1)), (zs), (zs), H', ⟨by have := HK1.out; omega⟩, ⟨zg0⟩⟩
   }
   }
   {
   rw [if_neg c9] at H
   have c9b0 : (((rd_T31 l0 x5_1).f2) == (wrap64 ((wrap64 (x1_1 + 1)) + 1))) = false := beq_eq_false_iff_ne.mpr c9
   have c9b1 : (((rd_T31 l0 x5_1).f2) != (wrap64 ((wrap64 (x1_1 + 1)) + 1))) = true := bne_iff_ne.mpr c9
   obtain rfl := Option.some.inj H
   try go_wp2
   replace HB := A_ (below_drew1 HB.out)
   have p115 : 0 ≤ (x5_1 : Int) := of_decide_eq_true zg2
   have q115 : x5_1 < (l0.length : Int) := of_decide_eq_true zg2
   obtain ⟨ad115, e115, hx115_0, hx115_1, hx115_2, hx115_3⟩ := at_T31 HR0.out x5_1 p115 q115
   have hw115_3 := hx115_3
   have hw115_2 := hx115_2
   have hw115_1 := hx115_1
   have hw115_0 := hx115_0
   cases e115
   replace hx115_0 := bq HB.out hx115_0
   replace hx115_1 := bq HB.out hx115_1
   replace hx115_2 := bq HB.out hx115_2
   replace hx115_3 := bq HB.out hx115_3
   replace p115 := eq_true p115
   replace q115 := eq_true q115
   refine start_ (n := 8) (S := fun w' => w'.cell? (ad115.add ((x5_1).toNat * 4)) = some (.string ((rd_T31 l0 x5_1).f0)) ∧ w'.cell? ⟨(ad115.add ((x5_1).toNat * 4)).block, (ad115.add ((x5_1).toNat * 4)).off + 1, none⟩ = some (.string ((rd_T31 l0 x5_1).f1)) ∧ w'.cell? ⟨(ad115.add ((x5_1).toNat * 4)).block, (ad115.add ((x5_1).toNat * 4)).off + 2, none⟩ = some (.int .i64 ((rd_T31 l0 x5_1).f2)) ∧ w'.cell? ⟨(ad115.add ((x5_1).toNat * 4)).block, (ad115.add ((x5_1).toNat * 4)).off + 3, none⟩ = some (.bool ((rd_T31 l0 x5_1).f3))) (ds := []) (yx 0 8) (by kernel_rfl) rfl rfl ⟨(bq HB.out hw115_0), (bq HB.out hw115_1), (bq HB.out hw115_2), (bq HB.out hw115_3)⟩ (fun hHeld => ?_); refine with_tabW laws_heldEntryS.tab4 laws_heldEntryS.bits4 (fun HT_ HW_ => ?_)
   generalize wr.drew = w19 at HB hx115_0 hx115_1 hx115_2 hx115_3 hHeld ⊢
   refine pu_ 0 (some 12) (yx 1 7) ?_
   refine pu_ 1 (some 13) (yx 2 6) ?_
   refine pu_ 2 (some 14) (yx 3 5) ?_
   refine pu_ 3 (some 15) (yx 4 4) ?_
   refine pu_ 5 (some 17) (bs "YYYYXYXX") ?_
   refine take_ (i := 4) (N := some 16) (v := _) (a' := _) (yx 6 2) rfl rfl (take_ofW HT_.out HW_.out (by kernel_rfl)) (fun _ _ _ h => h) (Or.inl ⟨by rfl, z20e⟩) hHeld zg1 ?_
   refine one_ (i := 6) (N := some 18) (yx 7 1) rfl rfl (one_of HT_.out (by kernel_rfl)) (by decide) (fun K hK => ?_)
   refine goes_ Try.func56 (by kernel_rfl) rfl #[.int .i64 x1_1] (by rfl) rfl rfl zg7 ?_
   with_reducible refine (laws_markText.calls k1 x1_1 t116 _ A5.out).mono ?_
   rintro e w20 ⟨rfl, hb⟩
   refine ⟨_, rfl, ?_⟩
   replace HB := A_ (below_step zg0 hb)
   refine hK.out _ _ ⟨(bq HB.out hw115_0), (bq HB.out hw115_1), (bq HB.out hw115_2), (bq HB.out hw115_3)⟩ (fun hHeld => ?_)
   clear hK K
   refine norm_ (nz_ 18) ?_
   refine pu_ 7 (some 19) (yx 8 0) ?_
   refine done_ (done_of HT_.out (by kernel_rfl)) ?_
   try go_wp2
   replace HB := A_ (below_drew1 HB.out)
   have p117 : 0 ≤ (x5_1 : Int) := of_decide_eq_true zg2
   have q117 : x5_1 < (l0.length : Int) := of_decide_eq_true zg2
   obtain ⟨ad117, e117, hx117_0, hx117_1, hx117_2, hx117_3⟩ := at_T31 HR0.out x5_1 p117 q117
   have hw117_3 := hx117_3
   have hw117_2 := hx117_2
   have hw117_1 := hx117_1
   have hw117_0 := hx117_0
   obtain rfl : ad115 = ad117 := (by injection e117)
   replace hx117_0 := bq HB.out hx117_0
   replace hx117_1 := bq HB.out hx117_1
   replace hx117_2 := bq HB.out hx117_2
   replace hx117_3 := bq HB.out hx117_3
   replace p117 := eq_true p117
   replace q117 := eq_true q117
   refine start_ (n := 8) (S := fun w' => w'.cell? (ad115.add ((x5_1).toNat * 4)) = some (.string ((rd_T31 l0 x5_1).f0)) ∧ w'.cell? ⟨(ad115.add ((x5_1).toNat * 4)).block, (ad115.add ((x5_1).toNat * 4)).off + 1, none⟩ = some (.string ((rd_T31 l0 x5_1).f1)) ∧ w'.cell? ⟨(ad115.add ((x5_1).toNat * 4)).block, (ad115.add ((x5_1).toNat * 4)).off + 2, none⟩ = some (.int .i64 ((rd_T31 l0 x5_1).f2)) ∧ w'.cell? ⟨(ad115.add ((x5_1).toNat * 4)).block, (ad115.add ((x5_1).toNat * 4)).off + 3, none⟩ = some (.bool ((rd_T31 l0 x5_1).f3))) (ds := []) (yx 0 8) (by kernel_rfl) rfl rfl ⟨(bq HB.out hw117_0), (bq HB.out hw117_1), (bq HB.out hw117_2), (bq HB.out hw117_3)⟩ (fun hHeld => ?_); refine with_tabW laws_heldEntryS.tab7 laws_heldEntryS.bits7 (fun HT_ HW_ => ?_)
   generalize w20.drew = w21 at HB hx117_0 hx117_1 hx117_2 hx117_3 hHeld ⊢
   refine pu_ 0 (some 22) (yx 1 7) ?_
   refine pu_ 1 (some 23) (yx 2 6) ?_
   refine pu_ 2 (some 24) (yx 3 5) ?_
   refine pu_ 3 (some 25) (yx 4 4) ?_
   refine pu_ 5 (some 27) (bs "YYYYXYXX") ?_
   refine take_ (i := 4) (N := some 26) (v := _) (a' := _) (yx 6 2) rfl rfl (take_ofW HT_.out HW_.out (by kernel_rfl)) (fun _ _ _ h => h) (Or.inl ⟨by rfl, z20e⟩) hHeld zg1 ?_
   refine one_ (i := 6) (N := some 28) (yx 7 1) rfl rfl (one_of HT_.out (by kernel_rfl)) (by decide) (fun K hK => ?_)
   refine goes_ Try.func56 (by kernel_rfl) rfl #[.int .i64 (wrap64 (x1_1 + 1))] (by rfl) rfl rfl zg7 ?_
   with_reducible refine (laws_markText.calls k1 (wrap64 (x1_1 + 1)) t118 _ A7.out).mono ?_
   rintro e w22 ⟨rfl, hb⟩
   refine ⟨_, rfl, ?_⟩
   replace HB := A_ (below_step zg0 hb)
   refine hK.out _ _ ⟨(bq HB.out hw117_0), (bq HB.out hw117_1), (bq HB.out hw117_2), (bq HB.out hw117_3)⟩ (fun hHeld => ?_)
   clear hK K
   refine norm_ (nz_ 28) ?_
   refine pu_ 7 (some 29) (yx 8 0) ?_
   refine done_ (done_of HT_.out (by kernel_rfl)) ?_
   have p119 : 0 ≤ (x5_1 : Int) := of_decide_eq_true zg2
   have q119 : x5_1 < (l0.length : Int) := of_decide_eq_true zg2
   obtain ⟨ad119, e119, hx119_0, hx119_1, hx119_2, hx119_3⟩ := at_T31 HR0.out x5_1 p119 q119
   obtain rfl : ad115 = ad119 := (by injection e119)
   replace hx119_0 := bq HB.out hx119_0
   replace hx119_1 := bq HB.out hx119_1
   replace hx119_2 := bq HB.out hx119_2
   replace hx119_3 := bq HB.out hx119_3
   replace p119 := eq_true p119
   replace q119 := eq_true q119
   try go_wp2
   go_ret
   exact ⟨zr, zg0⟩
   }
   }
   {
   rw [if_neg c8] at H
   have c8b0 : (((rd_T31 l0 x5_1).f1).toList == t118.toList) = false := beq_eq_false_iff_ne.mpr c8
   have c8b1 : (((rd_T31 l0 x5_1).f1).toList != t118.toList) = true := bne_iff_ne.mpr c8
   obtain rfl := Option.some.inj H
   try go_wp2
   replace HB := A_ (below_drew1 HB.out)
   have p115 : 0 ≤ (x5_1 : Int) := of_decide_eq_true zg2
   have q115 : x5_1 < (l0.length : Int) := of_decide_eq_true zg2
   obtain ⟨ad115, e115, hx115_0, hx115_1, hx115_2, hx115_3⟩ := at_T31 HR0.out x5_1 p115 q115
   have hw115_3 := hx115_3
   have hw115_2 := hx115_2
   have hw115_1 := hx115_1
   have hw115_0 := hx115_0
   cases e115
   replace hx115_0 := bq HB.out hx115_0
   replace hx115_1 := bq HB.out hx115_1
   replace hx115_2 := bq HB.out hx115_2
   replace hx115_3 := bq HB.out hx115_3
   replace p115 := eq_true p115
   replace q115 := eq_true q115
   refine start_ (n := 8) (S := fun w' => w'.cell? (ad115.add ((x5_1).toNat * 4)) = some (.string ((rd_T31 l0 x5_1).f0)) ∧ w'.cell? ⟨(ad115.add ((x5_1).toNat * 4)).block, (ad115.add ((x5_1).toNat * 4)).off + 1, none⟩ = some (.string ((rd_T31 l0 x5_1).f1)) ∧ w'.cell? ⟨(ad115.add ((x5_1).toNat * 4)).block, (ad115.add ((x5_1).toNat * 4)).off + 2, none⟩ = some (.int .i64 ((rd_T31 l0 x5_1).f2)) ∧ w'.cell? ⟨(ad115.add ((x5_1).toNat * 4)).block, (ad115.add ((x5_1).toNat * 4)).off + 3, none⟩ = some (.bool ((rd_T31 l0 x5_1).f3))) (ds := []) (yx 0 8) (by kernel_rfl) rfl rfl ⟨(bq HB.out hw115_0), (bq HB.out hw115_1), (bq HB.out hw115_2), (bq HB.out hw115_3)⟩ (fun hHeld => ?_); refine with_tabW laws_heldEntryS.tab4 laws_heldEntryS.bits4 (fun HT_ HW_ => ?_)
   generalize wr.drew = w23 at HB hx115_0 hx115_1 hx115_2 hx115_3 hHeld ⊢
   refine pu_ 0 (some 12) (yx 1 7) ?_
   refine pu_ 1 (some 13) (yx 2 6) ?_
   refine pu_ 2 (some 14) (yx 3 5) ?_
   refine pu_ 3 (some 15) (yx 4 4) ?_
   refine pu_ 5 (some 17) (bs "YYYYXYXX") ?_
   refine take_ (i := 4) (N := some 16) (v := _) (a' := _) (yx 6 2) rfl rfl (take_ofW HT_.out HW_.out (by kernel_rfl)) (fun _ _ _ h => h) (Or.inl ⟨by rfl, z20e⟩) hHeld zg1 ?_
   refine one_ (i := 6) (N := some 18) (yx 7 1) rfl rfl (one_of HT_.out (by kernel_rfl)) (by decide) (fun K hK => ?_)
   refine goes_ Try.func56 (by kernel_rfl) rfl #[.int .i64 x1_1] (by rfl) rfl rfl zg7 ?_
   with_reducible refine (laws_markText.calls k1 x1_1 t116 _ A5.out).mono ?_
   rintro e w24 ⟨rfl, hb⟩
   refine ⟨_, rfl, ?_⟩
   replace HB := A_ (below_step zg0 hb)
   refine hK.out _ _ ⟨(bq HB.out hw115_0), (bq HB.out hw115_1), (bq HB.out hw115_2), (bq HB.out hw115_3)⟩ (fun hHeld => ?_)
   clear hK K
   refine norm_ (nz_ 18) ?_
   refine pu_ 7 (some 19) (yx 8 0) ?_
   refine done_ (done_of HT_.out (by kernel_rfl)) ?_
   try go_wp2
   replace HB := A_ (below_drew1 HB.out)
   have p117 : 0 ≤ (x5_1 : Int) := of_decide_eq_true zg2
   have q117 : x5_1 < (l0.length : Int) := of_decide_eq_true zg2
   obtain ⟨ad117, e117, hx117_0, hx117_1, hx117_2, hx117_3⟩ := at_T31 HR0.out x5_1 p117 q117
   have hw117_3 := hx117_3
   have hw117_2 := hx117_2
   have hw117_1 := hx117_1
   have hw117_0 := hx117_0
   obtain rfl : ad115 = ad117 := (by injection e117)
   replace hx117_0 := bq HB.out hx117_0
   replace hx117_1 := bq HB.out hx117_1
   replace hx117_2 := bq HB.out hx117_2
   replace hx117_3 := bq HB.out hx117_3
   replace p117 := eq_true p117
   replace q117 := eq_true q117
   refine start_ (n := 8) (S := fun w' => w'.cell? (ad115.add ((x5_1).toNat * 4)) = some (.string ((rd_T31 l0 x5_1).f0)) ∧ w'.cell? ⟨(ad115.add ((x5_1).toNat * 4)).block, (ad115.add ((x5_1).toNat * 4)).off + 1, none⟩ = some (.string ((rd_T31 l0 x5_1).f1)) ∧ w'.cell? ⟨(ad115.add ((x5_1).toNat * 4)).block, (ad115.add ((x5_1).toNat * 4)).off + 2, none⟩ = some (.int .i64 ((rd_T31 l0 x5_1).f2)) ∧ w'.cell? ⟨(ad115.add ((x5_1).toNat * 4)).block, (ad115.add ((x5_1).toNat * 4)).off + 3, none⟩ = some (.bool ((rd_T31 l0 x5_1).f3))) (ds := []) (yx 0 8) (by kernel_rfl) rfl rfl ⟨(bq HB.out hw117_0), (bq HB.out hw117_1), (bq HB.out hw117_2), (bq HB.out hw117_3)⟩ (fun hHeld => ?_); refine with_tabW laws_heldEntryS.tab7 laws_heldEntryS.bits7 (fun HT_ HW_ => ?_)
   generalize w24.drew = w25 at HB hx117_0 hx117_1 hx117_2 hx117_3 hHeld ⊢
   refine pu_ 0 (some 22) (yx 1 7) ?_
   refine pu_ 1 (some 23) (yx 2 6) ?_
   refine pu_ 2 (some 24) (yx 3 5) ?_
   refine pu_ 3 (some 25) (yx 4 4) ?_
   refine pu_ 5 (some 27) (bs "YYYYXYXX") ?_
   refine take_ (i := 4) (N := some 26) (v := _) (a' := _) (yx 6 2) rfl rfl (take_ofW HT_.out HW_.out (by kernel_rfl)) (fun _ _ _ h => h) (Or.inl ⟨by rfl, z20e⟩) hHeld zg1 ?_
   refine one_ (i := 6) (N := some 28) (yx 7 1) rfl rfl (one_of HT_.out (by kernel_rfl)) (by decide) (fun K hK => ?_)
   refine goes_ Try.func56 (by kernel_rfl) rfl #[.int .i64 (wrap64 (x1_1 + 1))] (by rfl) rfl rfl zg7 ?_
   with_reducible refine (laws_markText.calls k1 (wrap64 (x1_1 + 1)) t118 _ A7.out).mono ?_
   rintro e w26 ⟨rfl, hb⟩
   refine ⟨_, rfl, ?_⟩
   replace HB := A_ (below_step zg0 hb)
   refine hK.out _ _ ⟨(bq HB.out hw117_0), (bq HB.out hw117_1), (bq HB.out hw117_2), (bq HB.out hw117_3)⟩ (fun hHeld => ?_)
   clear hK K
   refine norm_ (nz_ 28) ?_
   refine pu_ 7 (some 29) (yx 8 0) ?_
   refine done_ (done_of HT_.out (by kernel_rfl)) ?_
   try go_wp2
   go_ret
   exact ⟨zr, zg0⟩
   }
   }
   {
   rw [if_neg c6] at H
   have c6b0 : (((rd_T31 l0 x5_1).f0).toList == t116.toList) = false := beq_eq_false_iff_ne.mpr c6
   have c6b1 : (((rd_T31 l0 x5_1).f0).toList != t116.toList) = true := bne_iff_ne.mpr c6
   obtain rfl := Option.some.inj H
   try go_wp2
   replace HB := A_ (below_drew1 HB.out)
   have p115 : 0 ≤ (x5_1 : Int) := of_decide_eq_true zg2
   have q115 : x5_1 < (l0.length : Int) := of_decide_eq_true zg2
   obtain ⟨ad115, e115, hx115_0, hx115_1, hx115_2, hx115_3⟩ := at_T31 HR0.out x5_1 p115 q115
   have hw115_3 := hx115_3
   have hw115_2 := hx115_2
   have hw115_1 := hx115_1
   have hw115_0 := hx115_0
   cases e115
   replace hx115_0 := bq HB.out hx115_0
   replace hx115_1 := bq HB.out hx115_1
   replace hx115_2 := bq HB.out hx115_2
   replace hx115_3 := bq HB.out hx115_3
   replace p115 := eq_true p115
   replace q115 := eq_true q115
   refine start_ (n := 8) (S := fun w' => w'.cell? (ad115.add ((x5_1).toNat * 4)) = some (.string ((rd_T31 l0 x5_1).f0)) ∧ w'.cell? ⟨(ad115.add ((x5_1).toNat * 4)).block, (ad115.add ((x5_1).toNat * 4)).off + 1, none⟩ = some (.string ((rd_T31 l0 x5_1).f1)) ∧ w'.cell? ⟨(ad115.add ((x5_1).toNat * 4)).block, (ad115.add ((x5_1).toNat * 4)).off + 2, none⟩ = some (.int .i64 ((rd_T31 l0 x5_1).f2)) ∧ w'.cell? ⟨(ad115.add ((x5_1).toNat * 4)).block, (ad115.add ((x5_1).toNat * 4)).off + 3, none⟩ = some (.bool ((rd_T31 l0 x5_1).f3))) (ds := []) (yx 0 8) (by kernel_rfl) rfl rfl ⟨(bq HB.out hw115_0), (bq HB.out hw115_1), (bq HB.out hw115_2), (bq HB.out hw115_3)⟩ (fun hHeld => ?_); refine with_tabW laws_heldEntryS.tab4 laws_heldEntryS.bits4 (fun HT_ HW_ => ?_)
   generalize wr.drew = w27 at HB hx115_0 hx115_1 hx115_2 hx115_3 hHeld ⊢
   refine pu_ 0 (some 12) (yx 1 7) ?_
   refine pu_ 1 (some 13) (yx 2 6) ?_
   refine pu_ 2 (some 14) (yx 3 5) ?_
   refine pu_ 3 (some 15) (yx 4 4) ?_
   refine pu_ 5 (some 17) (bs "YYYYXYXX") ?_
   refine take_ (i := 4) (N := some 16) (v := _) (a' := _) (yx 6 2) rfl rfl (take_ofW HT_.out HW_.out (by kernel_rfl)) (fun _ _ _ h => h) (Or.inl ⟨by rfl, z20e⟩) hHeld zg1 ?_
   refine one_ (i := 6) (N := some 18) (yx 7 1) rfl rfl (one_of HT_.out (by kernel_rfl)) (by decide) (fun K hK => ?_)
   refine goes_ Try.func56 (by kernel_rfl) rfl #[.int .i64 x1_1] (by rfl) rfl rfl zg7 ?_
   with_reducible refine (laws_markText.calls k1 x1_1 t116 _ A5.out).mono ?_
   rintro e w28 ⟨rfl, hb⟩
   refine ⟨_, rfl, ?_⟩
   replace HB := A_ (below_step zg0 hb)
   refine hK.out _ _ ⟨(bq HB.out hw115_0), (bq HB.out hw115_1), (bq HB.out hw115_2), (bq HB.out hw115_3)⟩ (fun hHeld => ?_)
   clear hK K
   refine norm_ (nz_ 18) ?_
   refine pu_ 7 (some 19) (yx 8 0) ?_
   refine done_ (done_of HT_.out (by kernel_rfl)) ?_
   try go_wp2
   go_ret
   exact ⟨zr, zg0⟩
   }
   }
   {
   rw [if_neg c4] at H
   exact absurd H (by simp)
   }
   }
   {
   rw [if_neg c3] at H
   have c3b0 : decide (x5_1 < (l0.length : Int)) = false := decide_eq_false c3
   clear c3
   obtain rfl := Option.some.inj H
   go_wp2
   go_ret
   exact ⟨zr, zg0⟩
   
   }
def laws_eqInt64S.l0 : Nat → List Int → List Int → Int → Option (Bool)
 | 0, _, _, _ => none
 | k + 1, x0, x1, x5 => if x5 < (x0.length : Int) then (if 0 ≤ x5 then (if x5 < (x1.length : Int) then (if (rd x0 x5) = (rd x1 x5) then (laws_eqInt64S.l0 k x0 x1 (wrap64 (x5 + 1))) else (some false)) else (none)) else (none)) else (some true)
def laws_eqInt64S.f (k : Nat) (l0 : List Int) (l1 : List Int) : Option (Bool) := if (l0.length : Int) = (l1.length : Int) then (laws_eqInt64S.l0 k l0 l1 0) else (some false)
set_option maxHeartbeats 8000000 in
set_option maxRecDepth 100000 in
theorem laws_eqInt64S.calls (k : Nat) (A0 : Option Addr) (c0 : Nat) (l0 : List Int) (A1 : Option Addr) (c1 : Nat) (l1 : List Int) (r : Bool) (w : World) (hr0 : Kd.C (Kd.int .i64) w A0 l0.length l0) (hc0 : l0.length ≤ c0) (hr1 : Kd.C (Kd.int .i64) w A1 l1.length l1) (hc1 : l1.length ≤ c1) (h : laws_eqInt64S.f k l0 l1 = some r) :
  Calls Try.prog 75 #[.slice A0 l0.length c0, .slice A1 l1.length c1] w fun e w' => e = .returned (.bool r) ∧ Drawn0 w w' := by
 have HR0 := A_ hr0
 have HC0 := A_ hc0
 clear hr0 hc0
 have HR1 := A_ hr1
 have HC1 := A_ hc1
 clear hr1 hc1
 have H : (if (l0.length : Int) = (l1.length : Int) then (laws_eqInt64S.l0 k l0 l1 0) else (some false)) = some r := h
 clear h
 by_cases c3 : (l0.length : Int) = (l1.length : Int)
 {
 rw [if_pos c3] at H
 have c3b0 : ((l0.length : Int) == (l1.length : Int)) = true := beq_iff_eq.mpr c3
 have c3b1 : ((l0.length : Int) != (l1.length : Int)) = false := bne_eq_false_iff_eq.mpr c3
 have c3b2 : (l0.length == l1.length) = true := by first | simpa using c3 | (simp at c3 ⊢; omega)
 clear c3
 have H' := A_ H
 clear H
 go_enter Try.func75, Try.ntmps75
 go_wp2
 repeat (go_quiet (fail); try go_wp2)
 go_loopg [5] k (fun kq v5 w' => ∃ (x5_1 : Int), v5 = .int .i64 x5_1 ∧ Aside0 (laws_eqInt64S.l0 kq l0 l1 x5_1 = some r) ∧ Aside0 (kq ≤ k) ∧ Drawn0 w w')
 case atStart => exact ⟨(0), (zs), H', ⟨Nat.le_refl _⟩, by repeat (first | exact Drawn0.refl _ | apply Drawn0.step)⟩
 case round =>
  clear H'
  try clear c1
  try clear p2
  try clear c3
  try clear c3b0
  try clear c3b1
  try clear c3b2
  obtain ⟨x5_1, rfl, HA, HK1, ⟨m1, rfl⟩⟩ := hrel
  cases gk with
  | zero => exact absurd HA.out (by simp [laws_eqInt64S.l0])
  | succ k1 =>
   have H := HA.out
   clear HA
   simp only [laws_eqInt64S.l0] at H
   by_cases c4 : x5_1 < (l0.length : Int)
   {
   rw [if_pos c4] at H
   have c4b0 : decide (x5_1 < (l0.length : Int)) = true := decide_eq_true c4
   clear c4
   by_cases c5 : 0 ≤ x5_1
   {
   rw [if_pos c5] at H
   have c5b0 : decide (0 ≤ x5_1) = true := decide_eq_true c5
   clear c5
   by_cases c6 : x5_1 < (l1.length : Int)
   {
   rw [if_pos c6] at H
   have c6b0 : decide (x5_1 < (l1.length : Int)) = true := decide_eq_true c6
   clear c6
   by_cases c7 : (rd l0 x5_1) = (rd l1 x5_1)
   {
   rw [if_pos c7] at H
   have c7b0 : ((rd l0 x5_1) == (rd l1 x5_1)) = true := beq_iff_eq.mpr c7
   have c7b1 : ((rd l0 x5_1) != (rd l1 x5_1)) = false := bne_eq_false_iff_eq.mpr c7
   clear c7
   have H' := A_ H
   clear H
   have p121 : 0 ≤ (x5_1 : Int) := of_decide_eq_true zg2
   have q121 : x5_1 < (l0.length : Int) := of_decide_eq_true zg2
   obtain ⟨ad121, e121, hx121_0⟩ := Kd.at_int HR0.out x5_1 p121 q121
   cases e121
   replace p121 := eq_true p121
   replace q121 := eq_true q121
   have p122 : 0 ≤ (x5_1 : Int) := of_decide_eq_true zg2
   have q122 : x5_1 < (l1.length : Int) := of_decide_eq_true zg2
   obtain ⟨ad122, e122, hx122_0⟩ := Kd.at_int HR1.out x5_1 p122 q122
   cases e122
   replace p122 := eq_true p122
   replace q122 := eq_true q122
   go_wp2
   repeat (go_quiet (fail); try go_wp2)
   go_roundg k1
   case measure => have := HK1.out; omega
   case rel => exact ⟨(wrap64 (x5_1 + 1)), (zs), H', ⟨by have := HK1.out; omega⟩, by repeat (first | exact Drawn0.refl _ | apply Drawn0.step)⟩
   }
   {
   rw [if_neg c7] at H
   have c7b0 : ((rd l0 x5_1) == (rd l1 x5_1)) = false := beq_eq_false_iff_ne.mpr c7
   have c7b1 : ((rd l0 x5_1) != (rd l1 x5_1)) = true := bne_iff_ne.mpr c7
   obtain rfl := Option.some.inj H
   have p121 : 0 ≤ (x5_1 : Int) := of_decide_eq_true zg2
   have q121 : x5_1 < (l0.length : Int) := of_decide_eq_true zg2
   obtain ⟨ad121, e121, hx121_0⟩ := Kd.at_int HR0.out x5_1 p121 q121
   cases e121
   replace p121 := eq_true p121
   replace q121 := eq_true q121
   have p122 : 0 ≤ (x5_1 : Int) := of_decide_eq_true zg2
   have q122 : x5_1 < (l1.length : Int) := of_decide_eq_true zg2
   obtain ⟨ad122, e122, hx122_0⟩ := Kd.at_int HR1.out x5_1 p122 q122
   cases e122
   replace p122 := eq_true p122
   replace q122 := eq_true q122
   go_wp2
   repeat (go_quiet (fail); try go_wp2)
   go_ret
   exact ⟨zs, by repeat (first | exact Drawn0.refl _ | apply Drawn0.step)⟩
   }
   }
   {
   rw [if_neg c6] at H
   exact absurd H (by simp)
   }
   }
   {
   rw [if_neg c5] at H
   exact absurd H (by simp)
   }
   }
   {
   rw [if_neg c4] at H
   have c4b0 : decide (x5_1 < (l0.length : Int)) = false := decide_eq_false c4
   clear c4
   obtain rfl := Option.some.inj H
   go_wp2
   repeat (go_quiet (fail); try go_wp2)
   go_ret
   exact ⟨zs, by repeat (first | exact Drawn0.refl _ | apply Drawn0.step)⟩
   }
 }
 {
 rw [if_neg c3] at H
 have c3b0 : ((l0.length : Int) == (l1.length : Int)) = false := beq_eq_false_iff_ne.mpr c3
 have c3b1 : ((l0.length : Int) != (l1.length : Int)) = true := bne_iff_ne.mpr c3
 have c3b2 : (l0.length == l1.length) = false := by first | simpa using c3 | (simp at c3 ⊢; omega)
 obtain rfl := Option.some.inj H
 go_enter Try.func75, Try.ntmps75
 go_wp2
 repeat (go_quiet (fail); try go_wp2)
 go_ret
 exact ⟨zs, by repeat (first | exact Drawn0.refl _ | apply Drawn0.step)⟩
 
 }
end Go.Proofs.Ytaiggfjkikfcbaa.PFnExactEntries

-- by a program of this session (wip/print/run.py) for this claim
import Derived.Test.YtaiggfjkikfcbaaLibPu
import Derived.Test.YtaiggfjkikfcbaaPFnExactEntriesx0
import Derived.Test.YtaiggfjkikfcbaaPFnExactEntriesx4
namespace Go.Proofs.Ytaiggfjkikfcbaa.PFnExactEntries
open Go.Proofs.Ytaiggfjkikfcbaa.Lib Go.RowKit Go.Proofs.YtaiggfjkikfcbaaW.PrintWords Go.Proofs.YtaiggfjkikfcbaaW.PrintLast Go.Proofs.YtaiggfjkikfcbaaW.PrintMore
attribute [local go_sem] max2_int min2_int max_two min_two max_three min_three max_four min_four   -- for this text's walks alone
set_option linter.unusedVariables false
set_option linter.unusedSimpArgs false

def spec_EntriesOk.l0 : Nat → List (S31) → Int → Option (Bool)
 | 0, _, _ => none
 | k + 1, x0, x3 => if x3 < (x0.length : Int) then (if 0 ≤ x3 then ((spec_l3Entry.f ((rd_T31 x0 x3).f0) ((rd_T31 x0 x3).f1) ((rd_T31 x0 x3).f2) ((rd_T31 x0 x3).f3)).bind fun t166 => (if t166 = true then (if x3 > 0 then (if 0 ≤ (wrap64 (x3 - 1)) then (if (wrap64 (x3 - 1)) < (x0.length : Int) then ((spec_l3Ahead.f ((rd_T31 x0 (wrap64 (x3 - 1))).f0) ((rd_T31 x0 (wrap64 (x3 - 1))).f1) ((rd_T31 x0 (wrap64 (x3 - 1))).f2) ((rd_T31 x0 (wrap64 (x3 - 1))).f3) ((rd_T31 x0 x3).f0) ((rd_T31 x0 x3).f1) ((rd_T31 x0 x3).f2) ((rd_T31 x0 x3).f3)).bind fun t169 => (if t169 = true then (spec_EntriesOk.l0 k x0 (wrap64 (x3 + 1))) else (some false))) else (none)) else (none)) else (spec_EntriesOk.l0 k x0 (wrap64 (x3 + 1)))) else (some false))) else (none)) else (some true)
def spec_EntriesOk.f (k : Nat) (l0 : List (S31)) : Option (Bool) := if (l0.length : Int) > 300 then (some false) else (spec_EntriesOk.l0 k l0 0)
def spec_EntriesOk.T6 : Bool × List (List Nat × List Nat) := (true, [([], []), ([], []), ([0, 1], [0, 1]), ([2], [2]), ([3], [3]), ([4], [4]), ([5, 4], [5]), ([6], [6]), ([7, 6], [6, 7]), ([8, 6, 6], [6, 8]), ([9], [9]), ([9], [9]), ([11, 9], [9, 11]), ([10, 12, 9], [9, 10, 12]), ([13, 9], [9, 13]), ([9], [9]), ([9], [9]), ([15, 16, 9], [9, 15, 16]), ([17, 9], [9, 17]), ([14, 18, 9, 9], [9, 14, 18]), ([19, 9], [9, 19]), ([9, 20, 6], [6, 9, 20]), ([6, 21], [6, 21])])
def spec_EntriesOk.B6 : List Nat := [0, 0, 3, 7, 15, 31, 63, 127, 255, 511, 1023, 1023, 3071, 8191, 16383, 1023, 1023, 99327, 230399, 524287, 1048575, 2097151, 4194303]
theorem spec_EntriesOk.tab6 : rtab .any (opsOf Try.f27 6) = spec_EntriesOk.T6 := by kernel_rfl
theorem spec_EntriesOk.bits6 : waitsOk spec_EntriesOk.T6.2 spec_EntriesOk.B6 = true := by kernel_rfl
set_option maxHeartbeats 8000000 in
set_option maxRecDepth 100000 in
theorem spec_EntriesOk.calls (k : Nat) (A0 : Option Addr) (c0 : Nat) (l0 : List (S31)) (r : Bool) (w : World) (hr0 : Kd.C k31 w A0 l0.length l0) (hc0 : l0.length ≤ c0) (h : spec_EntriesOk.f k l0 = some r) :
  Calls Try.prog 27 #[.slice A0 l0.length c0] w fun e w' => e = .returned (.bool r) ∧ Below w.heap.size w w' := by
 have hu31 := Try.underlying31
 have HR0 := A_ hr0
 have HC0 := A_ hc0
 clear hr0 hc0
 have HB := A_ (Below.refl w.heap.size w)
 have H : (if (l0.length : Int) > 300 then (some false) else (spec_EntriesOk.l0 k l0 0)) = some r := h
 clear h
 by_cases c2 : (l0.length : Int) > 300
 {
 rw [if_pos c2] at H
 have c2b0 : decide (300 < (l0.length : Int)) = true := decide_eq_true c2
 have c2b1 : decide (300 < l0.length) = true := decide_eq_true (by omega)
 clear c2
 obtain rfl := Option.some.inj H
 go_enter Try.func27, Try.ntmps27
 go_wp2
 go_ret
 exact ⟨zr, zg0⟩
 }
 {
 rw [if_neg c2] at H
 have c2b0 : decide (300 < (l0.length : Int)) = false := decide_eq_false c2
 have c2b1 : decide (300 < l0.length) = false := decide_eq_false (by omega)
 clear c2
 have H' := A_ H
 clear H
 go_enter Try.func27, Try.ntmps27
 go_wp2
 go_loopg [3] k (fun kq v3 w' => ∃ (x3_1 : Int), v3 = .int .i64 x3_1 ∧ Aside0 (spec_EntriesOk.l0 kq l0 x3_1 = some r) ∧ Aside0 (kq ≤ k) ∧ Aside0 (Below w.heap.size w w'))
 case atStart => exact ⟨(0), (zs), H', ⟨Nat.le_refl _⟩, ⟨zg0⟩⟩
 case round =>
  clear H'
  try clear c2
  try clear c2b0
  try clear c2b1
  try clear p2
  obtain ⟨x3_1, rfl, HA, HK1, HB⟩ := hrel
  cases gk with
  | zero => exact absurd HA.out (by simp [spec_EntriesOk.l0])
  | succ k1 =>
   have H := HA.out
   clear HA
   simp only [spec_EntriesOk.l0] at H
   by_cases c3 : x3_1 < (l0.length : Int)
   {
   rw [if_pos c3] at H
   have c3b0 : decide (x3_1 < (l0.length : Int)) = true := decide_eq_true c3
   clear c3
   by_cases c4 : 0 ≤ x3_1
   {
   rw [if_pos c4] at H
   have c4b0 : decide (0 ≤ x3_1) = true := decide_eq_true c4
   clear c4
   replace H := Option.bind_eq_some_iff.mp H
   obtain ⟨t166, A50, H⟩ := H
   (try dsimp only at H)
   have A5 := A_ A50
   clear A50
   by_cases c6 : t166 = true
   {
   subst c6
   rw [if_pos rfl] at H
   by_cases c7 : x3_1 > 0
   {
   rw [if_pos c7] at H
   have c7b0 : decide (0 < x3_1) = true := decide_eq_true c7
   clear c7
   obtain ⟨ji8, hji8⟩ : ∃ j_ : Int, (wrap64 (x3_1 - 1)) = j_ := ⟨_, rfl⟩
   replace H : (if 0 ≤ (ji8) then (if (ji8) < (l0.length : Int) then ((spec_l3Ahead.f ((rd_T31 l0 (ji8)).f0) ((rd_T31 l0 (ji8)).f1) ((rd_T31 l0 (ji8)).f2) ((rd_T31 l0 (ji8)).f3) ((rd_T31 l0 x3_1).f0) ((rd_T31 l0 x3_1).f1) ((rd_T31 l0 x3_1).f2) ((rd_T31 l0 x3_1).f3)).bind fun t169 => (if t169 = true then (spec_EntriesOk.l0 k1 l0 (wrap64 (x3_1 + 1))) else (some false))) else (none)) else (none)) = some r := by first | (rw [hji8] at H; exact H) | (simp only [hji8] at H ⊢; exact H)
   (try rw [hji8])
   (try rw [hji8] at A5)
   have hji8w : (IntKind.i64.wrap (x3_1 - 1)) = ji8 := (i64_w _).trans hji8
   by_cases c9 : 0 ≤ (ji8)
   {
   rw [if_pos c9] at H
   have c9b0 : decide (0 ≤ (ji8)) = true := decide_eq_true c9
   clear c9
   by_cases c10 : (ji8) < (l0.length : Int)
   {
   rw [if_pos c10] at H
   have c10b0 : decide ((ji8) < (l0.length : Int)) = true := decide_eq_true c10
   clear c10
   replace H := Option.bind_eq_some_iff.mp H
   obtain ⟨t169, A110, H⟩ := H
   (try dsimp only at H)
   have A11 := A_ A110
   clear A110
   by_cases c12 : t169 = true
   {
   subst c12
   rw [if_pos rfl] at H
   have H' := A_ H
   clear H
   try go_wp2
   replace HB := A_ (below_drew1 HB.out)
   have p165 : 0 ≤ (x3_1 : Int) := of_decide_eq_true zg2
   have q165 : x3_1 < (l0.length : Int) := of_decide_eq_true zg2
   obtain ⟨ad165, e165, hx165_0, hx165_1, hx165_2, hx165_3⟩ := at_T31 HR0.out x3_1 p165 q165
   have hw165_3 := hx165_3
   have hw165_2 := hx165_2
   have hw165_1 := hx165_1
   have hw165_0 := hx165_0
   cases e165
   replace hx165_0 := bq HB.out hx165_0
   replace hx165_1 := bq HB.out hx165_1
   replace hx165_2 := bq HB.out hx165_2
   replace hx165_3 := bq HB.out hx165_3
   replace p165 := eq_true p165
   replace q165 := eq_true q165
   have p167 : 0 ≤ ((ji8) : Int) := of_decide_eq_true zg2
   have q167 : (ji8) < (l0.length : Int) := of_decide_eq_true zg2
   obtain ⟨ad167, e167, hx167_0, hx167_1, hx167_2, hx167_3⟩ := at_T31 HR0.out (ji8) p167 q167
   have hw167_3 := hx167_3
   have hw167_2 := hx167_2
   have hw167_1 := hx167_1
   have hw167_0 := hx167_0
   obtain rfl : ad165 = ad167 := (by injection e167)
   replace hx167_0 := bq HB.out hx167_0
   replace hx167_1 := bq HB.out hx167_1
   replace hx167_2 := bq HB.out hx167_2
   replace hx167_3 := bq HB.out hx167_3
   replace p167 := eq_true p167
   replace q167 := eq_true q167
   have p168 : 0 ≤ (x3_1 : Int) := of_decide_eq_true zg2
   have q168 : x3_1 < (l0.length : Int) := of_decide_eq_true zg2
   obtain ⟨ad168, e168, hx168_0, hx168_1, hx168_2, hx168_3⟩ := at_T31 HR0.out x3_1 p168 q168
   have hw168_3 := hx168_3
   have hw168_2 := hx168_2
   have hw168_1 := hx168_1
   have hw168_0 := hx168_0
   obtain rfl : ad165 = ad168 := (by injection e168)
   replace hx168_0 := bq HB.out hx168_0
   replace hx168_1 := bq HB.out hx168_1
   replace hx168_2 := bq HB.out hx168_2
   replace hx168_3 := bq HB.out hx168_3
   replace p168 := eq_true p168
   replace q168 := eq_true q168
   refine start_ (n := 23) (S := fun w' => w'.cell? (ad165.add ((x3_1).toNat * 4)) = some (.string ((rd_T31 l0 x3_1).f0)) ∧ w'.cell? ⟨(ad165.add ((x3_1).toNat * 4)).block, (ad165.add ((x3_1).toNat * 4)).off + 1, none⟩ = some (.string ((rd_T31 l0 x3_1).f1)) ∧ w'.cell? ⟨(ad165.add ((x3_1).toNat * 4)).block, (ad165.add ((x3_1).toNat * 4)).off + 2, none⟩ = some (.int .i64 ((rd_T31 l0 x3_1).f2)) ∧ w'.cell? ⟨(ad165.add ((x3_1).toNat * 4)).block, (ad165.add ((x3_1).toNat * 4)).off + 3, none⟩ = some (.bool ((rd_T31 l0 x3_1).f3)) ∧ w'.cell? (ad165.add (((ji8)).toNat * 4)) = some (.string ((rd_T31 l0 (ji8)).f0)) ∧ w'.cell? ⟨(ad165.add (((ji8)).toNat * 4)).block, (ad165.add (((ji8)).toNat * 4)).off + 1, none⟩ = some (.string ((rd_T31 l0 (ji8)).f1)) ∧ w'.cell? ⟨(ad165.add (((ji8)).toNat * 4)).block, (ad165.add (((ji8)).toNat * 4)).off + 2, none⟩ = some (.int .i64 ((rd_T31 l0 (ji8)).f2)) ∧ w'.cell? ⟨(ad165.add (((ji8)).toNat * 4)).block, (ad165.add (((ji8)).toNat * 4)).off + 3, none⟩ = some (.bool ((rd_T31 l0 (ji8)).f3)) ∧ w'.cell? (ad165.add ((x3_1).toNat * 4)) = some (.string ((rd_T31 l0 x3_1).f0)) ∧ w'.cell? ⟨(ad165.add ((x3_1).toNat * 4)).block, (ad165.add ((x3_1).toNat * 4)).off + 1, none⟩ = some (.string ((rd_T31 l0 x3_1).f1)) ∧ w'.cell? ⟨(ad165.add ((x3_1).toNat * 4)).block, (ad165.add ((x3_1).toNat * 4)).off + 2, none⟩ = some (.int .i64 ((rd_T31 l0 x3_1).f2)) ∧ w'.cell? ⟨(ad165.add ((x3_1).toNat * 4)).block, (ad165.add ((x3_1).toNat * 4)).off + 3, none⟩ = some (.bool ((rd_T31 l0 x3_1).f3))) (ds := []) (yx 0 23) (by kernel_rfl) rfl rfl ⟨(bq HB.out hw165_0), (bq HB.out hw165_1), (bq HB.out hw165_2), (bq HB.out hw165_3), (bq HB.out hw167_0), (bq HB.out hw167_1), (bq HB.out hw167_2), (bq HB.out hw167_3), (bq HB.out hw168_0), (bq HB.out hw168_1), (bq HB.out hw168_2), (bq HB.out hw168_3)⟩ (fun hHeld => ?_); refine with_tabW spec_EntriesOk.tab6 spec_EntriesOk.bits6 (fun HT_ HW_ => ?_)
   generalize wr.drew = w13 at HB hx165_0 hx165_1 hx165_2 hx165_3 hx167_0 hx167_1 hx167_2 hx167_3 hx168_0 hx168_1 hx168_2 hx168_3 hHeld ⊢
   refine pu_ 0 (some 13) (yx 1 22) ?_
   refine pu_ 1 (some 14) (yx 2 21) ?_
   refine pu_ 2 (some 15) (yx 3 20) ?_
   refine take_ (i := 3) (N := some 16) (v := _) (a' := _) (yx 4 19) rfl rfl (take_ofW HT_.out HW_.out (by kernel_rfl)) (fun _ _ _ h => h) (Or.inl ⟨by rfl, zg5⟩) hHeld zg1 ?_
   refine one_ (i := 4) (N := some 17) (yx 5 18) rfl rfl (one_of HT_.out (by kernel_rfl)) (by decide) (fun K hK => ?_)
   refine goes_ Try.func52 (by kernel_rfl) rfl #[.agg #[.string ((rd_T31 l0 x3_1).f0), .string ((rd_T31 l0 x3_1).f1), .int .i64 ((rd_T31 l0 x3_1).f2), .bool ((rd_T31 l0 x3_1).f3)]] (by rfl) rfl rfl zg7 ?_
   with_reducible refine (spec_l3Entry.calls ((rd_T31 l0 x3_1).f0) ((rd_T31 l0 x3_1).f1) ((rd_T31 l0 x3_1).f2) ((rd_T31 l0 x3_1).f3) true _ A5.out).mono ?_
   rintro e w14 ⟨rfl, hb⟩
   refine ⟨_, rfl, ?_⟩
   replace HB := A_ (below_step zg0 hb)
   refine hK.out _ _ ⟨(bq HB.out hw165_0), (bq HB.out hw165_1), (bq HB.out hw165_2), (bq HB.out hw165_3), (bq HB.out hw167_0), (bq HB.out hw167_1), (bq HB.out hw167_2), (bq HB.out hw167_3), (bq HB.out hw168_0), (bq HB.out hw168_1), (bq HB.out hw168_2), (bq HB.out hw168_3)⟩ (fun hHeld => ?_)
   clear hK K
   refine norm_ (nz_ 17) ?_
   refine pu_ 5 (some 18) (yx 6 17) ?_
   refine pu_ 6 (some 19) (yx 7 16) ?_
   refine pu_ 7 (some 20) (yx 8 15) ?_
   refine pu_ 8 (some 21) (yx 9 14) ?_
   refine pu_ 9 (some 22) (yx 10 13) ?_
   refine pu_ 10 (some 23) (yx 11 12) ?_
   refine pu_ 11 (some 24) (yx 12 11) ?_
   refine pu_ 12 (some 25) (yx 13 10) ?_
   refine pu_ 13 (some 26) (yx 14 9) ?_
   refine pu_ 15 (some 28) (bs "YYYYYYYYYYYYYYXYXXXXXXX") ?_
   refine pu_ 16 (some 29) (bs "YYYYYYYYYYYYYYXYYXXXXXX") ?_
   refine pu_ 17 (some 30) (bs "YYYYYYYYYYYYYYXYYYXXXXX") ?_
   refine take_ (i := 14) (N := some 27) (v := _) (a' := _) (yx 18 5) rfl rfl (take_ofW HT_.out HW_.out (by kernel_rfl)) (fun _ _ _ h => h) (Or.inl ⟨by rfl, zg5⟩) hHeld zg1 ?_
   refine take_ (i := 18) (N := some 31) (v := _) (a' := _) (yx 19 4) rfl rfl (take_ofW HT_.out HW_.out (by kernel_rfl)) (fun _ _ _ h => h) (Or.inl ⟨by rfl, zg5⟩) hHeld zg1 ?_
   refine one_ (i := 19) (N := some 32) (yx 20 3) rfl rfl (one_of HT_.out (by kernel_rfl)) (by decide) (fun K hK => ?_)
   refine goes_ Try.func66 (by kernel_rfl) rfl #[.agg #[.string ((rd_T31 l0 (ji8)).f0), .string ((rd_T31 l0 (ji8)).f1), .int .i64 ((rd_T31 l0 (ji8)).f2), .bool ((rd_T31 l0 (ji8)).f3)], .agg #[.string ((rd_T31 l0 x3_1).f0), .string ((rd_T31 l0 x3_1).f1), .int .i64 ((rd_T31 l0 x3_1).f2), .bool ((rd_T31 l0 x3_1).f3)]] (by rfl) rfl rfl (by (try simp only [List.map_toArray, List.map_cons, List.map_nil]); first | done | (simp only [hji8]; rfl) | rfl | (simp only [List.length_drop, List.length_take]; rfl)) ?_
   with_reducible refine (spec_l3Ahead.calls ((rd_T31 l0 (ji8)).f0) ((rd_T31 l0 (ji8)).f1) ((rd_T31 l0 (ji8)).f2) ((rd_T31 l0 (ji8)).f3) ((rd_T31 l0 x3_1).f0) ((rd_T31 l0 x3_1).f1) ((rd_T31 l0 x3_1).f2) ((rd_T31 l0 x3_1).f3) true _ A11.out).mono ?_
   rintro e w15 ⟨rfl, hb⟩
   refine ⟨_, rfl, ?_⟩
   replace HB := A_ (below_step zg0 hb)
   refine hK.out _ _ ⟨(bq HB.out hw165_0), (bq HB.out hw165_1), (bq HB.out hw165_2), (bq HB.out hw165_3), (bq HB.out hw167_0), (bq HB.out hw167_1), (bq HB.out hw167_2), (bq HB.out hw167_3), (bq HB.out hw168_0), (bq HB.out hw168_1), (bq HB.out hw168_2), (bq HB.out hw168_3)⟩ (fun hHeld => ?_)
   clear hK K
   refine norm_ (nz_ 32) ?_
   refine pu_ 20 (some 33) (yx 21 2) ?_
   refine pu_ 21 (some 34) (yx 22 1) ?_
   refine pu_ 22 (some 35) (yx 23 0) ?_
   refine done_ (done_of HT_.out (by kernel_rfl)) ?_
   try go_wp2
   go_roundg k1
   case measure => have := HK1.out; omega
   case rel => exact ⟨(wrap64 (x3_1 + 1)), (zs), H', ⟨by have := HK1.out; omega⟩, ⟨zg0⟩⟩
   }
   {
   replace c12 := Bool.eq_false_iff.mpr c12
   subst c12
   rw [if_neg Bool.false_ne_true] at H
   obtain rfl := Option.some.inj H
   try go_wp2
   replace HB := A_ (below_drew1 HB.out)
   have p165 : 0 ≤ (x3_1 : Int) := of_decide_eq_true zg2
   have q165 : x3_1 < (l0.length : Int) := of_decide_eq_true zg2
   obtain ⟨ad165, e165, hx165_0, hx165_1, hx165_2, hx165_3⟩ := at_T31 HR0.out x3_1 p165 q165
   have hw165_3 := hx165_3
   have hw165_2 := hx165_2
   have hw165_1 := hx165_1
   have hw165_0 := hx165_0
   cases e165
   replace hx165_0 := bq HB.out hx165_0
   replace hx165_1 := bq HB.out hx165_1
   replace hx165_2 := bq HB.out hx165_2
   replace hx165_3 := bq HB.out hx165_3
   replace p165 := eq_true p165
   replace q165 := eq_true q165
   have p167 : 0 ≤ ((ji8) : Int) := of_decide_eq_true zg2
   have q167 : (ji8) < (l0.length : Int) := of_decide_eq_true zg2
   obtain ⟨ad167, e167, hx167_0, hx167_1, hx167_2, hx167_3⟩ := at_T31 HR0.out (ji8) p167 q167
   have hw167_3 := hx167_3
   have hw167_2 := hx167_2
   have hw167_1 := hx167_1
   have hw167_0 := hx167_0
   obtain rfl : ad165 = ad167 := (by injection e167)
   replace hx167_0 := bq HB.out hx167_0
   replace hx167_1 := bq HB.out hx167_1
   replace hx167_2 := bq HB.out hx167_2
   replace hx167_3 := bq HB.out hx167_3
   replace p167 := eq_true p167
   replace q167 := eq_true q167
   have p168 : 0 ≤ (x3_1 : Int) := of_decide_eq_true zg2
   have q168 : x3_1 < (l0.length : Int) := of_decide_eq_true zg2
   obtain ⟨ad168, e168, hx168_0, hx168_1, hx168_2, hx168_3⟩ := at_T31 HR0.out x3_1 p168 q168
   have hw168_3 := hx168_3
   have hw168_2 := hx168_2
   have hw168_1 := hx168_1
   have hw168_0 := hx168_0
   obtain rfl : ad165 = ad168 := (by injection e168)
   replace hx168_0 := bq HB.out hx168_0
   replace hx168_1 := bq HB.out hx168_1
   replace hx168_2 := bq HB.out hx168_2
   replace hx168_3 := bq HB.out hx168_3
   replace p168 := eq_true p168
   replace q168 := eq_true q168
   refine start_ (n := 23) (S := fun w' => w'.cell? (ad165.add ((x3_1).toNat * 4)) = some (.string ((rd_T31 l0 x3_1).f0)) ∧ w'.cell? ⟨(ad165.add ((x3_1).toNat * 4)).block, (ad165.add ((x3_1).toNat * 4)).off + 1, none⟩ = some (.string ((rd_T31 l0 x3_1).f1)) ∧ w'.cell? ⟨(ad165.add ((x3_1).toNat * 4)).block, (ad165.add ((x3_1).toNat * 4)).off + 2, none⟩ = some (.int .i64 ((rd_T31 l0 x3_1).f2)) ∧ w'.cell? ⟨(ad165.add ((x3_1).toNat * 4)).block, (ad165.add ((x3_1).toNat * 4)).off + 3, none⟩ = some (.bool ((rd_T31 l0 x3_1).f3)) ∧ w'.cell? (ad165.add (((ji8)).toNat * 4)) = some (.string ((rd_T31 l0 (ji8)).f0)) ∧ w'.cell? ⟨(ad165.add (((ji8)).toNat * 4)).block, (ad165.add (((ji8)).toNat * 4)).off + 1, none⟩ = some (.string ((rd_T31 l0 (ji8)).f1)) ∧ w'.cell? ⟨(ad165.add (((ji8)).toNat * 4)).block, (ad165.add (((ji8)).toNat * 4)).off + 2, none⟩ = some (.int .i64 ((rd_T31 l0 (ji8)).f2)) ∧ w'.cell? ⟨(ad165.add (((ji8)).toNat * 4)).block, (ad165.add (((ji8)).toNat * 4)).off + 3, none⟩ = some (.bool ((rd_T31 l0 (ji8)).f3)) ∧ w'.cell? (ad165.add ((x3_1).toNat * 4)) = some (.string ((rd_T31 l0 x3_1).f0)) ∧ w'.cell? ⟨(ad165.add ((x3_1).toNat * 4)).block, (ad165.add ((x3_1).toNat * 4)).off + 1, none⟩ = some (.string ((rd_T31 l0 x3_1).f1)) ∧ w'.cell? ⟨(ad165.add ((x3_1).toNat * 4)).block, (ad165.add ((x3_1).toNat * 4)).off + 2, none⟩ = some (.int .i64 ((rd_T31 l0 x3_1).f2)) ∧ w'.cell? ⟨(ad165.add ((x3_1).toNat * 4)).block, (ad165.add ((x3_1).toNat * 4)).off + 3, none⟩ = some (.bool ((rd_T31 l0 x3_1).f3))) (ds := []) (yx 0 23) (by kernel_rfl) rfl rfl ⟨(bq HB.out hw165_0), (bq HB.out hw165_1), (bq HB.out hw165_2), (bq HB.out hw165_3), (bq HB.out hw167_0), (bq HB.out hw167_1), (bq HB.out hw167_2), (bq HB.out hw167_3), (bq HB.out hw168_0), (bq HB.out hw168_1), (bq HB.out hw168_2), (bq HB.out hw168_3)⟩ (fun hHeld => ?_); refine with_tabW spec_EntriesOk.tab6 spec_EntriesOk.bits6 (fun HT_ HW_ => ?_)
   generalize wr.drew = w16 at HB hx165_0 hx165_1 hx165_2 hx165_3 hx167_0 hx167_1 hx167_2 hx167_3 hx168_0 hx168_1 hx168_2 hx168_3 hHeld ⊢
   refine pu_ 0 (some 13) (yx 1 22) ?_
   refine pu_ 1 (some 14) (yx 2 21) ?_
   refine pu_ 2 (some 15) (yx 3 20) ?_
   refine take_ (i := 3) (N := some 16) (v := _) (a' := _) (yx 4 19) rfl rfl (take_ofW HT_.out HW_.out (by kernel_rfl)) (fun _ _ _ h => h) (Or.inl ⟨by rfl, zg5⟩) hHeld zg1 ?_
   refine one_ (i := 4) (N := some 17) (yx 5 18) rfl rfl (one_of HT_.out (by kernel_rfl)) (by decide) (fun K hK => ?_)
   refine goes_ Try.func52 (by kernel_rfl) rfl #[.agg #[.string ((rd_T31 l0 x3_1).f0), .string ((rd_T31 l0 x3_1).f1), .int .i64 ((rd_T31 l0 x3_1).f2), .bool ((rd_T31 l0 x3_1).f3)]] (by rfl) rfl rfl zg7 ?_
   with_reducible refine (spec_l3Entry.calls ((rd_T31 l0 x3_1).f0) ((rd_T31 l0 x3_1).f1) ((rd_T31 l0 x3_1).f2) ((rd_T31 l0 x3_1).f3) true _ A5.out).mono ?_
   rintro e w17 ⟨rfl, hb⟩
   refine ⟨_, rfl, ?_⟩
   replace HB := A_ (below_step zg0 hb)
   refine hK.out _ _ ⟨(bq HB.out hw165_0), (bq HB.out hw165_1), (bq HB.out hw165_2), (bq HB.out hw165_3), (bq HB.out hw167_0), (bq HB.out hw167_1), (bq HB.out hw167_2), (bq HB.out hw167_3), (bq HB.out hw168_0), (bq HB.out hw168_1), (bq HB.out hw168_2), (bq HB.out hw168_3)⟩ (fun hHeld => ?_)
   clear hK K
   refine norm_ (nz_ 17) ?_
   refine pu_ 5 (some 18) (yx 6 17) ?_
   refine pu_ 6 (some 19) (yx 7 16) ?_
   refine pu_ 7 (some 20) (yx 8 15) ?_
   refine pu_ 8 (some 21) (yx 9 14) ?_
   refine pu_ 9 (some 22) (yx 10 13) ?_
   refine pu_ 10 (some 23) (yx 11 12) ?_
   refine pu_ 11 (some 24) (yx 12 11) ?_
   refine pu_ 12 (some 25) (yx 13 10) ?_
   refine pu_ 13 (some 26) (yx 14 9) ?_
   refine pu_ 15 (some 28) (bs "YYYYYYYYYYYYYYXYXXXXXXX") ?_
   refine pu_ 16 (some 29) (bs "YYYYYYYYYYYYYYXYYXXXXXX") ?_
   refine pu_ 17 (some 30) (bs "YYYYYYYYYYYYYYXYYYXXXXX") ?_
   refine take_ (i := 14) (N := some 27) (v := _) (a' := _) (yx 18 5) rfl rfl (take_ofW HT_.out HW_.out (by kernel_rfl)) (fun _ _ _ h => h) (Or.inl ⟨by rfl, zg5⟩) hHeld zg1 ?_
   refine take_ (i := 18) (N := some 31) (v := _) (a' := _) (yx 19 4) rfl rfl (take_ofW HT_.out HW_.out (by kernel_rfl)) (fun _ _ _ h => h) (Or.inl ⟨by rfl, zg5⟩) hHeld zg1 ?_
   refine one_ (i := 19) (N := some 32) (yx 20 3) rfl rfl (one_of HT_.out (by kernel_rfl)) (by decide) (fun K hK => ?_)
   refine goes_ Try.func66 (by kernel_rfl) rfl #[.agg #[.string ((rd_T31 l0 (ji8)).f0), .string ((rd_T31 l0 (ji8)).f1), .int .i64 ((rd_T31 l0 (ji8)).f2), .bool ((rd_T31 l0 (ji8)).f3)], .agg #[.string ((rd_T31 l0 x3_1).f0), .string ((rd_T31 l0 x3_1).f1), .int .i64 ((rd_T31 l0 x3_1).f2), .bool ((rd_T31 l0 x3_1).f3)]] (by rfl) rfl rfl (by (try simp only [List.map_toArray, List.map_cons, List.map_nil]); first | done | (simp only [hji8]; rfl) | rfl | (simp only [List.length_drop, List.length_take]; rfl)) ?_
   with_reducible refine (spec_l3Ahead.calls ((rd_T31 l0 (ji8)).f0) ((rd_T31 l0 (ji8)).f1) ((rd_T31 l0 (ji8)).f2) ((rd_T31 l0 (ji8)).f3) ((rd_T31 l0 x3_1).f0) ((rd_T31 l0 x3_1).f1) ((rd_T31 l0 x3_1).f2) ((rd_T31 l0 x3_1).f3) false _ A11.out).mono ?_
   rintro e w18 ⟨rfl, hb⟩
   refine ⟨_, rfl, ?_⟩
   replace HB := A_ (below_step zg0 hb)
   refine hK.out _ _ ⟨(bq HB.out hw165_0), (bq HB.out hw165_1), (bq HB.out hw165_2), (bq HB.out hw165_3), (bq HB.out hw167_0), (bq HB.out hw167_1), (bq HB.out hw167_2), (bq HB.out hw167_3), (bq HB.out hw168_0), (bq HB.out hw168_1), (bq HB.out hw168_2), (bq HB.out hw168_3)⟩ (fun hHeld => ?_)
   clear hK K
   refine norm_ (nz_ 32) ?_
   refine pu_ 20 (some 33) (yx 21 2) ?_
   refine pu_ 21 (some 34) (yx 22 1) ?_
   refine pu_ 22 (some 35) (yx 23 0) ?_
   refine done_ (done_of HT_.out (by kernel_rfl)) ?_
   try go_wp2
   go_ret
   exact ⟨by first | rfl | (simp [errW_none, errW_some] <;> rfl) | (simp only [← hji8]; first | rfl | (simp [errW_none, errW_some] <;> rfl)) | (simp [*, errW_none, errW_some] <;> rfl), zg0⟩
   }
   }
   {
   rw [if_neg c10] at H
   exact absurd H (by simp)
   }
   }
   {
   rw [if_neg c9] at H
   exact absurd H (by simp)
   }
   }
   {
   rw [if_neg c7] at H
   have c7b0 : decide (0 < x3_1) = false := decide_eq_false c7
   clear c7
   have H' := A_ H
   clear H
   try go_wp2
   replace HB := A_ (below_drew1 HB.out)
   have p165 : 0 ≤ (x3_1 : Int) := of_decide_eq_true zg2
   have q165 : x3_1 < (l0.length : Int) := of_decide_eq_true zg2
   obtain ⟨ad165, e165, hx165_0, hx165_1, hx165_2, hx165_3⟩ := at_T31 HR0.out x3_1 p165 q165
   have hw165_3 := hx165_3
   have hw165_2 := hx165_2
   have hw165_1 := hx165_1
   have hw165_0 := hx165_0
   cases e165
   replace hx165_0 := bq HB.out hx165_0
   replace hx165_1 := bq HB.out hx165_1
   replace hx165_2 := bq HB.out hx165_2
   replace hx165_3 := bq HB.out hx165_3
   replace p165 := eq_true p165
   replace q165 := eq_true q165
   refine start_ (n := 23) (S := fun w' => w'.cell? (ad165.add ((x3_1).toNat * 4)) = some (.string ((rd_T31 l0 x3_1).f0)) ∧ w'.cell? ⟨(ad165.add ((x3_1).toNat * 4)).block, (ad165.add ((x3_1).toNat * 4)).off + 1, none⟩ = some (.string ((rd_T31 l0 x3_1).f1)) ∧ w'.cell? ⟨(ad165.add ((x3_1).toNat * 4)).block, (ad165.add ((x3_1).toNat * 4)).off + 2, none⟩ = some (.int .i64 ((rd_T31 l0 x3_1).f2)) ∧ w'.cell? ⟨(ad165.add ((x3_1).toNat * 4)).block, (ad165.add ((x3_1).toNat * 4)).off + 3, none⟩ = some (.bool ((rd_T31 l0 x3_1).f3))) (ds := []) (yx 0 23) (by kernel_rfl) rfl rfl ⟨(bq HB.out hw165_0), (bq HB.out hw165_1), (bq HB.out hw165_2), (bq HB.out hw165_3)⟩ (fun hHeld => ?_); refine with_tabW spec_EntriesOk.tab6 spec_EntriesOk.bits6 (fun HT_ HW_ => ?_)
   generalize wr.drew = w19 at HB hx165_0 hx165_1 hx165_2 hx165_3 hHeld ⊢
   refine pu_ 0 (some 13) (yx 1 22) ?_
   refine pu_ 1 (some 14) (yx 2 21) ?_
   refine pu_ 2 (some 15) (yx 3 20) ?_
   refine take_ (i := 3) (N := some 16) (v := _) (a' := _) (yx 4 19) rfl rfl (take_ofW HT_.out HW_.out (by kernel_rfl)) (fun _ _ _ h => h) (Or.inl ⟨by rfl, (by rintro w' ⟨s0, s1, s2, s3⟩; go_simp; with_reducible rfl)⟩) hHeld zg1 ?_
   refine one_ (i := 4) (N := some 17) (yx 5 18) rfl rfl (one_of HT_.out (by kernel_rfl)) (by decide) (fun K hK => ?_)
   refine goes_ Try.func52 (by kernel_rfl) rfl #[.agg #[.string ((rd_T31 l0 x3_1).f0), .string ((rd_T31 l0 x3_1).f1), .int .i64 ((rd_T31 l0 x3_1).f2), .bool ((rd_T31 l0 x3_1).f3)]] (by rfl) rfl rfl zg7 ?_
   with_reducible refine (spec_l3Entry.calls ((rd_T31 l0 x3_1).f0) ((rd_T31 l0 x3_1).f1) ((rd_T31 l0 x3_1).f2) ((rd_T31 l0 x3_1).f3) true _ A5.out).mono ?_
   rintro e w20 ⟨rfl, hb⟩
   refine ⟨_, rfl, ?_⟩
   replace HB := A_ (below_step zg0 hb)
   refine hK.out _ _ ⟨(bq HB.out hw165_0), (bq HB.out hw165_1), (bq HB.out hw165_2), (bq HB.out hw165_3)⟩ (fun hHeld => ?_)
   clear hK K
   refine norm_ (nz_ 17) ?_
   refine pu_ 5 (some 18) (yx 6 17) ?_
   refine pu_ 6 (some 19) (yx 7 16) ?_
   refine pu_ 7 (some 20) (yx 8 15) ?_
   refine pu_ 8 (some 21) (yx 9 14) ?_
   refine pu_ 9 (some 22) (yx 10 13) ?_
   refine pn_ 10 (some 23) (yx 11 12) ?_
   refine pn_ 11 (some 24) (yx 12 11) ?_
   refine pn_ 12 (some 25) (yx 13 10) ?_
   refine pn_ 13 (some 26) (yx 14 9) ?_
   refine pn_ 14 (some 27) (yx 15 8) ?_
   refine pn_ 15 (some 28) (yx 16 7) ?_
   refine pn_ 16 (some 29) (yx 17 6) ?_
   refine pn_ 17 (some 30) (yx 18 5) ?_
   refine pn_ 18 (some 31) (yx 19 4) ?_
   refine pn_ 19 (some 32) (yx 20 3) ?_
   refine pn_ 20 (some 33) (yx 21 2) ?_
   refine pu_ 21 (some 34) (yx 22 1) ?_
   refine pu_ 22 (some 35) (yx 23 0) ?_
   refine done_ (done_of HT_.out (by kernel_rfl)) ?_
   try go_wp2
   go_roundg k1
   case measure => have := HK1.out; omega
   case rel => exact ⟨(wrap64 (x3_1 + 1)), (zs), H', ⟨by have := HK1.out; omega⟩, ⟨zg0⟩⟩
   }
   }
   {
   replace c6 := Bool.eq_false_iff.mpr c6
   subst c6
   rw [if_neg Bool.false_ne_true] at H
   obtain rfl := Option.some.inj H
   try go_wp2
   replace HB := A_ (below_drew1 HB.out)
   have p165 : 0 ≤ (x3_1 : Int) := of_decide_eq_true zg2
   have q165 : x3_1 < (l0.length : Int) := of_decide_eq_true zg2
   obtain ⟨ad165, e165, hx165_0, hx165_1, hx165_2, hx165_3⟩ := at_T31 HR0.out x3_1 p165 q165
   have hw165_3 := hx165_3
   have hw165_2 := hx165_2
   have hw165_1 := hx165_1
   have hw165_0 := hx165_0
   cases e165
   replace hx165_0 := bq HB.out hx165_0
   replace hx165_1 := bq HB.out hx165_1
   replace hx165_2 := bq HB.out hx165_2
   replace hx165_3 := bq HB.out hx165_3
   replace p165 := eq_true p165
   replace q165 := eq_true q165
   refine start_ (n := 23) (S := fun w' => w'.cell? (ad165.add ((x3_1).toNat * 4)) = some (.string ((rd_T31 l0 x3_1).f0)) ∧ w'.cell? ⟨(ad165.add ((x3_1).toNat * 4)).block, (ad165.add ((x3_1).toNat * 4)).off + 1, none⟩ = some (.string ((rd_T31 l0 x3_1).f1)) ∧ w'.cell? ⟨(ad165.add ((x3_1).toNat * 4)).block, (ad165.add ((x3_1).toNat * 4)).off + 2, none⟩ = some (.int .i64 ((rd_T31 l0 x3_1).f2)) ∧ w'.cell? ⟨(ad165.add ((x3_1).toNat * 4)).block, (ad165.add ((x3_1).toNat * 4)).off + 3, none⟩ = some (.bool ((rd_T31 l0 x3_1).f3))) (ds := []) (yx 0 23) (by kernel_rfl) rfl rfl ⟨(bq HB.out hw165_0), (bq HB.out hw165_1), (bq HB.out hw165_2), (bq HB.out hw165_3)⟩ (fun hHeld => ?_); refine with_tabW spec_EntriesOk.tab6 spec_EntriesOk.bits6 (fun HT_ HW_ => ?_)
   generalize wr.drew = w21 at HB hx165_0 hx165_1 hx165_2 hx165_3 hHeld ⊢
   refine pu_ 0 (some 13) (yx 1 22) ?_
   refine pu_ 1 (some 14) (yx 2 21) ?_
   refine pu_ 2 (some 15) (yx 3 20) ?_
   refine take_ (i := 3) (N := some 16) (v := _) (a' := _) (yx 4 19) rfl rfl (take_ofW HT_.out HW_.out (by kernel_rfl)) (fun _ _ _ h => h) (Or.inl ⟨by rfl, (by rintro w' ⟨s0, s1, s2, s3⟩; go_simp; with_reducible rfl)⟩) hHeld zg1 ?_
   refine one_ (i := 4) (N := some 17) (yx 5 18) rfl rfl (one_of HT_.out (by kernel_rfl)) (by decide) (fun K hK => ?_)
   refine goes_ Try.func52 (by kernel_rfl) rfl #[.agg #[.string ((rd_T31 l0 x3_1).f0), .string ((rd_T31 l0 x3_1).f1), .int .i64 ((rd_T31 l0 x3_1).f2), .bool ((rd_T31 l0 x3_1).f3)]] (by rfl) rfl rfl zg7 ?_
   with_reducible refine (spec_l3Entry.calls ((rd_T31 l0 x3_1).f0) ((rd_T31 l0 x3_1).f1) ((rd_T31 l0 x3_1).f2) ((rd_T31 l0 x3_1).f3) false _ A5.out).mono ?_
   rintro e w22 ⟨rfl, hb⟩
   refine ⟨_, rfl, ?_⟩
   replace HB := A_ (below_step zg0 hb)
   refine hK.out _ _ ⟨(bq HB.out hw165_0), (bq HB.out hw165_1), (bq HB.out hw165_2), (bq HB.out hw165_3)⟩ (fun hHeld => ?_)
   clear hK K
   refine norm_ (nz_ 17) ?_
   refine pu_ 5 (some 18) (yx 6 17) ?_
   refine pu_ 6 (some 19) (yx 7 16) ?_
   refine pn_ 7 (some 20) (yx 8 15) ?_
   refine pn_ 8 (some 21) (yx 9 14) ?_
   refine pn_ 9 (some 22) (yx 10 13) ?_
   refine pn_ 10 (some 23) (yx 11 12) ?_
   refine pn_ 11 (some 24) (yx 12 11) ?_
   refine pn_ 12 (some 25) (yx 13 10) ?_
   refine pn_ 13 (some 26) (yx 14 9) ?_
   refine pn_ 14 (some 27) (yx 15 8) ?_
   refine pn_ 15 (some 28) (yx 16 7) ?_
   refine pn_ 16 (some 29) (yx 17 6) ?_
   refine pn_ 17 (some 30) (yx 18 5) ?_
   refine pn_ 18 (some 31) (yx 19 4) ?_
   refine pn_ 19 (some 32) (yx 20 3) ?_
   refine pn_ 20 (some 33) (yx 21 2) ?_
   refine pn_ 21 (some 34) (yx 22 1) ?_
   refine pu_ 22 (some 35) (yx 23 0) ?_
   refine done_ (done_of HT_.out (by kernel_rfl)) ?_
   try go_wp2
   go_ret
   exact ⟨zr, zg0⟩
   }
   }
   {
   rw [if_neg c4] at H
   exact absurd H (by simp)
   }
   }
   {
   rw [if_neg c3] at H
   have c3b0 : decide (x3_1 < (l0.length : Int)) = false := decide_eq_false c3
   clear c3
   obtain rfl := Option.some.inj H
   go_wp2
   go_ret
   exact ⟨zr, zg0⟩
   
   }
 }
end Go.Proofs.Ytaiggfjkikfcbaa.PFnExactEntries

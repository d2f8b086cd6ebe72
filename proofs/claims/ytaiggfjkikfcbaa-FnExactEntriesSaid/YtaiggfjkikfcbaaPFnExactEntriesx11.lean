-- by a program of this session (wip/print/run.py) for this claim
import Derived.Test.YtaiggfjkikfcbaaLibPu
import Derived.Test.YtaiggfjkikfcbaaPFnExactEntriesx0
import Derived.Test.YtaiggfjkikfcbaaPFnExactEntriesx9
import Derived.Test.YtaiggfjkikfcbaaPFnExactEntriesx10
namespace Go.Proofs.Ytaiggfjkikfcbaa.PFnExactEntries
open Go.Proofs.Ytaiggfjkikfcbaa.Lib Go.RowKit Go.Proofs.YtaiggfjkikfcbaaW.PrintWords Go.Proofs.YtaiggfjkikfcbaaW.PrintLast Go.Proofs.YtaiggfjkikfcbaaW.PrintMore
attribute [local go_sem] max2_int min2_int max_two min_two max_three min_three max_four min_four   -- for this text's walks alone
set_option linter.unusedVariables false
set_option linter.unusedSimpArgs false

mutual
def spec_l5Bits.l0 : Nat → List (S31) → List Int → Int → Option (List Int)
 | 0, _, _, _ => none
 | k + 1, x0, x3, x4 => if x4 < (x0.length : Int) then (if 0 ≤ x4 then ((spec_l5Marks.f k ((rd_T31 x0 x4).f0)).bind fun t343 => (spec_l5Bits.l1 k x0 x3 x4 t343 0)) else (none)) else (some x3)
def spec_l5Bits.l1 : Nat → List (S31) → List Int → Int → List Int → Int → Option (List Int)
 | 0, _, _, _, _, _ => none
 | k + 1, x0, x3, x4, x5, x6 => if x6 < (x5.length : Int) then (if 0 ≤ x6 then ((spec_l5Put.f k x3 (rd x5 x6)).bind fun t347 => (spec_l5Bits.l1 k x0 t347 x4 x5 (wrap64 (x6 + 1)))) else (none)) else (spec_l5Bits.l0 k x0 x3 (wrap64 (x4 + 1)))
end
def spec_l5Bits.f (k : Nat) (l0 : List (S31)) : Option (List Int) := spec_l5Bits.l0 k l0 (([] : List Int)) 0
set_option maxHeartbeats 8000000 in
set_option maxRecDepth 100000 in
theorem spec_l5Bits.calls (k : Nat) (A0 : Option Addr) (c0 : Nat) (l0 : List (S31)) (r : List Int) (w : World) (hr0 : Kd.C k31 w A0 l0.length l0) (hc0 : l0.length ≤ c0) (h : spec_l5Bits.f k l0 = some r) :
  Calls Try.prog 85 #[.slice A0 l0.length c0] w fun e w' => ∃ v0_ : Value, e = .returned (v0_) ∧ Kd.R (Kd.int .i64) 2 w' w.heap.size (fun _ => True) v0_ r ∧ Below w.heap.size w w' := by
 have HR0 := A_ hr0
 have HC0 := A_ hc0
 clear hr0 hc0
 have HB := A_ (Below.refl w.heap.size w)
 have H : (spec_l5Bits.l0 k l0 (([] : List Int)) 0) = some r := h
 clear h
 obtain ⟨y339, hy339⟩ : ∃ y_ : List Int, y_ = (([] : List Int)) := ⟨_, rfl⟩
 replace H : (spec_l5Bits.l0 k l0 y339 0) = some r := by first | (rw [hy339]; with_reducible exact H) | (have H2_ := (Option.bind_some _ _).symm.trans H; rw [hy339]; with_reducible exact H2_) | (have H2_ := (Option.bind_some _ _).symm.trans H; with_reducible exact H2_) | with_reducible exact H | (rw [hy339]; exact H) | exact H
 have Ny339 := A_ hy339
 clear hy339
 have H' := A_ H
 clear H
 go_enter Try.func85, Try.ntmps85
 go_wp2_with (first | ((with_reducible refine gate_dst (N := 7) rfl ?_); refine Kd.R_lit (Kd.int .i64) _ 2 ?hg (N := 7) ?hd (xs := ([] : List Int)) (inner := []) (ok := fun _ => True) (okp := fun _ => True) ?hr ?hp (fun _ hk => hk) trivial (Below.refl _ _) (Nat.le_refl _) (by simp) ?_; (case hd => rfl); (case hg => rfl); (case hr => first | (go_simp; done) | (go_simp; rfl)); (case hp => exact (Reps.none _ _)); intro v340 w2 ho3 hb hg_ hnew_; clear hg_ hnew_; (first | rw [← Ny339.out] at ho3 | (simp only [Int.reduceToNat] at ho3; rw [← Ny339.out] at ho3)); have n0_ := A_ (Kd.R_lower ho3 (below_size zg0)); have n1_ := A_ (below_step zg0 hb); clear HB; have HO341 := n0_; have HB := n1_; clear n0_ n1_; clear hb ho3))
 go_loopg [3, 4] k (fun kq v3 v4 w' => ∃ (x3_1 : List Int) (x4_1 : Int), v4 = .int .i64 x4_1 ∧ Aside0 (spec_l5Bits.l0 kq l0 x3_1 x4_1 = some r) ∧ Aside0 (kq ≤ k) ∧ Aside0 (Kd.R (Kd.int .i64) 2 w' w.heap.size (fun _ => True) v3 x3_1) ∧ Aside0 (Below w.heap.size w w'))
 case atStart => exact ⟨(y339), (0), (zs), H', ⟨Nat.le_refl _⟩, ⟨by (with_reducible repeat (first | apply Kd.R_alloc | apply Kd.R_drewN | apply Kd.R_drew)); exact HO341.out⟩, ⟨zg0⟩⟩
 case round =>
  clear H'
  try clear p2
  obtain ⟨x3_1, x4_1, rfl, HA, HK1, HO_3, HB⟩ := hrel
  cases gk with
  | zero => exact absurd HA.out (by simp [spec_l5Bits.l0])
  | succ k1 =>
   have H := HA.out
   clear HA
   simp only [spec_l5Bits.l0] at H
   by_cases c4 : x4_1 < (l0.length : Int)
   {
   rw [if_pos c4] at H
   have c4b0 : decide (x4_1 < (l0.length : Int)) = true := decide_eq_true c4
   clear c4
   by_cases c5 : 0 ≤ x4_1
   {
   rw [if_pos c5] at H
   have c5b0 : decide (0 ≤ x4_1) = true := decide_eq_true c5
   clear c5
   replace H := Option.bind_eq_some_iff.mp H
   obtain ⟨t343, A60, H⟩ := H
   (try dsimp only at H)
   have A6 := A_ A60
   clear A60
   have H' := A_ H
   clear H
   have p342 : 0 ≤ (x4_1 : Int) := of_decide_eq_true zg2
   have q342 : x4_1 < (l0.length : Int) := of_decide_eq_true zg2
   obtain ⟨ad342, e342, hx342_0, hx342_1, hx342_2, hx342_3⟩ := at_T31 HR0.out x4_1 p342 q342
   cases e342
   replace hx342_0 := bq HB.out hx342_0
   replace hx342_1 := bq HB.out hx342_1
   replace hx342_2 := bq HB.out hx342_2
   replace hx342_3 := bq HB.out hx342_3
   replace p342 := eq_true p342
   replace q342 := eq_true q342
   go_wp2_with (first | ((with_reducible refine gate_callee (f := 89) rfl ?_); refine goesL_ (some 19) rfl rfl Try.func89 (by kernel_rfl) rfl #[.string ((rd_T31 l0 x4_1).f0)] rfl (by (try simp only [List.map_toArray, List.map_cons, List.map_nil]); first | done | rfl | (simp only [List.length_drop, List.length_take]; rfl)) ?_; (with_reducible refine (spec_l5Marks.calls k1 ((rd_T31 l0 x4_1).f0) t343 _ A6.out).mono ?_); rintro e w7 ⟨v344, rfl, ho0, hb⟩; refine ⟨_, rfl, ?_⟩; have n0_ := A_ (Kd.R_elder' (by (with_reducible repeat (first | apply Kd.R_alloc | apply Kd.R_drewN | apply Kd.R_drew)); exact HO_3.out) (Kd.R_base ho0) hb); have n1_ := A_ (Kd.R_lower (Kd.R_new' ho0 (Kd.R_lt (by (with_reducible repeat (first | apply Kd.R_alloc | apply Kd.R_drewN | apply Kd.R_drew)); exact HO_3.out))) (below_size zg0)); have n2_ := A_ (below_step zg0 hb); clear HO_3; clear HB; have HO_3 := n0_; have HO345 := n1_; have HB := n2_; clear n0_ n1_ n2_))
   go_loopg [3, 6] k1 (fun kq v3 v6 w' => ∃ (x3_2 : List Int) (x6_2 : Int), v6 = .int .i64 x6_2 ∧ Aside0 (spec_l5Bits.l1 kq l0 x3_2 x4_1 t343 x6_2 = some r) ∧ Aside0 (kq ≤ k1) ∧ Aside0 (Kd.R (Kd.int .i64) 2 w' w.heap.size (fun k_ => some k_ ≠ (v344 : Value).ownBlock) v3 x3_2) ∧ Aside0 (Kd.R (Kd.int .i64) 2 w' w.heap.size (fun k_ => some k_ ≠ (v3 : Value).ownBlock) v344 t343) ∧ Aside0 (Below w.heap.size w w'))
   case atStart => exact ⟨(x3_1), (0), (zs), H', ⟨Nat.le_refl _⟩, ⟨by (with_reducible repeat (first | apply Kd.R_alloc | apply Kd.R_drewN | apply Kd.R_drew)); exact Kd.R_mono HO_3.out (fun _ hk => hk.2)⟩, ⟨by (with_reducible repeat (first | apply Kd.R_alloc | apply Kd.R_drewN | apply Kd.R_drew)); exact Kd.R_mono HO345.out (fun _ hk => hk.2)⟩, ⟨zg0⟩⟩
   case round =>
    clear H'
    try clear p2
    try clear p3
    try clear q3
    try clear hx3
    try clear c4
    try clear c4b0
    try clear c5
    try clear c5b0
    try clear hx342_0
    try clear hx342_1
    try clear hx342_2
    try clear hx342_3
    try clear p2
    try clear p342
    try clear q342
    obtain ⟨x3_2, x6_2, rfl, HA, HK2, HO_3, HO_5, HB⟩ := hrel
    cases gk with
    | zero => exact absurd HA.out (by simp [spec_l5Bits.l1])
    | succ k2 =>
     have H := HA.out
     clear HA
     simp only [spec_l5Bits.l1] at H
     by_cases c8 : x6_2 < (t343.length : Int)
     {
     rw [if_pos c8] at H
     have c8b0 : decide (x6_2 < (t343.length : Int)) = true := decide_eq_true c8
     clear c8
     by_cases c9 : 0 ≤ x6_2
     {
     rw [if_pos c9] at H
     have c9b0 : decide (0 ≤ x6_2) = true := decide_eq_true c9
     clear c9
     replace H := Option.bind_eq_some_iff.mp H
     obtain ⟨t347, A100, H⟩ := H
     (try dsimp only at H)
     have A10 := A_ A100
     clear A100
     have H' := A_ H
     clear H
     obtain ⟨Ao11, co11, eo11⟩ := Kd.R_slice HO_5.out
     subst eo11
     have p346 : 0 ≤ (x6_2 : Int) := of_decide_eq_true zg2
     have q346 : x6_2 < (t343.length : Int) := of_decide_eq_true zg2
     obtain ⟨ad346, e346, hx346_0⟩ := Kd.at_int (Kd.R_reads' HO_5.out).2.2 x6_2 p346 q346
     cases e346
     replace p346 := eq_true p346
     replace q346 := eq_true q346
     obtain ⟨Ao12, co12, eo12⟩ := Kd.R_slice HO_3.out
     subst eo12
     go_wp2_with (first | ((with_reducible refine gate_callee (f := 117) rfl ?_); refine goesL_ (some 31) rfl rfl Try.func117 (by kernel_rfl) rfl #[.slice Ao12 x3_2.length co12, .int .i64 (rd t343 x6_2)] rfl (by (try simp only [List.map_toArray, List.map_cons, List.map_nil]); first | done | rfl | (simp only [List.length_drop, List.length_take]; rfl)) ?_; (with_reducible refine (spec_l5Put.calls k2 (fun k_ => some k_ = (.slice Ao12 x3_2.length co12 : Value).ownBlock) (.slice Ao12 x3_2.length co12) x3_2 (rd t343 x6_2) t347 w _ ?side1 ?side2 A10.out).mono ?_); (case side1 => exact zg0); (case side2 => exact Kd.R_tight rfl HO_3.out); rintro e w13 ⟨v348, rfl, ho0, hb, hkp⟩; refine ⟨_, rfl, ?_⟩; have n0_ := A_ (Kd.R_mono (ok' := fun k_ => some k_ ≠ (v348 : Value).ownBlock) (Kd.R_keptB (HO_5.out) hkp (fun k_ hk_ hs_ => (hk_) hs_)) (fun k_ hk_ => fun e_ => Or.elim (ho0.1 k_ e_.symm) (fun hs_ => hk_.2.1 hs_) (fun hn_ => Nat.not_le.2 hk_.2.2 hn_))); have n1_ := A_ (Kd.R_mono (ok' := fun k_ => some k_ ≠ (.slice (some ad346) t343.length co11 : Value).ownBlock) ho0 (fun k_ hk_ => Or.elim hk_ (fun hs_ => fun e_ => (((HO_5.out).1 k_ e_.symm)) hs_) (fun hn_ => (Kd.fresh' (Kd.R_lt (by (with_reducible repeat (first | apply Kd.R_alloc | apply Kd.R_drewN | apply Kd.R_drew)); exact HO_5.out)) k_ hn_)))); have n2_ := A_ (hb); clear HO_5; clear HB; clear HO_3; have HO_5 := n0_; have HO349 := n1_; have HB := n2_; clear n0_ n1_ n2_; (try clear hkp)))
     go_roundg k2
     case measure => have := HK1.out; have := HK2.out; omega
     case rel => exact ⟨(t347), (wrap64 (x6_2 + 1)), (zs), H', ⟨by have := HK1.out; have := HK2.out; omega⟩, ⟨by (with_reducible repeat (first | apply Kd.R_alloc | apply Kd.R_drewN | apply Kd.R_drew)); exact HO349.out⟩, ⟨by (with_reducible repeat (first | apply Kd.R_alloc | apply Kd.R_drewN | apply Kd.R_drew)); exact HO_5.out⟩, ⟨zg0⟩⟩
     }
     {
     rw [if_neg c9] at H
     exact absurd H (by simp)
     }
     }
     {
     rw [if_neg c8] at H
     have c8b0 : decide (x6_2 < (t343.length : Int)) = false := decide_eq_false c8
     clear c8
     have H' := A_ H
     clear H
     obtain ⟨Ao14, co14, eo14⟩ := Kd.R_slice HO_5.out
     subst eo14
     go_wp2
     go_roundg k2
     case measure => have := HK1.out; have := HK2.out; omega
     case rel => exact ⟨(x3_2), (wrap64 (x4_1 + 1)), (zs), H', ⟨by have := HK1.out; have := HK2.out; omega⟩, ⟨by (with_reducible repeat (first | apply Kd.R_alloc | apply Kd.R_drewN | apply Kd.R_drew)); exact Kd.R_mono HO_3.out (fun _ hk => trivial)⟩, ⟨zg0⟩⟩
     }
   }
   {
   rw [if_neg c5] at H
   exact absurd H (by simp)
   }
   }
   {
   rw [if_neg c4] at H
   have c4b0 : decide (x4_1 < (l0.length : Int)) = false := decide_eq_false c4
   clear c4
   obtain rfl := Option.some.inj H
   go_wp2
   go_ret
   exact ⟨_, zr, by (with_reducible repeat (first | apply Kd.R_alloc | apply Kd.R_drewN | apply Kd.R_drew)); exact HO_3.out, zg0⟩
   
   }
theorem z42b {p_ : Prop} (h_ : p_ := by repeat (first | (with_reducible first | exact HB.out | apply below_alloc | apply pw_below_drewN | apply below_drew1 | refine below_set ?_ GE350.out) | exact HB.out)) : p_ := h_
theorem z42h {p_ : Prop} (h_ : p_ := by (with_reducible repeat (first | refine blk_drewN ?_ _ | refine blk_drew ?_ | refine blk_alloc ?_ _)); exact BK350.out) : p_ := h_
def spec_TableOk.f (k : Nat) (a0_0 : ByteArray) (a0_1 : ByteArray) (l0_2 : List Int) (l0_3 : List ByteArray) : Option (Bool) := (spec_l5All.f k a0_0 a0_1 l0_2 l0_3).bind fun bt351 => (if bt351.2 = true then (if 0 < (bt351.1.length : Int) then (if a0_0.toList = ((rd_T31 bt351.1 0).f0).toList then (if 0 ≤ (wrap64 ((bt351.1.length : Int) - 1)) then (if (wrap64 ((bt351.1.length : Int) - 1)) < (bt351.1.length : Int) then (if a0_1.toList = ((rd_T31 bt351.1 (wrap64 ((bt351.1.length : Int) - 1))).f0).toList then ((spec_l5Bits.f k bt351.1).bind fun t357 => ((spec_l5Same.f k l0_2 t357).bind fun t360 => (some t360))) else (some false)) else (none)) else (none)) else (some false)) else (none)) else (some false))
def spec_TableOk.T2 : Bool × List (List Nat × List Nat) := (true, [([], []), ([0], [0]), ([1], [1]), ([2, 1], [1, 2]), ([1], [1]), ([4, 1], [1, 4]), ([5, 1], [1, 5]), ([6, 1], [1, 6]), ([3, 7, 1], [1, 3, 7]), ([1, 8], [1, 8]), ([9, 1], [9]), ([10], [10]), ([11, 10], [10, 11]), ([10], [10]), ([10], [10]), ([14, 10], [10, 14]), ([15, 10], [10, 15]), ([13, 16, 10], [10, 13, 16]), ([17, 10], [10, 17]), ([18, 10], [10, 18]), ([12, 19, 10], [10, 12, 19]), ([10, 20], [10, 20]), ([21, 10], [21]), ([22], [22]), ([23, 22], [22, 23]), ([22], [22]), ([25, 22, 22], [22, 25]), ([24, 26, 26, 22], [22, 24, 26]), ([22, 27], [22, 27]), ([28, 27, 0, 1, 2, 3, 4, 5, 6, 7, 8, 9, 10, 11, 12, 13, 14, 15, 16, 17, 18, 19, 20, 21, 22, 23, 24, 25, 26, 27, 28], [28])])
def spec_TableOk.B2 : List Nat := [0, 1, 3, 7, 3, 19, 51, 115, 255, 511, 1023, 2047, 4095, 2047, 2047, 18431, 51199, 124927, 255999, 518143, 1048575, 2097151, 4194303, 8388607, 16777215, 8388607, 41943039, 134217727, 268435455, 536870911]
theorem spec_TableOk.tab2 : rtab .any (opsOf Try.f42 2) = spec_TableOk.T2 := by kernel_rfl
theorem spec_TableOk.bits2 : waitsOk spec_TableOk.T2.2 spec_TableOk.B2 = true := by kernel_rfl
set_option maxHeartbeats 8000000 in
set_option maxRecDepth 100000 in
theorem spec_TableOk.calls (k : Nat) (a0_0 : ByteArray) (a0_1 : ByteArray) (A0_2 : Option Addr) (c0_2 : Nat) (l0_2 : List Int) (A0_3 : Option Addr) (c0_3 : Nat) (l0_3 : List ByteArray) (r : Bool) (w : World) (hr0_2 : Kd.C (Kd.int .i64) w A0_2 l0_2.length l0_2) (hc0_2 : l0_2.length ≤ c0_2) (hr0_3 : Kd.C Kd.string w A0_3 l0_3.length l0_3) (hc0_3 : l0_3.length ≤ c0_3) (h : spec_TableOk.f k a0_0 a0_1 l0_2 l0_3 = some r) :
  Calls Try.prog 42 #[.agg #[.string a0_0, .string a0_1, .slice A0_2 l0_2.length c0_2, .slice A0_3 l0_3.length c0_3]] w fun e w' => e = .returned (.bool r) ∧ Below w.heap.size w w' := by
 have hu57 := Try.underlying57
 have HR0_2 := A_ hr0_2
 have HC0_2 := A_ hc0_2
 clear hr0_2 hc0_2
 have HR0_3 := A_ hr0_3
 have HC0_3 := A_ hc0_3
 clear hr0_3 hc0_3
 have HB := A_ (Below.refl w.heap.size w)
 have H : ((spec_l5All.f k a0_0 a0_1 l0_2 l0_3).bind fun bt351 => (if bt351.2 = true then (if 0 < (bt351.1.length : Int) then (if a0_0.toList = ((rd_T31 bt351.1 0).f0).toList then (if 0 ≤ (wrap64 ((bt351.1.length : Int) - 1)) then (if (wrap64 ((bt351.1.length : Int) - 1)) < (bt351.1.length : Int) then (if a0_1.toList = ((rd_T31 bt351.1 (wrap64 ((bt351.1.length : Int) - 1))).f0).toList then ((spec_l5Bits.f k bt351.1).bind fun t357 => ((spec_l5Same.f k l0_2 t357).bind fun t360 => (some t360))) else (some false)) else (none)) else (none)) else (some false)) else (none)) else (some false))) = some r := h
 clear h
 replace H := Option.bind_eq_some_iff.mp H
 obtain ⟨⟨t351, t354⟩, A20, H⟩ := H
 (try dsimp only at H)
 have A2 := A_ A20
 clear A20
 by_cases c3 : t354 = true
 {
 subst c3
 rw [if_pos rfl] at H
 by_cases c4 : 0 < (t351.length : Int)
 {
 rw [if_pos c4] at H
 have c4b0 : decide (0 < (t351.length : Int)) = true := decide_eq_true c4
 have c4b1 : decide (0 < t351.length) = true := decide_eq_true (by omega)
 clear c4
 by_cases c5 : a0_0.toList = ((rd_T31 t351 0).f0).toList
 {
 rw [if_pos c5] at H
 have c5b0 : (a0_0.toList == ((rd_T31 t351 0).f0).toList) = true := beq_iff_eq.mpr c5
 have c5b1 : (a0_0.toList != ((rd_T31 t351 0).f0).toList) = false := bne_eq_false_iff_eq.mpr c5
 clear c5
 obtain ⟨ji6, hji6⟩ : ∃ j_ : Int, (wrap64 ((t351.length : Int) - 1)) = j_ := ⟨_, rfl⟩
 replace H : (if 0 ≤ (ji6) then (if (ji6) < (t351.length : Int) then (if a0_1.toList = ((rd_T31 t351 (ji6)).f0).toList then ((spec_l5Bits.f k t351).bind fun t357 => ((spec_l5Same.f k l0_2 t357).bind fun t360 => (some t360))) else (some false)) else (none)) else (none)) = some r := by first | (rw [hji6] at H; exact H) | (simp only [hji6] at H ⊢; exact H)
 (try rw [hji6])
 (try rw [hji6] at A2)
 have hji6w : (IntKind.i64.wrap ((t351.length : Int) - 1)) = ji6 := (i64_w _).trans hji6
 by_cases c7 : 0 ≤ (ji6)
 {
 rw [if_pos c7] at H
 have c7b0 : decide (0 ≤ (ji6)) = true := decide_eq_true c7
 clear c7
 by_cases c8 : (ji6) < (t351.length : Int)
 {
 rw [if_pos c8] at H
 have c8b0 : decide ((ji6) < (t351.length : Int)) = true := decide_eq_true c8
 clear c8
 by_cases c9 : a0_1.toList = ((rd_T31 t351 (ji6)).f0).toList
 {
 rw [if_pos c9] at H
 have c9b0 : (a0_1.toList == ((rd_T31 t351 (ji6)).f0).toList) = true := beq_iff_eq.mpr c9
 have c9b1 : (a0_1.toList != ((rd_T31 t351 (ji6)).f0).toList) = false := bne_eq_false_iff_eq.mpr c9
 clear c9
 replace H := Option.bind_eq_some_iff.mp H
 obtain ⟨t357, A100, H⟩ := H
 (try dsimp only at H)
 have A10 := A_ A100
 clear A100
 replace H := Option.bind_eq_some_iff.mp H
 obtain ⟨t360, A110, H⟩ := H
 (try dsimp only at H)
 have A11 := A_ A110
 clear A110
 obtain rfl := Option.some.inj H
 go_enter Try.func42, Try.ntmps42
 try go_wp2_with (first | ((with_reducible refine gate_dst (N := 1) rfl ?_); (try (refine gate_guard (by rfl) ?_; dsimp only)); refine box_event ?hg (N := 1) ?hd (cs := #[.string a0_0, .string a0_1, .slice A0_2 l0_2.length c0_2, .slice A0_3 l0_3.length c0_3]) (t := 57) ?hr ?_; (case hd => rfl); (case hg => rfl); (case hr => first | (go_simp; done) | (go_simp; rfl)); intro gb350 hg w12 hbox hb; have n0_ := A_ (below_step zg0 hb); have n1_ := A_ (hbox); have n2_ := A_ ((by rw [hg]; exact (below_size zg0) : w.heap.size ≤ gb350)); have n3_ := A_ ((by rw [hg]; exact (below_size zg0) : w.heap.size ≤ gb350)); clear HB; have HB := n0_; have BK350 := n1_; have GW350 := n2_; have GE350 := n3_; clear n0_ n1_ n2_ n3_; clear hb hbox hg; obtain ⟨hcz13_0, hcz13_1, hcz13_2, hcz13_3, hfz13_0, hfz13_1, hfz13_2, hfz13_3⟩ := bz4 BK350.out) | ((with_reducible refine gate_callee (f := 83) rfl ?_); refine goesL_ (some 7) rfl rfl Try.func83 (by kernel_rfl) rfl #[.agg #[.string a0_0, .string a0_1, .slice A0_2 l0_2.length c0_2, .slice A0_3 l0_3.length c0_3]] rfl zg7 ?_; (with_reducible refine (spec_l5All.calls k a0_0 a0_1 _ _ l0_2 _ _ l0_3 t351 true _ ?side1 ?side2 ?side3 ?side4 A2.out).mono ?_); (case side1 => exact zg6); (case side2 => exact HC0_2.out); (case side3 => exact zg8); (case side4 => exact HC0_3.out); rintro e w14 ⟨v352, rfl, ho0, hb⟩; refine ⟨_, rfl, ?_⟩; have n0_ := A_ (Kd.R_lower ho0 (below_size z42b)); have n1_ := A_ (blk_below (g := gb350) (o := .cells #[.string a0_0, .string a0_1, .slice A0_2 l0_2.length c0_2, .slice A0_3 l0_3.length c0_3] 57 (0, 0)) z42h hb); have n2_ := A_ (below_step z42b hb); clear BK350; clear HB; have HO353 := n0_; have BK350 := n1_; have HB := n2_; clear n0_ n1_ n2_))
 replace HO353 := A_ (Kd.R_drew HO353.out)
 replace BK350 := A_ (blk_drew BK350.out)
 replace HB := A_ (below_drew1 HB.out)
 obtain ⟨Ao16, co16, eo16⟩ := Kd.R_slice HO353.out
 (first | subst eo16 | (injection eo16 with f1_ f2_ f3_; have f4_ := f1_.symm; have f5_ := f3_.symm; clear f1_ f2_ f3_; subst f4_; subst f5_))
 have p355 : 0 ≤ (0 : Int) := (by omega)
 have q355 : 0 < (t351.length : Int) := of_decide_eq_true zg2
 obtain ⟨ad355, e355, hx355_0, hx355_1, hx355_2, hx355_3⟩ := at_T31 (Kd.R_reads' HO353.out).2.2 0 p355 q355
 cases e355
 have qi355 : (0 < t351.length) = True := eq_true (by omega)
 (try rw [show ((0 : Int)).toNat = 0 from rfl] at hx355_0)
 (try rw [show 0 * 4 = 0 from rfl] at hx355_0)
 (try rw [Addr.add_zero'] at hx355_0)
 (try rw [show ((0 : Int)).toNat = 0 from rfl] at hx355_1)
 (try rw [show 0 * 4 = 0 from rfl] at hx355_1)
 (try rw [Addr.add_zero'] at hx355_1)
 (try rw [show ((0 : Int)).toNat = 0 from rfl] at hx355_2)
 (try rw [show 0 * 4 = 0 from rfl] at hx355_2)
 (try rw [Addr.add_zero'] at hx355_2)
 (try rw [show ((0 : Int)).toNat = 0 from rfl] at hx355_3)
 (try rw [show 0 * 4 = 0 from rfl] at hx355_3)
 (try rw [Addr.add_zero'] at hx355_3)
 replace p355 := eq_true p355
 replace q355 := eq_true q355
 have p356 : 0 ≤ ((ji6) : Int) := of_decide_eq_true zg2
 have q356 : (ji6) < (t351.length : Int) := of_decide_eq_true zg2
 obtain ⟨ad356, e356, hx356_0, hx356_1, hx356_2, hx356_3⟩ := at_T31 (Kd.R_reads' HO353.out).2.2 (ji6) p356 q356
 obtain rfl : ad355 = ad356 := (by injection e356)
 replace p356 := eq_true p356
 replace q356 := eq_true q356
 refine start_ (n := 30) (S := fun w' => w'.cell? ⟨gb350, 0, none⟩ = some (.string a0_0) ∧ w'.cell? ⟨gb350, 1, none⟩ = some (.string a0_1) ∧ w'.cell? ⟨gb350, 2, none⟩ = some (.slice A0_2 l0_2.length c0_2) ∧ w'.cell? ⟨gb350, 3, none⟩ = some (.slice A0_3 l0_3.length c0_3) ∧ w'.cell? ad355 = some (.string ((rd_T31 t351 0).f0)) ∧ w'.cell? ⟨ad355.block, ad355.off + 1, none⟩ = some (.string ((rd_T31 t351 0).f1)) ∧ w'.cell? ⟨ad355.block, ad355.off + 2, none⟩ = some (.int .i64 ((rd_T31 t351 0).f2)) ∧ w'.cell? ⟨ad355.block, ad355.off + 3, none⟩ = some (.bool ((rd_T31 t351 0).f3)) ∧ w'.cell? (ad355.add (((ji6)).toNat * 4)) = some (.string ((rd_T31 t351 (ji6)).f0)) ∧ w'.cell? ⟨(ad355.add (((ji6)).toNat * 4)).block, (ad355.add (((ji6)).toNat * 4)).off + 1, none⟩ = some (.string ((rd_T31 t351 (ji6)).f1)) ∧ w'.cell? ⟨(ad355.add (((ji6)).toNat * 4)).block, (ad355.add (((ji6)).toNat * 4)).off + 2, none⟩ = some (.int .i64 ((rd_T31 t351 (ji6)).f2)) ∧ w'.cell? ⟨(ad355.add (((ji6)).toNat * 4)).block, (ad355.add (((ji6)).toNat * 4)).off + 3, none⟩ = some (.bool ((rd_T31 t351 (ji6)).f3))) (ds := []) (yx 0 30) (by kernel_rfl) rfl rfl ⟨(blk_cell BK350.out 0).trans rfl, (blk_cell BK350.out 1).trans rfl, (blk_cell BK350.out 2).trans rfl, (blk_cell BK350.out 3).trans rfl, hx355_0, hx355_1, hx355_2, hx355_3, hx356_0, hx356_1, hx356_2, hx356_3⟩ (fun hHeld => ?_); refine with_tabW spec_TableOk.tab2 spec_TableOk.bits2 (fun HT_ HW_ => ?_)
 generalize w14.drew = w15 at HO353 BK350 HB hx355_0 hx355_1 hx355_2 hx355_3 hx356_0 hx356_1 hx356_2 hx356_3 hHeld ⊢
 refine pu_ 0 (some 10) (yx 1 29) ?_
 refine pu_ 1 (some 11) (yx 2 28) ?_
 refine pu_ 2 (some 12) (yx 3 27) ?_
 refine pu_ 4 (some 14) (bs "YYYXYXXXXXXXXXXXXXXXXXXXXXXXXX") ?_
 refine pu_ 5 (some 15) (bs "YYYXYYXXXXXXXXXXXXXXXXXXXXXXXX") ?_
 refine pu_ 6 (some 16) (bs "YYYXYYYXXXXXXXXXXXXXXXXXXXXXXX") ?_
 refine take_ (i := 3) (N := some 13) (v := _) (a' := _) (yx 7 23) rfl rfl (take_ofW HT_.out HW_.out (by kernel_rfl)) (fun _ _ _ h => h) (Or.inl ⟨by rfl, zg5⟩) hHeld zg1 ?_
 refine take_ (i := 7) (N := some 17) (v := _) (a' := _) (yx 8 22) rfl rfl (take_ofW HT_.out HW_.out (by kernel_rfl)) (fun _ _ _ h => h) (Or.inl ⟨by rfl, zg5⟩) hHeld zg1 ?_
 refine pu_ 8 (some 18) (yx 9 21) ?_
 refine pu_ 9 (some 19) (yx 10 20) ?_
 refine pu_ 10 (some 20) (yx 11 19) ?_
 refine pu_ 11 (some 21) (yx 12 18) ?_
 refine pu_ 13 (some 23) (bs "YYYYYYYYYYYYXYXXXXXXXXXXXXXXXX") ?_
 refine pu_ 14 (some 24) (bs "YYYYYYYYYYYYXYYXXXXXXXXXXXXXXX") ?_
 refine pu_ 15 (some 25) (bs "YYYYYYYYYYYYXYYYXXXXXXXXXXXXXX") ?_
 refine pu_ 16 (some 26) (bs "YYYYYYYYYYYYXYYYYXXXXXXXXXXXXX") ?_
 refine pu_ 17 (some 27) (bs "YYYYYYYYYYYYXYYYYYXXXXXXXXXXXX") ?_
 refine pu_ 18 (some 28) (bs "YYYYYYYYYYYYXYYYYYYXXXXXXXXXXX") ?_
 refine take_ (i := 12) (N := some 22) (v := _) (a' := _) (yx 19 11) rfl rfl (take_ofW HT_.out HW_.out (by kernel_rfl)) (fun _ _ _ h => h) (Or.inl ⟨by rfl, zg5⟩) hHeld zg1 ?_
 refine take_ (i := 19) (N := some 29) (v := _) (a' := _) (yx 20 10) rfl rfl (take_ofW HT_.out HW_.out (by kernel_rfl)) (fun _ _ _ h => h) (Or.inl ⟨by rfl, zg5⟩) hHeld zg1 ?_
 refine pu_ 20 (some 30) (yx 21 9) ?_
 refine pu_ 21 (some 31) (yx 22 8) ?_
 refine pu_ 22 (some 32) (yx 23 7) ?_
 refine pu_ 23 (some 33) (yx 24 6) ?_
 refine pu_ 25 (some 35) (bs "YYYYYYYYYYYYYYYYYYYYYYYYXYXXXX") ?_
 refine take_ (i := 24) (N := some 34) (v := _) (a' := _) (yx 26 4) rfl rfl (take_ofW HT_.out HW_.out (by kernel_rfl)) (fun _ _ _ h => h) (Or.inl ⟨by rfl, zg5⟩) hHeld zg1 ?_
 refine one_ (i := 26) (N := some 36) (yx 27 3) rfl rfl (one_of HT_.out (by kernel_rfl)) (by decide) (fun K hK => ?_)
 refine goes_ Try.func85 (by kernel_rfl) rfl #[.slice (some ad355) t351.length co16] (by rfl) rfl rfl zg7 ?_
 with_reducible refine (spec_l5Bits.calls k _ _ t351 t357 _ ?side1 ?side2 A10.out).mono ?_
 (case side1 => exact (by repeat (first | exact (Kd.R_reads' HO353.out).2.2 | (with_reducible refine Kd.C_alloc ?_ _) | (with_reducible refine Kd.C_drewN ?_ _) | (with_reducible refine Kd.C_drew ?_))))
 (case side2 => exact (Kd.R_reads' HO353.out).2.1)
 rintro e w17 ⟨v358, rfl, ho0, hb⟩
 have HS4_ := (hb.cell (World.block_lt_of_cell? _ _ (hHeld.2.2.2.2.1))).trans (hHeld.2.2.2.2.1)
 have HS5_ := (hb.cell (World.block_lt_of_cell? _ _ (hHeld.2.2.2.2.2.1))).trans (hHeld.2.2.2.2.2.1)
 have HS6_ := (hb.cell (World.block_lt_of_cell? _ _ (hHeld.2.2.2.2.2.2.1))).trans (hHeld.2.2.2.2.2.2.1)
 have HS7_ := (hb.cell (World.block_lt_of_cell? _ _ (hHeld.2.2.2.2.2.2.2.1))).trans (hHeld.2.2.2.2.2.2.2.1)
 have HS8_ := (hb.cell (World.block_lt_of_cell? _ _ (hHeld.2.2.2.2.2.2.2.2.1))).trans (hHeld.2.2.2.2.2.2.2.2.1)
 have HS9_ := (hb.cell (World.block_lt_of_cell? _ _ (hHeld.2.2.2.2.2.2.2.2.2.1))).trans (hHeld.2.2.2.2.2.2.2.2.2.1)
 have HS10_ := (hb.cell (World.block_lt_of_cell? _ _ (hHeld.2.2.2.2.2.2.2.2.2.2.1))).trans (hHeld.2.2.2.2.2.2.2.2.2.2.1)
 have HS11_ := (hb.cell (World.block_lt_of_cell? _ _ (hHeld.2.2.2.2.2.2.2.2.2.2.2))).trans (hHeld.2.2.2.2.2.2.2.2.2.2.2)
 refine ⟨_, rfl, ?_⟩
 have n0_ := A_ (Kd.R_below (by (with_reducible repeat (first | apply Kd.R_alloc | apply Kd.R_drewN | apply Kd.R_drew)); exact HO353.out) hb)
 have n1_ := A_ (Kd.R_lower ho0 (below_size z42b))
 have n2_ := A_ (blk_below (g := gb350) (o := .cells #[.string a0_0, .string a0_1, .slice A0_2 l0_2.length c0_2, .slice A0_3 l0_3.length c0_3] 57 (0, 0)) z42h hb)
 have n3_ := A_ (below_step z42b hb)
 clear HO353
 clear BK350
 clear HB
 have HO353 := n0_
 have HO359 := n1_
 have BK350 := n2_
 have HB := n3_
 clear n0_ n1_ n2_ n3_
 obtain ⟨Ao18, co18, eo18⟩ := Kd.R_slice HO359.out
 (first | subst eo18 | (injection eo18 with f1_ f2_ f3_; have f4_ := f1_.symm; have f5_ := f3_.symm; clear f1_ f2_ f3_; subst f4_; subst f5_))
 refine hK.out _ _ ⟨(blk_cell BK350.out 0).trans rfl, (blk_cell BK350.out 1).trans rfl, (blk_cell BK350.out 2).trans rfl, (blk_cell BK350.out 3).trans rfl, HS4_, HS5_, HS6_, HS7_, HS8_, HS9_, HS10_, HS11_⟩ (fun hHeld => ?_)
 clear hK K
 refine norm_ (nz_ 36) ?_
 refine one_ (i := 27) (N := some 37) (yx 28 2) rfl rfl (one_of HT_.out (by kernel_rfl)) (by decide) (fun K hK => ?_)
 refine goes_ Try.func84 (by kernel_rfl) rfl #[.slice A0_2 l0_2.length c0_2, .slice Ao18 t357.length co18] (by rfl) rfl rfl zg7 ?_
 with_reducible refine (spec_l5Same.calls k _ _ l0_2 _ _ t357 t360 _ ?side1 ?side2 ?side3 ?side4 A11.out).mono ?_
 (case side1 => exact zg6)
 (case side2 => exact HC0_2.out)
 (case side3 => exact (by repeat (first | exact (Kd.R_reads' HO359.out).2.2 | (with_reducible refine Kd.C_alloc ?_ _) | (with_reducible refine Kd.C_drewN ?_ _) | (with_reducible refine Kd.C_drew ?_))))
 (case side4 => exact (Kd.R_reads' HO359.out).2.1)
 rintro e w' ⟨rfl, ⟨nd, rfl⟩⟩
 refine ⟨_, rfl, ?_⟩
 refine hK.out _ _ ⟨(blk_cell BK350.out 0).trans rfl, (blk_cell BK350.out 1).trans rfl, (blk_cell BK350.out 2).trans rfl, (blk_cell BK350.out 3).trans rfl, hHeld.2.2.2.2.1, hHeld.2.2.2.2.2.1, hHeld.2.2.2.2.2.2.1, hHeld.2.2.2.2.2.2.2.1, hHeld.2.2.2.2.2.2.2.2.1, hHeld.2.2.2.2.2.2.2.2.2.1, hHeld.2.2.2.2.2.2.2.2.2.2.1, hHeld.2.2.2.2.2.2.2.2.2.2.2⟩ (fun hHeld => ?_)
 clear hK K
 refine norm_ (nz_ 37) ?_
 refine pu_ 28 (some 38) (yx 29 1) ?_
 refine pu_ 29 (some 2) (yx 30 0) ?_
 refine done_ (done_of HT_.out (by kernel_rfl)) ?_
 try go_wp2
 go_ret
 exact ⟨by first | rfl | (simp [errW_none, errW_some] <;> rfl) | (simp only [← hji6]; first | rfl | (simp [errW_none, errW_some] <;> rfl)) | (simp [*, errW_none, errW_some] <;> rfl), z42b⟩
 }
 {
 rw [if_neg c9] at H
 have c9b0 : (a0_1.toList == ((rd_T31 t351 (ji6)).f0).toList) = false := beq_eq_false_iff_ne.mpr c9
 have c9b1 : (a0_1.toList != ((rd_T31 t351 (ji6)).f0).toList) = true := bne_iff_ne.mpr c9
 obtain rfl := Option.some.inj H
 go_enter Try.func42, Try.ntmps42
 try go_wp2_with (first | ((with_reducible refine gate_dst (N := 1) rfl ?_); (try (refine gate_guard (by rfl) ?_; dsimp only)); refine box_event ?hg (N := 1) ?hd (cs := #[.string a0_0, .string a0_1, .slice A0_2 l0_2.length c0_2, .slice A0_3 l0_3.length c0_3]) (t := 57) ?hr ?_; (case hd => rfl); (case hg => rfl); (case hr => first | (go_simp; done) | (go_simp; rfl)); intro gb350 hg w19 hbox hb; have n0_ := A_ (below_step zg0 hb); have n1_ := A_ (hbox); have n2_ := A_ ((by rw [hg]; exact (below_size zg0) : w.heap.size ≤ gb350)); have n3_ := A_ ((by rw [hg]; exact (below_size zg0) : w.heap.size ≤ gb350)); clear HB; have HB := n0_; have BK350 := n1_; have GW350 := n2_; have GE350 := n3_; clear n0_ n1_ n2_ n3_; clear hb hbox hg; obtain ⟨hcz20_0, hcz20_1, hcz20_2, hcz20_3, hfz20_0, hfz20_1, hfz20_2, hfz20_3⟩ := bz4 BK350.out) | ((with_reducible refine gate_callee (f := 83) rfl ?_); refine goesL_ (some 7) rfl rfl Try.func83 (by kernel_rfl) rfl #[.agg #[.string a0_0, .string a0_1, .slice A0_2 l0_2.length c0_2, .slice A0_3 l0_3.length c0_3]] rfl zg7 ?_; (with_reducible refine (spec_l5All.calls k a0_0 a0_1 _ _ l0_2 _ _ l0_3 t351 true _ ?side1 ?side2 ?side3 ?side4 A2.out).mono ?_); (case side1 => exact zg6); (case side2 => exact HC0_2.out); (case side3 => exact zg8); (case side4 => exact HC0_3.out); rintro e w21 ⟨v352, rfl, ho0, hb⟩; refine ⟨_, rfl, ?_⟩; have n0_ := A_ (Kd.R_lower ho0 (below_size z42b)); have n1_ := A_ (blk_below (g := gb350) (o := .cells #[.string a0_0, .string a0_1, .slice A0_2 l0_2.length c0_2, .slice A0_3 l0_3.length c0_3] 57 (0, 0)) z42h hb); have n2_ := A_ (below_step z42b hb); clear BK350; clear HB; have HO353 := n0_; have BK350 := n1_; have HB := n2_; clear n0_ n1_ n2_))
 replace HO353 := A_ (Kd.R_drew HO353.out)
 replace BK350 := A_ (blk_drew BK350.out)
 replace HB := A_ (below_drew1 HB.out)
 obtain ⟨Ao23, co23, eo23⟩ := Kd.R_slice HO353.out
 (first | subst eo23 | (injection eo23 with f1_ f2_ f3_; have f4_ := f1_.symm; have f5_ := f3_.symm; clear f1_ f2_ f3_; subst f4_; subst f5_))
 have p355 : 0 ≤ (0 : Int) := (by omega)
 have q355 : 0 < (t351.length : Int) := of_decide_eq_true zg2
 obtain ⟨ad355, e355, hx355_0, hx355_1, hx355_2, hx355_3⟩ := at_T31 (Kd.R_reads' HO353.out).2.2 0 p355 q355
 cases e355
 have qi355 : (0 < t351.length) = True := eq_true (by omega)
 (try rw [show ((0 : Int)).toNat = 0 from rfl] at hx355_0)
 (try rw [show 0 * 4 = 0 from rfl] at hx355_0)
 (try rw [Addr.add_zero'] at hx355_0)
 (try rw [show ((0 : Int)).toNat = 0 from rfl] at hx355_1)
 (try rw [show 0 * 4 = 0 from rfl] at hx355_1)
 (try rw [Addr.add_zero'] at hx355_1)
 (try rw [show ((0 : Int)).toNat = 0 from rfl] at hx355_2)
 (try rw [show 0 * 4 = 0 from rfl] at hx355_2)
 (try rw [Addr.add_zero'] at hx355_2)
 (try rw [show ((0 : Int)).toNat = 0 from rfl] at hx355_3)
 (try rw [show 0 * 4 = 0 from rfl] at hx355_3)
 (try rw [Addr.add_zero'] at hx355_3)
 replace p355 := eq_true p355
 replace q355 := eq_true q355
 have p356 : 0 ≤ ((ji6) : Int) := of_decide_eq_true zg2
 have q356 : (ji6) < (t351.length : Int) := of_decide_eq_true zg2
 obtain ⟨ad356, e356, hx356_0, hx356_1, hx356_2, hx356_3⟩ := at_T31 (Kd.R_reads' HO353.out).2.2 (ji6) p356 q356
 obtain rfl : ad355 = ad356 := (by injection e356)
 replace p356 := eq_true p356
 replace q356 := eq_true q356
 refine start_ (n := 30) (S := fun w' => w'.cell? ⟨gb350, 0, none⟩ = some (.string a0_0) ∧ w'.cell? ⟨gb350, 1, none⟩ = some (.string a0_1) ∧ w'.cell? ⟨gb350, 2, none⟩ = some (.slice A0_2 l0_2.length c0_2) ∧ w'.cell? ⟨gb350, 3, none⟩ = some (.slice A0_3 l0_3.length c0_3) ∧ w'.cell? ad355 = some (.string ((rd_T31 t351 0).f0)) ∧ w'.cell? ⟨ad355.block, ad355.off + 1, none⟩ = some (.string ((rd_T31 t351 0).f1)) ∧ w'.cell? ⟨ad355.block, ad355.off + 2, none⟩ = some (.int .i64 ((rd_T31 t351 0).f2)) ∧ w'.cell? ⟨ad355.block, ad355.off + 3, none⟩ = some (.bool ((rd_T31 t351 0).f3)) ∧ w'.cell? (ad355.add (((ji6)).toNat * 4)) = some (.string ((rd_T31 t351 (ji6)).f0)) ∧ w'.cell? ⟨(ad355.add (((ji6)).toNat * 4)).block, (ad355.add (((ji6)).toNat * 4)).off + 1, none⟩ = some (.string ((rd_T31 t351 (ji6)).f1)) ∧ w'.cell? ⟨(ad355.add (((ji6)).toNat * 4)).block, (ad355.add (((ji6)).toNat * 4)).off + 2, none⟩ = some (.int .i64 ((rd_T31 t351 (ji6)).f2)) ∧ w'.cell? ⟨(ad355.add (((ji6)).toNat * 4)).block, (ad355.add (((ji6)).toNat * 4)).off + 3, none⟩ = some (.bool ((rd_T31 t351 (ji6)).f3))) (ds := []) (yx 0 30) (by kernel_rfl) rfl rfl ⟨(blk_cell BK350.out 0).trans rfl, (blk_cell BK350.out 1).trans rfl, (blk_cell BK350.out 2).trans rfl, (blk_cell BK350.out 3).trans rfl, hx355_0, hx355_1, hx355_2, hx355_3, hx356_0, hx356_1, hx356_2, hx356_3⟩ (fun hHeld => ?_); refine with_tabW spec_TableOk.tab2 spec_TableOk.bits2 (fun HT_ HW_ => ?_)
 generalize w21.drew = w22 at HO353 BK350 HB hx355_0 hx355_1 hx355_2 hx355_3 hx356_0 hx356_1 hx356_2 hx356_3 hHeld ⊢
 refine pu_ 0 (some 10) (yx 1 29) ?_
 refine pu_ 1 (some 11) (yx 2 28) ?_
 refine pu_ 2 (some 12) (yx 3 27) ?_
 refine pu_ 4 (some 14) (bs "YYYXYXXXXXXXXXXXXXXXXXXXXXXXXX") ?_
 refine pu_ 5 (some 15) (bs "YYYXYYXXXXXXXXXXXXXXXXXXXXXXXX") ?_
 refine pu_ 6 (some 16) (bs "YYYXYYYXXXXXXXXXXXXXXXXXXXXXXX") ?_
 refine take_ (i := 3) (N := some 13) (v := _) (a' := _) (yx 7 23) rfl rfl (take_ofW HT_.out HW_.out (by kernel_rfl)) (fun _ _ _ h => h) (Or.inl ⟨by rfl, zg5⟩) hHeld zg1 ?_
 refine take_ (i := 7) (N := some 17) (v := _) (a' := _) (yx 8 22) rfl rfl (take_ofW HT_.out HW_.out (by kernel_rfl)) (fun _ _ _ h => h) (Or.inl ⟨by rfl, zg5⟩) hHeld zg1 ?_
 refine pu_ 8 (some 18) (yx 9 21) ?_
 refine pu_ 9 (some 19) (yx 10 20) ?_
 refine pu_ 10 (some 20) (yx 11 19) ?_
 refine pu_ 11 (some 21) (yx 12 18) ?_
 refine pu_ 13 (some 23) (bs "YYYYYYYYYYYYXYXXXXXXXXXXXXXXXX") ?_
 refine pu_ 14 (some 24) (bs "YYYYYYYYYYYYXYYXXXXXXXXXXXXXXX") ?_
 refine pu_ 15 (some 25) (bs "YYYYYYYYYYYYXYYYXXXXXXXXXXXXXX") ?_
 refine pu_ 16 (some 26) (bs "YYYYYYYYYYYYXYYYYXXXXXXXXXXXXX") ?_
 refine pu_ 17 (some 27) (bs "YYYYYYYYYYYYXYYYYYXXXXXXXXXXXX") ?_
 refine pu_ 18 (some 28) (bs "YYYYYYYYYYYYXYYYYYYXXXXXXXXXXX") ?_
 refine take_ (i := 12) (N := some 22) (v := _) (a' := _) (yx 19 11) rfl rfl (take_ofW HT_.out HW_.out (by kernel_rfl)) (fun _ _ _ h => h) (Or.inl ⟨by rfl, zg5⟩) hHeld zg1 ?_
 refine take_ (i := 19) (N := some 29) (v := _) (a' := _) (yx 20 10) rfl rfl (take_ofW HT_.out HW_.out (by kernel_rfl)) (fun _ _ _ h => h) (Or.inl ⟨by rfl, zg5⟩) hHeld zg1 ?_
 refine pu_ 20 (some 30) (yx 21 9) ?_
 refine pu_ 21 (some 31) (yx 22 8) ?_
 refine pu_ 22 (some 32) (yx 23 7) ?_
 refine pn_ 23 (some 33) (yx 24 6) ?_
 refine pn_ 24 (some 34) (yx 25 5) ?_
 refine pn_ 25 (some 35) (yx 26 4) ?_
 refine pn_ 26 (some 36) (yx 27 3) ?_
 refine pn_ 27 (some 37) (yx 28 2) ?_
 refine pu_ 28 (some 38) (yx 29 1) ?_
 refine pu_ 29 (some 2) (yx 30 0) ?_
 refine done_ (done_of HT_.out (by kernel_rfl)) ?_
 try go_wp2
 go_ret
 exact ⟨by first | rfl | (simp [errW_none, errW_some] <;> rfl) | (simp only [← hji6]; first | rfl | (simp [errW_none, errW_some] <;> rfl)) | (simp [*, errW_none, errW_some] <;> rfl), z42b⟩
 }
 }
 {
 rw [if_neg c8] at H
 exact absurd H (by simp)
 }
 }
 {
 rw [if_neg c7] at H
 exact absurd H (by simp)
 }
 }
 {
 rw [if_neg c5] at H
 have c5b0 : (a0_0.toList == ((rd_T31 t351 0).f0).toList) = false := beq_eq_false_iff_ne.mpr c5
 have c5b1 : (a0_0.toList != ((rd_T31 t351 0).f0).toList) = true := bne_iff_ne.mpr c5
 obtain rfl := Option.some.inj H
 go_enter Try.func42, Try.ntmps42
 try go_wp2_with (first | ((with_reducible refine gate_dst (N := 1) rfl ?_); (try (refine gate_guard (by rfl) ?_; dsimp only)); refine box_event ?hg (N := 1) ?hd (cs := #[.string a0_0, .string a0_1, .slice A0_2 l0_2.length c0_2, .slice A0_3 l0_3.length c0_3]) (t := 57) ?hr ?_; (case hd => rfl); (case hg => rfl); (case hr => first | (go_simp; done) | (go_simp; rfl)); intro gb350 hg w24 hbox hb; have n0_ := A_ (below_step zg0 hb); have n1_ := A_ (hbox); have n2_ := A_ ((by rw [hg]; exact (below_size zg0) : w.heap.size ≤ gb350)); have n3_ := A_ ((by rw [hg]; exact (below_size zg0) : w.heap.size ≤ gb350)); clear HB; have HB := n0_; have BK350 := n1_; have GW350 := n2_; have GE350 := n3_; clear n0_ n1_ n2_ n3_; clear hb hbox hg; obtain ⟨hcz25_0, hcz25_1, hcz25_2, hcz25_3, hfz25_0, hfz25_1, hfz25_2, hfz25_3⟩ := bz4 BK350.out) | ((with_reducible refine gate_callee (f := 83) rfl ?_); refine goesL_ (some 7) rfl rfl Try.func83 (by kernel_rfl) rfl #[.agg #[.string a0_0, .string a0_1, .slice A0_2 l0_2.length c0_2, .slice A0_3 l0_3.length c0_3]] rfl zg7 ?_; (with_reducible refine (spec_l5All.calls k a0_0 a0_1 _ _ l0_2 _ _ l0_3 t351 true _ ?side1 ?side2 ?side3 ?side4 A2.out).mono ?_); (case side1 => exact zg6); (case side2 => exact HC0_2.out); (case side3 => exact zg8); (case side4 => exact HC0_3.out); rintro e w26 ⟨v352, rfl, ho0, hb⟩; refine ⟨_, rfl, ?_⟩; have n0_ := A_ (Kd.R_lower ho0 (below_size z42b)); have n1_ := A_ (blk_below (g := gb350) (o := .cells #[.string a0_0, .string a0_1, .slice A0_2 l0_2.length c0_2, .slice A0_3 l0_3.length c0_3] 57 (0, 0)) z42h hb); have n2_ := A_ (below_step z42b hb); clear BK350; clear HB; have HO353 := n0_; have BK350 := n1_; have HB := n2_; clear n0_ n1_ n2_))
 replace HO353 := A_ (Kd.R_drew HO353.out)
 replace BK350 := A_ (blk_drew BK350.out)
 replace HB := A_ (below_drew1 HB.out)
 obtain ⟨Ao28, co28, eo28⟩ := Kd.R_slice HO353.out
 (first | subst eo28 | (injection eo28 with f1_ f2_ f3_; have f4_ := f1_.symm; have f5_ := f3_.symm; clear f1_ f2_ f3_; subst f4_; subst f5_))
 have p355 : 0 ≤ (0 : Int) := (by omega)
 have q355 : 0 < (t351.length : Int) := of_decide_eq_true zg2
 obtain ⟨ad355, e355, hx355_0, hx355_1, hx355_2, hx355_3⟩ := at_T31 (Kd.R_reads' HO353.out).2.2 0 p355 q355
 cases e355
 have qi355 : (0 < t351.length) = True := eq_true (by omega)
 (try rw [show ((0 : Int)).toNat = 0 from rfl] at hx355_0)
 (try rw [show 0 * 4 = 0 from rfl] at hx355_0)
 (try rw [Addr.add_zero'] at hx355_0)
 (try rw [show ((0 : Int)).toNat = 0 from rfl] at hx355_1)
 (try rw [show 0 * 4 = 0 from rfl] at hx355_1)
 (try rw [Addr.add_zero'] at hx355_1)
 (try rw [show ((0 : Int)).toNat = 0 from rfl] at hx355_2)
 (try rw [show 0 * 4 = 0 from rfl] at hx355_2)
 (try rw [Addr.add_zero'] at hx355_2)
 (try rw [show ((0 : Int)).toNat = 0 from rfl] at hx355_3)
 (try rw [show 0 * 4 = 0 from rfl] at hx355_3)
 (try rw [Addr.add_zero'] at hx355_3)
 replace p355 := eq_true p355
 replace q355 := eq_true q355
 refine start_ (n := 30) (S := fun w' => w'.cell? ⟨gb350, 0, none⟩ = some (.string a0_0) ∧ w'.cell? ⟨gb350, 1, none⟩ = some (.string a0_1) ∧ w'.cell? ⟨gb350, 2, none⟩ = some (.slice A0_2 l0_2.length c0_2) ∧ w'.cell? ⟨gb350, 3, none⟩ = some (.slice A0_3 l0_3.length c0_3) ∧ w'.cell? ad355 = some (.string ((rd_T31 t351 0).f0)) ∧ w'.cell? ⟨ad355.block, ad355.off + 1, none⟩ = some (.string ((rd_T31 t351 0).f1)) ∧ w'.cell? ⟨ad355.block, ad355.off + 2, none⟩ = some (.int .i64 ((rd_T31 t351 0).f2)) ∧ w'.cell? ⟨ad355.block, ad355.off + 3, none⟩ = some (.bool ((rd_T31 t351 0).f3))) (ds := []) (yx 0 30) (by kernel_rfl) rfl rfl ⟨(blk_cell BK350.out 0).trans rfl, (blk_cell BK350.out 1).trans rfl, (blk_cell BK350.out 2).trans rfl, (blk_cell BK350.out 3).trans rfl, hx355_0, hx355_1, hx355_2, hx355_3⟩ (fun hHeld => ?_); refine with_tabW spec_TableOk.tab2 spec_TableOk.bits2 (fun HT_ HW_ => ?_)
 generalize w26.drew = w27 at HO353 BK350 HB hx355_0 hx355_1 hx355_2 hx355_3 hHeld ⊢
 refine pu_ 0 (some 10) (yx 1 29) ?_
 refine pu_ 1 (some 11) (yx 2 28) ?_
 refine pu_ 2 (some 12) (yx 3 27) ?_
 refine pu_ 4 (some 14) (bs "YYYXYXXXXXXXXXXXXXXXXXXXXXXXXX") ?_
 refine pu_ 5 (some 15) (bs "YYYXYYXXXXXXXXXXXXXXXXXXXXXXXX") ?_
 refine pu_ 6 (some 16) (bs "YYYXYYYXXXXXXXXXXXXXXXXXXXXXXX") ?_
 refine take_ (i := 3) (N := some 13) (v := _) (a' := _) (yx 7 23) rfl rfl (take_ofW HT_.out HW_.out (by kernel_rfl)) (fun _ _ _ h => h) (Or.inl ⟨by rfl, (by rintro w' ⟨s0, s1, s2, s3, s4, s5, s6, s7⟩; go_simp; with_reducible rfl)⟩) hHeld zg1 ?_
 refine take_ (i := 7) (N := some 17) (v := _) (a' := _) (yx 8 22) rfl rfl (take_ofW HT_.out HW_.out (by kernel_rfl)) (fun _ _ _ h => h) (Or.inl ⟨by rfl, (by rintro w' ⟨s0, s1, s2, s3, s4, s5, s6, s7⟩; go_simp; with_reducible rfl)⟩) hHeld zg1 ?_
 refine pu_ 8 (some 18) (yx 9 21) ?_
 refine pu_ 9 (some 19) (yx 10 20) ?_
 refine pu_ 10 (some 20) (yx 11 19) ?_
 refine pn_ 11 (some 21) (yx 12 18) ?_
 refine pn_ 12 (some 22) (yx 13 17) ?_
 refine pn_ 13 (some 23) (yx 14 16) ?_
 refine pn_ 14 (some 24) (yx 15 15) ?_
 refine pn_ 15 (some 25) (yx 16 14) ?_
 refine pn_ 16 (some 26) (yx 17 13) ?_
 refine pn_ 17 (some 27) (yx 18 12) ?_
 refine pn_ 18 (some 28) (yx 19 11) ?_
 refine pn_ 19 (some 29) (yx 20 10) ?_
 refine pn_ 20 (some 30) (yx 21 9) ?_
 refine pu_ 21 (some 31) (yx 22 8) ?_
 refine pu_ 22 (some 32) (yx 23 7) ?_
 refine pn_ 23 (some 33) (yx 24 6) ?_
 refine pn_ 24 (some 34) (yx 25 5) ?_
 refine pn_ 25 (some 35) (yx 26 4) ?_
 refine pn_ 26 (some 36) (yx 27 3) ?_
 refine pn_ 27 (some 37) (yx 28 2) ?_
 refine pu_ 28 (some 38) (yx 29 1) ?_
 refine pu_ 29 (some 2) (yx 30 0) ?_
 refine done_ (done_of HT_.out (by kernel_rfl)) ?_
 try go_wp2
 go_ret
 exact ⟨zr, z42b⟩
 }
 }
 {
 rw [if_neg c4] at H
 exact absurd H (by simp)
 }
 }
 {
 replace c3 := Bool.eq_false_iff.mpr c3
 subst c3
 rw [if_neg Bool.false_ne_true] at H
 obtain rfl := Option.some.inj H
 go_enter Try.func42, Try.ntmps42
 try go_wp2_with (first | ((with_reducible refine gate_dst (N := 1) rfl ?_); (try (refine gate_guard (by rfl) ?_; dsimp only)); refine box_event ?hg (N := 1) ?hd (cs := #[.string a0_0, .string a0_1, .slice A0_2 l0_2.length c0_2, .slice A0_3 l0_3.length c0_3]) (t := 57) ?hr ?_; (case hd => rfl); (case hg => rfl); (case hr => first | (go_simp; done) | (go_simp; rfl)); intro gb350 hg w29 hbox hb; have n0_ := A_ (below_step zg0 hb); have n1_ := A_ (hbox); have n2_ := A_ ((by rw [hg]; exact (below_size zg0) : w.heap.size ≤ gb350)); have n3_ := A_ ((by rw [hg]; exact (below_size zg0) : w.heap.size ≤ gb350)); clear HB; have HB := n0_; have BK350 := n1_; have GW350 := n2_; have GE350 := n3_; clear n0_ n1_ n2_ n3_; clear hb hbox hg; obtain ⟨hcz30_0, hcz30_1, hcz30_2, hcz30_3, hfz30_0, hfz30_1, hfz30_2, hfz30_3⟩ := bz4 BK350.out) | ((with_reducible refine gate_callee (f := 83) rfl ?_); refine goesL_ (some 7) rfl rfl Try.func83 (by kernel_rfl) rfl #[.agg #[.string a0_0, .string a0_1, .slice A0_2 l0_2.length c0_2, .slice A0_3 l0_3.length c0_3]] rfl zg7 ?_; (with_reducible refine (spec_l5All.calls k a0_0 a0_1 _ _ l0_2 _ _ l0_3 t351 false _ ?side1 ?side2 ?side3 ?side4 A2.out).mono ?_); (case side1 => exact zg6); (case side2 => exact HC0_2.out); (case side3 => exact zg8); (case side4 => exact HC0_3.out); rintro e w31 ⟨v352, rfl, ho0, hb⟩; refine ⟨_, rfl, ?_⟩; have n0_ := A_ (Kd.R_lower ho0 (below_size z42b)); have n1_ := A_ (blk_below (g := gb350) (o := .cells #[.string a0_0, .string a0_1, .slice A0_2 l0_2.length c0_2, .slice A0_3 l0_3.length c0_3] 57 (0, 0)) z42h hb); have n2_ := A_ (below_step z42b hb); clear BK350; clear HB; have HO353 := n0_; have BK350 := n1_; have HB := n2_; clear n0_ n1_ n2_))
 replace HO353 := A_ (Kd.R_drew HO353.out)
 replace BK350 := A_ (blk_drew BK350.out)
 replace HB := A_ (below_drew1 HB.out)
 refine start_ (n := 30) (S := fun w' => True) (ds := []) (yx 0 30) (by kernel_rfl) rfl rfl trivial (fun hHeld => ?_); refine with_tabW spec_TableOk.tab2 spec_TableOk.bits2 (fun HT_ HW_ => ?_)
 generalize w31.drew = w32 at HO353 BK350 HB hHeld ⊢
 refine pu_ 0 (some 10) (yx 1 29) ?_
 refine pu_ 1 (some 11) (yx 2 28) ?_
 refine pn_ 2 (some 12) (yx 3 27) ?_
 refine pn_ 3 (some 13) (yx 4 26) ?_
 refine pn_ 4 (some 14) (yx 5 25) ?_
 refine pn_ 5 (some 15) (yx 6 24) ?_
 refine pn_ 6 (some 16) (yx 7 23) ?_
 refine pn_ 7 (some 17) (yx 8 22) ?_
 refine pn_ 8 (some 18) (yx 9 21) ?_
 refine pu_ 9 (some 19) (yx 10 20) ?_
 refine pu_ 10 (some 20) (yx 11 19) ?_
 refine pn_ 11 (some 21) (yx 12 18) ?_
 refine pn_ 12 (some 22) (yx 13 17) ?_
 refine pn_ 13 (some 23) (yx 14 16) ?_
 refine pn_ 14 (some 24) (yx 15 15) ?_
 refine pn_ 15 (some 25) (yx 16 14) ?_
 refine pn_ 16 (some 26) (yx 17 13) ?_
 refine pn_ 17 (some 27) (yx 18 12) ?_
 refine pn_ 18 (some 28) (yx 19 11) ?_
 refine pn_ 19 (some 29) (yx 20 10) ?_
 refine pn_ 20 (some 30) (yx 21 9) ?_
 refine pu_ 21 (some 31) (yx 22 8) ?_
 refine pu_ 22 (some 32) (yx 23 7) ?_
 refine pn_ 23 (some 33) (yx 24 6) ?_
 refine pn_ 24 (some 34) (yx 25 5) ?_
 refine pn_ 25 (some 35) (yx 26 4) ?_
 refine pn_ 26 (some 36) (yx 27 3) ?_
 refine pn_ 27 (some 37) (yx 28 2) ?_
 refine pu_ 28 (some 38) (yx 29 1) ?_
 refine pu_ 29 (some 2) (yx 30 0) ?_
 refine done_ (done_of HT_.out (by kernel_rfl)) ?_
 try go_wp2
 go_ret
 exact ⟨zr, z42b⟩
 
 }
theorem z45a {p_ : Prop} (h_ : p_ := by repeat (first | (with_reducible first | exact HB.out | apply below_alloc | apply pw_below_drewN | apply below_drew1 | refine below_set ?_ GE361.out) | exact HB.out)) : p_ := h_
theorem z45e {p_ : Prop} (h_ : p_ := by (with_reducible repeat (first | refine blk_drewN ?_ _ | refine blk_drew ?_ | refine blk_alloc ?_ _)); exact BK361.out) : p_ := h_
def spec_Entries.f (k : Nat) (a0_0 : ByteArray) (a0_1 : ByteArray) (l0_2 : List Int) (l0_3 : List ByteArray) : Option ((List (S31))) := (spec_l5All.f k a0_0 a0_1 l0_2 l0_3).bind fun bt362 => ((spec_TableOk.f k a0_0 a0_1 l0_2 l0_3).bind fun t366 => (if t366 = true then (some bt362.1) else (some (([] : List (S31))))))
set_option maxHeartbeats 8000000 in
set_option maxRecDepth 100000 in
theorem spec_Entries.calls (k : Nat) (a0_0 : ByteArray) (a0_1 : ByteArray) (A0_2 : Option Addr) (c0_2 : Nat) (l0_2 : List Int) (A0_3 : Option Addr) (c0_3 : Nat) (l0_3 : List ByteArray) (r : List (S31)) (w : World) (hr0_2 : Kd.C (Kd.int .i64) w A0_2 l0_2.length l0_2) (hc0_2 : l0_2.length ≤ c0_2) (hr0_3 : Kd.C Kd.string w A0_3 l0_3.length l0_3) (hc0_3 : l0_3.length ≤ c0_3) (h : spec_Entries.f k a0_0 a0_1 l0_2 l0_3 = some r) :
  Calls Try.prog 45 #[.agg #[.string a0_0, .string a0_1, .slice A0_2 l0_2.length c0_2, .slice A0_3 l0_3.length c0_3]] w fun e w' => ∃ v0_ : Value, e = .returned (v0_) ∧ Kd.R k31 31 w' w.heap.size (fun _ => True) v0_ r ∧ Below w.heap.size w w' := by
 have hu57 := Try.underlying57
 have HR0_2 := A_ hr0_2
 have HC0_2 := A_ hc0_2
 clear hr0_2 hc0_2
 have HR0_3 := A_ hr0_3
 have HC0_3 := A_ hc0_3
 clear hr0_3 hc0_3
 have HB := A_ (Below.refl w.heap.size w)
 have H : ((spec_l5All.f k a0_0 a0_1 l0_2 l0_3).bind fun bt362 => ((spec_TableOk.f k a0_0 a0_1 l0_2 l0_3).bind fun t366 => (if t366 = true then (some bt362.1) else (some (([] : List (S31))))))) = some r := h
 clear h
 replace H := Option.bind_eq_some_iff.mp H
 obtain ⟨⟨t362, t365⟩, A20, H⟩ := H
 (try dsimp only at H)
 have A2 := A_ A20
 clear A20
 replace H := Option.bind_eq_some_iff.mp H
 obtain ⟨t366, A30, H⟩ := H
 (try dsimp only at H)
 have A3 := A_ A30
 clear A30
 by_cases c4 : t366 = true
 {
 subst c4
 rw [if_pos rfl] at H
 obtain rfl := Option.some.inj H
 go_enter Try.func45, Try.ntmps45
 go_wp2_with (first | ((with_reducible refine gate_dst (N := 1) rfl ?_); refine box_event ?hg (N := 1) ?hd (cs := #[.string a0_0, .string a0_1, .slice A0_2 l0_2.length c0_2, .slice A0_3 l0_3.length c0_3]) (t := 57) ?hr ?_; (case hd => rfl); (case hg => rfl); (case hr => first | (go_simp; done) | (go_simp; rfl)); intro gb361 hg w5 hbox hb; have n0_ := A_ (below_step zg0 hb); have n1_ := A_ (hbox); have n2_ := A_ ((by rw [hg]; exact (below_size zg0) : w.heap.size ≤ gb361)); have n3_ := A_ ((by rw [hg]; exact (below_size zg0) : w.heap.size ≤ gb361)); clear HB; have HB := n0_; have BK361 := n1_; have GW361 := n2_; have GE361 := n3_; clear n0_ n1_ n2_ n3_; clear hb hbox hg; obtain ⟨hcz6_0, hcz6_1, hcz6_2, hcz6_3, hfz6_0, hfz6_1, hfz6_2, hfz6_3⟩ := bz4 BK361.out) | ((with_reducible refine gate_callee (f := 83) rfl ?_); refine goesL_ (some 7) rfl rfl Try.func83 (by kernel_rfl) rfl #[.agg #[.string a0_0, .string a0_1, .slice A0_2 l0_2.length c0_2, .slice A0_3 l0_3.length c0_3]] rfl zg7 ?_; (with_reducible refine (spec_l5All.calls k a0_0 a0_1 _ _ l0_2 _ _ l0_3 t362 t365 _ ?side1 ?side2 ?side3 ?side4 A2.out).mono ?_); (case side1 => exact zg6); (case side2 => exact HC0_2.out); (case side3 => exact zg8); (case side4 => exact HC0_3.out); rintro e w7 ⟨v363, rfl, ho0, hb⟩; refine ⟨_, rfl, ?_⟩; have n0_ := A_ (Kd.R_lower ho0 (below_size z45a)); have n1_ := A_ (blk_below (g := gb361) (o := .cells #[.string a0_0, .string a0_1, .slice A0_2 l0_2.length c0_2, .slice A0_3 l0_3.length c0_3] 57 (0, 0)) z45e hb); have n2_ := A_ (below_step z45a hb); clear BK361; clear HB; have HO364 := n0_; have BK361 := n1_; have HB := n2_; clear n0_ n1_ n2_; obtain ⟨hcz8_0, hcz8_1, hcz8_2, hcz8_3, hfz8_0, hfz8_1, hfz8_2, hfz8_3⟩ := bz4 BK361.out) | ((with_reducible refine gate_callee (f := 42) rfl ?_); refine goesL_ (some 11) rfl rfl Try.func42 (by kernel_rfl) rfl #[.agg #[.string a0_0, .string a0_1, .slice A0_2 l0_2.length c0_2, .slice A0_3 l0_3.length c0_3]] rfl zg7 ?_; (with_reducible refine (spec_TableOk.calls k a0_0 a0_1 _ _ l0_2 _ _ l0_3 true _ ?side1 ?side2 ?side3 ?side4 A3.out).mono ?_); (case side1 => exact zg6); (case side2 => exact HC0_2.out); (case side3 => exact zg8); (case side4 => exact HC0_3.out); rintro e w9 ⟨rfl, hb⟩; refine ⟨_, rfl, ?_⟩; replace HO364 := A_ (Kd.R_below (by (with_reducible repeat (first | apply Kd.R_alloc | apply Kd.R_drewN | apply Kd.R_drew)); exact HO364.out) hb); replace BK361 := A_ (blk_below (g := gb361) (o := .cells #[.string a0_0, .string a0_1, .slice A0_2 l0_2.length c0_2, .slice A0_3 l0_3.length c0_3] 57 (0, 0)) z45e hb); replace HB := A_ (below_step z45a hb)))
 go_ret
 exact ⟨_, zr, by (with_reducible repeat (first | apply Kd.R_alloc | apply Kd.R_drewN | apply Kd.R_drew)); exact HO364.out, z45a⟩
 }
 {
 replace c4 := Bool.eq_false_iff.mpr c4
 subst c4
 rw [if_neg Bool.false_ne_true] at H
 obtain ⟨y367, hy367⟩ : ∃ y_ : List (S31), y_ = (([] : List (S31))) := ⟨_, rfl⟩
 replace H : (some y367) = some r := by first | (rw [hy367]; with_reducible exact H) | (have H2_ := (Option.bind_some _ _).symm.trans H; rw [hy367]; with_reducible exact H2_) | (have H2_ := (Option.bind_some _ _).symm.trans H; with_reducible exact H2_) | with_reducible exact H | (rw [hy367]; exact H) | exact H
 have Ny367 := A_ hy367
 clear hy367
 obtain rfl := Option.some.inj H
 go_enter Try.func45, Try.ntmps45
 go_wp2_with (first | ((with_reducible refine gate_dst (N := 1) rfl ?_); refine box_event ?hg (N := 1) ?hd (cs := #[.string a0_0, .string a0_1, .slice A0_2 l0_2.length c0_2, .slice A0_3 l0_3.length c0_3]) (t := 57) ?hr ?_; (case hd => rfl); (case hg => rfl); (case hr => first | (go_simp; done) | (go_simp; rfl)); intro gb361 hg w10 hbox hb; have n0_ := A_ (below_step zg0 hb); have n1_ := A_ (hbox); have n2_ := A_ ((by rw [hg]; exact (below_size zg0) : w.heap.size ≤ gb361)); have n3_ := A_ ((by rw [hg]; exact (below_size zg0) : w.heap.size ≤ gb361)); clear HB; have HB := n0_; have BK361 := n1_; have GW361 := n2_; have GE361 := n3_; clear n0_ n1_ n2_ n3_; clear hb hbox hg; obtain ⟨hcz11_0, hcz11_1, hcz11_2, hcz11_3, hfz11_0, hfz11_1, hfz11_2, hfz11_3⟩ := bz4 BK361.out) | ((with_reducible refine gate_callee (f := 83) rfl ?_); refine goesL_ (some 7) rfl rfl Try.func83 (by kernel_rfl) rfl #[.agg #[.string a0_0, .string a0_1, .slice A0_2 l0_2.length c0_2, .slice A0_3 l0_3.length c0_3]] rfl zg7 ?_; (with_reducible refine (spec_l5All.calls k a0_0 a0_1 _ _ l0_2 _ _ l0_3 t362 t365 _ ?side1 ?side2 ?side3 ?side4 A2.out).mono ?_); (case side1 => exact zg6); (case side2 => exact HC0_2.out); (case side3 => exact zg8); (case side4 => exact HC0_3.out); rintro e w12 ⟨v363, rfl, ho0, hb⟩; refine ⟨_, rfl, ?_⟩; have n0_ := A_ (Kd.R_lower ho0 (below_size z45a)); have n1_ := A_ (blk_below (g := gb361) (o := .cells #[.string a0_0, .string a0_1, .slice A0_2 l0_2.length c0_2, .slice A0_3 l0_3.length c0_3] 57 (0, 0)) z45e hb); have n2_ := A_ (below_step z45a hb); clear BK361; clear HB; have HO364 := n0_; have BK361 := n1_; have HB := n2_; clear n0_ n1_ n2_; obtain ⟨hcz13_0, hcz13_1, hcz13_2, hcz13_3, hfz13_0, hfz13_1, hfz13_2, hfz13_3⟩ := bz4 BK361.out) | ((with_reducible refine gate_callee (f := 42) rfl ?_); refine goesL_ (some 11) rfl rfl Try.func42 (by kernel_rfl) rfl #[.agg #[.string a0_0, .string a0_1, .slice A0_2 l0_2.length c0_2, .slice A0_3 l0_3.length c0_3]] rfl zg7 ?_; (with_reducible refine (spec_TableOk.calls k a0_0 a0_1 _ _ l0_2 _ _ l0_3 false _ ?side1 ?side2 ?side3 ?side4 A3.out).mono ?_); (case side1 => exact zg6); (case side2 => exact HC0_2.out); (case side3 => exact zg8); (case side4 => exact HC0_3.out); rintro e w14 ⟨rfl, hb⟩; refine ⟨_, rfl, ?_⟩; replace HO364 := A_ (Kd.R_below (by (with_reducible repeat (first | apply Kd.R_alloc | apply Kd.R_drewN | apply Kd.R_drew)); exact HO364.out) hb); replace BK361 := A_ (blk_below (g := gb361) (o := .cells #[.string a0_0, .string a0_1, .slice A0_2 l0_2.length c0_2, .slice A0_3 l0_3.length c0_3] 57 (0, 0)) z45e hb); replace HB := A_ (below_step z45a hb)) | ((with_reducible refine gate_dst (N := 13) rfl ?_); refine Kd.R_lit k31 _ 31 ?hg (N := 13) ?hd (xs := ([] : List (S31))) (inner := []) (ok := fun _ => True) (okp := fun _ => True) ?hr ?hp (fun _ hk => hk) trivial (Below.refl _ _) (Nat.le_refl _) (by simp) ?_; (case hd => rfl); (case hg => rfl); (case hr => first | (go_simp; done) | (go_simp; rfl)); (case hp => exact (Reps.none _ _)); intro v368 w15 ho16 hb hg_ hnew_; clear hg_ hnew_; (first | rw [← Ny367.out] at ho16 | (simp only [Int.reduceToNat] at ho16; rw [← Ny367.out] at ho16)); have n0_ := A_ (Kd.R_elder' (by (with_reducible repeat (first | apply Kd.R_alloc | apply Kd.R_drewN | apply Kd.R_drew)); exact HO364.out) (Kd.R_base ho16) hb); have n1_ := A_ (Kd.R_lower (Kd.R_new' ho16 (Kd.R_lt (by (with_reducible repeat (first | apply Kd.R_alloc | apply Kd.R_drewN | apply Kd.R_drew)); exact HO364.out))) (below_size z45a)); have n2_ := A_ (blk_below (g := gb361) (o := .cells #[.string a0_0, .string a0_1, .slice A0_2 l0_2.length c0_2, .slice A0_3 l0_3.length c0_3] 57 (0, 0)) z45e hb); have n3_ := A_ (below_step z45a hb); clear HO364; clear BK361; clear HB; have HO364 := n0_; have HO369 := n1_; have BK361 := n2_; have HB := n3_; clear n0_ n1_ n2_ n3_; clear hb ho16))
 go_ret
 exact ⟨_, zr, by (with_reducible repeat (first | apply Kd.R_alloc | apply Kd.R_drewN | apply Kd.R_drew)); exact Kd.R_mono HO369.out (fun _ hk => trivial), z45a⟩
 
 }
def impl_within.f (a0 : Int) (a1 : Int) (a2 : Int) : Option (Bool) := if a0 ≥ a1 then (some (decide (a0 ≤ a2))) else (some false)
set_option maxHeartbeats 8000000 in
set_option maxRecDepth 100000 in
theorem impl_within.calls (a0 : Int) (a1 : Int) (a2 : Int) (r : Bool) (w : World) (h : impl_within.f a0 a1 a2 = some r) :
  Calls Try.prog 96 #[.int .i64 a0, .int .i64 a1, .int .i64 a2] w fun e w' => e = .returned (.bool r) ∧ Drawn0 w w' := by
 have H : (if a0 ≥ a1 then (some (decide (a0 ≤ a2))) else (some false)) = some r := h
 clear h
 by_cases c4 : a0 ≥ a1
 {
 rw [if_pos c4] at H
 have c4b0 : decide (a1 ≤ a0) = true := decide_eq_true c4
 clear c4
 obtain rfl := Option.some.inj H
 go_enter Try.func96, Try.ntmps96
 go_wp2
 go_ret
 exact ⟨zs, by repeat (first | exact Drawn0.refl _ | apply Drawn0.step)⟩
 }
 {
 rw [if_neg c4] at H
 have c4b0 : decide (a1 ≤ a0) = false := decide_eq_false c4
 clear c4
 obtain rfl := Option.some.inj H
 go_enter Try.func96, Try.ntmps96
 go_wp2
 go_ret
 exact ⟨zs, by repeat (first | exact Drawn0.refl _ | apply Drawn0.step)⟩
 
 }
end Go.Proofs.Ytaiggfjkikfcbaa.PFnExactEntries

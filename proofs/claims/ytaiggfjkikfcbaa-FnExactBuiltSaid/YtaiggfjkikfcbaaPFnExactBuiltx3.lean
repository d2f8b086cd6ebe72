-- by a program of this session (wip/print/run.py) for this claim
import Derived.Test.YtaiggfjkikfcbaaLibPu
import Derived.Test.YtaiggfjkikfcbaaPFnExactBuiltx0
import Derived.Test.YtaiggfjkikfcbaaPFnExactBuiltx2
namespace Go.Proofs.Ytaiggfjkikfcbaa.PFnExactBuilt
open Go.Proofs.Ytaiggfjkikfcbaa.Lib Go.RowKit Go.Proofs.YtaiggfjkikfcbaaW.PrintWords Go.Proofs.YtaiggfjkikfcbaaW.PrintLast Go.Proofs.YtaiggfjkikfcbaaW.PrintMore
attribute [local go_sem] max2_int min2_int max_two min_two max_three min_three max_four min_four   -- for this text's walks alone
set_option linter.unusedVariables false
set_option linter.unusedSimpArgs false

theorem z27a {p_ : Prop} (h_ : p_ := by simp only [Act.put, List.setIfInBounds_toArray, List.set_cons_zero, List.set_cons_succ, i64_w, i32_w]; rfl) : p_ := h_
theorem z27b {p_ : Prop} (h_ : p_ := by first | (with_reducible assumption) | assumption) : p_ := h_
theorem z27c {p_ : Prop} (h_ : p_ := by repeat (first | (with_reducible first | exact HB.out | apply below_alloc | apply pw_below_drewN | apply below_drew1) | exact HB.out)) : p_ := h_
theorem z27d {p_ : Prop} (h_ : p_ := by rintro w' ⟨s0, s1, s2, s3, s4, s5, s6, s7, s8, s9, s10, s11⟩; go_simp; with_reducible rfl) : p_ := h_
theorem z27e {p_ : Prop} (h_ : p_ := by (try simp only [List.map_toArray, List.map_cons, List.map_nil]); first | done | rfl | (simp only [List.length_drop, List.length_take]; rfl)) : p_ := h_
def spec_EntriesOk.l0 : Nat → List (S31) → Int → Option (Bool)
 | 0, _, _ => none
 | k + 1, x0, x3 => if x3 < (x0.length : Int) then (if 0 ≤ x3 then ((spec_l3Entry.f ((rd_T31 x0 x3).f0) ((rd_T31 x0 x3).f1) ((rd_T31 x0 x3).f2) ((rd_T31 x0 x3).f3)).bind fun t136 => (if t136 = true then (if x3 > 0 then (if 0 ≤ (wrap64 (x3 - 1)) then (if (wrap64 (x3 - 1)) < (x0.length : Int) then ((spec_l3Ahead.f ((rd_T31 x0 (wrap64 (x3 - 1))).f0) ((rd_T31 x0 (wrap64 (x3 - 1))).f1) ((rd_T31 x0 (wrap64 (x3 - 1))).f2) ((rd_T31 x0 (wrap64 (x3 - 1))).f3) ((rd_T31 x0 x3).f0) ((rd_T31 x0 x3).f1) ((rd_T31 x0 x3).f2) ((rd_T31 x0 x3).f3)).bind fun t139 => (if t139 = true then (spec_EntriesOk.l0 k x0 (wrap64 (x3 + 1))) else (some false))) else (none)) else (none)) else (spec_EntriesOk.l0 k x0 (wrap64 (x3 + 1)))) else (some false))) else (none)) else (some true)
def spec_EntriesOk.f (k : Nat) (l0 : List (S31)) : Option (Bool) := if (l0.length : Int) > 300 then (some false) else (spec_EntriesOk.l0 k l0 0)
def spec_EntriesOk.T6 : Bool × List (List Nat × List Nat) := (true, [([], []), ([], []), ([0, 1], [0, 1]), ([2], [2]), ([3], [3]), ([4], [4]), ([5, 4], [5]), ([6], [6]), ([7, 6], [6, 7]), ([8, 6, 6], [6, 8]), ([9], [9]), ([9], [9]), ([11, 9], [9, 11]), ([10, 12, 9], [9, 10, 12]), ([13, 9], [9, 13]), ([9], [9]), ([9], [9]), ([15, 16, 9], [9, 15, 16]), ([17, 9], [9, 17]), ([14, 18, 9, 9], [9, 14, 18]), ([19, 9], [9, 19]), ([9, 20, 6], [6, 9, 20]), ([6, 21], [6, 21])])
def spec_EntriesOk.B6 : List Nat := [0, 0, 3, 7, 15, 31, 63, 127, 255, 511, 1023, 1023, 3071, 8191, 16383, 1023, 1023, 99327, 230399, 524287, 1048575, 2097151, 4194303]
theorem spec_EntriesOk.tab6 : rtab .any (opsOf Try.f27 6) = spec_EntriesOk.T6 := by kernel_rfl
theorem spec_EntriesOk.bits6 : waitsOk spec_EntriesOk.T6.2 spec_EntriesOk.B6 = true := by kernel_rfl
set_option maxHeartbeats 8000000 in
set_option maxRecDepth 100000 in
theorem spec_EntriesOk.calls (k : Nat) (A0 : Option Addr) (c0 : Nat) (l0 : List (S31)) (r : Bool) (w : World) (hr0 : Kd.C k31 w A0 l0.length l0) (hc0 : l0.length ≤ c0) (h : spec_EntriesOk.f k l0 = some r) :
  Calls Try.prog 27 #[.slice A0 l0.length c0] w fun e w' => e = .returned (.bool r) ∧ Below w.heap.size w w' := by
 have hu31 := Try.underlying31
 have HR0 := A_ hr0
 have HC0 := A_ hc0
 clear hr0 hc0
 have HB := A_ (Below.refl w.heap.size w)
 have H : (if (l0.length : Int) > 300 then (some false) else (spec_EntriesOk.l0 k l0 0)) = some r := h
 clear h
 by_cases c2 : (l0.length : Int) > 300
 {
 rw [if_pos c2] at H
 have c2b0 : decide (300 < (l0.length : Int)) = true := decide_eq_true c2
 have c2b1 : decide (300 < l0.length) = true := decide_eq_true (by omega)
 clear c2
 obtain rfl := Option.some.inj H
 go_enter Try.func27, Try.ntmps27
 go_wp2
 go_ret
 exact ⟨by first | rfl | (simp [errW_none, errW_some] <;> rfl) | (simp [*, errW_none, errW_some] <;> rfl), by repeat (first | (with_reducible first | exact HB.out | apply below_alloc | apply pw_below_drewN | apply below_drew1) | exact HB.out)⟩
 }
 {
 rw [if_neg c2] at H
 have c2b0 : decide (300 < (l0.length : Int)) = false := decide_eq_false c2
 have c2b1 : decide (300 < l0.length) = false := decide_eq_false (by omega)
 clear c2
 have H' := A_ H
 clear H
 go_enter Try.func27, Try.ntmps27
 go_wp2
 go_loopg [3] k (fun kq v3 w' => ∃ (x3_1 : Int), v3 = .int .i64 x3_1 ∧ Aside0 (spec_EntriesOk.l0 kq l0 x3_1 = some r) ∧ Aside0 (kq ≤ k) ∧ Aside0 (Below w.heap.size w w'))
 case atStart => exact ⟨(0), (by first | rfl | (simp; done) | (simp [*]; done)), H', ⟨Nat.le_refl _⟩, ⟨by repeat (first | (with_reducible first | exact HB.out | apply below_alloc | apply pw_below_drewN | apply below_drew1) | exact HB.out)⟩⟩
 case round =>
  clear H'
  try clear c2
  try clear c2b0
  try clear c2b1
  try clear p2
  obtain ⟨x3_1, rfl, HA, HK1, HB⟩ := hrel
  cases gk with
  | zero => exact absurd HA.out (by simp [spec_EntriesOk.l0])
  | succ k1 =>
   have H := HA.out
   clear HA
   simp only [spec_EntriesOk.l0] at H
   by_cases c3 : x3_1 < (l0.length : Int)
   {
   rw [if_pos c3] at H
   have c3b0 : decide (x3_1 < (l0.length : Int)) = true := decide_eq_true c3
   clear c3
   by_cases c4 : 0 ≤ x3_1
   {
   rw [if_pos c4] at H
   have c4b0 : decide (0 ≤ x3_1) = true := decide_eq_true c4
   clear c4
   replace H := Option.bind_eq_some_iff.mp H
   obtain ⟨t136, A50, H⟩ := H
   replace H : (if t136 = true then (if x3_1 > 0 then (if 0 ≤ (wrap64 (x3_1 - 1)) then (if (wrap64 (x3_1 - 1)) < (l0.length : Int) then ((spec_l3Ahead.f ((rd_T31 l0 (wrap64 (x3_1 - 1))).f0) ((rd_T31 l0 (wrap64 (x3_1 - 1))).f1) ((rd_T31 l0 (wrap64 (x3_1 - 1))).f2) ((rd_T31 l0 (wrap64 (x3_1 - 1))).f3) ((rd_T31 l0 x3_1).f0) ((rd_T31 l0 x3_1).f1) ((rd_T31 l0 x3_1).f2) ((rd_T31 l0 x3_1).f3)).bind fun t139 => (if t139 = true then (spec_EntriesOk.l0 k1 l0 (wrap64 (x3_1 + 1))) else (some false))) else (none)) else (none)) else (spec_EntriesOk.l0 k1 l0 (wrap64 (x3_1 + 1)))) else (some false)) = some r := H
   have A5 := A_ A50
   clear A50
   by_cases c6 : t136 = true
   {
   subst c6
   have H1 : (if x3_1 > 0 then (if 0 ≤ (wrap64 (x3_1 - 1)) then (if (wrap64 (x3_1 - 1)) < (l0.length : Int) then ((spec_l3Ahead.f ((rd_T31 l0 (wrap64 (x3_1 - 1))).f0) ((rd_T31 l0 (wrap64 (x3_1 - 1))).f1) ((rd_T31 l0 (wrap64 (x3_1 - 1))).f2) ((rd_T31 l0 (wrap64 (x3_1 - 1))).f3) ((rd_T31 l0 x3_1).f0) ((rd_T31 l0 x3_1).f1) ((rd_T31 l0 x3_1).f2) ((rd_T31 l0 x3_1).f3)).bind fun t139 => (if t139 = true then (spec_EntriesOk.l0 k1 l0 (wrap64 (x3_1 + 1))) else (some false))) else (none)) else (none)) else (spec_EntriesOk.l0 k1 l0 (wrap64 (x3_1 + 1)))) = some r := by rw [if_pos rfl] at H; exact H
   clear H
   have H := H1
   clear H1
   by_cases c7 : x3_1 > 0
   {
   rw [if_pos c7] at H
   have c7b0 : decide (0 < x3_1) = true := decide_eq_true c7
   clear c7
   obtain ⟨ji8, hji8⟩ : ∃ j_ : Int, (wrap64 (x3_1 - 1)) = j_ := ⟨_, rfl⟩
   replace H : (if 0 ≤ (ji8) then (if (ji8) < (l0.length : Int) then ((spec_l3Ahead.f ((rd_T31 l0 (ji8)).f0) ((rd_T31 l0 (ji8)).f1) ((rd_T31 l0 (ji8)).f2) ((rd_T31 l0 (ji8)).f3) ((rd_T31 l0 x3_1).f0) ((rd_T31 l0 x3_1).f1) ((rd_T31 l0 x3_1).f2) ((rd_T31 l0 x3_1).f3)).bind fun t139 => (if t139 = true then (spec_EntriesOk.l0 k1 l0 (wrap64 (x3_1 + 1))) else (some false))) else (none)) else (none)) = some r := by first | (rw [hji8] at H; exact H) | (simp only [hji8] at H ⊢; exact H)
   (try rw [hji8])
   (try rw [hji8] at A5)
   have hji8w : (IntKind.i64.wrap (x3_1 - 1)) = ji8 := (i64_w _).trans hji8
   by_cases c9 : 0 ≤ (ji8)
   {
   rw [if_pos c9] at H
   have c9b0 : decide (0 ≤ (ji8)) = true := decide_eq_true c9
   clear c9
   by_cases c10 : (ji8) < (l0.length : Int)
   {
   rw [if_pos c10] at H
   have c10b0 : decide ((ji8) < (l0.length : Int)) = true := decide_eq_true c10
   clear c10
   replace H := Option.bind_eq_some_iff.mp H
   obtain ⟨t139, A110, H⟩ := H
   replace H : (if t139 = true then (spec_EntriesOk.l0 k1 l0 (wrap64 (x3_1 + 1))) else (some false)) = some r := H
   have A11 := A_ A110
   clear A110
   by_cases c12 : t139 = true
   {
   subst c12
   have H1 : (spec_EntriesOk.l0 k1 l0 (wrap64 (x3_1 + 1))) = some r := by rw [if_pos rfl] at H; exact H
   clear H
   have H := H1
   clear H1
   have H' := A_ H
   clear H
   try go_wp2
   replace HB := A_ (below_drew1 HB.out)
   have p135 : 0 ≤ (x3_1 : Int) := of_decide_eq_true z27b
   have q135 : x3_1 < (l0.length : Int) := of_decide_eq_true z27b
   obtain ⟨ad135, e135, hx135_0, hx135_1, hx135_2, hx135_3⟩ := at_T31 HR0.out x3_1 p135 q135
   have hw135_3 := hx135_3
   have hw135_2 := hx135_2
   have hw135_1 := hx135_1
   have hw135_0 := hx135_0
   cases e135
   replace hx135_0 := (HB.out.cell (World.block_lt_of_cell? w _ hx135_0)).trans hx135_0
   replace hx135_1 := (HB.out.cell (World.block_lt_of_cell? w _ hx135_1)).trans hx135_1
   replace hx135_2 := (HB.out.cell (World.block_lt_of_cell? w _ hx135_2)).trans hx135_2
   replace hx135_3 := (HB.out.cell (World.block_lt_of_cell? w _ hx135_3)).trans hx135_3
   replace p135 := eq_true p135
   replace q135 := eq_true q135
   have p137 : 0 ≤ ((ji8) : Int) := of_decide_eq_true z27b
   have q137 : (ji8) < (l0.length : Int) := of_decide_eq_true z27b
   obtain ⟨ad137, e137, hx137_0, hx137_1, hx137_2, hx137_3⟩ := at_T31 HR0.out (ji8) p137 q137
   have hw137_3 := hx137_3
   have hw137_2 := hx137_2
   have hw137_1 := hx137_1
   have hw137_0 := hx137_0
   obtain rfl : ad135 = ad137 := (by injection e137)
   replace hx137_0 := (HB.out.cell (World.block_lt_of_cell? w _ hx137_0)).trans hx137_0
   replace hx137_1 := (HB.out.cell (World.block_lt_of_cell? w _ hx137_1)).trans hx137_1
   replace hx137_2 := (HB.out.cell (World.block_lt_of_cell? w _ hx137_2)).trans hx137_2
   replace hx137_3 := (HB.out.cell (World.block_lt_of_cell? w _ hx137_3)).trans hx137_3
   replace p137 := eq_true p137
   replace q137 := eq_true q137
   have p138 : 0 ≤ (x3_1 : Int) := of_decide_eq_true z27b
   have q138 : x3_1 < (l0.length : Int) := of_decide_eq_true z27b
   obtain ⟨ad138, e138, hx138_0, hx138_1, hx138_2, hx138_3⟩ := at_T31 HR0.out x3_1 p138 q138
   have hw138_3 := hx138_3
   have hw138_2 := hx138_2
   have hw138_1 := hx138_1
   have hw138_0 := hx138_0
   obtain rfl : ad135 = ad138 := (by injection e138)
   replace hx138_0 := (HB.out.cell (World.block_lt_of_cell? w _ hx138_0)).trans hx138_0
   replace hx138_1 := (HB.out.cell (World.block_lt_of_cell? w _ hx138_1)).trans hx138_1
   replace hx138_2 := (HB.out.cell (World.block_lt_of_cell? w _ hx138_2)).trans hx138_2
   replace hx138_3 := (HB.out.cell (World.block_lt_of_cell? w _ hx138_3)).trans hx138_3
   replace p138 := eq_true p138
   replace q138 := eq_true q138
   refine start_ (n := 23) (S := fun w' => w'.cell? (ad135.add ((x3_1).toNat * 4)) = some (.string ((rd_T31 l0 x3_1).f0)) ∧ w'.cell? ⟨(ad135.add ((x3_1).toNat * 4)).block, (ad135.add ((x3_1).toNat * 4)).off + 1, none⟩ = some (.string ((rd_T31 l0 x3_1).f1)) ∧ w'.cell? ⟨(ad135.add ((x3_1).toNat * 4)).block, (ad135.add ((x3_1).toNat * 4)).off + 2, none⟩ = some (.int .i64 ((rd_T31 l0 x3_1).f2)) ∧ w'.cell? ⟨(ad135.add ((x3_1).toNat * 4)).block, (ad135.add ((x3_1).toNat * 4)).off + 3, none⟩ = some (.bool ((rd_T31 l0 x3_1).f3)) ∧ w'.cell? (ad135.add (((ji8)).toNat * 4)) = some (.string ((rd_T31 l0 (ji8)).f0)) ∧ w'.cell? ⟨(ad135.add (((ji8)).toNat * 4)).block, (ad135.add (((ji8)).toNat * 4)).off + 1, none⟩ = some (.string ((rd_T31 l0 (ji8)).f1)) ∧ w'.cell? ⟨(ad135.add (((ji8)).toNat * 4)).block, (ad135.add (((ji8)).toNat * 4)).off + 2, none⟩ = some (.int .i64 ((rd_T31 l0 (ji8)).f2)) ∧ w'.cell? ⟨(ad135.add (((ji8)).toNat * 4)).block, (ad135.add (((ji8)).toNat * 4)).off + 3, none⟩ = some (.bool ((rd_T31 l0 (ji8)).f3)) ∧ w'.cell? (ad135.add ((x3_1).toNat * 4)) = some (.string ((rd_T31 l0 x3_1).f0)) ∧ w'.cell? ⟨(ad135.add ((x3_1).toNat * 4)).block, (ad135.add ((x3_1).toNat * 4)).off + 1, none⟩ = some (.string ((rd_T31 l0 x3_1).f1)) ∧ w'.cell? ⟨(ad135.add ((x3_1).toNat * 4)).block, (ad135.add ((x3_1).toNat * 4)).off + 2, none⟩ = some (.int .i64 ((rd_T31 l0 x3_1).f2)) ∧ w'.cell? ⟨(ad135.add ((x3_1).toNat * 4)).block, (ad135.add ((x3_1).toNat * 4)).off + 3, none⟩ = some (.bool ((rd_T31 l0 x3_1).f3))) (ds := []) #[false, false, false, false, false, false, false, false, false, false, false, false, false, false, false, false, false, false, false, false, false, false, false] (by kernel_rfl) rfl rfl ⟨((HB.out.cell (World.block_lt_of_cell? w _ hw135_0)).trans hw135_0), ((HB.out.cell (World.block_lt_of_cell? w _ hw135_1)).trans hw135_1), ((HB.out.cell (World.block_lt_of_cell? w _ hw135_2)).trans hw135_2), ((HB.out.cell (World.block_lt_of_cell? w _ hw135_3)).trans hw135_3), ((HB.out.cell (World.block_lt_of_cell? w _ hw137_0)).trans hw137_0), ((HB.out.cell (World.block_lt_of_cell? w _ hw137_1)).trans hw137_1), ((HB.out.cell (World.block_lt_of_cell? w _ hw137_2)).trans hw137_2), ((HB.out.cell (World.block_lt_of_cell? w _ hw137_3)).trans hw137_3), ((HB.out.cell (World.block_lt_of_cell? w _ hw138_0)).trans hw138_0), ((HB.out.cell (World.block_lt_of_cell? w _ hw138_1)).trans hw138_1), ((HB.out.cell (World.block_lt_of_cell? w _ hw138_2)).trans hw138_2), ((HB.out.cell (World.block_lt_of_cell? w _ hw138_3)).trans hw138_3)⟩ (fun hHeld => ?_); refine with_tabW spec_EntriesOk.tab6 spec_EntriesOk.bits6 (fun HT_ HW_ => ?_)
   generalize wr.drew = w13 at HB hx135_0 hx135_1 hx135_2 hx135_3 hx137_0 hx137_1 hx137_2 hx137_3 hx138_0 hx138_1 hx138_2 hx138_3 hHeld ⊢
   refine pu_ 0 (some 13) #[true, false, false, false, false, false, false, false, false, false, false, false, false, false, false, false, false, false, false, false, false, false, false] ?_
   refine pu_ 1 (some 14) #[true, true, false, false, false, false, false, false, false, false, false, false, false, false, false, false, false, false, false, false, false, false, false] ?_
   refine pu_ 2 (some 15) #[true, true, true, false, false, false, false, false, false, false, false, false, false, false, false, false, false, false, false, false, false, false, false] ?_
   refine take_ (i := 3) (N := some 16) (v := _) (a' := _) #[true, true, true, true, false, false, false, false, false, false, false, false, false, false, false, false, false, false, false, false, false, false, false] rfl rfl (take_ofW HT_.out HW_.out (by kernel_rfl)) (fun _ _ _ h => h) (Or.inl ⟨by rfl, z27d⟩) hHeld z27a ?_
   refine one_ (i := 4) (N := some 17) #[true, true, true, true, true, false, false, false, false, false, false, false, false, false, false, false, false, false, false, false, false, false, false] rfl rfl (one_of HT_.out (by kernel_rfl)) (by decide) (fun K hK => ?_)
   refine goes_ Try.func52 (by kernel_rfl) rfl #[.agg #[.string ((rd_T31 l0 x3_1).f0), .string ((rd_T31 l0 x3_1).f1), .int .i64 ((rd_T31 l0 x3_1).f2), .bool ((rd_T31 l0 x3_1).f3)]] (by rfl) rfl rfl z27e ?_
   with_reducible refine (spec_l3Entry.calls ((rd_T31 l0 x3_1).f0) ((rd_T31 l0 x3_1).f1) ((rd_T31 l0 x3_1).f2) ((rd_T31 l0 x3_1).f3) true _ A5.out).mono ?_
   rintro e w14 ⟨rfl, hb⟩
   refine ⟨_, rfl, ?_⟩
   replace HB := A_ (below_step z27c hb)
   refine hK.out _ _ ⟨((HB.out.cell (World.block_lt_of_cell? w _ hw135_0)).trans hw135_0), ((HB.out.cell (World.block_lt_of_cell? w _ hw135_1)).trans hw135_1), ((HB.out.cell (World.block_lt_of_cell? w _ hw135_2)).trans hw135_2), ((HB.out.cell (World.block_lt_of_cell? w _ hw135_3)).trans hw135_3), ((HB.out.cell (World.block_lt_of_cell? w _ hw137_0)).trans hw137_0), ((HB.out.cell (World.block_lt_of_cell? w _ hw137_1)).trans hw137_1), ((HB.out.cell (World.block_lt_of_cell? w _ hw137_2)).trans hw137_2), ((HB.out.cell (World.block_lt_of_cell? w _ hw137_3)).trans hw137_3), ((HB.out.cell (World.block_lt_of_cell? w _ hw138_0)).trans hw138_0), ((HB.out.cell (World.block_lt_of_cell? w _ hw138_1)).trans hw138_1), ((HB.out.cell (World.block_lt_of_cell? w _ hw138_2)).trans hw138_2), ((HB.out.cell (World.block_lt_of_cell? w _ hw138_3)).trans hw138_3)⟩ (fun hHeld => ?_)
   clear hK K
   refine norm_ (nz_ 17) ?_
   refine pu_ 5 (some 18) #[true, true, true, true, true, true, false, false, false, false, false, false, false, false, false, false, false, false, false, false, false, false, false] ?_
   refine pu_ 6 (some 19) #[true, true, true, true, true, true, true, false, false, false, false, false, false, false, false, false, false, false, false, false, false, false, false] ?_
   refine pu_ 7 (some 20) #[true, true, true, true, true, true, true, true, false, false, false, false, false, false, false, false, false, false, false, false, false, false, false] ?_
   refine pu_ 8 (some 21) #[true, true, true, true, true, true, true, true, true, false, false, false, false, false, false, false, false, false, false, false, false, false, false] ?_
   refine pu_ 9 (some 22) #[true, true, true, true, true, true, true, true, true, true, false, false, false, false, false, false, false, false, false, false, false, false, false] ?_
   refine pu_ 10 (some 23) #[true, true, true, true, true, true, true, true, true, true, true, false, false, false, false, false, false, false, false, false, false, false, false] ?_
   refine pu_ 11 (some 24) #[true, true, true, true, true, true, true, true, true, true, true, true, false, false, false, false, false, false, false, false, false, false, false] ?_
   refine pu_ 12 (some 25) #[true, true, true, true, true, true, true, true, true, true, true, true, true, false, false, false, false, false, false, false, false, false, false] ?_
   refine pu_ 13 (some 26) #[true, true, true, true, true, true, true, true, true, true, true, true, true, true, false, false, false, false, false, false, false, false, false] ?_
   refine pu_ 15 (some 28) #[true, true, true, true, true, true, true, true, true, true, true, true, true, true, false, true, false, false, false, false, false, false, false] ?_
   refine pu_ 16 (some 29) #[true, true, true, true, true, true, true, true, true, true, true, true, true, true, false, true, true, false, false, false, false, false, false] ?_
   refine pu_ 17 (some 30) #[true, true, true, true, true, true, true, true, true, true, true, true, true, true, false, true, true, true, false, false, false, false, false] ?_
   refine take_ (i := 14) (N := some 27) (v := _) (a' := _) #[true, true, true, true, true, true, true, true, true, true, true, true, true, true, true, true, true, true, false, false, false, false, false] rfl rfl (take_ofW HT_.out HW_.out (by kernel_rfl)) (fun _ _ _ h => h) (Or.inl ⟨by rfl, z27d⟩) hHeld z27a ?_
   refine take_ (i := 18) (N := some 31) (v := _) (a' := _) #[true, true, true, true, true, true, true, true, true, true, true, true, true, true, true, true, true, true, true, false, false, false, false] rfl rfl (take_ofW HT_.out HW_.out (by kernel_rfl)) (fun _ _ _ h => h) (Or.inl ⟨by rfl, z27d⟩) hHeld z27a ?_
   refine one_ (i := 19) (N := some 32) #[true, true, true, true, true, true, true, true, true, true, true, true, true, true, true, true, true, true, true, true, false, false, false] rfl rfl (one_of HT_.out (by kernel_rfl)) (by decide) (fun K hK => ?_)
   refine goes_ Try.func66 (by kernel_rfl) rfl #[.agg #[.string ((rd_T31 l0 (ji8)).f0), .string ((rd_T31 l0 (ji8)).f1), .int .i64 ((rd_T31 l0 (ji8)).f2), .bool ((rd_T31 l0 (ji8)).f3)], .agg #[.string ((rd_T31 l0 x3_1).f0), .string ((rd_T31 l0 x3_1).f1), .int .i64 ((rd_T31 l0 x3_1).f2), .bool ((rd_T31 l0 x3_1).f3)]] (by rfl) rfl rfl (by (try simp only [List.map_toArray, List.map_cons, List.map_nil]); first | done | (simp only [hji8]; rfl) | rfl | (simp only [List.length_drop, List.length_take]; rfl)) ?_
   with_reducible refine (spec_l3Ahead.calls ((rd_T31 l0 (ji8)).f0) ((rd_T31 l0 (ji8)).f1) ((rd_T31 l0 (ji8)).f2) ((rd_T31 l0 (ji8)).f3) ((rd_T31 l0 x3_1).f0) ((rd_T31 l0 x3_1).f1) ((rd_T31 l0 x3_1).f2) ((rd_T31 l0 x3_1).f3) true _ A11.out).mono ?_
   rintro e w15 ⟨rfl, hb⟩
   refine ⟨_, rfl, ?_⟩
   replace HB := A_ (below_step z27c hb)
   refine hK.out _ _ ⟨((HB.out.cell (World.block_lt_of_cell? w _ hw135_0)).trans hw135_0), ((HB.out.cell (World.block_lt_of_cell? w _ hw135_1)).trans hw135_1), ((HB.out.cell (World.block_lt_of_cell? w _ hw135_2)).trans hw135_2), ((HB.out.cell (World.block_lt_of_cell? w _ hw135_3)).trans hw135_3), ((HB.out.cell (World.block_lt_of_cell? w _ hw137_0)).trans hw137_0), ((HB.out.cell (World.block_lt_of_cell? w _ hw137_1)).trans hw137_1), ((HB.out.cell (World.block_lt_of_cell? w _ hw137_2)).trans hw137_2), ((HB.out.cell (World.block_lt_of_cell? w _ hw137_3)).trans hw137_3), ((HB.out.cell (World.block_lt_of_cell? w _ hw138_0)).trans hw138_0), ((HB.out.cell (World.block_lt_of_cell? w _ hw138_1)).trans hw138_1), ((HB.out.cell (World.block_lt_of_cell? w _ hw138_2)).trans hw138_2), ((HB.out.cell (World.block_lt_of_cell? w _ hw138_3)).trans hw138_3)⟩ (fun hHeld => ?_)
   clear hK K
   refine norm_ (nz_ 32) ?_
   refine pu_ 20 (some 33) #[true, true, true, true, true, true, true, true, true, true, true, true, true, true, true, true, true, true, true, true, true, false, false] ?_
   refine pu_ 21 (some 34) #[true, true, true, true, true, true, true, true, true, true, true, true, true, true, true, true, true, true, true, true, true, true, false] ?_
   refine pu_ 22 (some 35) #[true, true, true, true, true, true, true, true, true, true, true, true, true, true, true, true, true, true, true, true, true, true, true] ?_
   refine done_ (done_of HT_.out (by kernel_rfl)) ?_
   try go_wp2
   go_roundg k1
   case measure => have := HK1.out; omega
   case rel => exact ⟨(wrap64 (x3_1 + 1)), (by first | rfl | (simp; done) | (simp [*]; done)), H', ⟨by have := HK1.out; omega⟩, ⟨by repeat (first | (with_reducible first | exact HB.out | apply below_alloc | apply pw_below_drewN | apply below_drew1) | exact HB.out)⟩⟩
   }
   {
   replace c12 := Bool.eq_false_iff.mpr c12
   subst c12
   have H1 : (some false) = some r := by rw [if_neg (show ¬ (false = true) by decide)] at H; exact H
   clear H
   have H := H1
   clear H1
   obtain rfl := Option.some.inj H
   try go_wp2
   replace HB := A_ (below_drew1 HB.out)
   have p135 : 0 ≤ (x3_1 : Int) := of_decide_eq_true z27b
   have q135 : x3_1 < (l0.length : Int) := of_decide_eq_true z27b
   obtain ⟨ad135, e135, hx135_0, hx135_1, hx135_2, hx135_3⟩ := at_T31 HR0.out x3_1 p135 q135
   have hw135_3 := hx135_3
   have hw135_2 := hx135_2
   have hw135_1 := hx135_1
   have hw135_0 := hx135_0
   cases e135
   replace hx135_0 := (HB.out.cell (World.block_lt_of_cell? w _ hx135_0)).trans hx135_0
   replace hx135_1 := (HB.out.cell (World.block_lt_of_cell? w _ hx135_1)).trans hx135_1
   replace hx135_2 := (HB.out.cell (World.block_lt_of_cell? w _ hx135_2)).trans hx135_2
   replace hx135_3 := (HB.out.cell (World.block_lt_of_cell? w _ hx135_3)).trans hx135_3
   replace p135 := eq_true p135
   replace q135 := eq_true q135
   have p137 : 0 ≤ ((ji8) : Int) := of_decide_eq_true z27b
   have q137 : (ji8) < (l0.length : Int) := of_decide_eq_true z27b
   obtain ⟨ad137, e137, hx137_0, hx137_1, hx137_2, hx137_3⟩ := at_T31 HR0.out (ji8) p137 q137
   have hw137_3 := hx137_3
   have hw137_2 := hx137_2
   have hw137_1 := hx137_1
   have hw137_0 := hx137_0
   obtain rfl : ad135 = ad137 := (by injection e137)
   replace hx137_0 := (HB.out.cell (World.block_lt_of_cell? w _ hx137_0)).trans hx137_0
   replace hx137_1 := (HB.out.cell (World.block_lt_of_cell? w _ hx137_1)).trans hx137_1
   replace hx137_2 := (HB.out.cell (World.block_lt_of_cell? w _ hx137_2)).trans hx137_2
   replace hx137_3 := (HB.out.cell (World.block_lt_of_cell? w _ hx137_3)).trans hx137_3
   replace p137 := eq_true p137
   replace q137 := eq_true q137
   have p138 : 0 ≤ (x3_1 : Int) := of_decide_eq_true z27b
   have q138 : x3_1 < (l0.length : Int) := of_decide_eq_true z27b
   obtain ⟨ad138, e138, hx138_0, hx138_1, hx138_2, hx138_3⟩ := at_T31 HR0.out x3_1 p138 q138
   have hw138_3 := hx138_3
   have hw138_2 := hx138_2
   have hw138_1 := hx138_1
   have hw138_0 := hx138_0
   obtain rfl : ad135 = ad138 := (by injection e138)
   replace hx138_0 := (HB.out.cell (World.block_lt_of_cell? w _ hx138_0)).trans hx138_0
   replace hx138_1 := (HB.out.cell (World.block_lt_of_cell? w _ hx138_1)).trans hx138_1
   replace hx138_2 := (HB.out.cell (World.block_lt_of_cell? w _ hx138_2)).trans hx138_2
   replace hx138_3 := (HB.out.cell (World.block_lt_of_cell? w _ hx138_3)).trans hx138_3
   replace p138 := eq_true p138
   replace q138 := eq_true q138
   refine start_ (n := 23) (S := fun w' => w'.cell? (ad135.add ((x3_1).toNat * 4)) = some (.string ((rd_T31 l0 x3_1).f0)) ∧ w'.cell? ⟨(ad135.add ((x3_1).toNat * 4)).block, (ad135.add ((x3_1).toNat * 4)).off + 1, none⟩ = some (.string ((rd_T31 l0 x3_1).f1)) ∧ w'.cell? ⟨(ad135.add ((x3_1).toNat * 4)).block, (ad135.add ((x3_1).toNat * 4)).off + 2, none⟩ = some (.int .i64 ((rd_T31 l0 x3_1).f2)) ∧ w'.cell? ⟨(ad135.add ((x3_1).toNat * 4)).block, (ad135.add ((x3_1).toNat * 4)).off + 3, none⟩ = some (.bool ((rd_T31 l0 x3_1).f3)) ∧ w'.cell? (ad135.add (((ji8)).toNat * 4)) = some (.string ((rd_T31 l0 (ji8)).f0)) ∧ w'.cell? ⟨(ad135.add (((ji8)).toNat * 4)).block, (ad135.add (((ji8)).toNat * 4)).off + 1, none⟩ = some (.string ((rd_T31 l0 (ji8)).f1)) ∧ w'.cell? ⟨(ad135.add (((ji8)).toNat * 4)).block, (ad135.add (((ji8)).toNat * 4)).off + 2, none⟩ = some (.int .i64 ((rd_T31 l0 (ji8)).f2)) ∧ w'.cell? ⟨(ad135.add (((ji8)).toNat * 4)).block, (ad135.add (((ji8)).toNat * 4)).off + 3, none⟩ = some (.bool ((rd_T31 l0 (ji8)).f3)) ∧ w'.cell? (ad135.add ((x3_1).toNat * 4)) = some (.string ((rd_T31 l0 x3_1).f0)) ∧ w'.cell? ⟨(ad135.add ((x3_1).toNat * 4)).block, (ad135.add ((x3_1).toNat * 4)).off + 1, none⟩ = some (.string ((rd_T31 l0 x3_1).f1)) ∧ w'.cell? ⟨(ad135.add ((x3_1).toNat * 4)).block, (ad135.add ((x3_1).toNat * 4)).off + 2, none⟩ = some (.int .i64 ((rd_T31 l0 x3_1).f2)) ∧ w'.cell? ⟨(ad135.add ((x3_1).toNat * 4)).block, (ad135.add ((x3_1).toNat * 4)).off + 3, none⟩ = some (.bool ((rd_T31 l0 x3_1).f3))) (ds := []) #[false, false, false, false, false, false, false, false, false, false, false, false, false, false, false, false, false, false, false, false, false, false, false] (by kernel_rfl) rfl rfl ⟨((HB.out.cell (World.block_lt_of_cell? w _ hw135_0)).trans hw135_0), ((HB.out.cell (World.block_lt_of_cell? w _ hw135_1)).trans hw135_1), ((HB.out.cell (World.block_lt_of_cell? w _ hw135_2)).trans hw135_2), ((HB.out.cell (World.block_lt_of_cell? w _ hw135_3)).trans hw135_3), ((HB.out.cell (World.block_lt_of_cell? w _ hw137_0)).trans hw137_0), ((HB.out.cell (World.block_lt_of_cell? w _ hw137_1)).trans hw137_1), ((HB.out.cell (World.block_lt_of_cell? w _ hw137_2)).trans hw137_2), ((HB.out.cell (World.block_lt_of_cell? w _ hw137_3)).trans hw137_3), ((HB.out.cell (World.block_lt_of_cell? w _ hw138_0)).trans hw138_0), ((HB.out.cell (World.block_lt_of_cell? w _ hw138_1)).trans hw138_1), ((HB.out.cell (World.block_lt_of_cell? w _ hw138_2)).trans hw138_2), ((HB.out.cell (World.block_lt_of_cell? w _ hw138_3)).trans hw138_3)⟩ (fun hHeld => ?_); refine with_tabW spec_EntriesOk.tab6 spec_EntriesOk.bits6 (fun HT_ HW_ => ?_)
   generalize wr.drew = w16 at HB hx135_0 hx135_1 hx135_2 hx135_3 hx137_0 hx137_1 hx137_2 hx137_3 hx138_0 hx138_1 hx138_2 hx138_3 hHeld ⊢
   refine pu_ 0 (some 13) #[true, false, false, false, false, false, false, false, false, false, false, false, false, false, false, false, false, false, false, false, false, false, false] ?_
   refine pu_ 1 (some 14) #[true, true, false, false, false, false, false, false, false, false, false, false, false, false, false, false, false, false, false, false, false, false, false] ?_
   refine pu_ 2 (some 15) #[true, true, true, false, false, false, false, false, false, false, false, false, false, false, false, false, false, false, false, false, false, false, false] ?_
   refine take_ (i := 3) (N := some 16) (v := _) (a' := _) #[true, true, true, true, false, false, false, false, false, false, false, false, false, false, false, false, false, false, false, false, false, false, false] rfl rfl (take_ofW HT_.out HW_.out (by kernel_rfl)) (fun _ _ _ h => h) (Or.inl ⟨by rfl, z27d⟩) hHeld z27a ?_
   refine one_ (i := 4) (N := some 17) #[true, true, true, true, true, false, false, false, false, false, false, false, false, false, false, false, false, false, false, false, false, false, false] rfl rfl (one_of HT_.out (by kernel_rfl)) (by decide) (fun K hK => ?_)
   refine goes_ Try.func52 (by kernel_rfl) rfl #[.agg #[.string ((rd_T31 l0 x3_1).f0), .string ((rd_T31 l0 x3_1).f1), .int .i64 ((rd_T31 l0 x3_1).f2), .bool ((rd_T31 l0 x3_1).f3)]] (by rfl) rfl rfl z27e ?_
   with_reducible refine (spec_l3Entry.calls ((rd_T31 l0 x3_1).f0) ((rd_T31 l0 x3_1).f1) ((rd_T31 l0 x3_1).f2) ((rd_T31 l0 x3_1).f3) true _ A5.out).mono ?_
   rintro e w17 ⟨rfl, hb⟩
   refine ⟨_, rfl, ?_⟩
   replace HB := A_ (below_step z27c hb)
   refine hK.out _ _ ⟨((HB.out.cell (World.block_lt_of_cell? w _ hw135_0)).trans hw135_0), ((HB.out.cell (World.block_lt_of_cell? w _ hw135_1)).trans hw135_1), ((HB.out.cell (World.block_lt_of_cell? w _ hw135_2)).trans hw135_2), ((HB.out.cell (World.block_lt_of_cell? w _ hw135_3)).trans hw135_3), ((HB.out.cell (World.block_lt_of_cell? w _ hw137_0)).trans hw137_0), ((HB.out.cell (World.block_lt_of_cell? w _ hw137_1)).trans hw137_1), ((HB.out.cell (World.block_lt_of_cell? w _ hw137_2)).trans hw137_2), ((HB.out.cell (World.block_lt_of_cell? w _ hw137_3)).trans hw137_3), ((HB.out.cell (World.block_lt_of_cell? w _ hw138_0)).trans hw138_0), ((HB.out.cell (World.block_lt_of_cell? w _ hw138_1)).trans hw138_1), ((HB.out.cell (World.block_lt_of_cell? w _ hw138_2)).trans hw138_2), ((HB.out.cell (World.block_lt_of_cell? w _ hw138_3)).trans hw138_3)⟩ (fun hHeld => ?_)
   clear hK K
   refine norm_ (nz_ 17) ?_
   refine pu_ 5 (some 18) #[true, true, true, true, true, true, false, false, false, false, false, false, false, false, false, false, false, false, false, false, false, false, false] ?_
   refine pu_ 6 (some 19) #[true, true, true, true, true, true, true, false, false, false, false, false, false, false, false, false, false, false, false, false, false, false, false] ?_
   refine pu_ 7 (some 20) #[true, true, true, true, true, true, true, true, false, false, false, false, false, false, false, false, false, false, false, false, false, false, false] ?_
   refine pu_ 8 (some 21) #[true, true, true, true, true, true, true, true, true, false, false, false, false, false, false, false, false, false, false, false, false, false, false] ?_
   refine pu_ 9 (some 22) #[true, true, true, true, true, true, true, true, true, true, false, false, false, false, false, false, false, false, false, false, false, false, false] ?_
   refine pu_ 10 (some 23) #[true, true, true, true, true, true, true, true, true, true, true, false, false, false, false, false, false, false, false, false, false, false, false] ?_
   refine pu_ 11 (some 24) #[true, true, true, true, true, true, true, true, true, true, true, true, false, false, false, false, false, false, false, false, false, false, false] ?_
   refine pu_ 12 (some 25) #[true, true, true, true, true, true, true, true, true, true, true, true, true, false, false, false, false, false, false, false, false, false, false] ?_
   refine pu_ 13 (some 26) #[true, true, true, true, true, true, true, true, true, true, true, true, true, true, false, false, false, false, false, false, false, false, false] ?_
   refine pu_ 15 (some 28) #[true, true, true, true, true, true, true, true, true, true, true, true, true, true, false, true, false, false, false, false, false, false, false] ?_
   refine pu_ 16 (some 29) #[true, true, true, true, true, true, true, true, true, true, true, true, true, true, false, true, true, false, false, false, false, false, false] ?_
   refine pu_ 17 (some 30) #[true, true, true, true, true, true, true, true, true, true, true, true, true, true, false, true, true, true, false, false, false, false, false] ?_
   refine take_ (i := 14) (N := some 27) (v := _) (a' := _) #[true, true, true, true, true, true, true, true, true, true, true, true, true, true, true, true, true, true, false, false, false, false, false] rfl rfl (take_ofW HT_.out HW_.out (by kernel_rfl)) (fun _ _ _ h => h) (Or.inl ⟨by rfl, z27d⟩) hHeld z27a ?_
   refine take_ (i := 18) (N := some 31) (v := _) (a' := _) #[true, true, true, true, true, true, true, true, true, true, true, true, true, true, true, true, true, true, true, false, false, false, false] rfl rfl (take_ofW HT_.out HW_.out (by kernel_rfl)) (fun _ _ _ h => h) (Or.inl ⟨by rfl, z27d⟩) hHeld z27a ?_
   refine one_ (i := 19) (N := some 32) #[true, true, true, true, true, true, true, true, true, true, true, true, true, true, true, true, true, true, true, true, false, false, false] rfl rfl (one_of HT_.out (by kernel_rfl)) (by decide) (fun K hK => ?_)
   refine goes_ Try.func66 (by kernel_rfl) rfl #[.agg #[.string ((rd_T31 l0 (ji8)).f0), .string ((rd_T31 l0 (ji8)).f1), .int .i64 ((rd_T31 l0 (ji8)).f2), .bool ((rd_T31 l0 (ji8)).f3)], .agg #[.string ((rd_T31 l0 x3_1).f0), .string ((rd_T31 l0 x3_1).f1), .int .i64 ((rd_T31 l0 x3_1).f2), .bool ((rd_T31 l0 x3_1).f3)]] (by rfl) rfl rfl (by (try simp only [List.map_toArray, List.map_cons, List.map_nil]); first | done | (simp only [hji8]; rfl) | rfl | (simp only [List.length_drop, List.length_take]; rfl)) ?_
   with_reducible refine (spec_l3Ahead.calls ((rd_T31 l0 (ji8)).f0) ((rd_T31 l0 (ji8)).f1) ((rd_T31 l0 (ji8)).f2) ((rd_T31 l0 (ji8)).f3) ((rd_T31 l0 x3_1).f0) ((rd_T31 l0 x3_1).f1) ((rd_T31 l0 x3_1).f2) ((rd_T31 l0 x3_1).f3) false _ A11.out).mono ?_
   rintro e w18 ⟨rfl, hb⟩
   refine ⟨_, rfl, ?_⟩
   replace HB := A_ (below_step z27c hb)
   refine hK.out _ _ ⟨((HB.out.cell (World.block_lt_of_cell? w _ hw135_0)).trans hw135_0), ((HB.out.cell (World.block_lt_of_cell? w _ hw135_1)).trans hw135_1), ((HB.out.cell (World.block_lt_of_cell? w _ hw135_2)).trans hw135_2), ((HB.out.cell (World.block_lt_of_cell? w _ hw135_3)).trans hw135_3), ((HB.out.cell (World.block_lt_of_cell? w _ hw137_0)).trans hw137_0), ((HB.out.cell (World.block_lt_of_cell? w _ hw137_1)).trans hw137_1), ((HB.out.cell (World.block_lt_of_cell? w _ hw137_2)).trans hw137_2), ((HB.out.cell (World.block_lt_of_cell? w _ hw137_3)).trans hw137_3), ((HB.out.cell (World.block_lt_of_cell? w _ hw138_0)).trans hw138_0), ((HB.out.cell (World.block_lt_of_cell? w _ hw138_1)).trans hw138_1), ((HB.out.cell (World.block_lt_of_cell? w _ hw138_2)).trans hw138_2), ((HB.out.cell (World.block_lt_of_cell? w _ hw138_3)).trans hw138_3)⟩ (fun hHeld => ?_)
   clear hK K
   refine norm_ (nz_ 32) ?_
   refine pu_ 20 (some 33) #[true, true, true, true, true, true, true, true, true, true, true, true, true, true, true, true, true, true, true, true, true, false, false] ?_
   refine pu_ 21 (some 34) #[true, true, true, true, true, true, true, true, true, true, true, true, true, true, true, true, true, true, true, true, true, true, false] ?_
   refine pu_ 22 (some 35) #[true, true, true, true, true, true, true, true, true, true, true, true, true, true, true, true, true, true, true, true, true, true, true] ?_
   refine done_ (done_of HT_.out (by kernel_rfl)) ?_
   try go_wp2
   go_ret
   exact ⟨by first | rfl | (simp [errW_none, errW_some] <;> rfl) | (simp only [← hji8]; first | rfl | (simp [errW_none, errW_some] <;> rfl)) | (simp [*, errW_none, errW_some] <;> rfl), by repeat (first | (with_reducible first | exact HB.out | apply below_alloc | apply pw_below_drewN | apply below_drew1) | exact HB.out)⟩
   }
   }
   {
   rw [if_neg c10] at H
   exact absurd H (by simp)
   }
   }
   {
   rw [if_neg c9] at H
   exact absurd H (by simp)
   }
   }
   {
   rw [if_neg c7] at H
   have c7b0 : decide (0 < x3_1) = false := decide_eq_false c7
   clear c7
   have H' := A_ H
   clear H
   try go_wp2
   replace HB := A_ (below_drew1 HB.out)
   have p135 : 0 ≤ (x3_1 : Int) := of_decide_eq_true z27b
   have q135 : x3_1 < (l0.length : Int) := of_decide_eq_true z27b
   obtain ⟨ad135, e135, hx135_0, hx135_1, hx135_2, hx135_3⟩ := at_T31 HR0.out x3_1 p135 q135
   have hw135_3 := hx135_3
   have hw135_2 := hx135_2
   have hw135_1 := hx135_1
   have hw135_0 := hx135_0
   cases e135
   replace hx135_0 := (HB.out.cell (World.block_lt_of_cell? w _ hx135_0)).trans hx135_0
   replace hx135_1 := (HB.out.cell (World.block_lt_of_cell? w _ hx135_1)).trans hx135_1
   replace hx135_2 := (HB.out.cell (World.block_lt_of_cell? w _ hx135_2)).trans hx135_2
   replace hx135_3 := (HB.out.cell (World.block_lt_of_cell? w _ hx135_3)).trans hx135_3
   replace p135 := eq_true p135
   replace q135 := eq_true q135
   refine start_ (n := 23) (S := fun w' => w'.cell? (ad135.add ((x3_1).toNat * 4)) = some (.string ((rd_T31 l0 x3_1).f0)) ∧ w'.cell? ⟨(ad135.add ((x3_1).toNat * 4)).block, (ad135.add ((x3_1).toNat * 4)).off + 1, none⟩ = some (.string ((rd_T31 l0 x3_1).f1)) ∧ w'.cell? ⟨(ad135.add ((x3_1).toNat * 4)).block, (ad135.add ((x3_1).toNat * 4)).off + 2, none⟩ = some (.int .i64 ((rd_T31 l0 x3_1).f2)) ∧ w'.cell? ⟨(ad135.add ((x3_1).toNat * 4)).block, (ad135.add ((x3_1).toNat * 4)).off + 3, none⟩ = some (.bool ((rd_T31 l0 x3_1).f3))) (ds := []) #[false, false, false, false, false, false, false, false, false, false, false, false, false, false, false, false, false, false, false, false, false, false, false] (by kernel_rfl) rfl rfl ⟨((HB.out.cell (World.block_lt_of_cell? w _ hw135_0)).trans hw135_0), ((HB.out.cell (World.block_lt_of_cell? w _ hw135_1)).trans hw135_1), ((HB.out.cell (World.block_lt_of_cell? w _ hw135_2)).trans hw135_2), ((HB.out.cell (World.block_lt_of_cell? w _ hw135_3)).trans hw135_3)⟩ (fun hHeld => ?_); refine with_tabW spec_EntriesOk.tab6 spec_EntriesOk.bits6 (fun HT_ HW_ => ?_)
   generalize wr.drew = w19 at HB hx135_0 hx135_1 hx135_2 hx135_3 hHeld ⊢
   refine pu_ 0 (some 13) #[true, false, false, false, false, false, false, false, false, false, false, false, false, false, false, false, false, false, false, false, false, false, false] ?_
   refine pu_ 1 (some 14) #[true, true, false, false, false, false, false, false, false, false, false, false, false, false, false, false, false, false, false, false, false, false, false] ?_
   refine pu_ 2 (some 15) #[true, true, true, false, false, false, false, false, false, false, false, false, false, false, false, false, false, false, false, false, false, false, false] ?_
   refine take_ (i := 3) (N := some 16) (v := _) (a' := _) #[true, true, true, true, false, false, false, false, false, false, false, false, false, false, false, false, false, false, false, false, false, false, false] rfl rfl (take_ofW HT_.out HW_.out (by kernel_rfl)) (fun _ _ _ h => h) (Or.inl ⟨by rfl, (by rintro w' ⟨s0, s1, s2, s3⟩; go_simp; with_reducible rfl)⟩) hHeld z27a ?_
   refine one_ (i := 4) (N := some 17) #[true, true, true, true, true, false, false, false, false, false, false, false, false, false, false, false, false, false, false, false, false, false, false] rfl rfl (one_of HT_.out (by kernel_rfl)) (by decide) (fun K hK => ?_)
   refine goes_ Try.func52 (by kernel_rfl) rfl #[.agg #[.string ((rd_T31 l0 x3_1).f0), .string ((rd_T31 l0 x3_1).f1), .int .i64 ((rd_T31 l0 x3_1).f2), .bool ((rd_T31 l0 x3_1).f3)]] (by rfl) rfl rfl z27e ?_
   with_reducible refine (spec_l3Entry.calls ((rd_T31 l0 x3_1).f0) ((rd_T31 l0 x3_1).f1) ((rd_T31 l0 x3_1).f2) ((rd_T31 l0 x3_1).f3) true _ A5.out).mono ?_
   rintro e w20 ⟨rfl, hb⟩
   refine ⟨_, rfl, ?_⟩
   replace HB := A_ (below_step z27c hb)
   refine hK.out _ _ ⟨((HB.out.cell (World.block_lt_of_cell? w _ hw135_0)).trans hw135_0), ((HB.out.cell (World.block_lt_of_cell? w _ hw135_1)).trans hw135_1), ((HB.out.cell (World.block_lt_of_cell? w _ hw135_2)).trans hw135_2), ((HB.out.cell (World.block_lt_of_cell? w _ hw135_3)).trans hw135_3)⟩ (fun hHeld => ?_)
   clear hK K
   refine norm_ (nz_ 17) ?_
   refine pu_ 5 (some 18) #[true, true, true, true, true, true, false, false, false, false, false, false, false, false, false, false, false, false, false, false, false, false, false] ?_
   refine pu_ 6 (some 19) #[true, true, true, true, true, true, true, false, false, false, false, false, false, false, false, false, false, false, false, false, false, false, false] ?_
   refine pu_ 7 (some 20) #[true, true, true, true, true, true, true, true, false, false, false, false, false, false, false, false, false, false, false, false, false, false, false] ?_
   refine pu_ 8 (some 21) #[true, true, true, true, true, true, true, true, true, false, false, false, false, false, false, false, false, false, false, false, false, false, false] ?_
   refine pu_ 9 (some 22) #[true, true, true, true, true, true, true, true, true, true, false, false, false, false, false, false, false, false, false, false, false, false, false] ?_
   refine pn_ 10 (some 23) #[true, true, true, true, true, true, true, true, true, true, true, false, false, false, false, false, false, false, false, false, false, false, false] ?_
   refine pn_ 11 (some 24) #[true, true, true, true, true, true, true, true, true, true, true, true, false, false, false, false, false, false, false, false, false, false, false] ?_
   refine pn_ 12 (some 25) #[true, true, true, true, true, true, true, true, true, true, true, true, true, false, false, false, false, false, false, false, false, false, false] ?_
   refine pn_ 13 (some 26) #[true, true, true, true, true, true, true, true, true, true, true, true, true, true, false, false, false, false, false, false, false, false, false] ?_
   refine pn_ 14 (some 27) #[true, true, true, true, true, true, true, true, true, true, true, true, true, true, true, false, false, false, false, false, false, false, false] ?_
   refine pn_ 15 (some 28) #[true, true, true, true, true, true, true, true, true, true, true, true, true, true, true, true, false, false, false, false, false, false, false] ?_
   refine pn_ 16 (some 29) #[true, true, true, true, true, true, true, true, true, true, true, true, true, true, true, true, true, false, false, false, false, false, false] ?_
   refine pn_ 17 (some 30) #[true, true, true, true, true, true, true, true, true, true, true, true, true, true, true, true, true, true, false, false, false, false, false] ?_
   refine pn_ 18 (some 31) #[true, true, true, true, true, true, true, true, true, true, true, true, true, true, true, true, true, true, true, false, false, false, false] ?_
   refine pn_ 19 (some 32) #[true, true, true, true, true, true, true, true, true, true, true, true, true, true, true, true, true, true, true, true, false, false, false] ?_
   refine pn_ 20 (some 33) #[true, true, true, true, true, true, true, true, true, true, true, true, true, true, true, true, true, true, true, true, true, false, false] ?_
   refine pu_ 21 (some 34) #[true, true, true, true, true, true, true, true, true, true, true, true, true, true, true, true, true, true, true, true, true, true, false] ?_
   refine pu_ 22 (some 35) #[true, true, true, true, true, true, true, true, true, true, true, true, true, true, true, true, true, true, true, true, true, true, true] ?_
   refine done_ (done_of HT_.out (by kernel_rfl)) ?_
   try go_wp2
   go_roundg k1
   case measure => have := HK1.out; omega
   case rel => exact ⟨(wrap64 (x3_1 + 1)), (by first | rfl | (simp; done) | (simp [*]; done)), H', ⟨by have := HK1.out; omega⟩, ⟨by repeat (first | (with_reducible first | exact HB.out | apply below_alloc | apply pw_below_drewN | apply below_drew1) | exact HB.out)⟩⟩
   }
   }
   {
   replace c6 := Bool.eq_false_iff.mpr c6
   subst c6
   have H1 : (some false) = some r := by rw [if_neg (show ¬ (false = true) by decide)] at H; exact H
   clear H
   have H := H1
   clear H1
   obtain rfl := Option.some.inj H
   try go_wp2
   replace HB := A_ (below_drew1 HB.out)
   have p135 : 0 ≤ (x3_1 : Int) := of_decide_eq_true z27b
   have q135 : x3_1 < (l0.length : Int) := of_decide_eq_true z27b
   obtain ⟨ad135, e135, hx135_0, hx135_1, hx135_2, hx135_3⟩ := at_T31 HR0.out x3_1 p135 q135
   have hw135_3 := hx135_3
   have hw135_2 := hx135_2
   have hw135_1 := hx135_1
   have hw135_0 := hx135_0
   cases e135
   replace hx135_0 := (HB.out.cell (World.block_lt_of_cell? w _ hx135_0)).trans hx135_0
   replace hx135_1 := (HB.out.cell (World.block_lt_of_cell? w _ hx135_1)).trans hx135_1
   replace hx135_2 := (HB.out.cell (World.block_lt_of_cell? w _ hx135_2)).trans hx135_2
   replace hx135_3 := (HB.out.cell (World.block_lt_of_cell? w _ hx135_3)).trans hx135_3
   replace p135 := eq_true p135
   replace q135 := eq_true q135
   refine start_ (n := 23) (S := fun w' => w'.cell? (ad135.add ((x3_1).toNat * 4)) = some (.string ((rd_T31 l0 x3_1).f0)) ∧ w'.cell? ⟨(ad135.add ((x3_1).toNat * 4)).block, (ad135.add ((x3_1).toNat * 4)).off + 1, none⟩ = some (.string ((rd_T31 l0 x3_1).f1)) ∧ w'.cell? ⟨(ad135.add ((x3_1).toNat * 4)).block, (ad135.add ((x3_1).toNat * 4)).off + 2, none⟩ = some (.int .i64 ((rd_T31 l0 x3_1).f2)) ∧ w'.cell? ⟨(ad135.add ((x3_1).toNat * 4)).block, (ad135.add ((x3_1).toNat * 4)).off + 3, none⟩ = some (.bool ((rd_T31 l0 x3_1).f3))) (ds := []) #[false, false, false, false, false, false, false, false, false, false, false, false, false, false, false, false, false, false, false, false, false, false, false] (by kernel_rfl) rfl rfl ⟨((HB.out.cell (World.block_lt_of_cell? w _ hw135_0)).trans hw135_0), ((HB.out.cell (World.block_lt_of_cell? w _ hw135_1)).trans hw135_1), ((HB.out.cell (World.block_lt_of_cell? w _ hw135_2)).trans hw135_2), ((HB.out.cell (World.block_lt_of_cell? w _ hw135_3)).trans hw135_3)⟩ (fun hHeld => ?_); refine with_tabW spec_EntriesOk.tab6 spec_EntriesOk.bits6 (fun HT_ HW_ => ?_)
   generalize wr.drew = w21 at HB hx135_0 hx135_1 hx135_2 hx135_3 hHeld ⊢
   refine pu_ 0 (some 13) #[true, false, false, false, false, false, false, false, false, false, false, false, false, false, false, false, false, false, false, false, false, false, false] ?_
   refine pu_ 1 (some 14) #[true, true, false, false, false, false, false, false, false, false, false, false, false, false, false, false, false, false, false, false, false, false, false] ?_
   refine pu_ 2 (some 15) #[true, true, true, false, false, false, false, false, false, false, false, false, false, false, false, false, false, false, false, false, false, false, false] ?_
   refine take_ (i := 3) (N := some 16) (v := _) (a' := _) #[true, true, true, true, false, false, false, false, false, false, false, false, false, false, false, false, false, false, false, false, false, false, false] rfl rfl (take_ofW HT_.out HW_.out (by kernel_rfl)) (fun _ _ _ h => h) (Or.inl ⟨by rfl, (by rintro w' ⟨s0, s1, s2, s3⟩; go_simp; with_reducible rfl)⟩) hHeld z27a ?_
   refine one_ (i := 4) (N := some 17) #[true, true, true, true, true, false, false, false, false, false, false, false, false, false, false, false, false, false, false, false, false, false, false] rfl rfl (one_of HT_.out (by kernel_rfl)) (by decide) (fun K hK => ?_)
   refine goes_ Try.func52 (by kernel_rfl) rfl #[.agg #[.string ((rd_T31 l0 x3_1).f0), .string ((rd_T31 l0 x3_1).f1), .int .i64 ((rd_T31 l0 x3_1).f2), .bool ((rd_T31 l0 x3_1).f3)]] (by rfl) rfl rfl z27e ?_
   with_reducible refine (spec_l3Entry.calls ((rd_T31 l0 x3_1).f0) ((rd_T31 l0 x3_1).f1) ((rd_T31 l0 x3_1).f2) ((rd_T31 l0 x3_1).f3) false _ A5.out).mono ?_
   rintro e w22 ⟨rfl, hb⟩
   refine ⟨_, rfl, ?_⟩
   replace HB := A_ (below_step z27c hb)
   refine hK.out _ _ ⟨((HB.out.cell (World.block_lt_of_cell? w _ hw135_0)).trans hw135_0), ((HB.out.cell (World.block_lt_of_cell? w _ hw135_1)).trans hw135_1), ((HB.out.cell (World.block_lt_of_cell? w _ hw135_2)).trans hw135_2), ((HB.out.cell (World.block_lt_of_cell? w _ hw135_3)).trans hw135_3)⟩ (fun hHeld => ?_)
   clear hK K
   refine norm_ (nz_ 17) ?_
   refine pu_ 5 (some 18) #[true, true, true, true, true, true, false, false, false, false, false, false, false, false, false, false, false, false, false, false, false, false, false] ?_
   refine pu_ 6 (some 19) #[true, true, true, true, true, true, true, false, false, false, false, false, false, false, false, false, false, false, false, false, false, false, false] ?_
   refine pn_ 7 (some 20) #[true, true, true, true, true, true, true, true, false, false, false, false, false, false, false, false, false, false, false, false, false, false, false] ?_
   refine pn_ 8 (some 21) #[true, true, true, true, true, true, true, true, true, false, false, false, false, false, false, false, false, false, false, false, false, false, false] ?_
   refine pn_ 9 (some 22) #[true, true, true, true, true, true, true, true, true, true, false, false, false, false, false, false, false, false, false, false, false, false, false] ?_
   refine pn_ 10 (some 23) #[true, true, true, true, true, true, true, true, true, true, true, false, false, false, false, false, false, false, false, false, false, false, false] ?_
   refine pn_ 11 (some 24) #[true, true, true, true, true, true, true, true, true, true, true, true, false, false, false, false, false, false, false, false, false, false, false] ?_
   refine pn_ 12 (some 25) #[true, true, true, true, true, true, true, true, true, true, true, true, true, false, false, false, false, false, false, false, false, false, false] ?_
   refine pn_ 13 (some 26) #[true, true, true, true, true, true, true, true, true, true, true, true, true, true, false, false, false, false, false, false, false, false, false] ?_
   refine pn_ 14 (some 27) #[true, true, true, true, true, true, true, true, true, true, true, true, true, true, true, false, false, false, false, false, false, false, false] ?_
   refine pn_ 15 (some 28) #[true, true, true, true, true, true, true, true, true, true, true, true, true, true, true, true, false, false, false, false, false, false, false] ?_
   refine pn_ 16 (some 29) #[true, true, true, true, true, true, true, true, true, true, true, true, true, true, true, true, true, false, false, false, false, false, false] ?_
   refine pn_ 17 (some 30) #[true, true, true, true, true, true, true, true, true, true, true, true, true, true, true, true, true, true, false, false, false, false, false] ?_
   refine pn_ 18 (some 31) #[true, true, true, true, true, true, true, true, true, true, true, true, true, true, true, true, true, true, true, false, false, false, false] ?_
   refine pn_ 19 (some 32) #[true, true, true, true, true, true, true, true, true, true, true, true, true, true, true, true, true, true, true, true, false, false, false] ?_
   refine pn_ 20 (some 33) #[true, true, true, true, true, true, true, true, true, true, true, true, true, true, true, true, true, true, true, true, true, false, false] ?_
   refine pn_ 21 (some 34) #[true, true, true, true, true, true, true, true, true, true, true, true, true, true, true, true, true, true, true, true, true, true, false] ?_
   refine pu_ 22 (some 35) #[true, true, true, true, true, true, true, true, true, true, true, true, true, true, true, true, true, true, true, true, true, true, true] ?_
   refine done_ (done_of HT_.out (by kernel_rfl)) ?_
   try go_wp2
   go_ret
   exact ⟨by first | rfl | (simp [errW_none, errW_some] <;> rfl) | (simp [*, errW_none, errW_some] <;> rfl), by repeat (first | (with_reducible first | exact HB.out | apply below_alloc | apply pw_below_drewN | apply below_drew1) | exact HB.out)⟩
   }
   }
   {
   rw [if_neg c4] at H
   exact absurd H (by simp)
   }
   }
   {
   rw [if_neg c3] at H
   have c3b0 : decide (x3_1 < (l0.length : Int)) = false := decide_eq_false c3
   clear c3
   obtain rfl := Option.some.inj H
   go_wp2
   go_ret
   exact ⟨by first | rfl | (simp [errW_none, errW_some] <;> rfl) | (simp [*, errW_none, errW_some] <;> rfl), by repeat (first | (with_reducible first | exact HB.out | apply below_alloc | apply pw_below_drewN | apply below_drew1) | exact HB.out)⟩
   
   }
 }
end Go.Proofs.Ytaiggfjkikfcbaa.PFnExactBuilt

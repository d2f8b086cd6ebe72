-- by a program of this session (wip/print/run.py) for this claim
import Derived.Test.YtaiggfjkikfcbaaLibPu
import Derived.Test.YtaiggfjkikfcbaaPFnExactTableOkx0
import Derived.Test.YtaiggfjkikfcbaaPFnExactTableOkx1
import Derived.Test.YtaiggfjkikfcbaaPFnExactTableOkx8
import Derived.Test.YtaiggfjkikfcbaaPFnExactTableOkx9
import Derived.Test.YtaiggfjkikfcbaaPFnExactTableOkx10
import Derived.Test.YtaiggfjkikfcbaaPFnExactTableOkx13
import Derived.Test.YtaiggfjkikfcbaaPFnExactTableOkx15
namespace Go.Proofs.Ytaiggfjkikfcbaa.PFnExactTableOk
open Go.Proofs.Ytaiggfjkikfcbaa.Lib Go.RowKit Go.Proofs.YtaiggfjkikfcbaaW.PrintWords Go.Proofs.YtaiggfjkikfcbaaW.PrintLast Go.Proofs.YtaiggfjkikfcbaaW.PrintMore
attribute [local go_sem] max2_int min2_int max_two min_two max_three min_three max_four min_four   -- for this text's walks alone
set_option linter.unusedVariables false
set_option linter.unusedSimpArgs false

theorem z88a {p_ : Prop} (h_ : p_ := by repeat (first | (with_reducible first | exact HB.out | apply below_alloc | apply pw_below_drewN | apply below_drew1 | refine below_set ?_ GE473.out) | exact HB.out)) : p_ := h_
theorem z88b {p_ : Prop} (h_ : p_ := by (with_reducible repeat (first | refine blk_drewN ?_ _ | refine blk_drew ?_ | refine blk_alloc ?_ _)); exact BK473.out) : p_ := h_
theorem z88c {p_ : Prop} (h_ : p_ := by (with_reducible repeat (first | apply Kd.R_alloc | apply Kd.R_drewN | apply Kd.R_drew)); exact HO_4.out) : p_ := h_
theorem z88d {p_ : Prop} (h_ : p_ := by (try simp only [List.map_toArray, List.map_cons, List.map_nil]); first | done | rfl | (simp only [List.length_drop, List.length_take]; rfl)) : p_ := h_
theorem z88e {p_ : Prop} (h_ : p_ := by repeat (first | exact (Kd.R_reads' HO_4.out).2.2 | (with_reducible refine Kd.C_alloc ?_ _) | (with_reducible refine Kd.C_drewN ?_ _) | (with_reducible refine Kd.C_drew ?_))) : p_ := h_
theorem z88f {p_ : Prop} (h_ : p_ := by repeat (first | (with_reducible first | exact HB.out | apply below_alloc | apply pw_below_drewN | apply below_drew1) | exact HB.out)) : p_ := h_
theorem z88g {p_ : Prop} (h_ : p_ := by first | (with_reducible assumption) | assumption) : p_ := h_
def impl_entries.l0 : Nat → List (S31) → List ByteArray → Int → Int → ByteArray → ByteArray → List Int → List ByteArray → Option ((List (S31)) × Bool)
 | 0, _, _, _, _, _, _, _, _ => none
 | k + 1, x4, x17, x18, x19, x474000, x474001, x474002, x474003 => if x19 < x18 then (if 0 ≤ x19 then (if x19 < (x17.length : Int) then (if ((rdOf ByteArray.empty x17 x19).size : Int) ≤ 140737488351232 then ((impl_Unpacked.f k (bytesOf (rdOf ByteArray.empty x17 x19))).bind fun bt482 => (if bt482.2 = true then ((impl_within.f (bt482.1.length : Int) 1 8).bind fun t486 => (if t486 = true then (if x4.length + bt482.1.length < 2932031007402 then (impl_entries.l0 k (x4 ++ bt482.1) x17 x18 (wrap64 (x19 + 1)) x474000 x474001 x474002 x474003) else (none)) else (some (([] : List (S31)), false)))) else (some (([] : List (S31)), false)))) else (none)) else (none)) else (none)) else ((impl_EntriesOk.f k x4).bind fun t490 => (if t490 = true then ((impl_built.f k x4).bind fun bt491 => (if x474000.toList = bt491.1.toList then (if x474001.toList = bt491.2.1.toList then ((slices_Equal_int64.f k x474002 bt491.2.2.1).bind fun t500 => (some (x4, t500))) else (some (x4, false))) else (some (x4, false)))) else (some (([] : List (S31)), false))))
def impl_entries.f (k : Nat) (a0_0 : ByteArray) (a0_1 : ByteArray) (l0_2 : List Int) (l0_3 : List ByteArray) : Option ((List (S31)) × Bool) := (impl_within.f (l0_3.length : Int) 1 40).bind fun t474 => (if t474 = true then (impl_entries.l0 k (([] : List (S31))) l0_3 (l0_3.length : Int) 0 a0_0 a0_1 l0_2 l0_3) else (some (([] : List (S31)), false)))
set_option maxHeartbeats 8000000 in
set_option maxRecDepth 100000 in
theorem impl_entries.calls (k : Nat) (a0_0 : ByteArray) (a0_1 : ByteArray) (A0_2 : Option Addr) (c0_2 : Nat) (l0_2 : List Int) (A0_3 : Option Addr) (c0_3 : Nat) (l0_3 : List ByteArray) (r1 : List (S31)) (r2 : Bool) (w : World) (hr0_2 : Kd.C (Kd.int .i64) w A0_2 l0_2.length l0_2) (hc0_2 : l0_2.length ≤ c0_2) (hr0_3 : Kd.C Kd.string w A0_3 l0_3.length l0_3) (hc0_3 : l0_3.length ≤ c0_3) (h : impl_entries.f k a0_0 a0_1 l0_2 l0_3 = some (r1, r2)) :
  Calls Try.prog 88 #[.agg #[.string a0_0, .string a0_1, .slice A0_2 l0_2.length c0_2, .slice A0_3 l0_3.length c0_3]] w fun e w' => ∃ v0_ : Value, e = .returned (.tuple #[v0_, .bool r2]) ∧ Kd.R k31 31 w' w.heap.size (fun _ => True) v0_ r1 ∧ Below w.heap.size w w' := by
 have hu57 := Try.underlying57
 have HR0_2 := A_ hr0_2
 have HC0_2 := A_ hc0_2
 clear hr0_2 hc0_2
 have HR0_3 := A_ hr0_3
 have HC0_3 := A_ hc0_3
 clear hr0_3 hc0_3
 have HB := A_ (Below.refl w.heap.size w)
 have H : ((impl_within.f (l0_3.length : Int) 1 40).bind fun t474 => (if t474 = true then (impl_entries.l0 k (([] : List (S31))) l0_3 (l0_3.length : Int) 0 a0_0 a0_1 l0_2 l0_3) else (some (([] : List (S31)), false)))) = some (r1, r2) := h
 clear h
 replace H := Option.bind_eq_some_iff.mp H
 obtain ⟨t474, A20, H⟩ := H
 replace H : (if t474 = true then (impl_entries.l0 k (([] : List (S31))) l0_3 (l0_3.length : Int) 0 a0_0 a0_1 l0_2 l0_3) else (some (([] : List (S31)), false))) = some (r1, r2) := H
 have A2 := A_ A20
 clear A20
 by_cases c3 : t474 = true
 {
 subst c3
 have H1 : (impl_entries.l0 k (([] : List (S31))) l0_3 (l0_3.length : Int) 0 a0_0 a0_1 l0_2 l0_3) = some (r1, r2) := by rw [if_pos rfl] at H; exact H
 clear H
 have H := H1
 clear H1
 obtain ⟨y475, hy475⟩ : ∃ y_ : List (S31), y_ = (([] : List (S31))) := ⟨_, rfl⟩
 replace H : (impl_entries.l0 k y475 l0_3 (l0_3.length : Int) 0 a0_0 a0_1 l0_2 l0_3) = some (r1, r2) := by first | (rw [hy475]; with_reducible exact H) | (have H2_ := (Option.bind_some _ _).symm.trans H; rw [hy475]; with_reducible exact H2_) | (have H2_ := (Option.bind_some _ _).symm.trans H; with_reducible exact H2_) | with_reducible exact H | (rw [hy475]; exact H) | exact H
 have Ny475 := A_ hy475
 clear hy475
 have H' := A_ H
 clear H
 go_enter Try.func88, Try.ntmps88
 go_wp2_with (first | ((with_reducible refine gate_dst (N := 1) rfl ?_); (try (refine gate_guard (by rfl) ?_; dsimp only)); refine box_event ?hg (N := 1) ?hd (cs := #[.string a0_0, .string a0_1, .slice A0_2 l0_2.length c0_2, .slice A0_3 l0_3.length c0_3]) (t := 57) ?hr ?_; (case hd => rfl); (case hg => rfl); (case hr => first | (go_simp; done) | (go_simp; rfl)); intro gb473 hg w4 hbox hb; have n0_ := A_ (below_step z88f hb); have n1_ := A_ (hbox); have n2_ := A_ ((by rw [hg]; exact (below_size z88f) : w.heap.size ≤ gb473)); have n3_ := A_ ((by rw [hg]; exact (below_size z88f) : w.heap.size ≤ gb473)); clear HB; have HB := n0_; have BK473 := n1_; have GW473 := n2_; have GE473 := n3_; clear n0_ n1_ n2_ n3_; clear hb hbox hg; have hcz5_0 : w4.cell? ⟨gb473, 0, none⟩ = some (.string a0_0) := (blk_cell BK473.out 0).trans rfl; have hcz5_1 : w4.cell? ⟨gb473, 1, none⟩ = some (.string a0_1) := (blk_cell BK473.out 1).trans rfl; have hcz5_2 : w4.cell? ⟨gb473, 2, none⟩ = some (.slice A0_2 l0_2.length c0_2) := (blk_cell BK473.out 2).trans rfl; have hcz5_3 : w4.cell? ⟨gb473, 3, none⟩ = some (.slice A0_3 l0_3.length c0_3) := (blk_cell BK473.out 3).trans rfl; have hfz5_0 := blk_frozen BK473.out 0; have hfz5_1 := blk_frozen BK473.out 1; have hfz5_2 := blk_frozen BK473.out 2; have hfz5_3 := blk_frozen BK473.out 3) | ((with_reducible refine gate_callee (f := 96) rfl ?_); refine goesL_ (some 13) rfl rfl Try.func96 (by kernel_rfl) rfl #[.int .i64 (l0_3.length : Int), .int .i64 1, .int .i64 40] rfl z88d ?_; (with_reducible refine (impl_within.calls (l0_3.length : Int) 1 40 true _ A2.out).mono ?_); rintro e w' ⟨rfl, ⟨nd, rfl⟩⟩; refine ⟨_, rfl, ?_⟩) | ((with_reducible refine gate_dst (N := 15) rfl ?_); (try (refine gate_guard (by rfl) ?_; dsimp only)); refine Kd.R_lit k31 _ 31 ?hg (N := 15) ?hd (xs := ([] : List (S31))) (inner := []) (ok := fun _ => True) (okp := fun _ => True) ?hr ?hp (fun _ hk => hk) trivial (Below.refl _ _) (Nat.le_refl _) (by simp) ?_; (case hd => rfl); (case hg => rfl); (case hr => first | (go_simp; done) | (go_simp; rfl)); (case hp => exact (Reps.none _ _)); intro v476 w6 ho7 hb hg_ hnew_; clear hg_ hnew_; (first | rw [← Ny475.out] at ho7 | (simp only [Int.reduceToNat] at ho7; rw [← Ny475.out] at ho7)); have n0_ := A_ (Kd.R_lower ho7 (below_size z88a)); have n1_ := A_ (blk_below (g := gb473) (o := .cells #[.string a0_0, .string a0_1, .slice A0_2 l0_2.length c0_2, .slice A0_3 l0_3.length c0_3] 57 (0, 0)) z88b hb); have n2_ := A_ (below_step z88a hb); clear BK473; clear HB; have HO477 := n0_; have BK473 := n1_; have HB := n2_; clear n0_ n1_ n2_; clear hb ho7; have hcz8_0 : w6.cell? ⟨gb473, 0, none⟩ = some (.string a0_0) := (blk_cell BK473.out 0).trans rfl; have hcz8_1 : w6.cell? ⟨gb473, 1, none⟩ = some (.string a0_1) := (blk_cell BK473.out 1).trans rfl; have hcz8_2 : w6.cell? ⟨gb473, 2, none⟩ = some (.slice A0_2 l0_2.length c0_2) := (blk_cell BK473.out 2).trans rfl; have hcz8_3 : w6.cell? ⟨gb473, 3, none⟩ = some (.slice A0_3 l0_3.length c0_3) := (blk_cell BK473.out 3).trans rfl; have hfz8_0 := blk_frozen BK473.out 0; have hfz8_1 := blk_frozen BK473.out 1; have hfz8_2 := blk_frozen BK473.out 2; have hfz8_3 := blk_frozen BK473.out 3))
 go_loopg [4, 19] k (fun kq v4 v19 w' => ∃ (x4_1 : List (S31)) (x19_1 : Int), v19 = .int .i64 x19_1 ∧ Aside0 (impl_entries.l0 kq x4_1 l0_3 (l0_3.length : Int) x19_1 a0_0 a0_1 l0_2 l0_3 = some (r1, r2)) ∧ Aside0 (kq ≤ k) ∧ Aside0 (Kd.R k31 31 w' w.heap.size (fun _ => True) v4 x4_1) ∧ Aside0 (w'.heap[gb473]? = some (.cells #[.string a0_0, .string a0_1, (.slice A0_2 l0_2.length c0_2), (.slice A0_3 l0_3.length c0_3)] 57 (0, 0))) ∧ Aside0 (Below w.heap.size w w'))
 case atStart => exact ⟨(y475), (0), (by first | rfl | (simp; done) | (simp [*]; done)), H', ⟨Nat.le_refl _⟩, ⟨by (with_reducible repeat (first | apply Kd.R_alloc | apply Kd.R_drewN | apply Kd.R_drew)); exact HO477.out⟩, ⟨by (with_reducible repeat (first | refine blk_drewN ?_ _ | refine blk_drew ?_ | refine blk_alloc ?_ _)); exact BK473.out⟩, ⟨by repeat (first | (with_reducible first | exact HB.out | apply below_alloc | apply pw_below_drewN | apply below_drew1 | refine below_set ?_ GE473.out) | exact HB.out)⟩⟩
 case round =>
  clear H'
  try clear p2
  try clear c3
  try clear c8
  try clear hcz5_0
  try clear hcz5_1
  try clear hcz5_2
  try clear hcz5_3
  try clear hcz8_0
  try clear hcz8_1
  try clear hcz8_2
  try clear hcz8_3
  try clear hfz5_0
  try clear hfz5_1
  try clear hfz5_2
  try clear hfz5_3
  try clear hfz8_0
  try clear hfz8_1
  try clear hfz8_2
  try clear hfz8_3
  obtain ⟨x4_1, x19_1, rfl, HA, HK1, HO_4, BK473, HB⟩ := hrel
  cases gk with
  | zero => exact absurd HA.out (by simp [impl_entries.l0])
  | succ k1 =>
   have H := HA.out
   clear HA
   simp only [impl_entries.l0] at H
   by_cases c9 : x19_1 < (l0_3.length : Int)
   {
   rw [if_pos c9] at H
   have c9b0 : decide (x19_1 < (l0_3.length : Int)) = true := decide_eq_true c9
   clear c9
   by_cases c10 : 0 ≤ x19_1
   {
   rw [if_pos c10] at H
   have c10b0 : decide (0 ≤ x19_1) = true := decide_eq_true c10
   clear c10
   by_cases c11 : x19_1 < (l0_3.length : Int)
   {
   rw [if_pos c11] at H
   have c11b0 : decide (x19_1 < (l0_3.length : Int)) = true := decide_eq_true c11
   clear c11
   by_cases c12 : ((rdOf ByteArray.empty l0_3 x19_1).size : Int) ≤ 140737488351232
   {
   rw [if_pos c12] at H
   have c12b0 := eq_true c12
   have c12b1 : decide (((rdOf ByteArray.empty l0_3 x19_1).size : Int) ≤ 140737488351232) = true := decide_eq_true c12
   clear c12
   obtain ⟨y479, hy479⟩ : ∃ y_ : List Int, y_ = (bytesOf (rdOf ByteArray.empty l0_3 x19_1)) := ⟨_, rfl⟩
   replace H : ((impl_Unpacked.f k1 y479).bind fun bt482 => (if bt482.2 = true then ((impl_within.f (bt482.1.length : Int) 1 8).bind fun t486 => (if t486 = true then (if x4_1.length + bt482.1.length < 2932031007402 then (impl_entries.l0 k1 (x4_1 ++ bt482.1) l0_3 (l0_3.length : Int) (wrap64 (x19_1 + 1)) a0_0 a0_1 l0_2 l0_3) else (none)) else (some (([] : List (S31)), false)))) else (some (([] : List (S31)), false)))) = some (r1, r2) := by first | (rw [hy479]; with_reducible exact H) | (have H2_ := (Option.bind_some _ _).symm.trans H; rw [hy479]; with_reducible exact H2_) | (have H2_ := (Option.bind_some _ _).symm.trans H; with_reducible exact H2_) | with_reducible exact H | (rw [hy479]; exact H) | exact H
   have Ny479 := A_ hy479
   clear hy479
   replace H := Option.bind_eq_some_iff.mp H
   obtain ⟨⟨t482, t483⟩, A130, H⟩ := H
   replace H : (if t483 = true then ((impl_within.f (t482.length : Int) 1 8).bind fun t486 => (if t486 = true then (if x4_1.length + t482.length < 2932031007402 then (impl_entries.l0 k1 (x4_1 ++ t482) l0_3 (l0_3.length : Int) (wrap64 (x19_1 + 1)) a0_0 a0_1 l0_2 l0_3) else (none)) else (some (([] : List (S31)), false)))) else (some (([] : List (S31)), false))) = some (r1, r2) := H
   have A13 := A_ A130
   clear A130
   by_cases c14 : t483 = true
   {
   subst c14
   have H1 : ((impl_within.f (t482.length : Int) 1 8).bind fun t486 => (if t486 = true then (if x4_1.length + t482.length < 2932031007402 then (impl_entries.l0 k1 (x4_1 ++ t482) l0_3 (l0_3.length : Int) (wrap64 (x19_1 + 1)) a0_0 a0_1 l0_2 l0_3) else (none)) else (some (([] : List (S31)), false)))) = some (r1, r2) := by rw [if_pos rfl] at H; exact H
   clear H
   have H := H1
   clear H1
   replace H := Option.bind_eq_some_iff.mp H
   obtain ⟨t486, A150, H⟩ := H
   replace H : (if t486 = true then (if x4_1.length + t482.length < 2932031007402 then (impl_entries.l0 k1 (x4_1 ++ t482) l0_3 (l0_3.length : Int) (wrap64 (x19_1 + 1)) a0_0 a0_1 l0_2 l0_3) else (none)) else (some (([] : List (S31)), false))) = some (r1, r2) := H
   have A15 := A_ A150
   clear A150
   by_cases c16 : t486 = true
   {
   subst c16
   have H1 : (if x4_1.length + t482.length < 2932031007402 then (impl_entries.l0 k1 (x4_1 ++ t482) l0_3 (l0_3.length : Int) (wrap64 (x19_1 + 1)) a0_0 a0_1 l0_2 l0_3) else (none)) = some (r1, r2) := by rw [if_pos rfl] at H; exact H
   clear H
   have H := H1
   clear H1
   by_cases c17 : x4_1.length + t482.length < 2932031007402
   {
   rw [if_pos c17] at H
   have LMc17 := A_ c17
   clear c17
   obtain ⟨y487, hy487⟩ : ∃ y_ : List (S31), y_ = (x4_1 ++ t482) := ⟨_, rfl⟩
   replace H : (impl_entries.l0 k1 y487 l0_3 (l0_3.length : Int) (wrap64 (x19_1 + 1)) a0_0 a0_1 l0_2 l0_3) = some (r1, r2) := by first | (rw [hy487]; with_reducible exact H) | (have H2_ := (Option.bind_some _ _).symm.trans H; rw [hy487]; with_reducible exact H2_) | (have H2_ := (Option.bind_some _ _).symm.trans H; with_reducible exact H2_) | with_reducible exact H | (rw [hy487]; exact H) | exact H
   have Ny487 := A_ hy487
   clear hy487
   have H' := A_ H
   clear H
   have p478 : 0 ≤ (x19_1 : Int) := of_decide_eq_true z88g
   have q478 : x19_1 < (l0_3.length : Int) := of_decide_eq_true z88g
   obtain ⟨ad478, e478, hx478_0⟩ := Kd.at_string HR0_3.out x19_1 p478 q478
   cases e478
   replace hx478_0 := (HB.out.cell (World.block_lt_of_cell? w _ hx478_0)).trans hx478_0
   replace p478 := eq_true p478
   replace q478 := eq_true q478
   go_wp2_with (first | ((with_reducible refine gate_dst (N := 25) rfl ?_); (try (refine gate_guard (by rfl) ?_; dsimp only)); refine Go.Proofs.Ytaiggfjkikfcbaa.Lib.R_conv _ 5 rfl (N := 25) rfl 9 36 (.tmp 24) rfl Try.underlying9 Try.underlying36 Try.underlying5 (rdOf ByteArray.empty l0_3 x19_1) rfl (ok := fun _ => True) (okp := fun _ => True) (fun _ hk => hk) trivial (of_decide_eq_true z88g) (Below.refl _ _) (Nat.le_refl _) ?_; intro v480 w18 ho19 hb hg_ hnew_; clear hg_ hnew_; (first | rw [← Ny479.out] at ho19 | (simp only [Int.reduceToNat] at ho19; rw [← Ny479.out] at ho19)); have n0_ := A_ (Kd.R_below z88c hb); have n1_ := A_ (Kd.R_lower ho19 (below_size z88a)); have n2_ := A_ (blk_below (g := gb473) (o := .cells #[.string a0_0, .string a0_1, .slice A0_2 l0_2.length c0_2, .slice (some ad478) l0_3.length c0_3] 57 (0, 0)) z88b hb); have n3_ := A_ (below_step z88a hb); clear HO_4; clear BK473; clear HB; have HO_4 := n0_; have HO481 := n1_; have BK473 := n2_; have HB := n3_; clear n0_ n1_ n2_ n3_; clear hb ho19; obtain ⟨Ao20, co20, eo20⟩ := Kd.R_slice HO481.out; subst eo20) | ((with_reducible refine gate_callee (f := 118) rfl ?_); refine goesL_ (some 26) rfl rfl Try.func118 (by kernel_rfl) rfl #[.slice Ao20 y479.length co20] rfl z88d ?_; (with_reducible refine (impl_Unpacked.calls k1 _ _ y479 t482 true _ ?side1 ?side2 A13.out).mono ?_); (case side1 => exact (by repeat (first | exact (Kd.R_reads' HO481.out).2.2 | (with_reducible refine Kd.C_alloc ?_ _) | (with_reducible refine Kd.C_drewN ?_ _) | (with_reducible refine Kd.C_drew ?_)))); (case side2 => exact (Kd.R_reads' HO481.out).2.1); rintro e w21 ⟨v484, rfl, ho0, hb⟩; refine ⟨_, rfl, ?_⟩; have n0_ := A_ (Kd.R_elder' z88c (Kd.R_base ho0) hb); have n1_ := A_ (Kd.R_below (by (with_reducible repeat (first | apply Kd.R_alloc | apply Kd.R_drewN | apply Kd.R_drew)); exact HO481.out) hb); have n2_ := A_ (Kd.R_lower (Kd.R_new' ho0 (Kd.R_lt z88c)) (below_size z88a)); have n3_ := A_ (blk_below (g := gb473) (o := .cells #[.string a0_0, .string a0_1, .slice A0_2 l0_2.length c0_2, .slice (some ad478) l0_3.length c0_3] 57 (0, 0)) z88b hb); have n4_ := A_ (below_step z88a hb); clear HO_4; clear HO481; clear BK473; clear HB; have HO_4 := n0_; have HO481 := n1_; have HO485 := n2_; have BK473 := n3_; have HB := n4_; clear n0_ n1_ n2_ n3_ n4_; obtain ⟨Ao22, co22, eo22⟩ := Kd.R_slice HO485.out; subst eo22) | (go_at_call 96; (with_reducible refine (impl_within.calls (t482.length : Int) 1 8 true _ A15.out).mono ?_); rintro e w' ⟨rfl, ⟨nd, rfl⟩⟩) | ((with_reducible refine gate_builtin (b := .append) (xs := #[.tmp 37, .tmp 38]) rfl ?_); (try (refine gate_guard (by rfl) ?_; dsimp only)); at_builtin; refine Kd.R_append_rows k31 (w0 := w) w.heap.size rfl (.tmp 37) (.tmp 38) 27 31 (.agg #[(.string ⟨#[]⟩), (.string ⟨#[]⟩), (.int .i64 0), (.bool false)]) 48 rfl Try.underlying27 info31 rfl (by decide) (by omega) u4 x4_1 t482 _ _ _ (fun k_ => some k_ ≠ (.slice Ao22 t482.length co22 : Value).ownBlock) (fun _ => False) rfl rfl ?aO ?aR (fun _ _ h => h) (fun _ h => h.elim) ?aF ?aB ?aS ?aL ?_; (case aR => exact (by repeat (first | exact (Kd.R_reads' HO485.out).2.2 | (with_reducible refine Kd.C_alloc ?_ _) | (with_reducible refine Kd.C_drewN ?_ _) | (with_reducible refine Kd.C_drew ?_)))); (case aB => exact z88a); (case aF => exact (fun k_ hk => Kd.fresh' (Kd.R_lt (by (with_reducible repeat (first | apply Kd.R_alloc | apply Kd.R_drewN | apply Kd.R_drew)); exact HO485.out)) k_ hk)); (case aO => exact (by (with_reducible repeat (first | apply Kd.R_alloc | apply Kd.R_drewN | apply Kd.R_drew)); exact Kd.R_mono HO_4.out (fun _ hk => hk.2))); (case aS => exact (below_size z88a)); (case aL => have := LMc17.out; omega); intro v488 w23 ho hb hg hat; rw [← Ny487.out] at ho; have n0_ := A_ (blk_grown (g := gb473) (o := .cells #[.string a0_0, .string a0_1, .slice A0_2 l0_2.length c0_2, .slice (some ad478) l0_3.length c0_3] 57 (0, 0)) z88b hg (Kd.R_ne HO_4.out BK473.out (by decide))); have n1_ := A_ (Kd.R_over' (by (with_reducible repeat (first | apply Kd.R_alloc | apply Kd.R_drewN | apply Kd.R_drew)); exact HO481.out) (Kd.R_typed z88c) (by decide) hg); have n2_ := A_ (Kd.R_after (ok := (fun _ => True)) (by (with_reducible repeat (first | apply Kd.R_alloc | apply Kd.R_drewN | apply Kd.R_drew)); exact HO485.out) hg hat); have n3_ := A_ (hb); have n4_ := A_ (ho); clear BK473; clear HO481; clear HO485; clear HB; clear HO_4; have BK473 := n0_; have HO481 := n1_; have HO485 := n2_; have HB := n3_; have HO489 := n4_; clear n0_ n1_ n2_ n3_ n4_; clear ho hb hg hat))
   go_roundg k1
   case measure => have := HK1.out; omega
   case rel => exact ⟨(y487), (wrap64 (x19_1 + 1)), (by first | rfl | (simp; done) | (simp [*]; done)), H', ⟨by have := HK1.out; omega⟩, ⟨by (with_reducible repeat (first | apply Kd.R_alloc | apply Kd.R_drewN | apply Kd.R_drew)); exact Kd.R_mono HO489.out (fun _ hk => trivial)⟩, ⟨by (with_reducible repeat (first | refine blk_drewN ?_ _ | refine blk_drew ?_ | refine blk_alloc ?_ _)); exact BK473.out⟩, ⟨by repeat (first | (with_reducible first | exact HB.out | apply below_alloc | apply pw_below_drewN | apply below_drew1 | refine below_set ?_ GE473.out) | exact HB.out)⟩⟩
   }
   {
   rw [if_neg c17] at H
   exact absurd H (by simp)
   }
   }
   {
   replace c16 := Bool.eq_false_iff.mpr c16
   subst c16
   have H1 : (some (([] : List (S31)), false)) = some (r1, r2) := by rw [if_neg (show ¬ (false = true) by decide)] at H; exact H
   clear H
   have H := H1
   clear H1
   simp only [Option.some.injEq, Prod.mk.injEq] at H
   obtain ⟨rfl, rfl⟩ := H
   have p478 : 0 ≤ (x19_1 : Int) := of_decide_eq_true z88g
   have q478 : x19_1 < (l0_3.length : Int) := of_decide_eq_true z88g
   obtain ⟨ad478, e478, hx478_0⟩ := Kd.at_string HR0_3.out x19_1 p478 q478
   cases e478
   replace hx478_0 := (HB.out.cell (World.block_lt_of_cell? w _ hx478_0)).trans hx478_0
   replace p478 := eq_true p478
   replace q478 := eq_true q478
   go_wp2_with (first | ((with_reducible refine gate_dst (N := 25) rfl ?_); (try (refine gate_guard (by rfl) ?_; dsimp only)); refine Go.Proofs.Ytaiggfjkikfcbaa.Lib.R_conv _ 5 rfl (N := 25) rfl 9 36 (.tmp 24) rfl Try.underlying9 Try.underlying36 Try.underlying5 (rdOf ByteArray.empty l0_3 x19_1) rfl (ok := fun _ => True) (okp := fun _ => True) (fun _ hk => hk) trivial (of_decide_eq_true z88g) (Below.refl _ _) (Nat.le_refl _) ?_; intro v480 w24 ho25 hb hg_ hnew_; clear hg_ hnew_; (first | rw [← Ny479.out] at ho25 | (simp only [Int.reduceToNat] at ho25; rw [← Ny479.out] at ho25)); have n0_ := A_ (Kd.R_below z88c hb); have n1_ := A_ (Kd.R_lower ho25 (below_size z88a)); have n2_ := A_ (blk_below (g := gb473) (o := .cells #[.string a0_0, .string a0_1, .slice A0_2 l0_2.length c0_2, .slice (some ad478) l0_3.length c0_3] 57 (0, 0)) z88b hb); have n3_ := A_ (below_step z88a hb); clear HO_4; clear BK473; clear HB; have HO_4 := n0_; have HO481 := n1_; have BK473 := n2_; have HB := n3_; clear n0_ n1_ n2_ n3_; clear hb ho25; obtain ⟨Ao26, co26, eo26⟩ := Kd.R_slice HO481.out; subst eo26) | ((with_reducible refine gate_callee (f := 118) rfl ?_); refine goesL_ (some 26) rfl rfl Try.func118 (by kernel_rfl) rfl #[.slice Ao26 y479.length co26] rfl z88d ?_; (with_reducible refine (impl_Unpacked.calls k1 _ _ y479 t482 true _ ?side1 ?side2 A13.out).mono ?_); (case side1 => exact (by repeat (first | exact (Kd.R_reads' HO481.out).2.2 | (with_reducible refine Kd.C_alloc ?_ _) | (with_reducible refine Kd.C_drewN ?_ _) | (with_reducible refine Kd.C_drew ?_)))); (case side2 => exact (Kd.R_reads' HO481.out).2.1); rintro e w27 ⟨v484, rfl, ho0, hb⟩; refine ⟨_, rfl, ?_⟩; have n0_ := A_ (Kd.R_elder' z88c (Kd.R_base ho0) hb); have n1_ := A_ (Kd.R_below (by (with_reducible repeat (first | apply Kd.R_alloc | apply Kd.R_drewN | apply Kd.R_drew)); exact HO481.out) hb); have n2_ := A_ (Kd.R_lower (Kd.R_new' ho0 (Kd.R_lt z88c)) (below_size z88a)); have n3_ := A_ (blk_below (g := gb473) (o := .cells #[.string a0_0, .string a0_1, .slice A0_2 l0_2.length c0_2, .slice (some ad478) l0_3.length c0_3] 57 (0, 0)) z88b hb); have n4_ := A_ (below_step z88a hb); clear HO_4; clear HO481; clear BK473; clear HB; have HO_4 := n0_; have HO481 := n1_; have HO485 := n2_; have BK473 := n3_; have HB := n4_; clear n0_ n1_ n2_ n3_ n4_; obtain ⟨Ao28, co28, eo28⟩ := Kd.R_slice HO485.out; subst eo28) | (go_at_call 96; (with_reducible refine (impl_within.calls (t482.length : Int) 1 8 false _ A15.out).mono ?_); rintro e w' ⟨rfl, ⟨nd, rfl⟩⟩))
   go_ret2
   exact ⟨_, by first | rfl | (simp [errW_none, errW_some] <;> rfl) | (simp [*, errW_none, errW_some] <;> rfl), by first | exact Kd.R_nil _ _ _ _ _ | exact Kd.N_nil _ _ _ _ _ | exact Kd.V_nil _ _ _ _ _ | exact Kd.Q_nil _ _ _ _ _ | exact Kd.S_nil _ _ _ _ _, by repeat (first | (with_reducible first | exact HB.out | apply below_alloc | apply pw_below_drewN | apply below_drew1 | refine below_set ?_ GE473.out) | exact HB.out)⟩
   }
   }
   {
   replace c14 := Bool.eq_false_iff.mpr c14
   subst c14
   have H1 : (some (([] : List (S31)), false)) = some (r1, r2) := by rw [if_neg (show ¬ (false = true) by decide)] at H; exact H
   clear H
   have H := H1
   clear H1
   simp only [Option.some.injEq, Prod.mk.injEq] at H
   obtain ⟨rfl, rfl⟩ := H
   have p478 : 0 ≤ (x19_1 : Int) := of_decide_eq_true z88g
   have q478 : x19_1 < (l0_3.length : Int) := of_decide_eq_true z88g
   obtain ⟨ad478, e478, hx478_0⟩ := Kd.at_string HR0_3.out x19_1 p478 q478
   cases e478
   replace hx478_0 := (HB.out.cell (World.block_lt_of_cell? w _ hx478_0)).trans hx478_0
   replace p478 := eq_true p478
   replace q478 := eq_true q478
   go_wp2_with (first | ((with_reducible refine gate_dst (N := 25) rfl ?_); (try (refine gate_guard (by rfl) ?_; dsimp only)); refine Go.Proofs.Ytaiggfjkikfcbaa.Lib.R_conv _ 5 rfl (N := 25) rfl 9 36 (.tmp 24) rfl Try.underlying9 Try.underlying36 Try.underlying5 (rdOf ByteArray.empty l0_3 x19_1) rfl (ok := fun _ => True) (okp := fun _ => True) (fun _ hk => hk) trivial (of_decide_eq_true z88g) (Below.refl _ _) (Nat.le_refl _) ?_; intro v480 w29 ho30 hb hg_ hnew_; clear hg_ hnew_; (first | rw [← Ny479.out] at ho30 | (simp only [Int.reduceToNat] at ho30; rw [← Ny479.out] at ho30)); have n0_ := A_ (Kd.R_below z88c hb); have n1_ := A_ (Kd.R_lower ho30 (below_size z88a)); have n2_ := A_ (blk_below (g := gb473) (o := .cells #[.string a0_0, .string a0_1, .slice A0_2 l0_2.length c0_2, .slice (some ad478) l0_3.length c0_3] 57 (0, 0)) z88b hb); have n3_ := A_ (below_step z88a hb); clear HO_4; clear BK473; clear HB; have HO_4 := n0_; have HO481 := n1_; have BK473 := n2_; have HB := n3_; clear n0_ n1_ n2_ n3_; clear hb ho30; obtain ⟨Ao31, co31, eo31⟩ := Kd.R_slice HO481.out; subst eo31) | ((with_reducible refine gate_callee (f := 118) rfl ?_); refine goesL_ (some 26) rfl rfl Try.func118 (by kernel_rfl) rfl #[.slice Ao31 y479.length co31] rfl z88d ?_; (with_reducible refine (impl_Unpacked.calls k1 _ _ y479 t482 false _ ?side1 ?side2 A13.out).mono ?_); (case side1 => exact (by repeat (first | exact (Kd.R_reads' HO481.out).2.2 | (with_reducible refine Kd.C_alloc ?_ _) | (with_reducible refine Kd.C_drewN ?_ _) | (with_reducible refine Kd.C_drew ?_)))); (case side2 => exact (Kd.R_reads' HO481.out).2.1); rintro e w32 ⟨v484, rfl, ho0, hb⟩; refine ⟨_, rfl, ?_⟩; have n0_ := A_ (Kd.R_elder' z88c (Kd.R_base ho0) hb); have n1_ := A_ (Kd.R_below (by (with_reducible repeat (first | apply Kd.R_alloc | apply Kd.R_drewN | apply Kd.R_drew)); exact HO481.out) hb); have n2_ := A_ (Kd.R_lower (Kd.R_new' ho0 (Kd.R_lt z88c)) (below_size z88a)); have n3_ := A_ (blk_below (g := gb473) (o := .cells #[.string a0_0, .string a0_1, .slice A0_2 l0_2.length c0_2, .slice (some ad478) l0_3.length c0_3] 57 (0, 0)) z88b hb); have n4_ := A_ (below_step z88a hb); clear HO_4; clear HO481; clear BK473; clear HB; have HO_4 := n0_; have HO481 := n1_; have HO485 := n2_; have BK473 := n3_; have HB := n4_; clear n0_ n1_ n2_ n3_ n4_))
   go_ret2
   exact ⟨_, by first | rfl | (simp [errW_none, errW_some] <;> rfl) | (simp [*, errW_none, errW_some] <;> rfl), by first | exact Kd.R_nil _ _ _ _ _ | exact Kd.N_nil _ _ _ _ _ | exact Kd.V_nil _ _ _ _ _ | exact Kd.Q_nil _ _ _ _ _ | exact Kd.S_nil _ _ _ _ _, by repeat (first | (with_reducible first | exact HB.out | apply below_alloc | apply pw_below_drewN | apply below_drew1 | refine below_set ?_ GE473.out) | exact HB.out)⟩
   }
   }
   {
   rw [if_neg c12] at H
   exact absurd H (by simp)
   }
   }
   {
   rw [if_neg c11] at H
   exact absurd H (by simp)
   }
   }
   {
   rw [if_neg c10] at H
   exact absurd H (by simp)
   }
   }
   {
   rw [if_neg c9] at H
   have c9b0 : decide (x19_1 < (l0_3.length : Int)) = false := decide_eq_false c9
   clear c9
   replace H := Option.bind_eq_some_iff.mp H
   obtain ⟨t490, A330, H⟩ := H
   replace H : (if t490 = true then ((impl_built.f k1 x4_1).bind fun bt491 => (if a0_0.toList = bt491.1.toList then (if a0_1.toList = bt491.2.1.toList then ((slices_Equal_int64.f k1 l0_2 bt491.2.2.1).bind fun t500 => (some (x4_1, t500))) else (some (x4_1, false))) else (some (x4_1, false)))) else (some (([] : List (S31)), false))) = some (r1, r2) := H
   have A33 := A_ A330
   clear A330
   by_cases c34 : t490 = true
   {
   subst c34
   have H1 : ((impl_built.f k1 x4_1).bind fun bt491 => (if a0_0.toList = bt491.1.toList then (if a0_1.toList = bt491.2.1.toList then ((slices_Equal_int64.f k1 l0_2 bt491.2.2.1).bind fun t500 => (some (x4_1, t500))) else (some (x4_1, false))) else (some (x4_1, false)))) = some (r1, r2) := by rw [if_pos rfl] at H; exact H
   clear H
   have H := H1
   clear H1
   replace H := Option.bind_eq_some_iff.mp H
   obtain ⟨⟨t491, t492, t493, t496⟩, A350, H⟩ := H
   replace H : (if a0_0.toList = t491.toList then (if a0_1.toList = t492.toList then ((slices_Equal_int64.f k1 l0_2 t493).bind fun t500 => (some (x4_1, t500))) else (some (x4_1, false))) else (some (x4_1, false))) = some (r1, r2) := H
   have A35 := A_ A350
   clear A350
   by_cases c36 : a0_0.toList = t491.toList
   {
   rw [if_pos c36] at H
   have c36b0 : (a0_0.toList == t491.toList) = true := beq_iff_eq.mpr c36
   have c36b1 : (a0_0.toList != t491.toList) = false := bne_eq_false_iff_eq.mpr c36
   clear c36
   by_cases c37 : a0_1.toList = t492.toList
   {
   rw [if_pos c37] at H
   have c37b0 : (a0_1.toList == t492.toList) = true := beq_iff_eq.mpr c37
   have c37b1 : (a0_1.toList != t492.toList) = false := bne_eq_false_iff_eq.mpr c37
   clear c37
   replace H := Option.bind_eq_some_iff.mp H
   obtain ⟨t500, A380, H⟩ := H
   replace H : (some (x4_1, t500)) = some (r1, r2) := H
   have A38 := A_ A380
   clear A380
   simp only [Option.some.injEq, Prod.mk.injEq] at H
   obtain ⟨rfl, rfl⟩ := H
   obtain ⟨Ao39, co39, eo39⟩ := Kd.R_slice HO_4.out
   subst eo39
   go_wp2_with (first | ((with_reducible refine gate_callee (f := 26) rfl ?_); refine goesL_ (some 42) rfl rfl Try.func26 (by kernel_rfl) rfl #[.slice Ao39 x4_1.length co39] rfl z88d ?_; (with_reducible refine (impl_EntriesOk.calls k1 _ _ x4_1 true _ ?side1 ?side2 A33.out).mono ?_); (case side1 => exact z88e); (case side2 => exact (Kd.R_reads' HO_4.out).2.1); rintro e w40 ⟨rfl, hb⟩; refine ⟨_, rfl, ?_⟩; replace HO_4 := A_ (Kd.R_below z88c hb); replace BK473 := A_ (blk_below (g := gb473) (o := .cells #[.string a0_0, .string a0_1, .slice A0_2 l0_2.length c0_2, .slice A0_3 l0_3.length c0_3] 57 (0, 0)) z88b hb); replace HB := A_ (below_step z88a hb)) | ((with_reducible refine gate_callee (f := 74) rfl ?_); refine goesL_ (some 45) rfl rfl Try.func74 (by kernel_rfl) rfl #[.slice Ao39 x4_1.length co39] rfl z88d ?_; (with_reducible refine (impl_built.calls k1 _ _ x4_1 t491 t492 t493 t496 _ ?side1 ?side2 A35.out).mono ?_); (case side1 => exact z88e); (case side2 => exact (Kd.R_reads' HO_4.out).2.1); rintro e w41 ⟨v494, v497, rfl, ho0, ho1, hb⟩; refine ⟨_, rfl, ?_⟩; have n0_ := A_ (Kd.R_below z88c hb); have n1_ := A_ (Kd.R_lower ho0 (below_size z88a)); have n2_ := A_ (Kd.R_lower ho1 (below_size z88a)); have n3_ := A_ (blk_below (g := gb473) (o := .cells #[.string a0_0, .string a0_1, .slice A0_2 l0_2.length c0_2, .slice A0_3 l0_3.length c0_3] 57 (0, 0)) z88b hb); have n4_ := A_ (below_step z88a hb); clear HO_4; clear BK473; clear HB; have HO_4 := n0_; have HO495 := n1_; have HO498 := n2_; have BK473 := n3_; have HB := n4_; clear n0_ n1_ n2_ n3_ n4_; (try clear ho1)) | ((with_reducible refine gate_dst (N := 9) rfl ?_); (try (refine gate_guard (by rfl) ?_; dsimp only)); refine box_event ?hg (N := 9) ?hd (cs := #[.string (⟨#[]⟩ : ByteArray), .string (⟨#[]⟩ : ByteArray), .slice none 0 0, .slice none 0 0]) (t := 57) ?hr ?_; (case hd => rfl); (case hg => rfl); (case hr => first | (go_simp; done) | (go_simp; rfl)); intro gb499 hg w42 hbox hb; have n0_ := A_ (Kd.R_below z88c hb); have n1_ := A_ (Kd.R_below (by (with_reducible repeat (first | apply Kd.R_alloc | apply Kd.R_drewN | apply Kd.R_drew)); exact HO495.out) hb); have n2_ := A_ (Kd.R_below (by (with_reducible repeat (first | apply Kd.R_alloc | apply Kd.R_drewN | apply Kd.R_drew)); exact HO498.out) hb); have n3_ := A_ (blk_below (g := gb473) (o := .cells #[.string a0_0, .string a0_1, .slice A0_2 l0_2.length c0_2, .slice A0_3 l0_3.length c0_3] 57 (0, 0)) z88b hb); have n4_ := A_ (below_step z88a hb); have n5_ := A_ (hbox); have n6_ := A_ ((by rw [hg]; exact (below_size z88a) : w.heap.size ≤ gb499)); have n7_ := A_ ((by rw [hg]; exact (below_size z88a) : w.heap.size ≤ gb499)); have n8_ := A_ ((by rw [hg]; exact Nat.ne_of_lt (blk_lt (g := gb473) (o := .cells #[.string a0_0, .string a0_1, .slice A0_2 l0_2.length c0_2, .slice A0_3 l0_3.length c0_3] 57 (0, 0)) z88b) : gb473 ≠ gb499)); have n9_ := A_ ((by rw [hg]; exact Nat.ne_of_gt (blk_lt (g := gb473) (o := .cells #[.string a0_0, .string a0_1, .slice A0_2 l0_2.length c0_2, .slice A0_3 l0_3.length c0_3] 57 (0, 0)) z88b) : gb499 ≠ gb473)); clear HO_4; clear HO495; clear HO498; clear BK473; clear HB; have HO_4 := n0_; have HO495 := n1_; have HO498 := n2_; have BK473 := n3_; have HB := n4_; have BK499 := n5_; have GW499 := n6_; have GE499 := n7_; have NB473_499 := n8_; have NB499_473 := n9_; clear n0_ n1_ n2_ n3_ n4_ n5_ n6_ n7_ n8_ n9_; clear hb hbox hg; have hnb43 := NB499_473.out; have hnc43 := NB473_499.out; have hcz44_0 : w42.cell? ⟨gb499, 0, none⟩ = some (.string (⟨#[]⟩ : ByteArray)) := (blk_cell BK499.out 0).trans rfl; have hcz44_1 : w42.cell? ⟨gb499, 1, none⟩ = some (.string (⟨#[]⟩ : ByteArray)) := (blk_cell BK499.out 1).trans rfl; have hcz44_2 : w42.cell? ⟨gb499, 2, none⟩ = some (.slice none 0 0) := (blk_cell BK499.out 2).trans rfl; have hcz44_3 : w42.cell? ⟨gb499, 3, none⟩ = some (.slice none 0 0) := (blk_cell BK499.out 3).trans rfl; have hfz44_0 := blk_frozen BK499.out 0; have hfz44_1 := blk_frozen BK499.out 1; have hfz44_2 := blk_frozen BK499.out 2; have hfz44_3 := blk_frozen BK499.out 3; obtain ⟨Ao45, co45, eo45⟩ := Kd.R_slice HO495.out; subst eo45; obtain ⟨Ao46, co46, eo46⟩ := Kd.R_slice HO498.out; subst eo46; have hcz47_0 : w42.cell? ⟨gb473, 0, none⟩ = some (.string a0_0) := (blk_cell BK473.out 0).trans rfl; have hcz47_1 : w42.cell? ⟨gb473, 1, none⟩ = some (.string a0_1) := (blk_cell BK473.out 1).trans rfl; have hcz47_2 : w42.cell? ⟨gb473, 2, none⟩ = some (.slice A0_2 l0_2.length c0_2) := (blk_cell BK473.out 2).trans rfl; have hcz47_3 : w42.cell? ⟨gb473, 3, none⟩ = some (.slice A0_3 l0_3.length c0_3) := (blk_cell BK473.out 3).trans rfl; have hfz47_0 := blk_frozen BK473.out 0; have hfz47_1 := blk_frozen BK473.out 1; have hfz47_2 := blk_frozen BK473.out 2; have hfz47_3 := blk_frozen BK473.out 3) | (go_at_call 119; (with_reducible refine (slices_Equal_int64.calls k1 _ _ l0_2 _ _ t493 t500 _ ?side1 ?side2 ?side3 ?side4 A38.out).mono ?_); (case side1 => exact Kd.C_below HR0_2.out (by repeat (first | (with_reducible first | exact HB.out | apply below_alloc | apply pw_below_drewN | apply below_drew1 | refine below_set ?_ GE473.out | refine below_set ?_ GE499.out) | exact HB.out))); (case side2 => exact HC0_2.out); (case side3 => refine (Kd.R_reads' (e := 2) (base := w.heap.size) (ok := fun k_ => True) (n := t493.length) (c := co45) ?_).2.2; exact (by (with_reducible repeat (first | apply Kd.R_alloc | apply Kd.R_drewN | apply Kd.R_drew)); exact (Kd.R_mono (Kd.R_far (p := ⟨gb499, 3, none⟩) (Kd.R_far (p := ⟨gb499, 2, none⟩) (Kd.R_far (p := ⟨gb499, 1, none⟩) (Kd.R_far (p := ⟨gb499, 0, none⟩) (Kd.R_types HO495.out BK499.out (by decide)) (fun _ hk => hk.2) (.string t491)) (fun _ hk => hk.2) (.string t492)) (fun _ hk => hk.2) (.slice Ao45 t493.length co45)) (fun _ hk => hk.2) (.slice Ao46 t496.length co46)) (fun _ h_ => h_.1)))); (case side4 => exact (Kd.R_reads' HO495.out).2.1); rintro e w' ⟨rfl, ⟨nd, rfl⟩⟩))
   go_ret2
   exact ⟨_, by first | rfl | (simp [errW_none, errW_some] <;> rfl) | (simp [*, errW_none, errW_some] <;> rfl), by (with_reducible repeat (first | apply Kd.R_alloc | apply Kd.R_drewN | apply Kd.R_drew)); exact Kd.R_mono (Kd.R_far (p := ⟨gb499, 3, none⟩) (Kd.R_far (p := ⟨gb499, 2, none⟩) (Kd.R_far (p := ⟨gb499, 1, none⟩) (Kd.R_far (p := ⟨gb499, 0, none⟩) (Kd.R_types HO_4.out BK499.out (by decide)) (fun _ hk => hk.2) (.string t491)) (fun _ hk => hk.2) (.string t492)) (fun _ hk => hk.2) (.slice Ao45 t493.length co45)) (fun _ hk => hk.2) (.slice Ao46 t496.length co46)) (fun _ hk => trivial), by repeat (first | (with_reducible first | exact HB.out | apply below_alloc | apply pw_below_drewN | apply below_drew1 | refine below_set ?_ GE473.out | refine below_set ?_ GE499.out) | exact HB.out)⟩
   }
   {
   rw [if_neg c37] at H
   have c37b0 : (a0_1.toList == t492.toList) = false := beq_eq_false_iff_ne.mpr c37
   have c37b1 : (a0_1.toList != t492.toList) = true := bne_iff_ne.mpr c37
   simp only [Option.some.injEq, Prod.mk.injEq] at H
   obtain ⟨rfl, rfl⟩ := H
   obtain ⟨Ao48, co48, eo48⟩ := Kd.R_slice HO_4.out
   subst eo48
   go_wp2_with (first | ((with_reducible refine gate_callee (f := 26) rfl ?_); refine goesL_ (some 42) rfl rfl Try.func26 (by kernel_rfl) rfl #[.slice Ao48 x4_1.length co48] rfl z88d ?_; (with_reducible refine (impl_EntriesOk.calls k1 _ _ x4_1 true _ ?side1 ?side2 A33.out).mono ?_); (case side1 => exact z88e); (case side2 => exact (Kd.R_reads' HO_4.out).2.1); rintro e w49 ⟨rfl, hb⟩; refine ⟨_, rfl, ?_⟩; replace HO_4 := A_ (Kd.R_below z88c hb); replace BK473 := A_ (blk_below (g := gb473) (o := .cells #[.string a0_0, .string a0_1, .slice A0_2 l0_2.length c0_2, .slice A0_3 l0_3.length c0_3] 57 (0, 0)) z88b hb); replace HB := A_ (below_step z88a hb)) | ((with_reducible refine gate_callee (f := 74) rfl ?_); refine goesL_ (some 45) rfl rfl Try.func74 (by kernel_rfl) rfl #[.slice Ao48 x4_1.length co48] rfl z88d ?_; (with_reducible refine (impl_built.calls k1 _ _ x4_1 t491 t492 t493 t496 _ ?side1 ?side2 A35.out).mono ?_); (case side1 => exact z88e); (case side2 => exact (Kd.R_reads' HO_4.out).2.1); rintro e w50 ⟨v494, v497, rfl, ho0, ho1, hb⟩; refine ⟨_, rfl, ?_⟩; have n0_ := A_ (Kd.R_below z88c hb); have n1_ := A_ (Kd.R_lower ho0 (below_size z88a)); have n2_ := A_ (Kd.R_lower ho1 (below_size z88a)); have n3_ := A_ (blk_below (g := gb473) (o := .cells #[.string a0_0, .string a0_1, .slice A0_2 l0_2.length c0_2, .slice A0_3 l0_3.length c0_3] 57 (0, 0)) z88b hb); have n4_ := A_ (below_step z88a hb); clear HO_4; clear BK473; clear HB; have HO_4 := n0_; have HO495 := n1_; have HO498 := n2_; have BK473 := n3_; have HB := n4_; clear n0_ n1_ n2_ n3_ n4_; (try clear ho1)) | ((with_reducible refine gate_dst (N := 9) rfl ?_); (try (refine gate_guard (by rfl) ?_; dsimp only)); refine box_event ?hg (N := 9) ?hd (cs := #[.string (⟨#[]⟩ : ByteArray), .string (⟨#[]⟩ : ByteArray), .slice none 0 0, .slice none 0 0]) (t := 57) ?hr ?_; (case hd => rfl); (case hg => rfl); (case hr => first | (go_simp; done) | (go_simp; rfl)); intro gb499 hg w51 hbox hb; have n0_ := A_ (Kd.R_below z88c hb); have n1_ := A_ (Kd.R_below (by (with_reducible repeat (first | apply Kd.R_alloc | apply Kd.R_drewN | apply Kd.R_drew)); exact HO495.out) hb); have n2_ := A_ (Kd.R_below (by (with_reducible repeat (first | apply Kd.R_alloc | apply Kd.R_drewN | apply Kd.R_drew)); exact HO498.out) hb); have n3_ := A_ (blk_below (g := gb473) (o := .cells #[.string a0_0, .string a0_1, .slice A0_2 l0_2.length c0_2, .slice A0_3 l0_3.length c0_3] 57 (0, 0)) z88b hb); have n4_ := A_ (below_step z88a hb); have n5_ := A_ (hbox); have n6_ := A_ ((by rw [hg]; exact (below_size z88a) : w.heap.size ≤ gb499)); have n7_ := A_ ((by rw [hg]; exact (below_size z88a) : w.heap.size ≤ gb499)); have n8_ := A_ ((by rw [hg]; exact Nat.ne_of_lt (blk_lt (g := gb473) (o := .cells #[.string a0_0, .string a0_1, .slice A0_2 l0_2.length c0_2, .slice A0_3 l0_3.length c0_3] 57 (0, 0)) z88b) : gb473 ≠ gb499)); have n9_ := A_ ((by rw [hg]; exact Nat.ne_of_gt (blk_lt (g := gb473) (o := .cells #[.string a0_0, .string a0_1, .slice A0_2 l0_2.length c0_2, .slice A0_3 l0_3.length c0_3] 57 (0, 0)) z88b) : gb499 ≠ gb473)); clear HO_4; clear HO495; clear HO498; clear BK473; clear HB; have HO_4 := n0_; have HO495 := n1_; have HO498 := n2_; have BK473 := n3_; have HB := n4_; have BK499 := n5_; have GW499 := n6_; have GE499 := n7_; have NB473_499 := n8_; have NB499_473 := n9_; clear n0_ n1_ n2_ n3_ n4_ n5_ n6_ n7_ n8_ n9_; clear hb hbox hg; have hnb52 := NB499_473.out; have hnc52 := NB473_499.out; have hcz53_0 : w51.cell? ⟨gb499, 0, none⟩ = some (.string (⟨#[]⟩ : ByteArray)) := (blk_cell BK499.out 0).trans rfl; have hcz53_1 : w51.cell? ⟨gb499, 1, none⟩ = some (.string (⟨#[]⟩ : ByteArray)) := (blk_cell BK499.out 1).trans rfl; have hcz53_2 : w51.cell? ⟨gb499, 2, none⟩ = some (.slice none 0 0) := (blk_cell BK499.out 2).trans rfl; have hcz53_3 : w51.cell? ⟨gb499, 3, none⟩ = some (.slice none 0 0) := (blk_cell BK499.out 3).trans rfl; have hfz53_0 := blk_frozen BK499.out 0; have hfz53_1 := blk_frozen BK499.out 1; have hfz53_2 := blk_frozen BK499.out 2; have hfz53_3 := blk_frozen BK499.out 3; obtain ⟨Ao54, co54, eo54⟩ := Kd.R_slice HO495.out; subst eo54; obtain ⟨Ao55, co55, eo55⟩ := Kd.R_slice HO498.out; subst eo55; have hcz56_0 : w51.cell? ⟨gb473, 0, none⟩ = some (.string a0_0) := (blk_cell BK473.out 0).trans rfl; have hcz56_1 : w51.cell? ⟨gb473, 1, none⟩ = some (.string a0_1) := (blk_cell BK473.out 1).trans rfl; have hcz56_2 : w51.cell? ⟨gb473, 2, none⟩ = some (.slice A0_2 l0_2.length c0_2) := (blk_cell BK473.out 2).trans rfl; have hcz56_3 : w51.cell? ⟨gb473, 3, none⟩ = some (.slice A0_3 l0_3.length c0_3) := (blk_cell BK473.out 3).trans rfl; have hfz56_0 := blk_frozen BK473.out 0; have hfz56_1 := blk_frozen BK473.out 1; have hfz56_2 := blk_frozen BK473.out 2; have hfz56_3 := blk_frozen BK473.out 3))
   go_ret2
   exact ⟨_, by first | rfl | (simp [errW_none, errW_some] <;> rfl) | (simp [*, errW_none, errW_some] <;> rfl), by (with_reducible repeat (first | apply Kd.R_alloc | apply Kd.R_drewN | apply Kd.R_drew)); exact Kd.R_mono (Kd.R_far (p := ⟨gb499, 3, none⟩) (Kd.R_far (p := ⟨gb499, 2, none⟩) (Kd.R_far (p := ⟨gb499, 1, none⟩) (Kd.R_far (p := ⟨gb499, 0, none⟩) (Kd.R_types HO_4.out BK499.out (by decide)) (fun _ hk => hk.2) (.string t491)) (fun _ hk => hk.2) (.string t492)) (fun _ hk => hk.2) (.slice Ao54 t493.length co54)) (fun _ hk => hk.2) (.slice Ao55 t496.length co55)) (fun _ hk => trivial), by repeat (first | (with_reducible first | exact HB.out | apply below_alloc | apply pw_below_drewN | apply below_drew1 | refine below_set ?_ GE473.out | refine below_set ?_ GE499.out) | exact HB.out)⟩
   }
   }
   {
   rw [if_neg c36] at H
   have c36b0 : (a0_0.toList == t491.toList) = false := beq_eq_false_iff_ne.mpr c36
   have c36b1 : (a0_0.toList != t491.toList) = true := bne_iff_ne.mpr c36
   simp only [Option.some.injEq, Prod.mk.injEq] at H
   obtain ⟨rfl, rfl⟩ := H
   obtain ⟨Ao57, co57, eo57⟩ := Kd.R_slice HO_4.out
   subst eo57
   go_wp2_with (first | ((with_reducible refine gate_callee (f := 26) rfl ?_); refine goesL_ (some 42) rfl rfl Try.func26 (by kernel_rfl) rfl #[.slice Ao57 x4_1.length co57] rfl z88d ?_; (with_reducible refine (impl_EntriesOk.calls k1 _ _ x4_1 true _ ?side1 ?side2 A33.out).mono ?_); (case side1 => exact z88e); (case side2 => exact (Kd.R_reads' HO_4.out).2.1); rintro e w58 ⟨rfl, hb⟩; refine ⟨_, rfl, ?_⟩; replace HO_4 := A_ (Kd.R_below z88c hb); replace BK473 := A_ (blk_below (g := gb473) (o := .cells #[.string a0_0, .string a0_1, .slice A0_2 l0_2.length c0_2, .slice A0_3 l0_3.length c0_3] 57 (0, 0)) z88b hb); replace HB := A_ (below_step z88a hb)) | ((with_reducible refine gate_callee (f := 74) rfl ?_); refine goesL_ (some 45) rfl rfl Try.func74 (by kernel_rfl) rfl #[.slice Ao57 x4_1.length co57] rfl z88d ?_; (with_reducible refine (impl_built.calls k1 _ _ x4_1 t491 t492 t493 t496 _ ?side1 ?side2 A35.out).mono ?_); (case side1 => exact z88e); (case side2 => exact (Kd.R_reads' HO_4.out).2.1); rintro e w59 ⟨v494, v497, rfl, ho0, ho1, hb⟩; refine ⟨_, rfl, ?_⟩; have n0_ := A_ (Kd.R_below z88c hb); have n1_ := A_ (Kd.R_lower ho0 (below_size z88a)); have n2_ := A_ (Kd.R_lower ho1 (below_size z88a)); have n3_ := A_ (blk_below (g := gb473) (o := .cells #[.string a0_0, .string a0_1, .slice A0_2 l0_2.length c0_2, .slice A0_3 l0_3.length c0_3] 57 (0, 0)) z88b hb); have n4_ := A_ (below_step z88a hb); clear HO_4; clear BK473; clear HB; have HO_4 := n0_; have HO495 := n1_; have HO498 := n2_; have BK473 := n3_; have HB := n4_; clear n0_ n1_ n2_ n3_ n4_; (try clear ho1)) | ((with_reducible refine gate_dst (N := 9) rfl ?_); (try (refine gate_guard (by rfl) ?_; dsimp only)); refine box_event ?hg (N := 9) ?hd (cs := #[.string (⟨#[]⟩ : ByteArray), .string (⟨#[]⟩ : ByteArray), .slice none 0 0, .slice none 0 0]) (t := 57) ?hr ?_; (case hd => rfl); (case hg => rfl); (case hr => first | (go_simp; done) | (go_simp; rfl)); intro gb499 hg w60 hbox hb; have n0_ := A_ (Kd.R_below z88c hb); have n1_ := A_ (Kd.R_below (by (with_reducible repeat (first | apply Kd.R_alloc | apply Kd.R_drewN | apply Kd.R_drew)); exact HO495.out) hb); have n2_ := A_ (Kd.R_below (by (with_reducible repeat (first | apply Kd.R_alloc | apply Kd.R_drewN | apply Kd.R_drew)); exact HO498.out) hb); have n3_ := A_ (blk_below (g := gb473) (o := .cells #[.string a0_0, .string a0_1, .slice A0_2 l0_2.length c0_2, .slice A0_3 l0_3.length c0_3] 57 (0, 0)) z88b hb); have n4_ := A_ (below_step z88a hb); have n5_ := A_ (hbox); have n6_ := A_ ((by rw [hg]; exact (below_size z88a) : w.heap.size ≤ gb499)); have n7_ := A_ ((by rw [hg]; exact (below_size z88a) : w.heap.size ≤ gb499)); have n8_ := A_ ((by rw [hg]; exact Nat.ne_of_lt (blk_lt (g := gb473) (o := .cells #[.string a0_0, .string a0_1, .slice A0_2 l0_2.length c0_2, .slice A0_3 l0_3.length c0_3] 57 (0, 0)) z88b) : gb473 ≠ gb499)); have n9_ := A_ ((by rw [hg]; exact Nat.ne_of_gt (blk_lt (g := gb473) (o := .cells #[.string a0_0, .string a0_1, .slice A0_2 l0_2.length c0_2, .slice A0_3 l0_3.length c0_3] 57 (0, 0)) z88b) : gb499 ≠ gb473)); clear HO_4; clear HO495; clear HO498; clear BK473; clear HB; have HO_4 := n0_; have HO495 := n1_; have HO498 := n2_; have BK473 := n3_; have HB := n4_; have BK499 := n5_; have GW499 := n6_; have GE499 := n7_; have NB473_499 := n8_; have NB499_473 := n9_; clear n0_ n1_ n2_ n3_ n4_ n5_ n6_ n7_ n8_ n9_; clear hb hbox hg; have hnb61 := NB499_473.out; have hnc61 := NB473_499.out; have hcz62_0 : w60.cell? ⟨gb499, 0, none⟩ = some (.string (⟨#[]⟩ : ByteArray)) := (blk_cell BK499.out 0).trans rfl; have hcz62_1 : w60.cell? ⟨gb499, 1, none⟩ = some (.string (⟨#[]⟩ : ByteArray)) := (blk_cell BK499.out 1).trans rfl; have hcz62_2 : w60.cell? ⟨gb499, 2, none⟩ = some (.slice none 0 0) := (blk_cell BK499.out 2).trans rfl; have hcz62_3 : w60.cell? ⟨gb499, 3, none⟩ = some (.slice none 0 0) := (blk_cell BK499.out 3).trans rfl; have hfz62_0 := blk_frozen BK499.out 0; have hfz62_1 := blk_frozen BK499.out 1; have hfz62_2 := blk_frozen BK499.out 2; have hfz62_3 := blk_frozen BK499.out 3; obtain ⟨Ao63, co63, eo63⟩ := Kd.R_slice HO495.out; subst eo63; obtain ⟨Ao64, co64, eo64⟩ := Kd.R_slice HO498.out; subst eo64; have hcz65_0 : w60.cell? ⟨gb473, 0, none⟩ = some (.string a0_0) := (blk_cell BK473.out 0).trans rfl; have hcz65_1 : w60.cell? ⟨gb473, 1, none⟩ = some (.string a0_1) := (blk_cell BK473.out 1).trans rfl; have hcz65_2 : w60.cell? ⟨gb473, 2, none⟩ = some (.slice A0_2 l0_2.length c0_2) := (blk_cell BK473.out 2).trans rfl; have hcz65_3 : w60.cell? ⟨gb473, 3, none⟩ = some (.slice A0_3 l0_3.length c0_3) := (blk_cell BK473.out 3).trans rfl; have hfz65_0 := blk_frozen BK473.out 0; have hfz65_1 := blk_frozen BK473.out 1; have hfz65_2 := blk_frozen BK473.out 2; have hfz65_3 := blk_frozen BK473.out 3))
   go_ret2
   exact ⟨_, by first | rfl | (simp [errW_none, errW_some] <;> rfl) | (simp [*, errW_none, errW_some] <;> rfl), by (with_reducible repeat (first | apply Kd.R_alloc | apply Kd.R_drewN | apply Kd.R_drew)); exact Kd.R_mono (Kd.R_far (p := ⟨gb499, 3, none⟩) (Kd.R_far (p := ⟨gb499, 2, none⟩) (Kd.R_far (p := ⟨gb499, 1, none⟩) (Kd.R_far (p := ⟨gb499, 0, none⟩) (Kd.R_types HO_4.out BK499.out (by decide)) (fun _ hk => hk.2) (.string t491)) (fun _ hk => hk.2) (.string t492)) (fun _ hk => hk.2) (.slice Ao63 t493.length co63)) (fun _ hk => hk.2) (.slice Ao64 t496.length co64)) (fun _ hk => trivial), by repeat (first | (with_reducible first | exact HB.out | apply below_alloc | apply pw_below_drewN | apply below_drew1 | refine below_set ?_ GE473.out | refine below_set ?_ GE499.out) | exact HB.out)⟩
   }
   }
   {
   replace c34 := Bool.eq_false_iff.mpr c34
   subst c34
   have H1 : (some (([] : List (S31)), false)) = some (r1, r2) := by rw [if_neg (show ¬ (false = true) by decide)] at H; exact H
   clear H
   have H := H1
   clear H1
   simp only [Option.some.injEq, Prod.mk.injEq] at H
   obtain ⟨rfl, rfl⟩ := H
   obtain ⟨Ao66, co66, eo66⟩ := Kd.R_slice HO_4.out
   subst eo66
   go_wp2_with (first | ((with_reducible refine gate_callee (f := 26) rfl ?_); refine goesL_ (some 42) rfl rfl Try.func26 (by kernel_rfl) rfl #[.slice Ao66 x4_1.length co66] rfl z88d ?_; (with_reducible refine (impl_EntriesOk.calls k1 _ _ x4_1 false _ ?side1 ?side2 A33.out).mono ?_); (case side1 => exact z88e); (case side2 => exact (Kd.R_reads' HO_4.out).2.1); rintro e w67 ⟨rfl, hb⟩; refine ⟨_, rfl, ?_⟩; replace HO_4 := A_ (Kd.R_below z88c hb); replace BK473 := A_ (blk_below (g := gb473) (o := .cells #[.string a0_0, .string a0_1, .slice A0_2 l0_2.length c0_2, .slice A0_3 l0_3.length c0_3] 57 (0, 0)) z88b hb); replace HB := A_ (below_step z88a hb)))
   go_ret2
   exact ⟨_, by first | rfl | (simp [errW_none, errW_some] <;> rfl) | (simp [*, errW_none, errW_some] <;> rfl), by first | exact Kd.R_nil _ _ _ _ _ | exact Kd.N_nil _ _ _ _ _ | exact Kd.V_nil _ _ _ _ _ | exact Kd.Q_nil _ _ _ _ _ | exact Kd.S_nil _ _ _ _ _, by repeat (first | (with_reducible first | exact HB.out | apply below_alloc | apply pw_below_drewN | apply below_drew1 | refine below_set ?_ GE473.out) | exact HB.out)⟩
   }
   }
 }
 {
 replace c3 := Bool.eq_false_iff.mpr c3
 subst c3
 have H1 : (some (([] : List (S31)), false)) = some (r1, r2) := by rw [if_neg (show ¬ (false = true) by decide)] at H; exact H
 clear H
 have H := H1
 clear H1
 simp only [Option.some.injEq, Prod.mk.injEq] at H
 obtain ⟨rfl, rfl⟩ := H
 go_enter Try.func88, Try.ntmps88
 go_wp2_with (first | ((with_reducible refine gate_dst (N := 1) rfl ?_); (try (refine gate_guard (by rfl) ?_; dsimp only)); refine box_event ?hg (N := 1) ?hd (cs := #[.string a0_0, .string a0_1, .slice A0_2 l0_2.length c0_2, .slice A0_3 l0_3.length c0_3]) (t := 57) ?hr ?_; (case hd => rfl); (case hg => rfl); (case hr => first | (go_simp; done) | (go_simp; rfl)); intro gb473 hg w68 hbox hb; have n0_ := A_ (below_step z88f hb); have n1_ := A_ (hbox); have n2_ := A_ ((by rw [hg]; exact (below_size z88f) : w.heap.size ≤ gb473)); have n3_ := A_ ((by rw [hg]; exact (below_size z88f) : w.heap.size ≤ gb473)); clear HB; have HB := n0_; have BK473 := n1_; have GW473 := n2_; have GE473 := n3_; clear n0_ n1_ n2_ n3_; clear hb hbox hg; have hcz69_0 : w68.cell? ⟨gb473, 0, none⟩ = some (.string a0_0) := (blk_cell BK473.out 0).trans rfl; have hcz69_1 : w68.cell? ⟨gb473, 1, none⟩ = some (.string a0_1) := (blk_cell BK473.out 1).trans rfl; have hcz69_2 : w68.cell? ⟨gb473, 2, none⟩ = some (.slice A0_2 l0_2.length c0_2) := (blk_cell BK473.out 2).trans rfl; have hcz69_3 : w68.cell? ⟨gb473, 3, none⟩ = some (.slice A0_3 l0_3.length c0_3) := (blk_cell BK473.out 3).trans rfl; have hfz69_0 := blk_frozen BK473.out 0; have hfz69_1 := blk_frozen BK473.out 1; have hfz69_2 := blk_frozen BK473.out 2; have hfz69_3 := blk_frozen BK473.out 3) | ((with_reducible refine gate_callee (f := 96) rfl ?_); refine goesL_ (some 13) rfl rfl Try.func96 (by kernel_rfl) rfl #[.int .i64 (l0_3.length : Int), .int .i64 1, .int .i64 40] rfl z88d ?_; (with_reducible refine (impl_within.calls (l0_3.length : Int) 1 40 false _ A2.out).mono ?_); rintro e w' ⟨rfl, ⟨nd, rfl⟩⟩; refine ⟨_, rfl, ?_⟩))
 go_ret2
 exact ⟨_, by first | rfl | (simp [errW_none, errW_some] <;> rfl) | (simp [*, errW_none, errW_some] <;> rfl), by first | exact Kd.R_nil _ _ _ _ _ | exact Kd.N_nil _ _ _ _ _ | exact Kd.V_nil _ _ _ _ _ | exact Kd.Q_nil _ _ _ _ _ | exact Kd.S_nil _ _ _ _ _, by repeat (first | (with_reducible first | exact HB.out | apply below_alloc | apply pw_below_drewN | apply below_drew1 | refine below_set ?_ GE473.out) | exact HB.out)⟩
 
 }
def impl_TableOk.f (k : Nat) (a0_0 : ByteArray) (a0_1 : ByteArray) (l0_2 : List Int) (l0_3 : List ByteArray) : Option (Bool) := (impl_entries.f k a0_0 a0_1 l0_2 l0_3).bind fun bt502 => (some bt502.2)
set_option maxHeartbeats 8000000 in
set_option maxRecDepth 100000 in
theorem impl_TableOk.calls (k : Nat) (a0_0 : ByteArray) (a0_1 : ByteArray) (A0_2 : Option Addr) (c0_2 : Nat) (l0_2 : List Int) (A0_3 : Option Addr) (c0_3 : Nat) (l0_3 : List ByteArray) (r : Bool) (w : World) (hr0_2 : Kd.C (Kd.int .i64) w A0_2 l0_2.length l0_2) (hc0_2 : l0_2.length ≤ c0_2) (hr0_3 : Kd.C Kd.string w A0_3 l0_3.length l0_3) (hc0_3 : l0_3.length ≤ c0_3) (h : impl_TableOk.f k a0_0 a0_1 l0_2 l0_3 = some r) :
  Calls Try.prog 44 #[.agg #[.string a0_0, .string a0_1, .slice A0_2 l0_2.length c0_2, .slice A0_3 l0_3.length c0_3]] w fun e w' => e = .returned (.bool r) ∧ Below w.heap.size w w' := by
 have hu57 := Try.underlying57
 have HR0_2 := A_ hr0_2
 have HC0_2 := A_ hc0_2
 clear hr0_2 hc0_2
 have HR0_3 := A_ hr0_3
 have HC0_3 := A_ hc0_3
 clear hr0_3 hc0_3
 have HB := A_ (Below.refl w.heap.size w)
 have H : ((impl_entries.f k a0_0 a0_1 l0_2 l0_3).bind fun bt502 => (some bt502.2)) = some r := h
 clear h
 replace H := Option.bind_eq_some_iff.mp H
 obtain ⟨⟨t502, t505⟩, A20, H⟩ := H
 replace H : (some t505) = some r := H
 have A2 := A_ A20
 clear A20
 obtain rfl := Option.some.inj H
 go_enter Try.func44, Try.ntmps44
 go_wp2_with (first | ((with_reducible refine gate_dst (N := 1) rfl ?_); refine box_event ?hg (N := 1) ?hd (cs := #[.string a0_0, .string a0_1, .slice A0_2 l0_2.length c0_2, .slice A0_3 l0_3.length c0_3]) (t := 57) ?hr ?_; (case hd => rfl); (case hg => rfl); (case hr => first | (go_simp; done) | (go_simp; rfl)); intro gb501 hg w3 hbox hb; have n0_ := A_ (below_step (by repeat (first | (with_reducible first | exact HB.out | apply below_alloc | apply pw_below_drewN | apply below_drew1) | exact HB.out)) hb); have n1_ := A_ (hbox); have n2_ := A_ ((by rw [hg]; exact (below_size (by repeat (first | (with_reducible first | exact HB.out | apply below_alloc | apply pw_below_drewN | apply below_drew1) | exact HB.out))) : w.heap.size ≤ gb501)); have n3_ := A_ ((by rw [hg]; exact (below_size (by repeat (first | (with_reducible first | exact HB.out | apply below_alloc | apply pw_below_drewN | apply below_drew1) | exact HB.out))) : w.heap.size ≤ gb501)); clear HB; have HB := n0_; have BK501 := n1_; have GW501 := n2_; have GE501 := n3_; clear n0_ n1_ n2_ n3_; clear hb hbox hg; have hcz4_0 : w3.cell? ⟨gb501, 0, none⟩ = some (.string a0_0) := (blk_cell BK501.out 0).trans rfl; have hcz4_1 : w3.cell? ⟨gb501, 1, none⟩ = some (.string a0_1) := (blk_cell BK501.out 1).trans rfl; have hcz4_2 : w3.cell? ⟨gb501, 2, none⟩ = some (.slice A0_2 l0_2.length c0_2) := (blk_cell BK501.out 2).trans rfl; have hcz4_3 : w3.cell? ⟨gb501, 3, none⟩ = some (.slice A0_3 l0_3.length c0_3) := (blk_cell BK501.out 3).trans rfl; have hfz4_0 := blk_frozen BK501.out 0; have hfz4_1 := blk_frozen BK501.out 1; have hfz4_2 := blk_frozen BK501.out 2; have hfz4_3 := blk_frozen BK501.out 3) | ((with_reducible refine gate_callee (f := 88) rfl ?_); refine goesL_ (some 7) rfl rfl Try.func88 (by kernel_rfl) rfl #[.agg #[.string a0_0, .string a0_1, .slice A0_2 l0_2.length c0_2, .slice A0_3 l0_3.length c0_3]] rfl (by (try simp only [List.map_toArray, List.map_cons, List.map_nil]); first | done | rfl | (simp only [List.length_drop, List.length_take]; rfl)) ?_; (with_reducible refine (impl_entries.calls k a0_0 a0_1 _ _ l0_2 _ _ l0_3 t502 t505 _ ?side1 ?side2 ?side3 ?side4 A2.out).mono ?_); (case side1 => exact (by repeat (first | exact (Kd.C_below HR0_2.out HB.out) | (with_reducible refine Kd.C_alloc ?_ _) | (with_reducible refine Kd.C_drewN ?_ _) | (with_reducible refine Kd.C_drew ?_)))); (case side2 => exact HC0_2.out); (case side3 => exact (by repeat (first | exact (Kd.C_below HR0_3.out HB.out) | (with_reducible refine Kd.C_alloc ?_ _) | (with_reducible refine Kd.C_drewN ?_ _) | (with_reducible refine Kd.C_drew ?_)))); (case side4 => exact HC0_3.out); rintro e w5 ⟨v503, rfl, ho0, hb⟩; refine ⟨_, rfl, ?_⟩; have n0_ := A_ (Kd.R_lower ho0 (below_size (by repeat (first | (with_reducible first | exact HB.out | apply below_alloc | apply pw_below_drewN | apply below_drew1 | refine below_set ?_ GE501.out) | exact HB.out)))); have n1_ := A_ (blk_below (g := gb501) (o := .cells #[.string a0_0, .string a0_1, .slice A0_2 l0_2.length c0_2, .slice A0_3 l0_3.length c0_3] 57 (0, 0)) (by (with_reducible repeat (first | refine blk_drewN ?_ _ | refine blk_drew ?_ | refine blk_alloc ?_ _)); exact BK501.out) hb); have n2_ := A_ (below_step (by repeat (first | (with_reducible first | exact HB.out | apply below_alloc | apply pw_below_drewN | apply below_drew1 | refine below_set ?_ GE501.out) | exact HB.out)) hb); clear BK501; clear HB; have HO504 := n0_; have BK501 := n1_; have HB := n2_; clear n0_ n1_ n2_))
 go_ret
 exact ⟨by first | rfl | (simp [errW_none, errW_some] <;> rfl) | (simp [*, errW_none, errW_some] <;> rfl), by repeat (first | (with_reducible first | exact HB.out | apply below_alloc | apply pw_below_drewN | apply below_drew1 | refine below_set ?_ GE501.out) | exact HB.out)⟩

theorem z8a {p_ : Prop} (h_ : p_ := by repeat (first | (with_reducible first | exact HB.out | apply below_alloc | apply pw_below_drewN | apply below_drew1 | refine below_set ?_ GE506.out) | exact HB.out)) : p_ := h_
theorem z8b {p_ : Prop} (h_ : p_ := by (with_reducible repeat (first | refine blk_drewN ?_ _ | refine blk_drew ?_ | refine blk_alloc ?_ _)); exact BK506.out) : p_ := h_
theorem z8c {p_ : Prop} (h_ : p_ := by (try simp only [List.map_toArray, List.map_cons, List.map_nil]); first | done | rfl | (simp only [List.length_drop, List.length_take]; rfl)) : p_ := h_
theorem z8d {p_ : Prop} (h_ : p_ := by repeat (first | (with_reducible first | exact HB.out | apply below_alloc | apply pw_below_drewN | apply below_drew1 | refine below_set ?_ GE506.out | refine below_set ?_ GE525.out) | exact HB.out)) : p_ := h_
theorem z8e {p_ : Prop} (h_ : p_ := by repeat (first | exact (Kd.C_below HR0_2.out HB.out) | (with_reducible refine Kd.C_alloc ?_ _) | (with_reducible refine Kd.C_drewN ?_ _) | (with_reducible refine Kd.C_drew ?_))) : p_ := h_
theorem z8f {p_ : Prop} (h_ : p_ := by repeat (first | exact (Kd.C_below HR0_3.out HB.out) | (with_reducible refine Kd.C_alloc ?_ _) | (with_reducible refine Kd.C_drewN ?_ _) | (with_reducible refine Kd.C_drew ?_))) : p_ := h_
theorem z8g {p_ : Prop} (h_ : p_ := by (with_reducible repeat (first | apply Kd.R_alloc | apply Kd.R_drewN | apply Kd.R_drew)); exact HO512.out) : p_ := h_
theorem z8h {p_ : Prop} (h_ : p_ := by (with_reducible repeat (first | apply Kd.R_alloc | apply Kd.R_drewN | apply Kd.R_drew)); exact HO515.out) : p_ := h_
theorem z8i {p_ : Prop} (h_ : p_ := by repeat (first | (with_reducible first | exact HB.out | apply below_alloc | apply pw_below_drewN | apply below_drew1) | exact HB.out)) : p_ := h_
theorem z8j {p_ : Prop} (h_ : p_ := by (with_reducible repeat (first | refine blk_drewN ?_ _ | refine blk_drew ?_ | refine blk_alloc ?_ _)); refine blk_far ?_ NB506_525.out _; (with_reducible repeat (first | refine blk_drewN ?_ _ | refine blk_drew ?_ | refine blk_alloc ?_ _)); refine blk_far ?_ NB506_525.out _; (with_reducible repeat (first | refine blk_drewN ?_ _ | refine blk_drew ?_ | refine blk_alloc ?_ _)); refine blk_far ?_ NB506_525.out _; (with_reducible repeat (first | refine blk_drewN ?_ _ | refine blk_drew ?_ | refine blk_alloc ?_ _)); refine blk_far ?_ NB506_525.out _; (with_reducible repeat (first | refine blk_drewN ?_ _ | refine blk_drew ?_ | refine blk_alloc ?_ _)); exact BK506.out) : p_ := h_
theorem z8k {p_ : Prop} (h_ : p_ := by (with_reducible repeat (first | apply Kd.R_alloc | apply Kd.R_drewN | apply Kd.R_drew)); exact HO521.out) : p_ := h_
theorem z8l {p_ : Prop} (h_ : p_ := by (with_reducible repeat (first | apply Kd.R_alloc | apply Kd.R_drewN | apply Kd.R_drew)); exact HO524.out) : p_ := h_
theorem z8m {p_ : Prop} (h_ : p_ := by simp only [Act.put, List.setIfInBounds_toArray, List.set_cons_zero, List.set_cons_succ, i64_w, i32_w]; rfl) : p_ := h_
theorem z8n {p_ : Prop} (h_ : p_ := by (with_reducible repeat (first | apply Kd.R_alloc | apply Kd.R_drewN | apply Kd.R_drew)); exact (Kd.R_mono (Kd.R_far (p := ⟨gb525, 3, none⟩) (Kd.R_far (p := ⟨gb525, 2, none⟩) (Kd.R_far (p := ⟨gb525, 1, none⟩) (Kd.R_far (p := ⟨gb525, 0, none⟩) (Kd.R_types HO521.out BK525.out (by decide)) (fun _ hk => hk.2) (.string t517)) (fun _ hk => hk.2) (.string t518)) (fun _ hk => hk.2) (.slice Ao25 t519.length co25)) (fun _ hk => hk.2) (.slice Ao26 t522.length co26)) (fun _ h_ => h_.1))) : p_ := h_
theorem z8o {p_ : Prop} (h_ : p_ := by (with_reducible repeat (first | apply Kd.R_alloc | apply Kd.R_drewN | apply Kd.R_drew)); exact (Kd.R_mono (Kd.R_far (p := ⟨gb525, 3, none⟩) (Kd.R_far (p := ⟨gb525, 2, none⟩) (Kd.R_far (p := ⟨gb525, 1, none⟩) (Kd.R_far (p := ⟨gb525, 0, none⟩) (Kd.R_types HO524.out BK525.out (by decide)) (fun _ hk => hk.2) (.string t517)) (fun _ hk => hk.2) (.string t518)) (fun _ hk => hk.2) (.slice Ao25 t519.length co25)) (fun _ hk => hk.2) (.slice Ao26 t522.length co26)) (fun _ h_ => h_.1))) : p_ := h_
theorem z8p {p_ : Prop} (h_ : p_ := by (with_reducible repeat (first | apply Kd.R_alloc | apply Kd.R_drewN | apply Kd.R_drew)); exact (Kd.R_mono (Kd.R_far (p := ⟨gb525, 3, none⟩) (Kd.R_far (p := ⟨gb525, 2, none⟩) (Kd.R_far (p := ⟨gb525, 1, none⟩) (Kd.R_far (p := ⟨gb525, 0, none⟩) (Kd.R_types HO521.out BK525.out (by decide)) (fun _ hk => hk.2) (.string t517)) (fun _ hk => hk.2) (.string t518)) (fun _ hk => hk.2) (.slice Ao44 t519.length co44)) (fun _ hk => hk.2) (.slice Ao45 t522.length co45)) (fun _ h_ => h_.1))) : p_ := h_
theorem z8q {p_ : Prop} (h_ : p_ := by (with_reducible repeat (first | apply Kd.R_alloc | apply Kd.R_drewN | apply Kd.R_drew)); exact (Kd.R_mono (Kd.R_far (p := ⟨gb525, 3, none⟩) (Kd.R_far (p := ⟨gb525, 2, none⟩) (Kd.R_far (p := ⟨gb525, 1, none⟩) (Kd.R_far (p := ⟨gb525, 0, none⟩) (Kd.R_types HO524.out BK525.out (by decide)) (fun _ hk => hk.2) (.string t517)) (fun _ hk => hk.2) (.string t518)) (fun _ hk => hk.2) (.slice Ao44 t519.length co44)) (fun _ hk => hk.2) (.slice Ao45 t522.length co45)) (fun _ h_ => h_.1))) : p_ := h_
theorem z8r {p_ : Prop} (h_ : p_ := by (with_reducible repeat (first | apply Kd.R_alloc | apply Kd.R_drewN | apply Kd.R_drew)); exact (Kd.R_mono (Kd.R_far (p := ⟨gb525, 3, none⟩) (Kd.R_far (p := ⟨gb525, 2, none⟩) (Kd.R_far (p := ⟨gb525, 1, none⟩) (Kd.R_far (p := ⟨gb525, 0, none⟩) (Kd.R_types HO521.out BK525.out (by decide)) (fun _ hk => hk.2) (.string t517)) (fun _ hk => hk.2) (.string t518)) (fun _ hk => hk.2) (.slice Ao65 t519.length co65)) (fun _ hk => hk.2) (.slice Ao66 t522.length co66)) (fun _ h_ => h_.1))) : p_ := h_
theorem z8s {p_ : Prop} (h_ : p_ := by (with_reducible repeat (first | apply Kd.R_alloc | apply Kd.R_drewN | apply Kd.R_drew)); exact (Kd.R_mono (Kd.R_far (p := ⟨gb525, 3, none⟩) (Kd.R_far (p := ⟨gb525, 2, none⟩) (Kd.R_far (p := ⟨gb525, 1, none⟩) (Kd.R_far (p := ⟨gb525, 0, none⟩) (Kd.R_types HO524.out BK525.out (by decide)) (fun _ hk => hk.2) (.string t517)) (fun _ hk => hk.2) (.string t518)) (fun _ hk => hk.2) (.slice Ao65 t519.length co65)) (fun _ hk => hk.2) (.slice Ao66 t522.length co66)) (fun _ h_ => h_.1))) : p_ := h_
def laws_FnExactTableOk.f (k : Nat) (a0_0 : ByteArray) (a0_1 : ByteArray) (l0_2 : List Int) (l0_3 : List ByteArray) : Option (Bool) := (laws_szTable.f k a0_0 a0_1 l0_2 l0_3 1048576).bind fun t507 => (if t507 < 0 then (some true) else ((laws_toTable.f k a0_0 a0_1 l0_2 l0_3).bind fun bt508 => ((spec_TableOk.f k bt508.1 bt508.2.1 bt508.2.2.1 bt508.2.2.2).bind fun t516 => ((laws_toTable.f k a0_0 a0_1 l0_2 l0_3).bind fun bt517 => ((impl_TableOk.f k bt517.1 bt517.2.1 bt517.2.2.1 bt517.2.2.2).bind fun t526 => (if (t526 != t516) = true then (some false) else ((laws_toTable.f k a0_0 a0_1 l0_2 l0_3).bind fun bt527 => ((laws_eqTable.f k bt517.1 bt517.2.1 bt517.2.2.1 bt517.2.2.2 bt527.1 bt527.2.1 bt527.2.2.1 bt527.2.2.2).bind fun t535 => (if t535 = true then (some true) else (some false))))))))))
set_option maxHeartbeats 8000000 in
set_option maxRecDepth 100000 in
theorem laws_FnExactTableOk.calls (k : Nat) (a0_0 : ByteArray) (a0_1 : ByteArray) (A0_2 : Option Addr) (c0_2 : Nat) (l0_2 : List Int) (A0_3 : Option Addr) (c0_3 : Nat) (l0_3 : List ByteArray) (r : Bool) (w : World) (hr0_2 : Kd.C (Kd.int .i64) w A0_2 l0_2.length l0_2) (hc0_2 : l0_2.length ≤ c0_2) (hr0_3 : Kd.C Kd.string w A0_3 l0_3.length l0_3) (hc0_3 : l0_3.length ≤ c0_3) (h : laws_FnExactTableOk.f k a0_0 a0_1 l0_2 l0_3 = some r) :
  Calls Try.prog 8 #[.agg #[.string a0_0, .string a0_1, .slice A0_2 l0_2.length c0_2, .slice A0_3 l0_3.length c0_3]] w fun e w' => e = .returned (.bool r) ∧ Below w.heap.size w w' := by
 have hu63 := Try.underlying63
 have hu57 := Try.underlying57
 have HR0_2 := A_ hr0_2
 have HC0_2 := A_ hc0_2
 clear hr0_2 hc0_2
 have HR0_3 := A_ hr0_3
 have HC0_3 := A_ hc0_3
 clear hr0_3 hc0_3
 have HB := A_ (Below.refl w.heap.size w)
 have H : ((laws_szTable.f k a0_0 a0_1 l0_2 l0_3 1048576).bind fun t507 => (if t507 < 0 then (some true) else ((laws_toTable.f k a0_0 a0_1 l0_2 l0_3).bind fun bt508 => ((spec_TableOk.f k bt508.1 bt508.2.1 bt508.2.2.1 bt508.2.2.2).bind fun t516 => ((laws_toTable.f k a0_0 a0_1 l0_2 l0_3).bind fun bt517 => ((impl_TableOk.f k bt517.1 bt517.2.1 bt517.2.2.1 bt517.2.2.2).bind fun t526 => (if (t526 != t516) = true then (some false) else ((laws_toTable.f k a0_0 a0_1 l0_2 l0_3).bind fun bt527 => ((laws_eqTable.f k bt517.1 bt517.2.1 bt517.2.2.1 bt517.2.2.2 bt527.1 bt527.2.1 bt527.2.2.1 bt527.2.2.2).bind fun t535 => (if t535 = true then (some true) else (some false))))))))))) = some r := h
 clear h
 replace H := Option.bind_eq_some_iff.mp H
 obtain ⟨t507, A20, H⟩ := H
 replace H : (if t507 < 0 then (some true) else ((laws_toTable.f k a0_0 a0_1 l0_2 l0_3).bind fun bt508 => ((spec_TableOk.f k bt508.1 bt508.2.1 bt508.2.2.1 bt508.2.2.2).bind fun t516 => ((laws_toTable.f k a0_0 a0_1 l0_2 l0_3).bind fun bt517 => ((impl_TableOk.f k bt517.1 bt517.2.1 bt517.2.2.1 bt517.2.2.2).bind fun t526 => (if (t526 != t516) = true then (some false) else ((laws_toTable.f k a0_0 a0_1 l0_2 l0_3).bind fun bt527 => ((laws_eqTable.f k bt517.1 bt517.2.1 bt517.2.2.1 bt517.2.2.2 bt527.1 bt527.2.1 bt527.2.2.1 bt527.2.2.2).bind fun t535 => (if t535 = true then (some true) else (some false)))))))))) = some r := H
 have A2 := A_ A20
 clear A20
 by_cases c3 : t507 < 0
 {
 rw [if_pos c3] at H
 have c3b0 : decide (t507 < 0) = true := decide_eq_true c3
 clear c3
 obtain rfl := Option.some.inj H
 go_enter Try.func8, Try.ntmps8
 go_wp2_with (first | ((with_reducible refine gate_dst (N := 1) rfl ?_); refine box_event ?hg (N := 1) ?hd (cs := #[.string a0_0, .string a0_1, .slice A0_2 l0_2.length c0_2, .slice A0_3 l0_3.length c0_3]) (t := 63) ?hr ?_; (case hd => rfl); (case hg => rfl); (case hr => first | (go_simp; done) | (go_simp; rfl)); intro gb506 hg w4 hbox hb; have n0_ := A_ (below_step z8i hb); have n1_ := A_ (hbox); have n2_ := A_ ((by rw [hg]; exact (below_size z8i) : w.heap.size ≤ gb506)); have n3_ := A_ ((by rw [hg]; exact (below_size z8i) : w.heap.size ≤ gb506)); clear HB; have HB := n0_; have BK506 := n1_; have GW506 := n2_; have GE506 := n3_; clear n0_ n1_ n2_ n3_; clear hb hbox hg; have hcz5_0 : w4.cell? ⟨gb506, 0, none⟩ = some (.string a0_0) := (blk_cell BK506.out 0).trans rfl; have hcz5_1 : w4.cell? ⟨gb506, 1, none⟩ = some (.string a0_1) := (blk_cell BK506.out 1).trans rfl; have hcz5_2 : w4.cell? ⟨gb506, 2, none⟩ = some (.slice A0_2 l0_2.length c0_2) := (blk_cell BK506.out 2).trans rfl; have hcz5_3 : w4.cell? ⟨gb506, 3, none⟩ = some (.slice A0_3 l0_3.length c0_3) := (blk_cell BK506.out 3).trans rfl; have hfz5_0 := blk_frozen BK506.out 0; have hfz5_1 := blk_frozen BK506.out 1; have hfz5_2 := blk_frozen BK506.out 2; have hfz5_3 := blk_frozen BK506.out 3) | ((with_reducible refine gate_callee (f := 41) rfl ?_); refine goesL_ (some 9) rfl rfl Try.func41 (by kernel_rfl) rfl #[.agg #[.string a0_0, .string a0_1, .slice A0_2 l0_2.length c0_2, .slice A0_3 l0_3.length c0_3], .int .i64 1048576] rfl z8c ?_; (with_reducible refine (laws_szTable.calls k a0_0 a0_1 _ _ l0_2 _ _ l0_3 1048576 t507 _ ?side1 ?side2 ?side3 ?side4 A2.out).mono ?_); (case side1 => exact z8e); (case side2 => exact HC0_2.out); (case side3 => exact z8f); (case side4 => exact HC0_3.out); rintro e w6 ⟨rfl, hb⟩; refine ⟨_, rfl, ?_⟩; replace BK506 := A_ (blk_below (g := gb506) (o := .cells #[.string a0_0, .string a0_1, .slice A0_2 l0_2.length c0_2, .slice A0_3 l0_3.length c0_3] 63 (0, 0)) z8b hb); replace HB := A_ (below_step z8a hb)))
 go_ret
 exact ⟨by first | rfl | (simp [errW_none, errW_some] <;> rfl) | (simp [*, errW_none, errW_some] <;> rfl), by repeat (first | (with_reducible first | exact HB.out | apply below_alloc | apply pw_below_drewN | apply below_drew1 | refine below_set ?_ GE506.out) | exact HB.out)⟩
 }
 {
 rw [if_neg c3] at H
 have c3b0 : decide (t507 < 0) = false := decide_eq_false c3
 clear c3
 replace H := Option.bind_eq_some_iff.mp H
 obtain ⟨⟨t508, t509, t510, t513⟩, A70, H⟩ := H
 replace H : ((spec_TableOk.f k t508 t509 t510 t513).bind fun t516 => ((laws_toTable.f k a0_0 a0_1 l0_2 l0_3).bind fun bt517 => ((impl_TableOk.f k bt517.1 bt517.2.1 bt517.2.2.1 bt517.2.2.2).bind fun t526 => (if (t526 != t516) = true then (some false) else ((laws_toTable.f k a0_0 a0_1 l0_2 l0_3).bind fun bt527 => ((laws_eqTable.f k bt517.1 bt517.2.1 bt517.2.2.1 bt517.2.2.2 bt527.1 bt527.2.1 bt527.2.2.1 bt527.2.2.2).bind fun t535 => (if t535 = true then (some true) else (some false)))))))) = some r := H
 have A7 := A_ A70
 clear A70
 replace H := Option.bind_eq_some_iff.mp H
 obtain ⟨t516, A80, H⟩ := H
 replace H : ((laws_toTable.f k a0_0 a0_1 l0_2 l0_3).bind fun bt517 => ((impl_TableOk.f k bt517.1 bt517.2.1 bt517.2.2.1 bt517.2.2.2).bind fun t526 => (if (t526 != t516) = true then (some false) else ((laws_toTable.f k a0_0 a0_1 l0_2 l0_3).bind fun bt527 => ((laws_eqTable.f k bt517.1 bt517.2.1 bt517.2.2.1 bt517.2.2.2 bt527.1 bt527.2.1 bt527.2.2.1 bt527.2.2.2).bind fun t535 => (if t535 = true then (some true) else (some false))))))) = some r := H
 have A8 := A_ A80
 clear A80
 replace H := Option.bind_eq_some_iff.mp H
 obtain ⟨⟨t517, t518, t519, t522⟩, A90, H⟩ := H
 replace H : ((impl_TableOk.f k t517 t518 t519 t522).bind fun t526 => (if (t526 != t516) = true then (some false) else ((laws_toTable.f k a0_0 a0_1 l0_2 l0_3).bind fun bt527 => ((laws_eqTable.f k t517 t518 t519 t522 bt527.1 bt527.2.1 bt527.2.2.1 bt527.2.2.2).bind fun t535 => (if t535 = true then (some true) else (some false)))))) = some r := H
 have A9 := A_ A90
 clear A90
 replace H := Option.bind_eq_some_iff.mp H
 obtain ⟨t526, A100, H⟩ := H
 replace H : (if (t526 != t516) = true then (some false) else ((laws_toTable.f k a0_0 a0_1 l0_2 l0_3).bind fun bt527 => ((laws_eqTable.f k t517 t518 t519 t522 bt527.1 bt527.2.1 bt527.2.2.1 bt527.2.2.2).bind fun t535 => (if t535 = true then (some true) else (some false))))) = some r := H
 have A10 := A_ A100
 clear A100
 by_cases c11 : (t526 != t516) = true
 {
 rw [if_pos c11] at H
 have c11b0 : (t526 != t516) = true := c11
 (try (have c11b1 : decide (t526 = t516) = false := by simpa using c11))
 (try (have c11b2 : (t526 == t516) = false := by simpa using c11))
 (try (have c11b3 : ¬ (t526 = t516) := by simpa using c11))
 clear c11
 obtain rfl := Option.some.inj H
 go_enter Try.func8, Try.ntmps8
 go_wp2_with (first | ((with_reducible refine gate_dst (N := 1) rfl ?_); refine box_event ?hg (N := 1) ?hd (cs := #[.string a0_0, .string a0_1, .slice A0_2 l0_2.length c0_2, .slice A0_3 l0_3.length c0_3]) (t := 63) ?hr ?_; (case hd => rfl); (case hg => rfl); (case hr => first | (go_simp; done) | (go_simp; rfl)); intro gb506 hg w12 hbox hb; have n0_ := A_ (below_step z8i hb); have n1_ := A_ (hbox); have n2_ := A_ ((by rw [hg]; exact (below_size z8i) : w.heap.size ≤ gb506)); have n3_ := A_ ((by rw [hg]; exact (below_size z8i) : w.heap.size ≤ gb506)); clear HB; have HB := n0_; have BK506 := n1_; have GW506 := n2_; have GE506 := n3_; clear n0_ n1_ n2_ n3_; clear hb hbox hg; have hcz13_0 : w12.cell? ⟨gb506, 0, none⟩ = some (.string a0_0) := (blk_cell BK506.out 0).trans rfl; have hcz13_1 : w12.cell? ⟨gb506, 1, none⟩ = some (.string a0_1) := (blk_cell BK506.out 1).trans rfl; have hcz13_2 : w12.cell? ⟨gb506, 2, none⟩ = some (.slice A0_2 l0_2.length c0_2) := (blk_cell BK506.out 2).trans rfl; have hcz13_3 : w12.cell? ⟨gb506, 3, none⟩ = some (.slice A0_3 l0_3.length c0_3) := (blk_cell BK506.out 3).trans rfl; have hfz13_0 := blk_frozen BK506.out 0; have hfz13_1 := blk_frozen BK506.out 1; have hfz13_2 := blk_frozen BK506.out 2; have hfz13_3 := blk_frozen BK506.out 3) | ((with_reducible refine gate_callee (f := 41) rfl ?_); refine goesL_ (some 9) rfl rfl Try.func41 (by kernel_rfl) rfl #[.agg #[.string a0_0, .string a0_1, .slice A0_2 l0_2.length c0_2, .slice A0_3 l0_3.length c0_3], .int .i64 1048576] rfl z8c ?_; (with_reducible refine (laws_szTable.calls k a0_0 a0_1 _ _ l0_2 _ _ l0_3 1048576 t507 _ ?side1 ?side2 ?side3 ?side4 A2.out).mono ?_); (case side1 => exact z8e); (case side2 => exact HC0_2.out); (case side3 => exact z8f); (case side4 => exact HC0_3.out); rintro e w14 ⟨rfl, hb⟩; refine ⟨_, rfl, ?_⟩; replace BK506 := A_ (blk_below (g := gb506) (o := .cells #[.string a0_0, .string a0_1, .slice A0_2 l0_2.length c0_2, .slice A0_3 l0_3.length c0_3] 63 (0, 0)) z8b hb); replace HB := A_ (below_step z8a hb); have hcz15_0 : w14.cell? ⟨gb506, 0, none⟩ = some (.string a0_0) := (blk_cell BK506.out 0).trans rfl; have hcz15_1 : w14.cell? ⟨gb506, 1, none⟩ = some (.string a0_1) := (blk_cell BK506.out 1).trans rfl; have hcz15_2 : w14.cell? ⟨gb506, 2, none⟩ = some (.slice A0_2 l0_2.length c0_2) := (blk_cell BK506.out 2).trans rfl; have hcz15_3 : w14.cell? ⟨gb506, 3, none⟩ = some (.slice A0_3 l0_3.length c0_3) := (blk_cell BK506.out 3).trans rfl; have hfz15_0 := blk_frozen BK506.out 0; have hfz15_1 := blk_frozen BK506.out 1; have hfz15_2 := blk_frozen BK506.out 2; have hfz15_3 := blk_frozen BK506.out 3) | ((with_reducible refine gate_callee (f := 43) rfl ?_); refine goesL_ (some 13) rfl rfl Try.func43 (by kernel_rfl) rfl #[.agg #[.string a0_0, .string a0_1, .slice A0_2 l0_2.length c0_2, .slice A0_3 l0_3.length c0_3]] rfl z8c ?_; (with_reducible refine (laws_toTable.calls k a0_0 a0_1 _ _ l0_2 _ _ l0_3 t508 t509 t510 t513 _ ?side1 ?side2 ?side3 ?side4 A7.out).mono ?_); (case side1 => exact z8e); (case side2 => exact HC0_2.out); (case side3 => exact z8f); (case side4 => exact HC0_3.out); rintro e w16 ⟨v511, v514, rfl, ho0, ho1, hb⟩; refine ⟨_, rfl, ?_⟩; have n0_ := A_ (Kd.R_lower ho0 (below_size z8a)); have n1_ := A_ (Kd.R_lower ho1 (below_size z8a)); have n2_ := A_ (blk_below (g := gb506) (o := .cells #[.string a0_0, .string a0_1, .slice A0_2 l0_2.length c0_2, .slice A0_3 l0_3.length c0_3] 63 (0, 0)) z8b hb); have n3_ := A_ (below_step z8a hb); clear BK506; clear HB; have HO512 := n0_; have HO515 := n1_; have BK506 := n2_; have HB := n3_; clear n0_ n1_ n2_ n3_; (try clear ho1); obtain ⟨Ao17, co17, eo17⟩ := Kd.R_slice HO512.out; subst eo17; obtain ⟨Ao18, co18, eo18⟩ := Kd.R_slice HO515.out; subst eo18) | ((with_reducible refine gate_callee (f := 42) rfl ?_); refine goesL_ (some 14) rfl rfl Try.func42 (by kernel_rfl) rfl #[.agg #[.string t508, .string t509, .slice Ao17 t510.length co17, .slice Ao18 t513.length co18]] rfl z8c ?_; (with_reducible refine (spec_TableOk.calls k t508 t509 _ _ t510 _ _ t513 t516 _ ?side1 ?side2 ?side3 ?side4 A8.out).mono ?_); (case side1 => exact (by repeat (first | exact (Kd.R_reads' HO512.out).2.2 | (with_reducible refine Kd.C_alloc ?_ _) | (with_reducible refine Kd.C_drewN ?_ _) | (with_reducible refine Kd.C_drew ?_)))); (case side2 => exact (Kd.R_reads' HO512.out).2.1); (case side3 => exact (by repeat (first | exact (Kd.R_reads' HO515.out).2.2 | (with_reducible refine Kd.C_alloc ?_ _) | (with_reducible refine Kd.C_drewN ?_ _) | (with_reducible refine Kd.C_drew ?_)))); (case side4 => exact (Kd.R_reads' HO515.out).2.1); rintro e w19 ⟨rfl, hb⟩; refine ⟨_, rfl, ?_⟩; replace HO512 := A_ (Kd.R_below z8g hb); replace HO515 := A_ (Kd.R_below z8h hb); replace BK506 := A_ (blk_below (g := gb506) (o := .cells #[.string a0_0, .string a0_1, .slice A0_2 l0_2.length c0_2, .slice A0_3 l0_3.length c0_3] 63 (0, 0)) z8b hb); replace HB := A_ (below_step z8a hb); have hcz20_0 : w19.cell? ⟨gb506, 0, none⟩ = some (.string a0_0) := (blk_cell BK506.out 0).trans rfl; have hcz20_1 : w19.cell? ⟨gb506, 1, none⟩ = some (.string a0_1) := (blk_cell BK506.out 1).trans rfl; have hcz20_2 : w19.cell? ⟨gb506, 2, none⟩ = some (.slice A0_2 l0_2.length c0_2) := (blk_cell BK506.out 2).trans rfl; have hcz20_3 : w19.cell? ⟨gb506, 3, none⟩ = some (.slice A0_3 l0_3.length c0_3) := (blk_cell BK506.out 3).trans rfl; have hfz20_0 := blk_frozen BK506.out 0; have hfz20_1 := blk_frozen BK506.out 1; have hfz20_2 := blk_frozen BK506.out 2; have hfz20_3 := blk_frozen BK506.out 3) | ((with_reducible refine gate_callee (f := 43) rfl ?_); refine goesL_ (some 16) rfl rfl Try.func43 (by kernel_rfl) rfl #[.agg #[.string a0_0, .string a0_1, .slice A0_2 l0_2.length c0_2, .slice A0_3 l0_3.length c0_3]] rfl z8c ?_; (with_reducible refine (laws_toTable.calls k a0_0 a0_1 _ _ l0_2 _ _ l0_3 t517 t518 t519 t522 _ ?side1 ?side2 ?side3 ?side4 A9.out).mono ?_); (case side1 => exact z8e); (case side2 => exact HC0_2.out); (case side3 => exact z8f); (case side4 => exact HC0_3.out); rintro e w21 ⟨v520, v523, rfl, ho0, ho1, hb⟩; refine ⟨_, rfl, ?_⟩; have n0_ := A_ (Kd.R_elder' z8g (Kd.R_base ho0) hb); have n1_ := A_ (Kd.R_elder' z8h (Kd.R_base ho1) hb); have n2_ := A_ (Kd.R_lower (Kd.R_new' ho0 (Kd.R_lt z8g)) (below_size z8a)); have n3_ := A_ (Kd.R_lower (Kd.R_new' ho1 (Kd.R_lt z8h)) (below_size z8a)); have n4_ := A_ (blk_below (g := gb506) (o := .cells #[.string a0_0, .string a0_1, .slice A0_2 l0_2.length c0_2, .slice A0_3 l0_3.length c0_3] 63 (0, 0)) z8b hb); have n5_ := A_ (below_step z8a hb); clear HO512; clear HO515; clear BK506; clear HB; have HO512 := n0_; have HO515 := n1_; have HO521 := n2_; have HO524 := n3_; have BK506 := n4_; have HB := n5_; clear n0_ n1_ n2_ n3_ n4_ n5_; (try clear ho1)) | ((with_reducible refine gate_dst (N := 5) rfl ?_); refine box_event ?hg (N := 5) ?hd (cs := #[.string (⟨#[]⟩ : ByteArray), .string (⟨#[]⟩ : ByteArray), .slice none 0 0, .slice none 0 0]) (t := 57) ?hr ?_; (case hd => rfl); (case hg => rfl); (case hr => first | (go_simp; done) | (go_simp; rfl)); intro gb525 hg w22 hbox hb; have n0_ := A_ (Kd.R_below z8g hb); have n1_ := A_ (Kd.R_below z8h hb); have n2_ := A_ (Kd.R_below z8k hb); have n3_ := A_ (Kd.R_below z8l hb); have n4_ := A_ (blk_below (g := gb506) (o := .cells #[.string a0_0, .string a0_1, .slice A0_2 l0_2.length c0_2, .slice A0_3 l0_3.length c0_3] 63 (0, 0)) z8b hb); have n5_ := A_ (below_step z8a hb); have n6_ := A_ (hbox); have n7_ := A_ ((by rw [hg]; exact (below_size z8a) : w.heap.size ≤ gb525)); have n8_ := A_ ((by rw [hg]; exact (below_size z8a) : w.heap.size ≤ gb525)); have n9_ := A_ ((by rw [hg]; exact Nat.ne_of_lt (blk_lt (g := gb506) (o := .cells #[.string a0_0, .string a0_1, .slice A0_2 l0_2.length c0_2, .slice A0_3 l0_3.length c0_3] 63 (0, 0)) z8b) : gb506 ≠ gb525)); have n10_ := A_ ((by rw [hg]; exact Nat.ne_of_gt (blk_lt (g := gb506) (o := .cells #[.string a0_0, .string a0_1, .slice A0_2 l0_2.length c0_2, .slice A0_3 l0_3.length c0_3] 63 (0, 0)) z8b) : gb525 ≠ gb506)); clear HO512; clear HO515; clear HO521; clear HO524; clear BK506; clear HB; have HO512 := n0_; have HO515 := n1_; have HO521 := n2_; have HO524 := n3_; have BK506 := n4_; have HB := n5_; have BK525 := n6_; have GW525 := n7_; have GE525 := n8_; have NB506_525 := n9_; have NB525_506 := n10_; clear n0_ n1_ n2_ n3_ n4_ n5_ n6_ n7_ n8_ n9_ n10_; clear hb hbox hg; have hnb23 := NB525_506.out; have hnc23 := NB506_525.out; have hcz24_0 : w22.cell? ⟨gb525, 0, none⟩ = some (.string (⟨#[]⟩ : ByteArray)) := (blk_cell BK525.out 0).trans rfl; have hcz24_1 : w22.cell? ⟨gb525, 1, none⟩ = some (.string (⟨#[]⟩ : ByteArray)) := (blk_cell BK525.out 1).trans rfl; have hcz24_2 : w22.cell? ⟨gb525, 2, none⟩ = some (.slice none 0 0) := (blk_cell BK525.out 2).trans rfl; have hcz24_3 : w22.cell? ⟨gb525, 3, none⟩ = some (.slice none 0 0) := (blk_cell BK525.out 3).trans rfl; have hfz24_0 := blk_frozen BK525.out 0; have hfz24_1 := blk_frozen BK525.out 1; have hfz24_2 := blk_frozen BK525.out 2; have hfz24_3 := blk_frozen BK525.out 3; obtain ⟨Ao25, co25, eo25⟩ := Kd.R_slice HO521.out; subst eo25; obtain ⟨Ao26, co26, eo26⟩ := Kd.R_slice HO524.out; subst eo26) | ((with_reducible refine gate_callee (f := 44) rfl ?_); refine goesL_ (some 18) rfl rfl Try.func44 (by kernel_rfl) rfl #[.agg #[.string t517, .string t518, .slice Ao25 t519.length co25, .slice Ao26 t522.length co26]] rfl z8c ?_; (with_reducible refine (impl_TableOk.calls k t517 t518 _ _ t519 _ _ t522 t526 _ ?side1 ?side2 ?side3 ?side4 A10.out).mono ?_); (case side1 => refine (Kd.R_reads' (e := 2) (base := w.heap.size) (ok := fun k_ => (True ∧ some k_ ≠ (.slice Ao17 t510.length co17 : Value).ownBlock)) (n := t519.length) (c := co25) ?_).2.2; exact z8n); (case side2 => exact (Kd.R_reads' HO521.out).2.1); (case side3 => refine (Kd.R_reads' (e := 9) (base := w.heap.size) (ok := fun k_ => (True ∧ some k_ ≠ (.slice Ao18 t513.length co18 : Value).ownBlock)) (n := t522.length) (c := co26) ?_).2.2; exact z8o); (case side4 => exact (Kd.R_reads' HO524.out).2.1); rintro e w27 ⟨rfl, hb⟩; refine ⟨_, rfl, ?_⟩; replace HO512 := A_ (Kd.R_below (by (with_reducible repeat (first | apply Kd.R_alloc | apply Kd.R_drewN | apply Kd.R_drew)); exact (Kd.R_mono (Kd.R_far (p := ⟨gb525, 3, none⟩) (Kd.R_far (p := ⟨gb525, 2, none⟩) (Kd.R_far (p := ⟨gb525, 1, none⟩) (Kd.R_far (p := ⟨gb525, 0, none⟩) (Kd.R_types HO512.out BK525.out (by decide)) (fun _ hk => hk.2) (.string t517)) (fun _ hk => hk.2) (.string t518)) (fun _ hk => hk.2) (.slice Ao25 t519.length co25)) (fun _ hk => hk.2) (.slice Ao26 t522.length co26)) (fun _ h_ => h_.1))) hb); replace HO515 := A_ (Kd.R_below (by (with_reducible repeat (first | apply Kd.R_alloc | apply Kd.R_drewN | apply Kd.R_drew)); exact (Kd.R_mono (Kd.R_far (p := ⟨gb525, 3, none⟩) (Kd.R_far (p := ⟨gb525, 2, none⟩) (Kd.R_far (p := ⟨gb525, 1, none⟩) (Kd.R_far (p := ⟨gb525, 0, none⟩) (Kd.R_types HO515.out BK525.out (by decide)) (fun _ hk => hk.2) (.string t517)) (fun _ hk => hk.2) (.string t518)) (fun _ hk => hk.2) (.slice Ao25 t519.length co25)) (fun _ hk => hk.2) (.slice Ao26 t522.length co26)) (fun _ h_ => h_.1))) hb); replace HO521 := A_ (Kd.R_below z8n hb); replace HO524 := A_ (Kd.R_below z8o hb); replace BK506 := A_ (blk_below (g := gb506) (o := .cells #[.string a0_0, .string a0_1, .slice A0_2 l0_2.length c0_2, .slice A0_3 l0_3.length c0_3] 63 (0, 0)) z8j hb); replace BK525 := A_ (blk_below (g := gb525) (o := .cells #[.string t517, .string t518, .slice Ao25 t519.length co25, .slice Ao26 t522.length co26] 57 (0, 0)) (by (with_reducible repeat (first | refine blk_drewN ?_ _ | refine blk_drew ?_ | refine blk_alloc ?_ _)); refine blk_put (cs := #[.string t517, .string t518, .slice Ao25 t519.length co25, .slice none 0 0]) ?_ 3 _ rfl; (with_reducible repeat (first | refine blk_drewN ?_ _ | refine blk_drew ?_ | refine blk_alloc ?_ _)); refine blk_put (cs := #[.string t517, .string t518, .slice none 0 0, .slice none 0 0]) ?_ 2 _ rfl; (with_reducible repeat (first | refine blk_drewN ?_ _ | refine blk_drew ?_ | refine blk_alloc ?_ _)); refine blk_put (cs := #[.string t517, .string (⟨#[]⟩ : ByteArray), .slice none 0 0, .slice none 0 0]) ?_ 1 _ rfl; (with_reducible repeat (first | refine blk_drewN ?_ _ | refine blk_drew ?_ | refine blk_alloc ?_ _)); refine blk_put (cs := #[.string (⟨#[]⟩ : ByteArray), .string (⟨#[]⟩ : ByteArray), .slice none 0 0, .slice none 0 0]) ?_ 0 _ rfl; (with_reducible repeat (first | refine blk_drewN ?_ _ | refine blk_drew ?_ | refine blk_alloc ?_ _)); exact BK525.out) hb); replace HB := A_ (below_step z8d hb)))
 go_ret
 exact ⟨by first | rfl | (simp [errW_none, errW_some] <;> rfl) | (simp [*, errW_none, errW_some] <;> rfl), by repeat (first | (with_reducible first | exact HB.out | apply below_alloc | apply pw_below_drewN | apply below_drew1 | refine below_set ?_ GE506.out | refine below_set ?_ GE525.out) | exact HB.out)⟩
 }
 {
 rw [if_neg c11] at H
 have c11b0 : (t526 != t516) = false := by simpa using c11
 (try (have c11b1 : decide (t526 = t516) = true := by simpa using c11))
 (try (have c11b2 : (t526 == t516) = true := by simpa using c11))
 clear c11
 replace H := Option.bind_eq_some_iff.mp H
 obtain ⟨⟨t527, t528, t529, t532⟩, A280, H⟩ := H
 replace H : ((laws_eqTable.f k t517 t518 t519 t522 t527 t528 t529 t532).bind fun t535 => (if t535 = true then (some true) else (some false))) = some r := H
 have A28 := A_ A280
 clear A280
 replace H := Option.bind_eq_some_iff.mp H
 obtain ⟨t535, A290, H⟩ := H
 replace H : (if t535 = true then (some true) else (some false)) = some r := H
 have A29 := A_ A290
 clear A290
 by_cases c30 : t535 = true
 {
 subst c30
 have H1 : (some true) = some r := by rw [if_pos rfl] at H; exact H
 clear H
 have H := H1
 clear H1
 obtain rfl := Option.some.inj H
 go_enter Try.func8, Try.ntmps8
 try go_wp2_with (first | ((with_reducible refine gate_dst (N := 1) rfl ?_); refine box_event ?hg (N := 1) ?hd (cs := #[.string a0_0, .string a0_1, .slice A0_2 l0_2.length c0_2, .slice A0_3 l0_3.length c0_3]) (t := 63) ?hr ?_; (case hd => rfl); (case hg => rfl); (case hr => first | (go_simp; done) | (go_simp; rfl)); intro gb506 hg w31 hbox hb; have n0_ := A_ (below_step z8i hb); have n1_ := A_ (hbox); have n2_ := A_ ((by rw [hg]; exact (below_size z8i) : w.heap.size ≤ gb506)); have n3_ := A_ ((by rw [hg]; exact (below_size z8i) : w.heap.size ≤ gb506)); clear HB; have HB := n0_; have BK506 := n1_; have GW506 := n2_; have GE506 := n3_; clear n0_ n1_ n2_ n3_; clear hb hbox hg; have hcz32_0 : w31.cell? ⟨gb506, 0, none⟩ = some (.string a0_0) := (blk_cell BK506.out 0).trans rfl; have hcz32_1 : w31.cell? ⟨gb506, 1, none⟩ = some (.string a0_1) := (blk_cell BK506.out 1).trans rfl; have hcz32_2 : w31.cell? ⟨gb506, 2, none⟩ = some (.slice A0_2 l0_2.length c0_2) := (blk_cell BK506.out 2).trans rfl; have hcz32_3 : w31.cell? ⟨gb506, 3, none⟩ = some (.slice A0_3 l0_3.length c0_3) := (blk_cell BK506.out 3).trans rfl; have hfz32_0 := blk_frozen BK506.out 0; have hfz32_1 := blk_frozen BK506.out 1; have hfz32_2 := blk_frozen BK506.out 2; have hfz32_3 := blk_frozen BK506.out 3) | ((with_reducible refine gate_callee (f := 41) rfl ?_); refine goesL_ (some 9) rfl rfl Try.func41 (by kernel_rfl) rfl #[.agg #[.string a0_0, .string a0_1, .slice A0_2 l0_2.length c0_2, .slice A0_3 l0_3.length c0_3], .int .i64 1048576] rfl z8c ?_; (with_reducible refine (laws_szTable.calls k a0_0 a0_1 _ _ l0_2 _ _ l0_3 1048576 t507 _ ?side1 ?side2 ?side3 ?side4 A2.out).mono ?_); (case side1 => exact z8e); (case side2 => exact HC0_2.out); (case side3 => exact z8f); (case side4 => exact HC0_3.out); rintro e w33 ⟨rfl, hb⟩; refine ⟨_, rfl, ?_⟩; replace BK506 := A_ (blk_below (g := gb506) (o := .cells #[.string a0_0, .string a0_1, .slice A0_2 l0_2.length c0_2, .slice A0_3 l0_3.length c0_3] 63 (0, 0)) z8b hb); replace HB := A_ (below_step z8a hb); have hcz34_0 : w33.cell? ⟨gb506, 0, none⟩ = some (.string a0_0) := (blk_cell BK506.out 0).trans rfl; have hcz34_1 : w33.cell? ⟨gb506, 1, none⟩ = some (.string a0_1) := (blk_cell BK506.out 1).trans rfl; have hcz34_2 : w33.cell? ⟨gb506, 2, none⟩ = some (.slice A0_2 l0_2.length c0_2) := (blk_cell BK506.out 2).trans rfl; have hcz34_3 : w33.cell? ⟨gb506, 3, none⟩ = some (.slice A0_3 l0_3.length c0_3) := (blk_cell BK506.out 3).trans rfl; have hfz34_0 := blk_frozen BK506.out 0; have hfz34_1 := blk_frozen BK506.out 1; have hfz34_2 := blk_frozen BK506.out 2; have hfz34_3 := blk_frozen BK506.out 3) | ((with_reducible refine gate_callee (f := 43) rfl ?_); refine goesL_ (some 13) rfl rfl Try.func43 (by kernel_rfl) rfl #[.agg #[.string a0_0, .string a0_1, .slice A0_2 l0_2.length c0_2, .slice A0_3 l0_3.length c0_3]] rfl z8c ?_; (with_reducible refine (laws_toTable.calls k a0_0 a0_1 _ _ l0_2 _ _ l0_3 t508 t509 t510 t513 _ ?side1 ?side2 ?side3 ?side4 A7.out).mono ?_); (case side1 => exact z8e); (case side2 => exact HC0_2.out); (case side3 => exact z8f); (case side4 => exact HC0_3.out); rintro e w35 ⟨v511, v514, rfl, ho0, ho1, hb⟩; refine ⟨_, rfl, ?_⟩; have n0_ := A_ (Kd.R_lower ho0 (below_size z8a)); have n1_ := A_ (Kd.R_lower ho1 (below_size z8a)); have n2_ := A_ (blk_below (g := gb506) (o := .cells #[.string a0_0, .string a0_1, .slice A0_2 l0_2.length c0_2, .slice A0_3 l0_3.length c0_3] 63 (0, 0)) z8b hb); have n3_ := A_ (below_step z8a hb); clear BK506; clear HB; have HO512 := n0_; have HO515 := n1_; have BK506 := n2_; have HB := n3_; clear n0_ n1_ n2_ n3_; (try clear ho1); obtain ⟨Ao36, co36, eo36⟩ := Kd.R_slice HO512.out; subst eo36; obtain ⟨Ao37, co37, eo37⟩ := Kd.R_slice HO515.out; subst eo37) | ((with_reducible refine gate_callee (f := 42) rfl ?_); refine goesL_ (some 14) rfl rfl Try.func42 (by kernel_rfl) rfl #[.agg #[.string t508, .string t509, .slice Ao36 t510.length co36, .slice Ao37 t513.length co37]] rfl z8c ?_; (with_reducible refine (spec_TableOk.calls k t508 t509 _ _ t510 _ _ t513 t516 _ ?side1 ?side2 ?side3 ?side4 A8.out).mono ?_); (case side1 => exact (by repeat (first | exact (Kd.R_reads' HO512.out).2.2 | (with_reducible refine Kd.C_alloc ?_ _) | (with_reducible refine Kd.C_drewN ?_ _) | (with_reducible refine Kd.C_drew ?_)))); (case side2 => exact (Kd.R_reads' HO512.out).2.1); (case side3 => exact (by repeat (first | exact (Kd.R_reads' HO515.out).2.2 | (with_reducible refine Kd.C_alloc ?_ _) | (with_reducible refine Kd.C_drewN ?_ _) | (with_reducible refine Kd.C_drew ?_)))); (case side4 => exact (Kd.R_reads' HO515.out).2.1); rintro e w38 ⟨rfl, hb⟩; refine ⟨_, rfl, ?_⟩; replace HO512 := A_ (Kd.R_below z8g hb); replace HO515 := A_ (Kd.R_below z8h hb); replace BK506 := A_ (blk_below (g := gb506) (o := .cells #[.string a0_0, .string a0_1, .slice A0_2 l0_2.length c0_2, .slice A0_3 l0_3.length c0_3] 63 (0, 0)) z8b hb); replace HB := A_ (below_step z8a hb); have hcz39_0 : w38.cell? ⟨gb506, 0, none⟩ = some (.string a0_0) := (blk_cell BK506.out 0).trans rfl; have hcz39_1 : w38.cell? ⟨gb506, 1, none⟩ = some (.string a0_1) := (blk_cell BK506.out 1).trans rfl; have hcz39_2 : w38.cell? ⟨gb506, 2, none⟩ = some (.slice A0_2 l0_2.length c0_2) := (blk_cell BK506.out 2).trans rfl; have hcz39_3 : w38.cell? ⟨gb506, 3, none⟩ = some (.slice A0_3 l0_3.length c0_3) := (blk_cell BK506.out 3).trans rfl; have hfz39_0 := blk_frozen BK506.out 0; have hfz39_1 := blk_frozen BK506.out 1; have hfz39_2 := blk_frozen BK506.out 2; have hfz39_3 := blk_frozen BK506.out 3) | ((with_reducible refine gate_callee (f := 43) rfl ?_); refine goesL_ (some 16) rfl rfl Try.func43 (by kernel_rfl) rfl #[.agg #[.string a0_0, .string a0_1, .slice A0_2 l0_2.length c0_2, .slice A0_3 l0_3.length c0_3]] rfl z8c ?_; (with_reducible refine (laws_toTable.calls k a0_0 a0_1 _ _ l0_2 _ _ l0_3 t517 t518 t519 t522 _ ?side1 ?side2 ?side3 ?side4 A9.out).mono ?_); (case side1 => exact z8e); (case side2 => exact HC0_2.out); (case side3 => exact z8f); (case side4 => exact HC0_3.out); rintro e w40 ⟨v520, v523, rfl, ho0, ho1, hb⟩; refine ⟨_, rfl, ?_⟩; have n0_ := A_ (Kd.R_elder' z8g (Kd.R_base ho0) hb); have n1_ := A_ (Kd.R_elder' z8h (Kd.R_base ho1) hb); have n2_ := A_ (Kd.R_lower (Kd.R_new' ho0 (Kd.R_lt z8g)) (below_size z8a)); have n3_ := A_ (Kd.R_lower (Kd.R_new' ho1 (Kd.R_lt z8h)) (below_size z8a)); have n4_ := A_ (blk_below (g := gb506) (o := .cells #[.string a0_0, .string a0_1, .slice A0_2 l0_2.length c0_2, .slice A0_3 l0_3.length c0_3] 63 (0, 0)) z8b hb); have n5_ := A_ (below_step z8a hb); clear HO512; clear HO515; clear BK506; clear HB; have HO512 := n0_; have HO515 := n1_; have HO521 := n2_; have HO524 := n3_; have BK506 := n4_; have HB := n5_; clear n0_ n1_ n2_ n3_ n4_ n5_; (try clear ho1)) | ((with_reducible refine gate_dst (N := 5) rfl ?_); refine box_event ?hg (N := 5) ?hd (cs := #[.string (⟨#[]⟩ : ByteArray), .string (⟨#[]⟩ : ByteArray), .slice none 0 0, .slice none 0 0]) (t := 57) ?hr ?_; (case hd => rfl); (case hg => rfl); (case hr => first | (go_simp; done) | (go_simp; rfl)); intro gb525 hg w41 hbox hb; have n0_ := A_ (Kd.R_below z8g hb); have n1_ := A_ (Kd.R_below z8h hb); have n2_ := A_ (Kd.R_below z8k hb); have n3_ := A_ (Kd.R_below z8l hb); have n4_ := A_ (blk_below (g := gb506) (o := .cells #[.string a0_0, .string a0_1, .slice A0_2 l0_2.length c0_2, .slice A0_3 l0_3.length c0_3] 63 (0, 0)) z8b hb); have n5_ := A_ (below_step z8a hb); have n6_ := A_ (hbox); have n7_ := A_ ((by rw [hg]; exact (below_size z8a) : w.heap.size ≤ gb525)); have n8_ := A_ ((by rw [hg]; exact (below_size z8a) : w.heap.size ≤ gb525)); have n9_ := A_ ((by rw [hg]; exact Nat.ne_of_lt (blk_lt (g := gb506) (o := .cells #[.string a0_0, .string a0_1, .slice A0_2 l0_2.length c0_2, .slice A0_3 l0_3.length c0_3] 63 (0, 0)) z8b) : gb506 ≠ gb525)); have n10_ := A_ ((by rw [hg]; exact Nat.ne_of_gt (blk_lt (g := gb506) (o := .cells #[.string a0_0, .string a0_1, .slice A0_2 l0_2.length c0_2, .slice A0_3 l0_3.length c0_3] 63 (0, 0)) z8b) : gb525 ≠ gb506)); clear HO512; clear HO515; clear HO521; clear HO524; clear BK506; clear HB; have HO512 := n0_; have HO515 := n1_; have HO521 := n2_; have HO524 := n3_; have BK506 := n4_; have HB := n5_; have BK525 := n6_; have GW525 := n7_; have GE525 := n8_; have NB506_525 := n9_; have NB525_506 := n10_; clear n0_ n1_ n2_ n3_ n4_ n5_ n6_ n7_ n8_ n9_ n10_; clear hb hbox hg; have hnb42 := NB525_506.out; have hnc42 := NB506_525.out; have hcz43_0 : w41.cell? ⟨gb525, 0, none⟩ = some (.string (⟨#[]⟩ : ByteArray)) := (blk_cell BK525.out 0).trans rfl; have hcz43_1 : w41.cell? ⟨gb525, 1, none⟩ = some (.string (⟨#[]⟩ : ByteArray)) := (blk_cell BK525.out 1).trans rfl; have hcz43_2 : w41.cell? ⟨gb525, 2, none⟩ = some (.slice none 0 0) := (blk_cell BK525.out 2).trans rfl; have hcz43_3 : w41.cell? ⟨gb525, 3, none⟩ = some (.slice none 0 0) := (blk_cell BK525.out 3).trans rfl; have hfz43_0 := blk_frozen BK525.out 0; have hfz43_1 := blk_frozen BK525.out 1; have hfz43_2 := blk_frozen BK525.out 2; have hfz43_3 := blk_frozen BK525.out 3; obtain ⟨Ao44, co44, eo44⟩ := Kd.R_slice HO521.out; subst eo44; obtain ⟨Ao45, co45, eo45⟩ := Kd.R_slice HO524.out; subst eo45) | ((with_reducible refine gate_callee (f := 44) rfl ?_); refine goesL_ (some 18) rfl rfl Try.func44 (by kernel_rfl) rfl #[.agg #[.string t517, .string t518, .slice Ao44 t519.length co44, .slice Ao45 t522.length co45]] rfl z8c ?_; (with_reducible refine (impl_TableOk.calls k t517 t518 _ _ t519 _ _ t522 t526 _ ?side1 ?side2 ?side3 ?side4 A10.out).mono ?_); (case side1 => refine (Kd.R_reads' (e := 2) (base := w.heap.size) (ok := fun k_ => (True ∧ some k_ ≠ (.slice Ao36 t510.length co36 : Value).ownBlock)) (n := t519.length) (c := co44) ?_).2.2; exact z8p); (case side2 => exact (Kd.R_reads' HO521.out).2.1); (case side3 => refine (Kd.R_reads' (e := 9) (base := w.heap.size) (ok := fun k_ => (True ∧ some k_ ≠ (.slice Ao37 t513.length co37 : Value).ownBlock)) (n := t522.length) (c := co45) ?_).2.2; exact z8q); (case side4 => exact (Kd.R_reads' HO524.out).2.1); rintro e w46 ⟨rfl, hb⟩; refine ⟨_, rfl, ?_⟩; replace HO512 := A_ (Kd.R_below (by (with_reducible repeat (first | apply Kd.R_alloc | apply Kd.R_drewN | apply Kd.R_drew)); exact (Kd.R_mono (Kd.R_far (p := ⟨gb525, 3, none⟩) (Kd.R_far (p := ⟨gb525, 2, none⟩) (Kd.R_far (p := ⟨gb525, 1, none⟩) (Kd.R_far (p := ⟨gb525, 0, none⟩) (Kd.R_types HO512.out BK525.out (by decide)) (fun _ hk => hk.2) (.string t517)) (fun _ hk => hk.2) (.string t518)) (fun _ hk => hk.2) (.slice Ao44 t519.length co44)) (fun _ hk => hk.2) (.slice Ao45 t522.length co45)) (fun _ h_ => h_.1))) hb); replace HO515 := A_ (Kd.R_below (by (with_reducible repeat (first | apply Kd.R_alloc | apply Kd.R_drewN | apply Kd.R_drew)); exact (Kd.R_mono (Kd.R_far (p := ⟨gb525, 3, none⟩) (Kd.R_far (p := ⟨gb525, 2, none⟩) (Kd.R_far (p := ⟨gb525, 1, none⟩) (Kd.R_far (p := ⟨gb525, 0, none⟩) (Kd.R_types HO515.out BK525.out (by decide)) (fun _ hk => hk.2) (.string t517)) (fun _ hk => hk.2) (.string t518)) (fun _ hk => hk.2) (.slice Ao44 t519.length co44)) (fun _ hk => hk.2) (.slice Ao45 t522.length co45)) (fun _ h_ => h_.1))) hb); replace HO521 := A_ (Kd.R_below z8p hb); replace HO524 := A_ (Kd.R_below z8q hb); replace BK506 := A_ (blk_below (g := gb506) (o := .cells #[.string a0_0, .string a0_1, .slice A0_2 l0_2.length c0_2, .slice A0_3 l0_3.length c0_3] 63 (0, 0)) z8j hb); replace BK525 := A_ (blk_below (g := gb525) (o := .cells #[.string t517, .string t518, .slice Ao44 t519.length co44, .slice Ao45 t522.length co45] 57 (0, 0)) (by (with_reducible repeat (first | refine blk_drewN ?_ _ | refine blk_drew ?_ | refine blk_alloc ?_ _)); refine blk_put (cs := #[.string t517, .string t518, .slice Ao44 t519.length co44, .slice none 0 0]) ?_ 3 _ rfl; (with_reducible repeat (first | refine blk_drewN ?_ _ | refine blk_drew ?_ | refine blk_alloc ?_ _)); refine blk_put (cs := #[.string t517, .string t518, .slice none 0 0, .slice none 0 0]) ?_ 2 _ rfl; (with_reducible repeat (first | refine blk_drewN ?_ _ | refine blk_drew ?_ | refine blk_alloc ?_ _)); refine blk_put (cs := #[.string t517, .string (⟨#[]⟩ : ByteArray), .slice none 0 0, .slice none 0 0]) ?_ 1 _ rfl; (with_reducible repeat (first | refine blk_drewN ?_ _ | refine blk_drew ?_ | refine blk_alloc ?_ _)); refine blk_put (cs := #[.string (⟨#[]⟩ : ByteArray), .string (⟨#[]⟩ : ByteArray), .slice none 0 0, .slice none 0 0]) ?_ 0 _ rfl; (with_reducible repeat (first | refine blk_drewN ?_ _ | refine blk_drew ?_ | refine blk_alloc ?_ _)); exact BK525.out) hb); replace HB := A_ (below_step z8d hb)))
 replace HO512 := A_ (Kd.R_drew HO512.out)
 replace HO515 := A_ (Kd.R_drew HO515.out)
 replace HO521 := A_ (Kd.R_drew HO521.out)
 replace HO524 := A_ (Kd.R_drew HO524.out)
 replace BK506 := A_ (blk_drew BK506.out)
 replace BK525 := A_ (blk_drew BK525.out)
 replace HB := A_ (below_drew1 HB.out)
 refine start_ (n := 5) (S := fun w' => w'.cell? ⟨gb525, 0, none⟩ = some (.string t517) ∧ w'.cell? ⟨gb525, 1, none⟩ = some (.string t518) ∧ w'.cell? ⟨gb525, 2, none⟩ = some (.slice Ao44 t519.length co44) ∧ w'.cell? ⟨gb525, 3, none⟩ = some (.slice Ao45 t522.length co45) ∧ w'.cell? ⟨gb506, 0, none⟩ = some (.string a0_0) ∧ w'.cell? ⟨gb506, 1, none⟩ = some (.string a0_1) ∧ w'.cell? ⟨gb506, 2, none⟩ = some (.slice A0_2 l0_2.length c0_2) ∧ w'.cell? ⟨gb506, 3, none⟩ = some (.slice A0_3 l0_3.length c0_3)) (ds := []) #[false, false, false, false, false] (by kernel_rfl) rfl rfl ⟨(blk_cell BK525.out 0).trans rfl, (blk_cell BK525.out 1).trans rfl, (blk_cell BK525.out 2).trans rfl, (blk_cell BK525.out 3).trans rfl, (blk_cell BK506.out 0).trans rfl, (blk_cell BK506.out 1).trans rfl, (blk_cell BK506.out 2).trans rfl, (blk_cell BK506.out 3).trans rfl⟩ (fun hHeld => ?_)
 generalize w46.drew = w47 at HO512 HO515 HO521 HO524 BK506 BK525 HB hHeld ⊢
 refine take_ (i := 0) (N := some 22) (v := _) (a' := _) #[true, false, false, false, false] rfl rfl (by kernel_rfl) (fun _ _ _ h => h) (Or.inl ⟨by rfl, (by rintro w' ⟨s0, s1, s2, s3, s4, s5, s6, s7⟩; go_simp; with_reducible rfl)⟩) hHeld z8m ?_
 refine take_ (i := 1) (N := some 23) (v := _) (a' := _) #[true, true, false, false, false] rfl rfl (by kernel_rfl) (fun _ _ _ h => h) (Or.inl ⟨by rfl, (by rintro w' ⟨s0, s1, s2, s3, s4, s5, s6, s7⟩; go_simp; with_reducible rfl)⟩) hHeld z8m ?_
 refine one_ (i := 2) (N := some 24) #[true, true, true, false, false] rfl rfl (by kernel_rfl) (by decide) (fun K hK => ?_)
 refine goes_ Try.func43 (by kernel_rfl) rfl #[.agg #[.string a0_0, .string a0_1, .slice A0_2 l0_2.length c0_2, .slice A0_3 l0_3.length c0_3]] (by rfl) rfl rfl z8c ?_
 with_reducible refine (laws_toTable.calls k a0_0 a0_1 _ _ l0_2 _ _ l0_3 t527 t528 t529 t532 _ ?side1 ?side2 ?side3 ?side4 A28.out).mono ?_
 (case side1 => exact z8e)
 (case side2 => exact HC0_2.out)
 (case side3 => exact z8f)
 (case side4 => exact HC0_3.out)
 rintro e w48 ⟨v530, v533, rfl, ho0, ho1, hb⟩
 refine ⟨_, rfl, ?_⟩
 have n0_ := A_ (Kd.R_elder' z8g (Kd.R_base ho0) hb)
 have n1_ := A_ (Kd.R_elder' z8h (Kd.R_base ho1) hb)
 have n2_ := A_ (Kd.R_elder' z8k (Kd.R_base ho0) hb)
 have n3_ := A_ (Kd.R_elder' z8l (Kd.R_base ho1) hb)
 have n4_ := A_ (Kd.R_lower (Kd.R_new' (Kd.R_new' ho0 (Kd.R_lt z8g)) (Kd.R_lt z8k)) (below_size z8d))
 have n5_ := A_ (Kd.R_lower (Kd.R_new' (Kd.R_new' ho1 (Kd.R_lt z8h)) (Kd.R_lt z8l)) (below_size z8d))
 have n6_ := A_ (blk_below (g := gb506) (o := .cells #[.string a0_0, .string a0_1, .slice A0_2 l0_2.length c0_2, .slice A0_3 l0_3.length c0_3] 63 (0, 0)) z8b hb)
 have n7_ := A_ (blk_below (g := gb525) (o := .cells #[.string t517, .string t518, .slice Ao44 t519.length co44, .slice Ao45 t522.length co45] 57 (0, 0)) (by (with_reducible repeat (first | refine blk_drewN ?_ _ | refine blk_drew ?_ | refine blk_alloc ?_ _)); exact BK525.out) hb)
 have n8_ := A_ (below_step z8d hb)
 clear HO512
 clear HO515
 clear HO521
 clear HO524
 clear BK506
 clear BK525
 clear HB
 have HO512 := n0_
 have HO515 := n1_
 have HO521 := n2_
 have HO524 := n3_
 have HO531 := n4_
 have HO534 := n5_
 have BK506 := n6_
 have BK525 := n7_
 have HB := n8_
 clear n0_ n1_ n2_ n3_ n4_ n5_ n6_ n7_ n8_
 (try clear ho1)
 obtain ⟨Ao49, co49, eo49⟩ := Kd.R_slice HO531.out
 (first | subst eo49 | (injection eo49 with f1_ f2_ f3_; have f4_ := f1_.symm; have f5_ := f3_.symm; clear f1_ f2_ f3_; subst f4_; subst f5_))
 obtain ⟨Ao50, co50, eo50⟩ := Kd.R_slice HO534.out
 (first | subst eo50 | (injection eo50 with f1_ f2_ f3_; have f4_ := f1_.symm; have f5_ := f3_.symm; clear f1_ f2_ f3_; subst f4_; subst f5_))
 refine hK.out _ _ ⟨(blk_cell BK525.out 0).trans rfl, (blk_cell BK525.out 1).trans rfl, (blk_cell BK525.out 2).trans rfl, (blk_cell BK525.out 3).trans rfl, (blk_cell BK506.out 0).trans rfl, (blk_cell BK506.out 1).trans rfl, (blk_cell BK506.out 2).trans rfl, (blk_cell BK506.out 3).trans rfl⟩ (fun hHeld => ?_)
 clear hK K
 refine norm_ (nz_ 24) ?_
 refine one_ (i := 3) (N := some 25) #[true, true, true, true, false] rfl rfl (by kernel_rfl) (by decide) (fun K hK => ?_)
 refine goes_ Try.func38 (by kernel_rfl) rfl #[.agg #[.string t517, .string t518, .slice Ao44 t519.length co44, .slice Ao45 t522.length co45], .agg #[.string t527, .string t528, .slice Ao49 t529.length co49, .slice Ao50 t532.length co50]] (by rfl) rfl rfl z8c ?_
 with_reducible refine (laws_eqTable.calls k t517 t518 _ _ t519 _ _ t522 t527 t528 _ _ t529 _ _ t532 true _ ?side1 ?side2 ?side3 ?side4 ?side5 ?side6 ?side7 ?side8 A29.out).mono ?_
 (case side1 => exact (by repeat (first | exact (Kd.R_reads' HO521.out).2.2 | (with_reducible refine Kd.C_alloc ?_ _) | (with_reducible refine Kd.C_drewN ?_ _) | (with_reducible refine Kd.C_drew ?_))))
 (case side2 => exact (Kd.R_reads' HO521.out).2.1)
 (case side3 => exact (by repeat (first | exact (Kd.R_reads' HO524.out).2.2 | (with_reducible refine Kd.C_alloc ?_ _) | (with_reducible refine Kd.C_drewN ?_ _) | (with_reducible refine Kd.C_drew ?_))))
 (case side4 => exact (Kd.R_reads' HO524.out).2.1)
 (case side5 => exact (by repeat (first | exact (Kd.R_reads' HO531.out).2.2 | (with_reducible refine Kd.C_alloc ?_ _) | (with_reducible refine Kd.C_drewN ?_ _) | (with_reducible refine Kd.C_drew ?_))))
 (case side6 => exact (Kd.R_reads' HO531.out).2.1)
 (case side7 => exact (by repeat (first | exact (Kd.R_reads' HO534.out).2.2 | (with_reducible refine Kd.C_alloc ?_ _) | (with_reducible refine Kd.C_drewN ?_ _) | (with_reducible refine Kd.C_drew ?_))))
 (case side8 => exact (Kd.R_reads' HO534.out).2.1)
 rintro e w51 ⟨rfl, hb⟩
 refine ⟨_, rfl, ?_⟩
 replace HO512 := A_ (Kd.R_below z8g hb)
 replace HO515 := A_ (Kd.R_below z8h hb)
 replace HO521 := A_ (Kd.R_below z8k hb)
 replace HO524 := A_ (Kd.R_below z8l hb)
 replace HO531 := A_ (Kd.R_below (by (with_reducible repeat (first | apply Kd.R_alloc | apply Kd.R_drewN | apply Kd.R_drew)); exact HO531.out) hb)
 replace HO534 := A_ (Kd.R_below (by (with_reducible repeat (first | apply Kd.R_alloc | apply Kd.R_drewN | apply Kd.R_drew)); exact HO534.out) hb)
 replace BK506 := A_ (blk_below (g := gb506) (o := .cells #[.string a0_0, .string a0_1, .slice A0_2 l0_2.length c0_2, .slice A0_3 l0_3.length c0_3] 63 (0, 0)) z8b hb)
 replace BK525 := A_ (blk_below (g := gb525) (o := .cells #[.string t517, .string t518, .slice Ao44 t519.length co44, .slice Ao45 t522.length co45] 57 (0, 0)) (by (with_reducible repeat (first | refine blk_drewN ?_ _ | refine blk_drew ?_ | refine blk_alloc ?_ _)); exact BK525.out) hb)
 replace HB := A_ (below_step z8d hb)
 refine hK.out _ _ ⟨(blk_cell BK525.out 0).trans rfl, (blk_cell BK525.out 1).trans rfl, (blk_cell BK525.out 2).trans rfl, (blk_cell BK525.out 3).trans rfl, (blk_cell BK506.out 0).trans rfl, (blk_cell BK506.out 1).trans rfl, (blk_cell BK506.out 2).trans rfl, (blk_cell BK506.out 3).trans rfl⟩ (fun hHeld => ?_)
 clear hK K
 refine norm_ (nz_ 25) ?_
 refine pure_ (i := 4) (N := some 26) (v := _) (a' := _) #[true, true, true, true, true] rfl rfl (by kernel_rfl) (fun _ _ _ h => h) (Or.inl ⟨by rfl, (by intro w'; go_simp; with_reducible rfl)⟩) z8m ?_
 refine done_ (by kernel_rfl) ?_
 try go_wp2
 go_ret
 exact ⟨by first | rfl | (simp [errW_none, errW_some] <;> rfl) | (simp [*, errW_none, errW_some] <;> rfl), by repeat (first | (with_reducible first | exact HB.out | apply below_alloc | apply pw_below_drewN | apply below_drew1 | refine below_set ?_ GE506.out | refine below_set ?_ GE525.out) | exact HB.out)⟩
 }
 {
 replace c30 := Bool.eq_false_iff.mpr c30
 subst c30
 have H1 : (some false) = some r := by rw [if_neg (show ¬ (false = true) by decide)] at H; exact H
 clear H
 have H := H1
 clear H1
 obtain rfl := Option.some.inj H
 go_enter Try.func8, Try.ntmps8
 try go_wp2_with (first | ((with_reducible refine gate_dst (N := 1) rfl ?_); refine box_event ?hg (N := 1) ?hd (cs := #[.string a0_0, .string a0_1, .slice A0_2 l0_2.length c0_2, .slice A0_3 l0_3.length c0_3]) (t := 63) ?hr ?_; (case hd => rfl); (case hg => rfl); (case hr => first | (go_simp; done) | (go_simp; rfl)); intro gb506 hg w52 hbox hb; have n0_ := A_ (below_step z8i hb); have n1_ := A_ (hbox); have n2_ := A_ ((by rw [hg]; exact (below_size z8i) : w.heap.size ≤ gb506)); have n3_ := A_ ((by rw [hg]; exact (below_size z8i) : w.heap.size ≤ gb506)); clear HB; have HB := n0_; have BK506 := n1_; have GW506 := n2_; have GE506 := n3_; clear n0_ n1_ n2_ n3_; clear hb hbox hg; have hcz53_0 : w52.cell? ⟨gb506, 0, none⟩ = some (.string a0_0) := (blk_cell BK506.out 0).trans rfl; have hcz53_1 : w52.cell? ⟨gb506, 1, none⟩ = some (.string a0_1) := (blk_cell BK506.out 1).trans rfl; have hcz53_2 : w52.cell? ⟨gb506, 2, none⟩ = some (.slice A0_2 l0_2.length c0_2) := (blk_cell BK506.out 2).trans rfl; have hcz53_3 : w52.cell? ⟨gb506, 3, none⟩ = some (.slice A0_3 l0_3.length c0_3) := (blk_cell BK506.out 3).trans rfl; have hfz53_0 := blk_frozen BK506.out 0; have hfz53_1 := blk_frozen BK506.out 1; have hfz53_2 := blk_frozen BK506.out 2; have hfz53_3 := blk_frozen BK506.out 3) | ((with_reducible refine gate_callee (f := 41) rfl ?_); refine goesL_ (some 9) rfl rfl Try.func41 (by kernel_rfl) rfl #[.agg #[.string a0_0, .string a0_1, .slice A0_2 l0_2.length c0_2, .slice A0_3 l0_3.length c0_3], .int .i64 1048576] rfl z8c ?_; (with_reducible refine (laws_szTable.calls k a0_0 a0_1 _ _ l0_2 _ _ l0_3 1048576 t507 _ ?side1 ?side2 ?side3 ?side4 A2.out).mono ?_); (case side1 => exact z8e); (case side2 => exact HC0_2.out); (case side3 => exact z8f); (case side4 => exact HC0_3.out); rintro e w54 ⟨rfl, hb⟩; refine ⟨_, rfl, ?_⟩; replace BK506 := A_ (blk_below (g := gb506) (o := .cells #[.string a0_0, .string a0_1, .slice A0_2 l0_2.length c0_2, .slice A0_3 l0_3.length c0_3] 63 (0, 0)) z8b hb); replace HB := A_ (below_step z8a hb); have hcz55_0 : w54.cell? ⟨gb506, 0, none⟩ = some (.string a0_0) := (blk_cell BK506.out 0).trans rfl; have hcz55_1 : w54.cell? ⟨gb506, 1, none⟩ = some (.string a0_1) := (blk_cell BK506.out 1).trans rfl; have hcz55_2 : w54.cell? ⟨gb506, 2, none⟩ = some (.slice A0_2 l0_2.length c0_2) := (blk_cell BK506.out 2).trans rfl; have hcz55_3 : w54.cell? ⟨gb506, 3, none⟩ = some (.slice A0_3 l0_3.length c0_3) := (blk_cell BK506.out 3).trans rfl; have hfz55_0 := blk_frozen BK506.out 0; have hfz55_1 := blk_frozen BK506.out 1; have hfz55_2 := blk_frozen BK506.out 2; have hfz55_3 := blk_frozen BK506.out 3) | ((with_reducible refine gate_callee (f := 43) rfl ?_); refine goesL_ (some 13) rfl rfl Try.func43 (by kernel_rfl) rfl #[.agg #[.string a0_0, .string a0_1, .slice A0_2 l0_2.length c0_2, .slice A0_3 l0_3.length c0_3]] rfl z8c ?_; (with_reducible refine (laws_toTable.calls k a0_0 a0_1 _ _ l0_2 _ _ l0_3 t508 t509 t510 t513 _ ?side1 ?side2 ?side3 ?side4 A7.out).mono ?_); (case side1 => exact z8e); (case side2 => exact HC0_2.out); (case side3 => exact z8f); (case side4 => exact HC0_3.out); rintro e w56 ⟨v511, v514, rfl, ho0, ho1, hb⟩; refine ⟨_, rfl, ?_⟩; have n0_ := A_ (Kd.R_lower ho0 (below_size z8a)); have n1_ := A_ (Kd.R_lower ho1 (below_size z8a)); have n2_ := A_ (blk_below (g := gb506) (o := .cells #[.string a0_0, .string a0_1, .slice A0_2 l0_2.length c0_2, .slice A0_3 l0_3.length c0_3] 63 (0, 0)) z8b hb); have n3_ := A_ (below_step z8a hb); clear BK506; clear HB; have HO512 := n0_; have HO515 := n1_; have BK506 := n2_; have HB := n3_; clear n0_ n1_ n2_ n3_; (try clear ho1); obtain ⟨Ao57, co57, eo57⟩ := Kd.R_slice HO512.out; subst eo57; obtain ⟨Ao58, co58, eo58⟩ := Kd.R_slice HO515.out; subst eo58) | ((with_reducible refine gate_callee (f := 42) rfl ?_); refine goesL_ (some 14) rfl rfl Try.func42 (by kernel_rfl) rfl #[.agg #[.string t508, .string t509, .slice Ao57 t510.length co57, .slice Ao58 t513.length co58]] rfl z8c ?_; (with_reducible refine (spec_TableOk.calls k t508 t509 _ _ t510 _ _ t513 t516 _ ?side1 ?side2 ?side3 ?side4 A8.out).mono ?_); (case side1 => exact (by repeat (first | exact (Kd.R_reads' HO512.out).2.2 | (with_reducible refine Kd.C_alloc ?_ _) | (with_reducible refine Kd.C_drewN ?_ _) | (with_reducible refine Kd.C_drew ?_)))); (case side2 => exact (Kd.R_reads' HO512.out).2.1); (case side3 => exact (by repeat (first | exact (Kd.R_reads' HO515.out).2.2 | (with_reducible refine Kd.C_alloc ?_ _) | (with_reducible refine Kd.C_drewN ?_ _) | (with_reducible refine Kd.C_drew ?_)))); (case side4 => exact (Kd.R_reads' HO515.out).2.1); rintro e w59 ⟨rfl, hb⟩; refine ⟨_, rfl, ?_⟩; replace HO512 := A_ (Kd.R_below z8g hb); replace HO515 := A_ (Kd.R_below z8h hb); replace BK506 := A_ (blk_below (g := gb506) (o := .cells #[.string a0_0, .string a0_1, .slice A0_2 l0_2.length c0_2, .slice A0_3 l0_3.length c0_3] 63 (0, 0)) z8b hb); replace HB := A_ (below_step z8a hb); have hcz60_0 : w59.cell? ⟨gb506, 0, none⟩ = some (.string a0_0) := (blk_cell BK506.out 0).trans rfl; have hcz60_1 : w59.cell? ⟨gb506, 1, none⟩ = some (.string a0_1) := (blk_cell BK506.out 1).trans rfl; have hcz60_2 : w59.cell? ⟨gb506, 2, none⟩ = some (.slice A0_2 l0_2.length c0_2) := (blk_cell BK506.out 2).trans rfl; have hcz60_3 : w59.cell? ⟨gb506, 3, none⟩ = some (.slice A0_3 l0_3.length c0_3) := (blk_cell BK506.out 3).trans rfl; have hfz60_0 := blk_frozen BK506.out 0; have hfz60_1 := blk_frozen BK506.out 1; have hfz60_2 := blk_frozen BK506.out 2; have hfz60_3 := blk_frozen BK506.out 3) | ((with_reducible refine gate_callee (f := 43) rfl ?_); refine goesL_ (some 16) rfl rfl Try.func43 (by kernel_rfl) rfl #[.agg #[.string a0_0, .string a0_1, .slice A0_2 l0_2.length c0_2, .slice A0_3 l0_3.length c0_3]] rfl z8c ?_; (with_reducible refine (laws_toTable.calls k a0_0 a0_1 _ _ l0_2 _ _ l0_3 t517 t518 t519 t522 _ ?side1 ?side2 ?side3 ?side4 A9.out).mono ?_); (case side1 => exact z8e); (case side2 => exact HC0_2.out); (case side3 => exact z8f); (case side4 => exact HC0_3.out); rintro e w61 ⟨v520, v523, rfl, ho0, ho1, hb⟩; refine ⟨_, rfl, ?_⟩; have n0_ := A_ (Kd.R_elder' z8g (Kd.R_base ho0) hb); have n1_ := A_ (Kd.R_elder' z8h (Kd.R_base ho1) hb); have n2_ := A_ (Kd.R_lower (Kd.R_new' ho0 (Kd.R_lt z8g)) (below_size z8a)); have n3_ := A_ (Kd.R_lower (Kd.R_new' ho1 (Kd.R_lt z8h)) (below_size z8a)); have n4_ := A_ (blk_below (g := gb506) (o := .cells #[.string a0_0, .string a0_1, .slice A0_2 l0_2.length c0_2, .slice A0_3 l0_3.length c0_3] 63 (0, 0)) z8b hb); have n5_ := A_ (below_step z8a hb); clear HO512; clear HO515; clear BK506; clear HB; have HO512 := n0_; have HO515 := n1_; have HO521 := n2_; have HO524 := n3_; have BK506 := n4_; have HB := n5_; clear n0_ n1_ n2_ n3_ n4_ n5_; (try clear ho1)) | ((with_reducible refine gate_dst (N := 5) rfl ?_); refine box_event ?hg (N := 5) ?hd (cs := #[.string (⟨#[]⟩ : ByteArray), .string (⟨#[]⟩ : ByteArray), .slice none 0 0, .slice none 0 0]) (t := 57) ?hr ?_; (case hd => rfl); (case hg => rfl); (case hr => first | (go_simp; done) | (go_simp; rfl)); intro gb525 hg w62 hbox hb; have n0_ := A_ (Kd.R_below z8g hb); have n1_ := A_ (Kd.R_below z8h hb); have n2_ := A_ (Kd.R_below z8k hb); have n3_ := A_ (Kd.R_below z8l hb); have n4_ := A_ (blk_below (g := gb506) (o := .cells #[.string a0_0, .string a0_1, .slice A0_2 l0_2.length c0_2, .slice A0_3 l0_3.length c0_3] 63 (0, 0)) z8b hb); have n5_ := A_ (below_step z8a hb); have n6_ := A_ (hbox); have n7_ := A_ ((by rw [hg]; exact (below_size z8a) : w.heap.size ≤ gb525)); have n8_ := A_ ((by rw [hg]; exact (below_size z8a) : w.heap.size ≤ gb525)); have n9_ := A_ ((by rw [hg]; exact Nat.ne_of_lt (blk_lt (g := gb506) (o := .cells #[.string a0_0, .string a0_1, .slice A0_2 l0_2.length c0_2, .slice A0_3 l0_3.length c0_3] 63 (0, 0)) z8b) : gb506 ≠ gb525)); have n10_ := A_ ((by rw [hg]; exact Nat.ne_of_gt (blk_lt (g := gb506) (o := .cells #[.string a0_0, .string a0_1, .slice A0_2 l0_2.length c0_2, .slice A0_3 l0_3.length c0_3] 63 (0, 0)) z8b) : gb525 ≠ gb506)); clear HO512; clear HO515; clear HO521; clear HO524; clear BK506; clear HB; have HO512 := n0_; have HO515 := n1_; have HO521 := n2_; have HO524 := n3_; have BK506 := n4_; have HB := n5_; have BK525 := n6_; have GW525 := n7_; have GE525 := n8_; have NB506_525 := n9_; have NB525_506 := n10_; clear n0_ n1_ n2_ n3_ n4_ n5_ n6_ n7_ n8_ n9_ n10_; clear hb hbox hg; have hnb63 := NB525_506.out; have hnc63 := NB506_525.out; have hcz64_0 : w62.cell? ⟨gb525, 0, none⟩ = some (.string (⟨#[]⟩ : ByteArray)) := (blk_cell BK525.out 0).trans rfl; have hcz64_1 : w62.cell? ⟨gb525, 1, none⟩ = some (.string (⟨#[]⟩ : ByteArray)) := (blk_cell BK525.out 1).trans rfl; have hcz64_2 : w62.cell? ⟨gb525, 2, none⟩ = some (.slice none 0 0) := (blk_cell BK525.out 2).trans rfl; have hcz64_3 : w62.cell? ⟨gb525, 3, none⟩ = some (.slice none 0 0) := (blk_cell BK525.out 3).trans rfl; have hfz64_0 := blk_frozen BK525.out 0; have hfz64_1 := blk_frozen BK525.out 1; have hfz64_2 := blk_frozen BK525.out 2; have hfz64_3 := blk_frozen BK525.out 3; obtain ⟨Ao65, co65, eo65⟩ := Kd.R_slice HO521.out; subst eo65; obtain ⟨Ao66, co66, eo66⟩ := Kd.R_slice HO524.out; subst eo66) | ((with_reducible refine gate_callee (f := 44) rfl ?_); refine goesL_ (some 18) rfl rfl Try.func44 (by kernel_rfl) rfl #[.agg #[.string t517, .string t518, .slice Ao65 t519.length co65, .slice Ao66 t522.length co66]] rfl z8c ?_; (with_reducible refine (impl_TableOk.calls k t517 t518 _ _ t519 _ _ t522 t526 _ ?side1 ?side2 ?side3 ?side4 A10.out).mono ?_); (case side1 => refine (Kd.R_reads' (e := 2) (base := w.heap.size) (ok := fun k_ => (True ∧ some k_ ≠ (.slice Ao57 t510.length co57 : Value).ownBlock)) (n := t519.length) (c := co65) ?_).2.2; exact z8r); (case side2 => exact (Kd.R_reads' HO521.out).2.1); (case side3 => refine (Kd.R_reads' (e := 9) (base := w.heap.size) (ok := fun k_ => (True ∧ some k_ ≠ (.slice Ao58 t513.length co58 : Value).ownBlock)) (n := t522.length) (c := co66) ?_).2.2; exact z8s); (case side4 => exact (Kd.R_reads' HO524.out).2.1); rintro e w67 ⟨rfl, hb⟩; refine ⟨_, rfl, ?_⟩; replace HO512 := A_ (Kd.R_below (by (with_reducible repeat (first | apply Kd.R_alloc | apply Kd.R_drewN | apply Kd.R_drew)); exact (Kd.R_mono (Kd.R_far (p := ⟨gb525, 3, none⟩) (Kd.R_far (p := ⟨gb525, 2, none⟩) (Kd.R_far (p := ⟨gb525, 1, none⟩) (Kd.R_far (p := ⟨gb525, 0, none⟩) (Kd.R_types HO512.out BK525.out (by decide)) (fun _ hk => hk.2) (.string t517)) (fun _ hk => hk.2) (.string t518)) (fun _ hk => hk.2) (.slice Ao65 t519.length co65)) (fun _ hk => hk.2) (.slice Ao66 t522.length co66)) (fun _ h_ => h_.1))) hb); replace HO515 := A_ (Kd.R_below (by (with_reducible repeat (first | apply Kd.R_alloc | apply Kd.R_drewN | apply Kd.R_drew)); exact (Kd.R_mono (Kd.R_far (p := ⟨gb525, 3, none⟩) (Kd.R_far (p := ⟨gb525, 2, none⟩) (Kd.R_far (p := ⟨gb525, 1, none⟩) (Kd.R_far (p := ⟨gb525, 0, none⟩) (Kd.R_types HO515.out BK525.out (by decide)) (fun _ hk => hk.2) (.string t517)) (fun _ hk => hk.2) (.string t518)) (fun _ hk => hk.2) (.slice Ao65 t519.length co65)) (fun _ hk => hk.2) (.slice Ao66 t522.length co66)) (fun _ h_ => h_.1))) hb); replace HO521 := A_ (Kd.R_below z8r hb); replace HO524 := A_ (Kd.R_below z8s hb); replace BK506 := A_ (blk_below (g := gb506) (o := .cells #[.string a0_0, .string a0_1, .slice A0_2 l0_2.length c0_2, .slice A0_3 l0_3.length c0_3] 63 (0, 0)) z8j hb); replace BK525 := A_ (blk_below (g := gb525) (o := .cells #[.string t517, .string t518, .slice Ao65 t519.length co65, .slice Ao66 t522.length co66] 57 (0, 0)) (by (with_reducible repeat (first | refine blk_drewN ?_ _ | refine blk_drew ?_ | refine blk_alloc ?_ _)); refine blk_put (cs := #[.string t517, .string t518, .slice Ao65 t519.length co65, .slice none 0 0]) ?_ 3 _ rfl; (with_reducible repeat (first | refine blk_drewN ?_ _ | refine blk_drew ?_ | refine blk_alloc ?_ _)); refine blk_put (cs := #[.string t517, .string t518, .slice none 0 0, .slice none 0 0]) ?_ 2 _ rfl; (with_reducible repeat (first | refine blk_drewN ?_ _ | refine blk_drew ?_ | refine blk_alloc ?_ _)); refine blk_put (cs := #[.string t517, .string (⟨#[]⟩ : ByteArray), .slice none 0 0, .slice none 0 0]) ?_ 1 _ rfl; (with_reducible repeat (first | refine blk_drewN ?_ _ | refine blk_drew ?_ | refine blk_alloc ?_ _)); refine blk_put (cs := #[.string (⟨#[]⟩ : ByteArray), .string (⟨#[]⟩ : ByteArray), .slice none 0 0, .slice none 0 0]) ?_ 0 _ rfl; (with_reducible repeat (first | refine blk_drewN ?_ _ | refine blk_drew ?_ | refine blk_alloc ?_ _)); exact BK525.out) hb); replace HB := A_ (below_step z8d hb)))
 replace HO512 := A_ (Kd.R_drew HO512.out)
 replace HO515 := A_ (Kd.R_drew HO515.out)
 replace HO521 := A_ (Kd.R_drew HO521.out)
 replace HO524 := A_ (Kd.R_drew HO524.out)
 replace BK506 := A_ (blk_drew BK506.out)
 replace BK525 := A_ (blk_drew BK525.out)
 replace HB := A_ (below_drew1 HB.out)
 refine start_ (n := 5) (S := fun w' => w'.cell? ⟨gb525, 0, none⟩ = some (.string t517) ∧ w'.cell? ⟨gb525, 1, none⟩ = some (.string t518) ∧ w'.cell? ⟨gb525, 2, none⟩ = some (.slice Ao65 t519.length co65) ∧ w'.cell? ⟨gb525, 3, none⟩ = some (.slice Ao66 t522.length co66) ∧ w'.cell? ⟨gb506, 0, none⟩ = some (.string a0_0) ∧ w'.cell? ⟨gb506, 1, none⟩ = some (.string a0_1) ∧ w'.cell? ⟨gb506, 2, none⟩ = some (.slice A0_2 l0_2.length c0_2) ∧ w'.cell? ⟨gb506, 3, none⟩ = some (.slice A0_3 l0_3.length c0_3)) (ds := []) #[false, false, false, false, false] (by kernel_rfl) rfl rfl ⟨(blk_cell BK525.out 0).trans rfl, (blk_cell BK525.out 1).trans rfl, (blk_cell BK525.out 2).trans rfl, (blk_cell BK525.out 3).trans rfl, (blk_cell BK506.out 0).trans rfl, (blk_cell BK506.out 1).trans rfl, (blk_cell BK506.out 2).trans rfl, (blk_cell BK506.out 3).trans rfl⟩ (fun hHeld => ?_)
 generalize w67.drew = w68 at HO512 HO515 HO521 HO524 BK506 BK525 HB hHeld ⊢
 refine take_ (i := 0) (N := some 22) (v := _) (a' := _) #[true, false, false, false, false] rfl rfl (by kernel_rfl) (fun _ _ _ h => h) (Or.inl ⟨by rfl, (by rintro w' ⟨s0, s1, s2, s3, s4, s5, s6, s7⟩; go_simp; with_reducible rfl)⟩) hHeld z8m ?_
 refine take_ (i := 1) (N := some 23) (v := _) (a' := _) #[true, true, false, false, false] rfl rfl (by kernel_rfl) (fun _ _ _ h => h) (Or.inl ⟨by rfl, (by rintro w' ⟨s0, s1, s2, s3, s4, s5, s6, s7⟩; go_simp; with_reducible rfl)⟩) hHeld z8m ?_
 refine one_ (i := 2) (N := some 24) #[true, true, true, false, false] rfl rfl (by kernel_rfl) (by decide) (fun K hK => ?_)
 refine goes_ Try.func43 (by kernel_rfl) rfl #[.agg #[.string a0_0, .string a0_1, .slice A0_2 l0_2.length c0_2, .slice A0_3 l0_3.length c0_3]] (by rfl) rfl rfl z8c ?_
 with_reducible refine (laws_toTable.calls k a0_0 a0_1 _ _ l0_2 _ _ l0_3 t527 t528 t529 t532 _ ?side1 ?side2 ?side3 ?side4 A28.out).mono ?_
 (case side1 => exact z8e)
 (case side2 => exact HC0_2.out)
 (case side3 => exact z8f)
 (case side4 => exact HC0_3.out)
 rintro e w69 ⟨v530, v533, rfl, ho0, ho1, hb⟩
 refine ⟨_, rfl, ?_⟩
 have n0_ := A_ (Kd.R_elder' z8g (Kd.R_base ho0) hb)
 have n1_ := A_ (Kd.R_elder' z8h (Kd.R_base ho1) hb)
 have n2_ := A_ (Kd.R_elder' z8k (Kd.R_base ho0) hb)
 have n3_ := A_ (Kd.R_elder' z8l (Kd.R_base ho1) hb)
 have n4_ := A_ (Kd.R_lower (Kd.R_new' (Kd.R_new' ho0 (Kd.R_lt z8g)) (Kd.R_lt z8k)) (below_size z8d))
 have n5_ := A_ (Kd.R_lower (Kd.R_new' (Kd.R_new' ho1 (Kd.R_lt z8h)) (Kd.R_lt z8l)) (below_size z8d))
 have n6_ := A_ (blk_below (g := gb506) (o := .cells #[.string a0_0, .string a0_1, .slice A0_2 l0_2.length c0_2, .slice A0_3 l0_3.length c0_3] 63 (0, 0)) z8b hb)
 have n7_ := A_ (blk_below (g := gb525) (o := .cells #[.string t517, .string t518, .slice Ao65 t519.length co65, .slice Ao66 t522.length co66] 57 (0, 0)) (by (with_reducible repeat (first | refine blk_drewN ?_ _ | refine blk_drew ?_ | refine blk_alloc ?_ _)); exact BK525.out) hb)
 have n8_ := A_ (below_step z8d hb)
 clear HO512
 clear HO515
 clear HO521
 clear HO524
 clear BK506
 clear BK525
 clear HB
 have HO512 := n0_
 have HO515 := n1_
 have HO521 := n2_
 have HO524 := n3_
 have HO531 := n4_
 have HO534 := n5_
 have BK506 := n6_
 have BK525 := n7_
 have HB := n8_
 clear n0_ n1_ n2_ n3_ n4_ n5_ n6_ n7_ n8_
 (try clear ho1)
 obtain ⟨Ao70, co70, eo70⟩ := Kd.R_slice HO531.out
 (first | subst eo70 | (injection eo70 with f1_ f2_ f3_; have f4_ := f1_.symm; have f5_ := f3_.symm; clear f1_ f2_ f3_; subst f4_; subst f5_))
 obtain ⟨Ao71, co71, eo71⟩ := Kd.R_slice HO534.out
 (first | subst eo71 | (injection eo71 with f1_ f2_ f3_; have f4_ := f1_.symm; have f5_ := f3_.symm; clear f1_ f2_ f3_; subst f4_; subst f5_))
 refine hK.out _ _ ⟨(blk_cell BK525.out 0).trans rfl, (blk_cell BK525.out 1).trans rfl, (blk_cell BK525.out 2).trans rfl, (blk_cell BK525.out 3).trans rfl, (blk_cell BK506.out 0).trans rfl, (blk_cell BK506.out 1).trans rfl, (blk_cell BK506.out 2).trans rfl, (blk_cell BK506.out 3).trans rfl⟩ (fun hHeld => ?_)
 clear hK K
 refine norm_ (nz_ 24) ?_
 refine one_ (i := 3) (N := some 25) #[true, true, true, true, false] rfl rfl (by kernel_rfl) (by decide) (fun K hK => ?_)
 refine goes_ Try.func38 (by kernel_rfl) rfl #[.agg #[.string t517, .string t518, .slice Ao65 t519.length co65, .slice Ao66 t522.length co66], .agg #[.string t527, .string t528, .slice Ao70 t529.length co70, .slice Ao71 t532.length co71]] (by rfl) rfl rfl z8c ?_
 with_reducible refine (laws_eqTable.calls k t517 t518 _ _ t519 _ _ t522 t527 t528 _ _ t529 _ _ t532 false _ ?side1 ?side2 ?side3 ?side4 ?side5 ?side6 ?side7 ?side8 A29.out).mono ?_
 (case side1 => exact (by repeat (first | exact (Kd.R_reads' HO521.out).2.2 | (with_reducible refine Kd.C_alloc ?_ _) | (with_reducible refine Kd.C_drewN ?_ _) | (with_reducible refine Kd.C_drew ?_))))
 (case side2 => exact (Kd.R_reads' HO521.out).2.1)
 (case side3 => exact (by repeat (first | exact (Kd.R_reads' HO524.out).2.2 | (with_reducible refine Kd.C_alloc ?_ _) | (with_reducible refine Kd.C_drewN ?_ _) | (with_reducible refine Kd.C_drew ?_))))
 (case side4 => exact (Kd.R_reads' HO524.out).2.1)
 (case side5 => exact (by repeat (first | exact (Kd.R_reads' HO531.out).2.2 | (with_reducible refine Kd.C_alloc ?_ _) | (with_reducible refine Kd.C_drewN ?_ _) | (with_reducible refine Kd.C_drew ?_))))
 (case side6 => exact (Kd.R_reads' HO531.out).2.1)
 (case side7 => exact (by repeat (first | exact (Kd.R_reads' HO534.out).2.2 | (with_reducible refine Kd.C_alloc ?_ _) | (with_reducible refine Kd.C_drewN ?_ _) | (with_reducible refine Kd.C_drew ?_))))
 (case side8 => exact (Kd.R_reads' HO534.out).2.1)
 rintro e w72 ⟨rfl, hb⟩
 refine ⟨_, rfl, ?_⟩
 replace HO512 := A_ (Kd.R_below z8g hb)
 replace HO515 := A_ (Kd.R_below z8h hb)
 replace HO521 := A_ (Kd.R_below z8k hb)
 replace HO524 := A_ (Kd.R_below z8l hb)
 replace HO531 := A_ (Kd.R_below (by (with_reducible repeat (first | apply Kd.R_alloc | apply Kd.R_drewN | apply Kd.R_drew)); exact HO531.out) hb)
 replace HO534 := A_ (Kd.R_below (by (with_reducible repeat (first | apply Kd.R_alloc | apply Kd.R_drewN | apply Kd.R_drew)); exact HO534.out) hb)
 replace BK506 := A_ (blk_below (g := gb506) (o := .cells #[.string a0_0, .string a0_1, .slice A0_2 l0_2.length c0_2, .slice A0_3 l0_3.length c0_3] 63 (0, 0)) z8b hb)
 replace BK525 := A_ (blk_below (g := gb525) (o := .cells #[.string t517, .string t518, .slice Ao65 t519.length co65, .slice Ao66 t522.length co66] 57 (0, 0)) (by (with_reducible repeat (first | refine blk_drewN ?_ _ | refine blk_drew ?_ | refine blk_alloc ?_ _)); exact BK525.out) hb)
 replace HB := A_ (below_step z8d hb)
 refine hK.out _ _ ⟨(blk_cell BK525.out 0).trans rfl, (blk_cell BK525.out 1).trans rfl, (blk_cell BK525.out 2).trans rfl, (blk_cell BK525.out 3).trans rfl, (blk_cell BK506.out 0).trans rfl, (blk_cell BK506.out 1).trans rfl, (blk_cell BK506.out 2).trans rfl, (blk_cell BK506.out 3).trans rfl⟩ (fun hHeld => ?_)
 clear hK K
 refine norm_ (nz_ 25) ?_
 refine pure_ (i := 4) (N := some 26) (v := _) (a' := _) #[true, true, true, true, true] rfl rfl (by kernel_rfl) (fun _ _ _ h => h) (Or.inl ⟨by rfl, (by intro w'; go_simp; with_reducible rfl)⟩) z8m ?_
 refine done_ (by kernel_rfl) ?_
 try go_wp2
 go_ret
 exact ⟨by first | rfl | (simp [errW_none, errW_some] <;> rfl) | (simp [*, errW_none, errW_some] <;> rfl), by repeat (first | (with_reducible first | exact HB.out | apply below_alloc | apply pw_below_drewN | apply below_drew1 | refine below_set ?_ GE506.out | refine below_set ?_ GE525.out) | exact HB.out)⟩
 
 }
 }
 }
end Go.Proofs.Ytaiggfjkikfcbaa.PFnExactTableOk

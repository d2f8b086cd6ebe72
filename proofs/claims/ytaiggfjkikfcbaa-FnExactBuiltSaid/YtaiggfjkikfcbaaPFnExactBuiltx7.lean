-- by a program of this session (wip/print/run.py) for this claim
import Derived.Test.YtaiggfjkikfcbaaLibPu
import Derived.Test.YtaiggfjkikfcbaaPFnExactBuiltx0
import Derived.Test.YtaiggfjkikfcbaaPFnExactBuiltx3
import Derived.Test.YtaiggfjkikfcbaaPFnExactBuiltx5
import Derived.Test.YtaiggfjkikfcbaaPFnExactBuiltx6
namespace Go.Proofs.Ytaiggfjkikfcbaa.PFnExactBuilt
open Go.Proofs.Ytaiggfjkikfcbaa.Lib Go.RowKit Go.Proofs.YtaiggfjkikfcbaaW.PrintWords Go.Proofs.YtaiggfjkikfcbaaW.PrintLast Go.Proofs.YtaiggfjkikfcbaaW.PrintMore
attribute [local go_sem] max2_int min2_int max_two min_two max_three min_three max_four min_four   -- for this text's walks alone
set_option linter.unusedVariables false
set_option linter.unusedSimpArgs false

theorem z73a {p_ : Prop} (h_ : p_ := by simp only [Act.put, List.setIfInBounds_toArray, List.set_cons_zero, List.set_cons_succ, i64_w, i32_w]; rfl) : p_ := h_
theorem z73b {p_ : Prop} (h_ : p_ := by first | exact Nat.ne_of_lt (Nat.lt_of_lt_of_le (by have := World.block_lt_of_cell? _ _ hw248_0; first | rwa [add_block] at this | exact this) GW253.out) | (rw [add_block]; exact Nat.ne_of_lt (Nat.lt_of_lt_of_le (by have := World.block_lt_of_cell? _ _ hw248_0; first | rwa [add_block] at this | exact this) GW253.out)) | (show (Addr.add _ _).block ≠ _; rw [add_block]; exact Nat.ne_of_lt (Nat.lt_of_lt_of_le (by have := World.block_lt_of_cell? _ _ hw248_0; first | rwa [add_block] at this | exact this) GW253.out)) | (dsimp only; exact Nat.ne_of_lt (Nat.lt_of_lt_of_le (by have := World.block_lt_of_cell? _ _ hw248_0; first | rwa [add_block] at this | exact this) GW253.out))) : p_ := h_
theorem z73c {p_ : Prop} (h_ : p_ := by first | exact Nat.ne_of_lt (Nat.lt_of_lt_of_le (by have := World.block_lt_of_cell? _ _ hw248_1; first | rwa [add_block] at this | exact this) GW253.out) | (rw [add_block]; exact Nat.ne_of_lt (Nat.lt_of_lt_of_le (by have := World.block_lt_of_cell? _ _ hw248_1; first | rwa [add_block] at this | exact this) GW253.out)) | (show (Addr.add _ _).block ≠ _; rw [add_block]; exact Nat.ne_of_lt (Nat.lt_of_lt_of_le (by have := World.block_lt_of_cell? _ _ hw248_1; first | rwa [add_block] at this | exact this) GW253.out)) | (dsimp only; exact Nat.ne_of_lt (Nat.lt_of_lt_of_le (by have := World.block_lt_of_cell? _ _ hw248_1; first | rwa [add_block] at this | exact this) GW253.out))) : p_ := h_
theorem z73d {p_ : Prop} (h_ : p_ := by first | exact Nat.ne_of_lt (Nat.lt_of_lt_of_le (by have := World.block_lt_of_cell? _ _ hw248_2; first | rwa [add_block] at this | exact this) GW253.out) | (rw [add_block]; exact Nat.ne_of_lt (Nat.lt_of_lt_of_le (by have := World.block_lt_of_cell? _ _ hw248_2; first | rwa [add_block] at this | exact this) GW253.out)) | (show (Addr.add _ _).block ≠ _; rw [add_block]; exact Nat.ne_of_lt (Nat.lt_of_lt_of_le (by have := World.block_lt_of_cell? _ _ hw248_2; first | rwa [add_block] at this | exact this) GW253.out)) | (dsimp only; exact Nat.ne_of_lt (Nat.lt_of_lt_of_le (by have := World.block_lt_of_cell? _ _ hw248_2; first | rwa [add_block] at this | exact this) GW253.out))) : p_ := h_
theorem z73e {p_ : Prop} (h_ : p_ := by first | exact Nat.ne_of_lt (Nat.lt_of_lt_of_le (by have := World.block_lt_of_cell? _ _ hw248_3; first | rwa [add_block] at this | exact this) GW253.out) | (rw [add_block]; exact Nat.ne_of_lt (Nat.lt_of_lt_of_le (by have := World.block_lt_of_cell? _ _ hw248_3; first | rwa [add_block] at this | exact this) GW253.out)) | (show (Addr.add _ _).block ≠ _; rw [add_block]; exact Nat.ne_of_lt (Nat.lt_of_lt_of_le (by have := World.block_lt_of_cell? _ _ hw248_3; first | rwa [add_block] at this | exact this) GW253.out)) | (dsimp only; exact Nat.ne_of_lt (Nat.lt_of_lt_of_le (by have := World.block_lt_of_cell? _ _ hw248_3; first | rwa [add_block] at this | exact this) GW253.out))) : p_ := h_
theorem z73f {p_ : Prop} (h_ : p_ := by first | exact Nat.ne_of_lt (Nat.lt_of_lt_of_le (by have := World.block_lt_of_cell? _ _ hw249_0; first | rwa [add_block] at this | exact this) GW253.out) | (rw [add_block]; exact Nat.ne_of_lt (Nat.lt_of_lt_of_le (by have := World.block_lt_of_cell? _ _ hw249_0; first | rwa [add_block] at this | exact this) GW253.out)) | (show (Addr.add _ _).block ≠ _; rw [add_block]; exact Nat.ne_of_lt (Nat.lt_of_lt_of_le (by have := World.block_lt_of_cell? _ _ hw249_0; first | rwa [add_block] at this | exact this) GW253.out)) | (dsimp only; exact Nat.ne_of_lt (Nat.lt_of_lt_of_le (by have := World.block_lt_of_cell? _ _ hw249_0; first | rwa [add_block] at this | exact this) GW253.out))) : p_ := h_
theorem z73g {p_ : Prop} (h_ : p_ := by first | exact Nat.ne_of_lt (Nat.lt_of_lt_of_le (by have := World.block_lt_of_cell? _ _ hw249_1; first | rwa [add_block] at this | exact this) GW253.out) | (rw [add_block]; exact Nat.ne_of_lt (Nat.lt_of_lt_of_le (by have := World.block_lt_of_cell? _ _ hw249_1; first | rwa [add_block] at this | exact this) GW253.out)) | (show (Addr.add _ _).block ≠ _; rw [add_block]; exact Nat.ne_of_lt (Nat.lt_of_lt_of_le (by have := World.block_lt_of_cell? _ _ hw249_1; first | rwa [add_block] at this | exact this) GW253.out)) | (dsimp only; exact Nat.ne_of_lt (Nat.lt_of_lt_of_le (by have := World.block_lt_of_cell? _ _ hw249_1; first | rwa [add_block] at this | exact this) GW253.out))) : p_ := h_
theorem z73h {p_ : Prop} (h_ : p_ := by first | exact Nat.ne_of_lt (Nat.lt_of_lt_of_le (by have := World.block_lt_of_cell? _ _ hw249_2; first | rwa [add_block] at this | exact this) GW253.out) | (rw [add_block]; exact Nat.ne_of_lt (Nat.lt_of_lt_of_le (by have := World.block_lt_of_cell? _ _ hw249_2; first | rwa [add_block] at this | exact this) GW253.out)) | (show (Addr.add _ _).block ≠ _; rw [add_block]; exact Nat.ne_of_lt (Nat.lt_of_lt_of_le (by have := World.block_lt_of_cell? _ _ hw249_2; first | rwa [add_block] at this | exact this) GW253.out)) | (dsimp only; exact Nat.ne_of_lt (Nat.lt_of_lt_of_le (by have := World.block_lt_of_cell? _ _ hw249_2; first | rwa [add_block] at this | exact this) GW253.out))) : p_ := h_
theorem z73i {p_ : Prop} (h_ : p_ := by first | exact Nat.ne_of_lt (Nat.lt_of_lt_of_le (by have := World.block_lt_of_cell? _ _ hw249_3; first | rwa [add_block] at this | exact this) GW253.out) | (rw [add_block]; exact Nat.ne_of_lt (Nat.lt_of_lt_of_le (by have := World.block_lt_of_cell? _ _ hw249_3; first | rwa [add_block] at this | exact this) GW253.out)) | (show (Addr.add _ _).block ≠ _; rw [add_block]; exact Nat.ne_of_lt (Nat.lt_of_lt_of_le (by have := World.block_lt_of_cell? _ _ hw249_3; first | rwa [add_block] at this | exact this) GW253.out)) | (dsimp only; exact Nat.ne_of_lt (Nat.lt_of_lt_of_le (by have := World.block_lt_of_cell? _ _ hw249_3; first | rwa [add_block] at this | exact this) GW253.out))) : p_ := h_
theorem z73j {p_ : Prop} (h_ : p_ := by repeat (first | (with_reducible first | exact HB.out | apply below_alloc | apply pw_below_drewN | apply below_drew1 | refine below_set ?_ GE247.out | refine below_set ?_ GE253.out) | exact HB.out)) : p_ := h_
theorem z73k {p_ : Prop} (h_ : p_ := by (with_reducible repeat (first | refine blk_drewN ?_ _ | refine blk_drew ?_ | refine blk_alloc ?_ _)); exact BK247.out) : p_ := h_
theorem z73l {p_ : Prop} (h_ : p_ := by repeat (first | (with_reducible first | exact HB.out | apply below_alloc | apply pw_below_drewN | apply below_drew1 | refine below_set ?_ GE247.out) | exact HB.out)) : p_ := h_
theorem z73m {p_ : Prop} (h_ : p_ := by (with_reducible repeat (first | refine blk_drewN ?_ _ | refine blk_drew ?_ | refine blk_alloc ?_ _)); exact BK253.out) : p_ := h_
theorem z73n {p_ : Prop} (h_ : p_ := by (try simp only [List.map_toArray, List.map_cons, List.map_nil]); first | done | rfl | (simp only [List.length_drop, List.length_take]; rfl)) : p_ := h_
def spec_l5Built.l0 : Nat → List (S31) → Int → ByteArray → ByteArray → List Int → List ByteArray → Option (ByteArray × ByteArray × List Int × List ByteArray)
 | 0, _, _, _, _, _, _ => none
 | k + 1, x0, x4, x254000, x254001, x254002, x254003 => if x4 < (x0.length : Int) then ((spec_l1Min.f (x0.length : Int) (wrap64 (x4 + 8))).bind fun t254 => (if 0 ≤ x4 then (if x4 ≤ t254 then (if t254 ≤ (x0.length : Int) then ((spec_l4Packed.f k ((x0.take (t254 : Int).toNat).drop (x4 : Int).toNat)).bind fun t259 => (if x254003.length < 8796093022208 then (spec_l5Built.l0 k x0 (wrap64 (x4 + 8)) x254000 x254001 x254002 (x254003 ++ [strOfNums t259])) else (none))) else (none)) else (none)) else (none))) else (some (x254000, x254001, x254002, x254003))
def spec_l5Built.f (k : Nat) (l0 : List (S31)) : Option (ByteArray × ByteArray × List Int × List ByteArray) := if 0 < (l0.length : Int) then (if 0 ≤ (wrap64 ((l0.length : Int) - 1)) then (if (wrap64 ((l0.length : Int) - 1)) < (l0.length : Int) then ((spec_l5Bits.f k l0).bind fun t250 => (spec_l5Built.l0 k l0 0 ((rd_T31 l0 0).f0) ((rd_T31 l0 (wrap64 ((l0.length : Int) - 1))).f0) t250 ([] : List ByteArray))) else (none)) else (none)) else (none)
def spec_l5Built.T1 : Bool × List (List Nat × List Nat) := (true, [([], []), ([0], [0]), ([1], [1]), ([2], [2]), ([], []), ([], []), ([5], [5]), ([6], [6]), ([4, 7], [4, 7]), ([8], [8]), ([9], [9]), ([], []), ([11], [11]), ([3, 10, 12], [3, 10, 12]), ([], []), ([14, 13, 12, 0, 1, 2, 3, 4, 5, 6, 7, 8, 9, 10, 11, 12, 13, 14], [13, 14])])
def spec_l5Built.B1 : List Nat := [0, 1, 3, 7, 0, 0, 32, 96, 240, 496, 1008, 0, 2048, 8191, 0, 32767]
theorem spec_l5Built.tab1 : rtab .any (opsOf Try.f73 1) = spec_l5Built.T1 := by kernel_rfl
theorem spec_l5Built.bits1 : waitsOk spec_l5Built.T1.2 spec_l5Built.B1 = true := by kernel_rfl
def spec_l5Built.T5 : Bool × List (List Nat × List Nat) := (true, [([], []), ([0], [0]), ([], []), ([], []), ([], []), ([4], [4]), ([], []), ([6], [6]), ([5, 7], [5, 7]), ([2, 3, 8], [2, 3, 8]), ([9, 8], [9]), ([10], [10]), ([11], [11]), ([1, 12, 10], [1, 12]), ([0, 1, 2, 3, 4, 5, 6, 7, 8, 9, 10, 11, 12, 13], []), ([14, 13, 13, 0, 1, 2, 3, 4, 5, 6, 7, 8, 9, 10, 11, 12, 13], [13, 14])])
def spec_l5Built.B5 : List Nat := [0, 1, 0, 0, 0, 16, 0, 64, 240, 508, 1020, 2044, 4092, 8191, 16383, 32767]
theorem spec_l5Built.tab5 : rtab .any (opsOf Try.f73 5) = spec_l5Built.T5 := by kernel_rfl
theorem spec_l5Built.bits5 : waitsOk spec_l5Built.T5.2 spec_l5Built.B5 = true := by kernel_rfl
set_option maxHeartbeats 8000000 in
set_option maxRecDepth 100000 in
theorem spec_l5Built.calls (k : Nat) (A0 : Option Addr) (c0 : Nat) (l0 : List (S31)) (r1 : ByteArray) (r2 : ByteArray) (r3 : List Int) (r4 : List ByteArray) (w : World) (hr0 : Kd.C k31 w A0 l0.length l0) (hc0 : l0.length ≤ c0) (h : spec_l5Built.f k l0 = some (r1, r2, r3, r4)) :
  Calls Try.prog 73 #[.slice A0 l0.length c0] w fun e w' => ∃ v2_ v3_ : Value, e = .returned (.agg #[.string r1, .string r2, v2_, v3_]) ∧ Kd.R (Kd.int .i64) 2 w' w.heap.size (fun _ => True) v2_ r3 ∧ Kd.R Kd.string 9 w' w.heap.size (fun _ => True) v3_ r4 ∧ Below w.heap.size w w' := by
 have hu57 := Try.underlying57
 have HR0 := A_ hr0
 have HC0 := A_ hc0
 clear hr0 hc0
 have HB := A_ (Below.refl w.heap.size w)
 have H : (if 0 < (l0.length : Int) then (if 0 ≤ (wrap64 ((l0.length : Int) - 1)) then (if (wrap64 ((l0.length : Int) - 1)) < (l0.length : Int) then ((spec_l5Bits.f k l0).bind fun t250 => (spec_l5Built.l0 k l0 0 ((rd_T31 l0 0).f0) ((rd_T31 l0 (wrap64 ((l0.length : Int) - 1))).f0) t250 ([] : List ByteArray))) else (none)) else (none)) else (none)) = some (r1, r2, r3, r4) := h
 clear h
 by_cases c2 : 0 < (l0.length : Int)
 {
 rw [if_pos c2] at H
 have c2b0 : decide (0 < (l0.length : Int)) = true := decide_eq_true c2
 have c2b1 : decide (0 < l0.length) = true := decide_eq_true (by omega)
 clear c2
 obtain ⟨ji3, hji3⟩ : ∃ j_ : Int, (wrap64 ((l0.length : Int) - 1)) = j_ := ⟨_, rfl⟩
 replace H : (if 0 ≤ (ji3) then (if (ji3) < (l0.length : Int) then ((spec_l5Bits.f k l0).bind fun t250 => (spec_l5Built.l0 k l0 0 ((rd_T31 l0 0).f0) ((rd_T31 l0 (ji3)).f0) t250 ([] : List ByteArray))) else (none)) else (none)) = some (r1, r2, r3, r4) := by first | (rw [hji3] at H; exact H) | (simp only [hji3] at H ⊢; exact H)
 (try rw [hji3])
 have hji3w : (IntKind.i64.wrap ((l0.length : Int) - 1)) = ji3 := (i64_w _).trans hji3
 by_cases c4 : 0 ≤ (ji3)
 {
 rw [if_pos c4] at H
 have c4b0 : decide (0 ≤ (ji3)) = true := decide_eq_true c4
 clear c4
 by_cases c5 : (ji3) < (l0.length : Int)
 {
 rw [if_pos c5] at H
 have c5b0 : decide ((ji3) < (l0.length : Int)) = true := decide_eq_true c5
 clear c5
 replace H := Option.bind_eq_some_iff.mp H
 obtain ⟨t250, A60, H⟩ := H
 replace H : (spec_l5Built.l0 k l0 0 ((rd_T31 l0 0).f0) ((rd_T31 l0 (ji3)).f0) t250 ([] : List ByteArray)) = some (r1, r2, r3, r4) := H
 have A6 := A_ A60
 clear A60
 have H' := A_ H
 clear H
 go_enter Try.func73, Try.ntmps73
 try go_wp2_with (first | ((with_reducible refine gate_dst (N := 2) rfl ?_); refine box_event ?hg (N := 2) ?hd (cs := #[.string (⟨#[]⟩ : ByteArray), .string (⟨#[]⟩ : ByteArray), .slice none 0 0, .slice none 0 0]) (t := 57) ?hr ?_; (case hd => rfl); (case hg => rfl); (case hr => first | (go_simp; done) | (go_simp; rfl)); intro gb247 hg w7 hbox hb; have n0_ := A_ (below_step (by repeat (first | (with_reducible first | exact HB.out | apply below_alloc | apply pw_below_drewN | apply below_drew1) | exact HB.out)) hb); have n1_ := A_ (hbox); have n2_ := A_ ((by rw [hg]; exact (below_size (by repeat (first | (with_reducible first | exact HB.out | apply below_alloc | apply pw_below_drewN | apply below_drew1) | exact HB.out))) : w.heap.size ≤ gb247)); have n3_ := A_ ((by rw [hg]; exact (below_size (by repeat (first | (with_reducible first | exact HB.out | apply below_alloc | apply pw_below_drewN | apply below_drew1) | exact HB.out))) : w.heap.size ≤ gb247)); clear HB; have HB := n0_; have BK247 := n1_; have GW247 := n2_; have GE247 := n3_; clear n0_ n1_ n2_ n3_; clear hb hbox hg))
 replace BK247 := A_ (blk_drew BK247.out)
 replace HB := A_ (below_drew1 HB.out)
 have p248 : 0 ≤ (0 : Int) := (by omega)
 have q248 : 0 < (l0.length : Int) := of_decide_eq_true (by first | (with_reducible assumption) | assumption)
 obtain ⟨ad248, e248, hx248_0, hx248_1, hx248_2, hx248_3⟩ := at_T31 HR0.out 0 p248 q248
 have hw248_3 := hx248_3
 (try rw [show ((0 : Int)).toNat = 0 from rfl] at hw248_3)
 (try rw [show 0 * 4 = 0 from rfl] at hw248_3)
 (try rw [Addr.add_zero'] at hw248_3)
 have hw248_2 := hx248_2
 (try rw [show ((0 : Int)).toNat = 0 from rfl] at hw248_2)
 (try rw [show 0 * 4 = 0 from rfl] at hw248_2)
 (try rw [Addr.add_zero'] at hw248_2)
 have hw248_1 := hx248_1
 (try rw [show ((0 : Int)).toNat = 0 from rfl] at hw248_1)
 (try rw [show 0 * 4 = 0 from rfl] at hw248_1)
 (try rw [Addr.add_zero'] at hw248_1)
 have hw248_0 := hx248_0
 (try rw [show ((0 : Int)).toNat = 0 from rfl] at hw248_0)
 (try rw [show 0 * 4 = 0 from rfl] at hw248_0)
 (try rw [Addr.add_zero'] at hw248_0)
 cases e248
 have qi248 : (0 < l0.length) = True := eq_true (by omega)
 (try rw [show ((0 : Int)).toNat = 0 from rfl] at hx248_0)
 (try rw [show 0 * 4 = 0 from rfl] at hx248_0)
 (try rw [Addr.add_zero'] at hx248_0)
 (try rw [show ((0 : Int)).toNat = 0 from rfl] at hx248_1)
 (try rw [show 0 * 4 = 0 from rfl] at hx248_1)
 (try rw [Addr.add_zero'] at hx248_1)
 (try rw [show ((0 : Int)).toNat = 0 from rfl] at hx248_2)
 (try rw [show 0 * 4 = 0 from rfl] at hx248_2)
 (try rw [Addr.add_zero'] at hx248_2)
 (try rw [show ((0 : Int)).toNat = 0 from rfl] at hx248_3)
 (try rw [show 0 * 4 = 0 from rfl] at hx248_3)
 (try rw [Addr.add_zero'] at hx248_3)
 replace hx248_0 := (HB.out.cell (World.block_lt_of_cell? w _ hx248_0)).trans hx248_0
 replace hx248_1 := (HB.out.cell (World.block_lt_of_cell? w _ hx248_1)).trans hx248_1
 replace hx248_2 := (HB.out.cell (World.block_lt_of_cell? w _ hx248_2)).trans hx248_2
 replace hx248_3 := (HB.out.cell (World.block_lt_of_cell? w _ hx248_3)).trans hx248_3
 replace p248 := eq_true p248
 replace q248 := eq_true q248
 have p249 : 0 ≤ ((ji3) : Int) := of_decide_eq_true (by first | (with_reducible assumption) | assumption)
 have q249 : (ji3) < (l0.length : Int) := of_decide_eq_true (by first | (with_reducible assumption) | assumption)
 obtain ⟨ad249, e249, hx249_0, hx249_1, hx249_2, hx249_3⟩ := at_T31 HR0.out (ji3) p249 q249
 have hw249_3 := hx249_3
 have hw249_2 := hx249_2
 have hw249_1 := hx249_1
 have hw249_0 := hx249_0
 obtain rfl : ad248 = ad249 := (by injection e249)
 replace hx249_0 := (HB.out.cell (World.block_lt_of_cell? w _ hx249_0)).trans hx249_0
 replace hx249_1 := (HB.out.cell (World.block_lt_of_cell? w _ hx249_1)).trans hx249_1
 replace hx249_2 := (HB.out.cell (World.block_lt_of_cell? w _ hx249_2)).trans hx249_2
 replace hx249_3 := (HB.out.cell (World.block_lt_of_cell? w _ hx249_3)).trans hx249_3
 replace p249 := eq_true p249
 replace q249 := eq_true q249
 refine start_ (n := 16) (S := fun w' => w'.cell? ad248 = some (.string ((rd_T31 l0 0).f0)) ∧ w'.cell? ⟨ad248.block, ad248.off + 1, none⟩ = some (.string ((rd_T31 l0 0).f1)) ∧ w'.cell? ⟨ad248.block, ad248.off + 2, none⟩ = some (.int .i64 ((rd_T31 l0 0).f2)) ∧ w'.cell? ⟨ad248.block, ad248.off + 3, none⟩ = some (.bool ((rd_T31 l0 0).f3)) ∧ w'.cell? (ad248.add (((ji3)).toNat * 4)) = some (.string ((rd_T31 l0 (ji3)).f0)) ∧ w'.cell? ⟨(ad248.add (((ji3)).toNat * 4)).block, (ad248.add (((ji3)).toNat * 4)).off + 1, none⟩ = some (.string ((rd_T31 l0 (ji3)).f1)) ∧ w'.cell? ⟨(ad248.add (((ji3)).toNat * 4)).block, (ad248.add (((ji3)).toNat * 4)).off + 2, none⟩ = some (.int .i64 ((rd_T31 l0 (ji3)).f2)) ∧ w'.cell? ⟨(ad248.add (((ji3)).toNat * 4)).block, (ad248.add (((ji3)).toNat * 4)).off + 3, none⟩ = some (.bool ((rd_T31 l0 (ji3)).f3))) (ds := []) #[false, false, false, false, false, false, false, false, false, false, false, false, false, false, false, false] (by kernel_rfl) rfl rfl ⟨((HB.out.cell (World.block_lt_of_cell? w _ hw248_0)).trans hw248_0), ((HB.out.cell (World.block_lt_of_cell? w _ hw248_1)).trans hw248_1), ((HB.out.cell (World.block_lt_of_cell? w _ hw248_2)).trans hw248_2), ((HB.out.cell (World.block_lt_of_cell? w _ hw248_3)).trans hw248_3), ((HB.out.cell (World.block_lt_of_cell? w _ hw249_0)).trans hw249_0), ((HB.out.cell (World.block_lt_of_cell? w _ hw249_1)).trans hw249_1), ((HB.out.cell (World.block_lt_of_cell? w _ hw249_2)).trans hw249_2), ((HB.out.cell (World.block_lt_of_cell? w _ hw249_3)).trans hw249_3)⟩ (fun hHeld => ?_); refine with_tabW spec_l5Built.tab1 spec_l5Built.bits1 (fun HT_ HW_ => ?_)
 generalize w7.drew = w8 at BK247 HB hx248_0 hx248_1 hx248_2 hx248_3 hx249_0 hx249_1 hx249_2 hx249_3 hHeld ⊢
 refine pu_ 0 (some 5) #[true, false, false, false, false, false, false, false, false, false, false, false, false, false, false, false] ?_
 refine pu_ 1 (some 6) #[true, true, false, false, false, false, false, false, false, false, false, false, false, false, false, false] ?_
 refine pu_ 2 (some 7) #[true, true, true, false, false, false, false, false, false, false, false, false, false, false, false, false] ?_
 refine pu_ 4 (some 9) #[true, true, true, false, true, false, false, false, false, false, false, false, false, false, false, false] ?_
 refine pu_ 5 (some 10) #[true, true, true, false, true, true, false, false, false, false, false, false, false, false, false, false] ?_
 refine pu_ 6 (some 11) #[true, true, true, false, true, true, true, false, false, false, false, false, false, false, false, false] ?_
 refine pu_ 7 (some 12) #[true, true, true, false, true, true, true, true, false, false, false, false, false, false, false, false] ?_
 refine pu_ 8 (some 13) #[true, true, true, false, true, true, true, true, true, false, false, false, false, false, false, false] ?_
 refine pu_ 9 (some 14) #[true, true, true, false, true, true, true, true, true, true, false, false, false, false, false, false] ?_
 refine pu_ 11 (some 16) #[true, true, true, false, true, true, true, true, true, true, false, true, false, false, false, false] ?_
 refine take_ (i := 3) (N := some 8) (v := _) (a' := _) #[true, true, true, true, true, true, true, true, true, true, false, true, false, false, false, false] rfl rfl (take_ofW HT_.out HW_.out (by kernel_rfl)) (fun _ _ _ h => h) (Or.inl ⟨by rfl, (by rintro w' ⟨s0, s1, s2, s3, s4, s5, s6, s7⟩; go_simp; with_reducible rfl)⟩) hHeld z73a ?_
 refine take_ (i := 10) (N := some 15) (v := _) (a' := _) #[true, true, true, true, true, true, true, true, true, true, true, true, false, false, false, false] rfl rfl (take_ofW HT_.out HW_.out (by kernel_rfl)) (fun _ _ _ h => h) (Or.inl ⟨by rfl, (by rintro w' ⟨s0, s1, s2, s3, s4, s5, s6, s7⟩; go_simp; with_reducible rfl)⟩) hHeld z73a ?_
 refine join_ (σ := Value × Nat) 1 #[true, true, true, true, true, true, true, true, true, true, true, true, true, true, true, false] (fun s_ => [(17, s_.1), (3, .pointer (some ⟨s_.2, 0, none⟩)), (18, .agg #[.string ((rd_T31 l0 0).f0), .string ((rd_T31 l0 (ji3)).f0), s_.1, .slice none 0 0])]) (fun s_ w' => (w'.cell? ad248 = some (.string ((rd_T31 l0 0).f0)) ∧ w'.cell? ⟨ad248.block, ad248.off + 1, none⟩ = some (.string ((rd_T31 l0 0).f1)) ∧ w'.cell? ⟨ad248.block, ad248.off + 2, none⟩ = some (.int .i64 ((rd_T31 l0 0).f2)) ∧ w'.cell? ⟨ad248.block, ad248.off + 3, none⟩ = some (.bool ((rd_T31 l0 0).f3)) ∧ w'.cell? (ad248.add (((ji3)).toNat * 4)) = some (.string ((rd_T31 l0 (ji3)).f0)) ∧ w'.cell? ⟨(ad248.add (((ji3)).toNat * 4)).block, (ad248.add (((ji3)).toNat * 4)).off + 1, none⟩ = some (.string ((rd_T31 l0 (ji3)).f1)) ∧ w'.cell? ⟨(ad248.add (((ji3)).toNat * 4)).block, (ad248.add (((ji3)).toNat * 4)).off + 2, none⟩ = some (.int .i64 ((rd_T31 l0 (ji3)).f2)) ∧ w'.cell? ⟨(ad248.add (((ji3)).toNat * 4)).block, (ad248.add (((ji3)).toNat * 4)).off + 3, none⟩ = some (.bool ((rd_T31 l0 (ji3)).f3))) ∧ (Kd.R (Kd.int .i64) 2 w' w.heap.size (fun _ => True) s_.1 t250) ∧ (w'.heap[gb247]? = some (.cells #[.string (⟨#[]⟩ : ByteArray), .string (⟨#[]⟩ : ByteArray), .slice none 0 0, .slice none 0 0] 57 (0, 0))) ∧ (w'.heap[s_.2]? = some (.cells #[.string (⟨#[]⟩ : ByteArray), .string (⟨#[]⟩ : ByteArray), .slice none 0 0, .slice none 0 0] 57 (0, 0))) ∧ (w.heap.size ≤ s_.2) ∧ (w.heap.size ≤ s_.2) ∧ (gb247 ≠ s_.2) ∧ (s_.2 ≠ gb247) ∧ (Below w.heap.size w w')) ?_ ?_
 rotate_left
 {
 intro hCont
 refine two_ (i := 12) (j := 14) (Ni := some 17) (Nj := some 3) #[true, true, true, true, true, true, true, true, true, true, true, true, true, false, false, false] #[true, true, true, true, true, true, true, true, true, true, true, true, false, false, true, false] rfl rfl rfl rfl (two_of HT_.out (by kernel_rfl)) (by decide) (by decide) (fun K hK => ?_) (fun K hK => ?_)
 {
 skip
 refine goes_ Try.func85 (by kernel_rfl) rfl #[.slice (some ad248) l0.length c0] (by rfl) rfl rfl z73n ?_
 with_reducible refine (spec_l5Bits.calls k _ _ l0 t250 _ ?side1 ?side2 A6.out).mono ?_
 (case side1 => exact (by repeat (first | exact (Kd.C_below HR0.out HB.out) | (with_reducible refine Kd.C_alloc ?_ _) | (with_reducible refine Kd.C_drewN ?_ _) | (with_reducible refine Kd.C_drew ?_))))
 (case side2 => exact HC0.out)
 rintro e w9 ⟨v251, rfl, ho0, hb⟩
 refine ⟨_, rfl, ?_⟩
 have n0_ := A_ (Kd.R_lower ho0 (below_size z73l))
 have n1_ := A_ (blk_below (g := gb247) (o := .cells #[.string (⟨#[]⟩ : ByteArray), .string (⟨#[]⟩ : ByteArray), .slice none 0 0, .slice none 0 0] 57 (0, 0)) z73k hb)
 have n2_ := A_ (below_step z73l hb)
 clear BK247
 clear HB
 have HO252 := n0_
 have BK247 := n1_
 have HB := n2_
 clear n0_ n1_ n2_
 obtain ⟨Ao10, co10, eo10⟩ := Kd.R_slice HO252.out
 (first | subst eo10 | (injection eo10 with f1_ f2_ f3_; have f4_ := f1_.symm; have f5_ := f3_.symm; clear f1_ f2_ f3_; subst f4_; subst f5_))
 refine hK.out _ _ ⟨((HB.out.cell (World.block_lt_of_cell? w _ hw248_0)).trans hw248_0), ((HB.out.cell (World.block_lt_of_cell? w _ hw248_1)).trans hw248_1), ((HB.out.cell (World.block_lt_of_cell? w _ hw248_2)).trans hw248_2), ((HB.out.cell (World.block_lt_of_cell? w _ hw248_3)).trans hw248_3), ((HB.out.cell (World.block_lt_of_cell? w _ hw249_0)).trans hw249_0), ((HB.out.cell (World.block_lt_of_cell? w _ hw249_1)).trans hw249_1), ((HB.out.cell (World.block_lt_of_cell? w _ hw249_2)).trans hw249_2), ((HB.out.cell (World.block_lt_of_cell? w _ hw249_3)).trans hw249_3)⟩ (fun hHeld => ?_)
 clear hK K
 refine norm_ (nz_ 17) ?_
 refine pu_ 13 (some 18) #[true, true, true, true, true, true, true, true, true, true, true, true, true, true, false, false] ?_
 refine one_ (i := 14) (N := some 3) #[true, true, true, true, true, true, true, true, true, true, true, true, true, true, true, false] rfl rfl (one_of HT_.out (by kernel_rfl)) (by decide) (fun K hK => ?_)
 refine box_step ?hg (N := 3) ?hd (cs := #[.string (⟨#[]⟩ : ByteArray), .string (⟨#[]⟩ : ByteArray), .slice none 0 0, .slice none 0 0]) (t := 57) ?hr ?_; (case hd => rfl); (case hg => rfl); (case hr => first | (go_simp; done) | (go_simp; rfl))
 intro gb253 hg w11 hbox hb
 have n0_ := A_ (Kd.R_below (by (with_reducible repeat (first | apply Kd.R_alloc | apply Kd.R_drewN | apply Kd.R_drew)); exact HO252.out) hb)
 have n1_ := A_ (blk_below (g := gb247) (o := .cells #[.string (⟨#[]⟩ : ByteArray), .string (⟨#[]⟩ : ByteArray), .slice none 0 0, .slice none 0 0] 57 (0, 0)) z73k hb)
 have n2_ := A_ (below_step z73l hb)
 have n3_ := A_ (hbox)
 have n4_ := A_ ((by rw [hg]; exact (below_size z73l) : w.heap.size ≤ gb253))
 have n5_ := A_ ((by rw [hg]; exact (below_size z73l) : w.heap.size ≤ gb253))
 have n6_ := A_ ((by rw [hg]; exact Nat.ne_of_lt (blk_lt (g := gb247) (o := .cells #[.string (⟨#[]⟩ : ByteArray), .string (⟨#[]⟩ : ByteArray), .slice none 0 0, .slice none 0 0] 57 (0, 0)) z73k) : gb247 ≠ gb253))
 have n7_ := A_ ((by rw [hg]; exact Nat.ne_of_gt (blk_lt (g := gb247) (o := .cells #[.string (⟨#[]⟩ : ByteArray), .string (⟨#[]⟩ : ByteArray), .slice none 0 0, .slice none 0 0] 57 (0, 0)) z73k) : gb253 ≠ gb247))
 clear HO252
 clear BK247
 clear HB
 have HO252 := n0_
 have BK247 := n1_
 have HB := n2_
 have BK253 := n3_
 have GW253 := n4_
 have GE253 := n5_
 have NB247_253 := n6_
 have NB253_247 := n7_
 clear n0_ n1_ n2_ n3_ n4_ n5_ n6_ n7_
 clear hb hbox hg
 refine hK.out _ _ ⟨((HB.out.cell (World.block_lt_of_cell? w _ hw248_0)).trans hw248_0), ((HB.out.cell (World.block_lt_of_cell? w _ hw248_1)).trans hw248_1), ((HB.out.cell (World.block_lt_of_cell? w _ hw248_2)).trans hw248_2), ((HB.out.cell (World.block_lt_of_cell? w _ hw248_3)).trans hw248_3), ((HB.out.cell (World.block_lt_of_cell? w _ hw249_0)).trans hw249_0), ((HB.out.cell (World.block_lt_of_cell? w _ hw249_1)).trans hw249_1), ((HB.out.cell (World.block_lt_of_cell? w _ hw249_2)).trans hw249_2), ((HB.out.cell (World.block_lt_of_cell? w _ hw249_3)).trans hw249_3)⟩ (fun hHeld => ?_)
 clear hK K
 refine norm_ (nz_ 3) ?_
 exact norm_ (by simp only [putAll, Act.put, List.setIfInBounds_toArray, List.set_cons_zero, List.set_cons_succ]) (hCont (.slice Ao10 t250.length co10, gb253) _ ⟨hHeld, (by (with_reducible repeat (first | apply Kd.R_alloc | apply Kd.R_drewN | apply Kd.R_drew)); exact HO252.out), z73k, z73m, GW253.out, GE253.out, NB247_253.out, NB253_247.out, z73j⟩)
 }
 {
 skip
 refine box_step ?hg (N := 3) ?hd (cs := #[.string (⟨#[]⟩ : ByteArray), .string (⟨#[]⟩ : ByteArray), .slice none 0 0, .slice none 0 0]) (t := 57) ?hr ?_; (case hd => rfl); (case hg => rfl); (case hr => first | (go_simp; done) | (go_simp; rfl))
 intro gb253 hg w9 hbox hb
 have n0_ := A_ (blk_below (g := gb247) (o := .cells #[.string (⟨#[]⟩ : ByteArray), .string (⟨#[]⟩ : ByteArray), .slice none 0 0, .slice none 0 0] 57 (0, 0)) z73k hb)
 have n1_ := A_ (below_step z73l hb)
 have n2_ := A_ (hbox)
 have n3_ := A_ ((by rw [hg]; exact (below_size z73l) : w.heap.size ≤ gb253))
 have n4_ := A_ ((by rw [hg]; exact (below_size z73l) : w.heap.size ≤ gb253))
 have n5_ := A_ ((by rw [hg]; exact Nat.ne_of_lt (blk_lt (g := gb247) (o := .cells #[.string (⟨#[]⟩ : ByteArray), .string (⟨#[]⟩ : ByteArray), .slice none 0 0, .slice none 0 0] 57 (0, 0)) z73k) : gb247 ≠ gb253))
 have n6_ := A_ ((by rw [hg]; exact Nat.ne_of_gt (blk_lt (g := gb247) (o := .cells #[.string (⟨#[]⟩ : ByteArray), .string (⟨#[]⟩ : ByteArray), .slice none 0 0, .slice none 0 0] 57 (0, 0)) z73k) : gb253 ≠ gb247))
 clear BK247
 clear HB
 have BK247 := n0_
 have HB := n1_
 have BK253 := n2_
 have GW253 := n3_
 have GE253 := n4_
 have NB247_253 := n5_
 have NB253_247 := n6_
 clear n0_ n1_ n2_ n3_ n4_ n5_ n6_
 clear hb hbox hg
 refine hK.out _ _ ⟨((HB.out.cell (World.block_lt_of_cell? w _ hw248_0)).trans hw248_0), ((HB.out.cell (World.block_lt_of_cell? w _ hw248_1)).trans hw248_1), ((HB.out.cell (World.block_lt_of_cell? w _ hw248_2)).trans hw248_2), ((HB.out.cell (World.block_lt_of_cell? w _ hw248_3)).trans hw248_3), ((HB.out.cell (World.block_lt_of_cell? w _ hw249_0)).trans hw249_0), ((HB.out.cell (World.block_lt_of_cell? w _ hw249_1)).trans hw249_1), ((HB.out.cell (World.block_lt_of_cell? w _ hw249_2)).trans hw249_2), ((HB.out.cell (World.block_lt_of_cell? w _ hw249_3)).trans hw249_3)⟩ (fun hHeld => ?_)
 clear hK K
 refine norm_ (nz_ 3) ?_
 refine one_ (i := 12) (N := some 17) #[true, true, true, true, true, true, true, true, true, true, true, true, true, false, true, false] rfl rfl (one_of HT_.out (by kernel_rfl)) (by decide) (fun K hK => ?_)
 refine goes_ Try.func85 (by kernel_rfl) rfl #[.slice (some ad248) l0.length c0] (by rfl) rfl rfl z73n ?_
 with_reducible refine (spec_l5Bits.calls k _ _ l0 t250 _ ?side1 ?side2 A6.out).mono ?_
 (case side1 => exact (by repeat (first | exact (Kd.C_below HR0.out HB.out) | (with_reducible refine Kd.C_alloc ?_ _) | (with_reducible refine Kd.C_drewN ?_ _) | (with_reducible refine Kd.C_drew ?_))))
 (case side2 => exact HC0.out)
 rintro e w10 ⟨v251, rfl, ho0, hb⟩
 refine ⟨_, rfl, ?_⟩
 have n0_ := A_ (Kd.R_lower ho0 (below_size z73j))
 have n1_ := A_ (blk_below (g := gb247) (o := .cells #[.string (⟨#[]⟩ : ByteArray), .string (⟨#[]⟩ : ByteArray), .slice none 0 0, .slice none 0 0] 57 (0, 0)) z73k hb)
 have n2_ := A_ (blk_below (g := gb253) (o := .cells #[.string (⟨#[]⟩ : ByteArray), .string (⟨#[]⟩ : ByteArray), .slice none 0 0, .slice none 0 0] 57 (0, 0)) z73m hb)
 have n3_ := A_ (below_step z73j hb)
 clear BK247
 clear BK253
 clear HB
 have HO252 := n0_
 have BK247 := n1_
 have BK253 := n2_
 have HB := n3_
 clear n0_ n1_ n2_ n3_
 obtain ⟨Ao11, co11, eo11⟩ := Kd.R_slice HO252.out
 (first | subst eo11 | (injection eo11 with f1_ f2_ f3_; have f4_ := f1_.symm; have f5_ := f3_.symm; clear f1_ f2_ f3_; subst f4_; subst f5_))
 refine hK.out _ _ ⟨((HB.out.cell (World.block_lt_of_cell? w _ hw248_0)).trans hw248_0), ((HB.out.cell (World.block_lt_of_cell? w _ hw248_1)).trans hw248_1), ((HB.out.cell (World.block_lt_of_cell? w _ hw248_2)).trans hw248_2), ((HB.out.cell (World.block_lt_of_cell? w _ hw248_3)).trans hw248_3), ((HB.out.cell (World.block_lt_of_cell? w _ hw249_0)).trans hw249_0), ((HB.out.cell (World.block_lt_of_cell? w _ hw249_1)).trans hw249_1), ((HB.out.cell (World.block_lt_of_cell? w _ hw249_2)).trans hw249_2), ((HB.out.cell (World.block_lt_of_cell? w _ hw249_3)).trans hw249_3)⟩ (fun hHeld => ?_)
 clear hK K
 refine norm_ (nz_ 17) ?_
 refine pu_ 13 (some 18) #[true, true, true, true, true, true, true, true, true, true, true, true, true, true, true, false] ?_
 exact norm_ (by simp only [putAll, Act.put, List.setIfInBounds_toArray, List.set_cons_zero, List.set_cons_succ]) (hCont (.slice Ao11 t250.length co11, gb253) _ ⟨hHeld, (by (with_reducible repeat (first | apply Kd.R_alloc | apply Kd.R_drewN | apply Kd.R_drew)); exact HO252.out), z73k, z73m, GW253.out, GE253.out, NB247_253.out, NB253_247.out, z73j⟩)
 }
 }
 rintro ⟨v251, gb253⟩ w12 ⟨hS_, h0_, h1_, h2_, h3_, h4_, h5_, h6_, h7_⟩
 have n0_ : Aside0 (Kd.R (Kd.int .i64) 2 w12 w.heap.size (fun _ => True) v251 t250) := ⟨h0_⟩
 have n1_ : Aside0 (w12.heap[gb247]? = some (.cells #[.string (⟨#[]⟩ : ByteArray), .string (⟨#[]⟩ : ByteArray), .slice none 0 0, .slice none 0 0] 57 (0, 0))) := ⟨h1_⟩
 have n2_ : Aside0 (w12.heap[gb253]? = some (.cells #[.string (⟨#[]⟩ : ByteArray), .string (⟨#[]⟩ : ByteArray), .slice none 0 0, .slice none 0 0] 57 (0, 0))) := ⟨h2_⟩
 have n3_ : Aside0 (w.heap.size ≤ gb253) := ⟨h3_⟩
 have n4_ : Aside0 (w.heap.size ≤ gb253) := ⟨h4_⟩
 have n5_ : Aside0 (gb247 ≠ gb253) := ⟨h5_⟩
 have n6_ : Aside0 (gb253 ≠ gb247) := ⟨h6_⟩
 have n7_ : Aside0 (Below w.heap.size w w12) := ⟨h7_⟩
 clear BK247
 clear HB
 clear h0_ h1_ h2_ h3_ h4_ h5_ h6_ h7_
 have HO252 := n0_
 have BK247 := n1_
 have BK253 := n2_
 have GW253 := n3_
 have GE253 := n4_
 have NB247_253 := n5_
 have NB253_247 := n6_
 have HB := n7_
 clear n0_ n1_ n2_ n3_ n4_ n5_ n6_ n7_
 have hHeld : w12.cell? ad248 = some (.string ((rd_T31 l0 0).f0)) ∧ w12.cell? ⟨ad248.block, ad248.off + 1, none⟩ = some (.string ((rd_T31 l0 0).f1)) ∧ w12.cell? ⟨ad248.block, ad248.off + 2, none⟩ = some (.int .i64 ((rd_T31 l0 0).f2)) ∧ w12.cell? ⟨ad248.block, ad248.off + 3, none⟩ = some (.bool ((rd_T31 l0 0).f3)) ∧ w12.cell? (ad248.add (((ji3)).toNat * 4)) = some (.string ((rd_T31 l0 (ji3)).f0)) ∧ w12.cell? ⟨(ad248.add (((ji3)).toNat * 4)).block, (ad248.add (((ji3)).toNat * 4)).off + 1, none⟩ = some (.string ((rd_T31 l0 (ji3)).f1)) ∧ w12.cell? ⟨(ad248.add (((ji3)).toNat * 4)).block, (ad248.add (((ji3)).toNat * 4)).off + 2, none⟩ = some (.int .i64 ((rd_T31 l0 (ji3)).f2)) ∧ w12.cell? ⟨(ad248.add (((ji3)).toNat * 4)).block, (ad248.add (((ji3)).toNat * 4)).off + 3, none⟩ = some (.bool ((rd_T31 l0 (ji3)).f3)) := hS_
 obtain ⟨Ao13, co13, eo13⟩ := Kd.R_slice HO252.out
 (first | subst eo13 | (injection eo13 with f1_ f2_ f3_; have f4_ := f1_.symm; have f5_ := f3_.symm; clear f1_ f2_ f3_; subst f4_; subst f5_))
 refine norm_ (a' := ?_) ?_ ?_
 rotate_left
 exact (by simp only [putAll, Act.put, List.setIfInBounds_toArray, List.set_cons_zero, List.set_cons_succ]; rfl)
 refine one_ (i := 15) (N := none) #[true, true, true, true, true, true, true, true, true, true, true, true, true, true, true, true] rfl rfl (one_of HT_.out (by kernel_rfl)) (by decide) (fun K hK => ?_)
 have hs14 : w12.cell? ⟨gb253, 0, none⟩ = some (.string (⟨#[]⟩ : ByteArray)) := (blk_cell BK253.out 0).trans rfl
 have hfs14 := blk_frozen BK253.out 0
 have hns14_0 := NB247_253.out
 have hms14_0 := NB253_247.out
 have hs15 : w12.cell? ⟨gb253, 1, none⟩ = some (.string (⟨#[]⟩ : ByteArray)) := (blk_cell BK253.out 1).trans rfl
 have hfs15 := blk_frozen BK253.out 1
 have hns15_0 := NB247_253.out
 have hms15_0 := NB253_247.out
 have hs16 : w12.cell? ⟨gb253, 2, none⟩ = some (.slice none 0 0) := (blk_cell BK253.out 2).trans rfl
 have hfs16 := blk_frozen BK253.out 2
 have hns16_0 := NB247_253.out
 have hms16_0 := NB253_247.out
 have hs17 : w12.cell? ⟨gb253, 3, none⟩ = some (.slice none 0 0) := (blk_cell BK253.out 3).trans rfl
 have hfs17 := blk_frozen BK253.out 3
 have hns17_0 := NB247_253.out
 have hms17_0 := NB253_247.out
 refine skip_ (w1 := ?_) (by rfl) rfl ?_ ?_
 rotate_left
 {
 go_simp
 rfl
 }
 refine hK.out _ _ ⟨((cell_far (p := ⟨gb253, _, none⟩) z73b _).trans (((cell_far (p := ⟨gb253, _, none⟩) z73b _).trans (((cell_far (p := ⟨gb253, _, none⟩) z73b _).trans (((cell_far (p := ⟨gb253, _, none⟩) z73b _).trans (hHeld.1)))))))), ((cell_far (p := ⟨gb253, _, none⟩) z73c _).trans (((cell_far (p := ⟨gb253, _, none⟩) z73c _).trans (((cell_far (p := ⟨gb253, _, none⟩) z73c _).trans (((cell_far (p := ⟨gb253, _, none⟩) z73c _).trans (hHeld.2.1)))))))), ((cell_far (p := ⟨gb253, _, none⟩) z73d _).trans (((cell_far (p := ⟨gb253, _, none⟩) z73d _).trans (((cell_far (p := ⟨gb253, _, none⟩) z73d _).trans (((cell_far (p := ⟨gb253, _, none⟩) z73d _).trans (hHeld.2.2.1)))))))), ((cell_far (p := ⟨gb253, _, none⟩) z73e _).trans (((cell_far (p := ⟨gb253, _, none⟩) z73e _).trans (((cell_far (p := ⟨gb253, _, none⟩) z73e _).trans (((cell_far (p := ⟨gb253, _, none⟩) z73e _).trans (hHeld.2.2.2.1)))))))), ((cell_far (p := ⟨gb253, _, none⟩) z73f _).trans (((cell_far (p := ⟨gb253, _, none⟩) z73f _).trans (((cell_far (p := ⟨gb253, _, none⟩) z73f _).trans (((cell_far (p := ⟨gb253, _, none⟩) z73f _).trans (hHeld.2.2.2.2.1)))))))), ((cell_far (p := ⟨gb253, _, none⟩) z73g _).trans (((cell_far (p := ⟨gb253, _, none⟩) z73g _).trans (((cell_far (p := ⟨gb253, _, none⟩) z73g _).trans (((cell_far (p := ⟨gb253, _, none⟩) z73g _).trans (hHeld.2.2.2.2.2.1)))))))), ((cell_far (p := ⟨gb253, _, none⟩) z73h _).trans (((cell_far (p := ⟨gb253, _, none⟩) z73h _).trans (((cell_far (p := ⟨gb253, _, none⟩) z73h _).trans (((cell_far (p := ⟨gb253, _, none⟩) z73h _).trans (hHeld.2.2.2.2.2.2.1)))))))), ((cell_far (p := ⟨gb253, _, none⟩) z73i _).trans (((cell_far (p := ⟨gb253, _, none⟩) z73i _).trans (((cell_far (p := ⟨gb253, _, none⟩) z73i _).trans (((cell_far (p := ⟨gb253, _, none⟩) z73i _).trans (hHeld.2.2.2.2.2.2.2))))))))⟩ (fun hHeld => ?_)
 clear hK K
 refine done_ (done_of HT_.out (by kernel_rfl)) ?_
 try go_wp2
 go_loopg [4] k (fun kq v4 w' => ∃ (x4_1 : Int) (x254003_1 : List ByteArray) (u254003 : Value), v4 = .int .i64 x4_1 ∧ Aside0 (spec_l5Built.l0 kq l0 x4_1 ((rd_T31 l0 0).f0) ((rd_T31 l0 (ji3)).f0) t250 x254003_1 = some (r1, r2, r3, r4)) ∧ Aside0 (kq ≤ k) ∧ Aside0 (Kd.R (Kd.int .i64) 2 w' w.heap.size (fun _ => True) (.slice Ao13 t250.length co13) t250) ∧ Aside0 (Kd.R Kd.string 9 w' w.heap.size (fun _ => True) u254003 x254003_1) ∧ Aside0 (w'.heap[gb247]? = some (.cells #[.string (⟨#[]⟩ : ByteArray), .string (⟨#[]⟩ : ByteArray), (.slice none 0 0), (.slice none 0 0)] 57 (0, 0))) ∧ Aside0 (w'.heap[gb253]? = some (.cells #[.string ((rd_T31 l0 0).f0), .string ((rd_T31 l0 (ji3)).f0), (.slice Ao13 t250.length co13), u254003] 57 (0, 0))) ∧ Aside0 (Below w.heap.size w w'))
 case atStart => exact ⟨(0), (([] : List ByteArray)), (.slice none 0 0), (by first | rfl | (simp; done) | (simp [*]; done)), H', ⟨Nat.le_refl _⟩, ⟨by (with_reducible repeat (first | apply Kd.R_alloc | apply Kd.R_drewN | apply Kd.R_drew)); exact Kd.R_mono (Kd.R_far (p := ⟨gb253, 3, none⟩) (Kd.R_far (p := ⟨gb253, 2, none⟩) (Kd.R_far (p := ⟨gb253, 1, none⟩) (Kd.R_far (p := ⟨gb253, 0, none⟩) (Kd.R_types HO252.out BK253.out (by decide)) (fun _ hk => hk.2) (.string ((rd_T31 l0 0).f0))) (fun _ hk => hk.2) (.string ((rd_T31 l0 (ji3)).f0))) (fun _ hk => hk.2) (.slice Ao13 t250.length co13)) (fun _ hk => hk.2) (.slice none 0 0)) (fun _ hk => trivial)⟩, ⟨by first | exact Kd.R_nil _ _ _ _ _ | exact Kd.N_nil _ _ _ _ _ | exact Kd.V_nil _ _ _ _ _ | exact Kd.Q_nil _ _ _ _ _ | exact Kd.S_nil _ _ _ _ _⟩, ⟨by (with_reducible repeat (first | refine blk_drewN ?_ _ | refine blk_drew ?_ | refine blk_alloc ?_ _)); refine blk_far ?_ NB247_253.out _; (with_reducible repeat (first | refine blk_drewN ?_ _ | refine blk_drew ?_ | refine blk_alloc ?_ _)); refine blk_far ?_ NB247_253.out _; (with_reducible repeat (first | refine blk_drewN ?_ _ | refine blk_drew ?_ | refine blk_alloc ?_ _)); refine blk_far ?_ NB247_253.out _; (with_reducible repeat (first | refine blk_drewN ?_ _ | refine blk_drew ?_ | refine blk_alloc ?_ _)); refine blk_far ?_ NB247_253.out _; (with_reducible repeat (first | refine blk_drewN ?_ _ | refine blk_drew ?_ | refine blk_alloc ?_ _)); exact BK247.out⟩, ⟨by (with_reducible repeat (first | refine blk_drewN ?_ _ | refine blk_drew ?_ | refine blk_alloc ?_ _)); refine blk_put (cs := #[.string ((rd_T31 l0 0).f0), .string ((rd_T31 l0 (ji3)).f0), .slice Ao13 t250.length co13, .slice none 0 0]) ?_ 3 _ rfl; (with_reducible repeat (first | refine blk_drewN ?_ _ | refine blk_drew ?_ | refine blk_alloc ?_ _)); refine blk_put (cs := #[.string ((rd_T31 l0 0).f0), .string ((rd_T31 l0 (ji3)).f0), .slice none 0 0, .slice none 0 0]) ?_ 2 _ rfl; (with_reducible repeat (first | refine blk_drewN ?_ _ | refine blk_drew ?_ | refine blk_alloc ?_ _)); refine blk_put (cs := #[.string ((rd_T31 l0 0).f0), .string (⟨#[]⟩ : ByteArray), .slice none 0 0, .slice none 0 0]) ?_ 1 _ rfl; (with_reducible repeat (first | refine blk_drewN ?_ _ | refine blk_drew ?_ | refine blk_alloc ?_ _)); refine blk_put (cs := #[.string (⟨#[]⟩ : ByteArray), .string (⟨#[]⟩ : ByteArray), .slice none 0 0, .slice none 0 0]) ?_ 0 _ rfl; (with_reducible repeat (first | refine blk_drewN ?_ _ | refine blk_drew ?_ | refine blk_alloc ?_ _)); exact BK253.out⟩, ⟨by repeat (first | (with_reducible first | exact HB.out | apply below_alloc | apply pw_below_drewN | apply below_drew1 | refine below_set ?_ GE247.out | refine below_set ?_ GE253.out) | exact HB.out)⟩⟩
 case round =>
  clear H'
  try clear c2
  try clear c2b0
  try clear c2b1
  try clear p2
  try clear q2
  try clear hx2
  try clear qi2
  try clear c4
  try clear c4b0
  try clear c5
  try clear c5b0
  try clear p6
  try clear c7
  try clear c8
  try clear hx248_0
  try clear hx248_1
  try clear hx248_2
  try clear hx248_3
  try clear hx249_0
  try clear hx249_1
  try clear hx249_2
  try clear hx249_3
  try clear p248
  try clear p249
  try clear q248
  try clear q249
  obtain ⟨x4_1, x254003_1, u254003, rfl, HA, HK1, HO_254002, HO_254003, BK247, BK253, HB⟩ := hrel
  cases gk with
  | zero => exact absurd HA.out (by simp [spec_l5Built.l0])
  | succ k1 =>
   have H := HA.out
   clear HA
   simp only [spec_l5Built.l0] at H
   by_cases c18 : x4_1 < (l0.length : Int)
   {
   rw [if_pos c18] at H
   have c18b0 : decide (x4_1 < (l0.length : Int)) = true := decide_eq_true c18
   clear c18
   replace H := Option.bind_eq_some_iff.mp H
   obtain ⟨t254, A190, H⟩ := H
   replace H : (if 0 ≤ x4_1 then (if x4_1 ≤ t254 then (if t254 ≤ (l0.length : Int) then ((spec_l4Packed.f k1 ((l0.take (t254 : Int).toNat).drop (x4_1 : Int).toNat)).bind fun t259 => (if x254003_1.length < 8796093022208 then (spec_l5Built.l0 k1 l0 (wrap64 (x4_1 + 8)) ((rd_T31 l0 0).f0) ((rd_T31 l0 (ji3)).f0) t250 (x254003_1 ++ [strOfNums t259])) else (none))) else (none)) else (none)) else (none)) = some (r1, r2, r3, r4) := H
   have A19 := A_ A190
   clear A190
   by_cases c20 : 0 ≤ x4_1
   {
   rw [if_pos c20] at H
   have c20b0 := eq_true c20
   have c20b1 : decide (0 ≤ x4_1) = true := decide_eq_true c20
   clear c20
   by_cases c21 : x4_1 ≤ t254
   {
   rw [if_pos c21] at H
   have c21b0 := eq_true c21
   have c21b1 : decide (x4_1 ≤ t254) = true := decide_eq_true c21
   clear c21
   by_cases c22 : t254 ≤ (l0.length : Int)
   {
   rw [if_pos c22] at H
   have c22b0 := eq_true c22
   have c22b1 : decide (t254 ≤ (l0.length : Int)) = true := decide_eq_true c22
   clear c22
   obtain ⟨y255, hy255⟩ : ∃ y_ : List (S31), y_ = ((l0.take (t254 : Int).toNat).drop (x4_1 : Int).toNat) := ⟨_, rfl⟩
   replace H : ((spec_l4Packed.f k1 y255).bind fun t259 => (if x254003_1.length < 8796093022208 then (spec_l5Built.l0 k1 l0 (wrap64 (x4_1 + 8)) ((rd_T31 l0 0).f0) ((rd_T31 l0 (ji3)).f0) t250 (x254003_1 ++ [strOfNums t259])) else (none))) = some (r1, r2, r3, r4) := by first | (rw [hy255]; with_reducible exact H) | (have H2_ := (Option.bind_some _ _).symm.trans H; rw [hy255]; with_reducible exact H2_) | (have H2_ := (Option.bind_some _ _).symm.trans H; with_reducible exact H2_) | with_reducible exact H | (rw [hy255]; exact H) | exact H
   have Ny255 := A_ hy255
   clear hy255
   replace H := Option.bind_eq_some_iff.mp H
   obtain ⟨t259, A230, H⟩ := H
   replace H : (if x254003_1.length < 8796093022208 then (spec_l5Built.l0 k1 l0 (wrap64 (x4_1 + 8)) ((rd_T31 l0 0).f0) ((rd_T31 l0 (ji3)).f0) t250 (x254003_1 ++ [strOfNums t259])) else (none)) = some (r1, r2, r3, r4) := H
   have A23 := A_ A230
   clear A230
   by_cases c24 : x254003_1.length < 8796093022208
   {
   rw [if_pos c24] at H
   have LMc24 := A_ c24
   clear c24
   obtain ⟨y262, hy262⟩ : ∃ y_ : List ByteArray, y_ = (x254003_1 ++ [strOfNums t259]) := ⟨_, rfl⟩
   replace H : (spec_l5Built.l0 k1 l0 (wrap64 (x4_1 + 8)) ((rd_T31 l0 0).f0) ((rd_T31 l0 (ji3)).f0) t250 y262) = some (r1, r2, r3, r4) := by first | (rw [hy262]; with_reducible exact H) | (have H2_ := (Option.bind_some _ _).symm.trans H; rw [hy262]; with_reducible exact H2_) | (have H2_ := (Option.bind_some _ _).symm.trans H; with_reducible exact H2_) | with_reducible exact H | (rw [hy262]; exact H) | exact H
   have Ny262 := A_ hy262
   clear hy262
   have H' := A_ H
   clear H
   try go_wp2
   replace HO_254002 := A_ (Kd.R_drew HO_254002.out)
   replace HO_254003 := A_ (Kd.R_drew HO_254003.out)
   replace BK247 := A_ (blk_drew BK247.out)
   replace BK253 := A_ (blk_drew BK253.out)
   replace HB := A_ (below_drew1 HB.out)
   refine start_ (n := 16) (S := fun w' => w'.cell? ⟨gb253, 0, none⟩ = some (.string ((rd_T31 l0 0).f0)) ∧ w'.cell? ⟨gb253, 1, none⟩ = some (.string ((rd_T31 l0 (ji3)).f0)) ∧ w'.cell? ⟨gb253, 2, none⟩ = some (.slice Ao13 t250.length co13) ∧ w'.cell? ⟨gb253, 3, none⟩ = some (u254003)) (ds := [15]) #[false, false, false, false, false, false, false, false, false, false, false, false, false, false, false, false] (by kernel_rfl) rfl rfl ⟨(blk_cell BK253.out 0).trans rfl, (blk_cell BK253.out 1).trans rfl, (blk_cell BK253.out 2).trans rfl, (blk_cell BK253.out 3).trans rfl⟩ (fun hHeld => ?_); refine with_tabW spec_l5Built.tab5 spec_l5Built.bits5 (fun HT_ HW_ => ?_)
   generalize wr.drew = w25 at HO_254002 HO_254003 BK247 BK253 HB hHeld ⊢
   refine pu_ 0 (some 25) #[true, false, false, false, false, false, false, false, false, false, false, false, false, false, false, false] ?_
   refine pu_ 2 (some 27) #[true, false, true, false, false, false, false, false, false, false, false, false, false, false, false, false] ?_
   refine pu_ 3 (some 28) #[true, false, true, true, false, false, false, false, false, false, false, false, false, false, false, false] ?_
   refine pu_ 4 (some 29) #[true, false, true, true, true, false, false, false, false, false, false, false, false, false, false, false] ?_
   refine pu_ 5 (some 30) #[true, false, true, true, true, true, false, false, false, false, false, false, false, false, false, false] ?_
   refine pu_ 6 (some 31) #[true, false, true, true, true, true, true, false, false, false, false, false, false, false, false, false] ?_
   refine pu_ 7 (some 32) #[true, false, true, true, true, true, true, true, false, false, false, false, false, false, false, false] ?_
   refine take_ (i := 1) (N := some 26) (v := _) (a' := _) #[true, true, true, true, true, true, true, true, false, false, false, false, false, false, false, false] rfl rfl (take_ofW HT_.out HW_.out (by kernel_rfl)) (fun _ _ _ h => h) (Or.inl ⟨by rfl, (by rintro w' ⟨s0, s1, s2, s3⟩; go_simp; with_reducible rfl)⟩) hHeld z73a ?_
   refine one_ (i := 8) (N := some 33) #[true, true, true, true, true, true, true, true, true, false, false, false, false, false, false, false] rfl rfl (one_of HT_.out (by kernel_rfl)) (by decide) (fun K hK => ?_)
   refine goes_ Try.func111 (by kernel_rfl) rfl #[.int .i64 (l0.length : Int), .int .i64 (wrap64 (x4_1 + 8))] (by rfl) rfl rfl z73n ?_
   with_reducible refine (spec_l1Min.calls (l0.length : Int) (wrap64 (x4_1 + 8)) t254 _ A19.out).mono ?_
   rintro e w' ⟨rfl, ⟨nd, rfl⟩⟩
   refine ⟨_, rfl, ?_⟩
   have q26 : (t254 : Int) ≤ ((l0.length : Int) : Int) := of_decide_eq_true (by first | (with_reducible assumption) | assumption)
   obtain ⟨i026, hi026, _, hsz26, _⟩ := info_parts info31
   have hroom26 : l0.length ≤ c0 := HC0.out
   have hC26 : Kd.C k31 _ (some ad248) l0.length l0 := HR0.out
   have ql26 : (x4_1 : Int) ≤ (t254 : Int) := of_decide_eq_true (by first | (with_reducible assumption) | assumption)
   have q026 : (0 : Int) ≤ (x4_1 : Int) := of_decide_eq_true (by first | (with_reducible assumption) | assumption)
   have hcut26 := cut_mid (P := Try.prog) 27 31 .i64 .i64 Try.underlying27 hi026 4 hsz26 (some ad248) l0.length c0 x4_1 t254 q026 ql26 q26 hroom26
   have hr26 := Kd.C_mid (lo := (x4_1 : Int).toNat) (hi := (t254 : Int).toNat) (c := c0) hC26 (by omega) (by omega) hroom26
   obtain ⟨A26, hA26⟩ : ∃ A1, A1 = (if c0 = (x4_1 : Int).toNat then (some ad248) else ((some ad248) : Option Addr).map (·.add ((x4_1 : Int).toNat * 4))) := ⟨_, rfl⟩
   obtain ⟨c26, hc26⟩ : ∃ c1, c1 = c0 - (x4_1 : Int).toNat := ⟨_, rfl⟩
   have hy26 : y255.length = (t254 : Int).toNat - (x4_1 : Int).toNat := (by rw [Ny255.out, List.length_drop, List.length_take] <;> omega)
   rw [show ((l0).take (t254 : Int).toNat).drop (x4_1 : Int).toNat = y255 from Ny255.out.symm] at hr26
   replace hr26 : Kd.C k31 _ A26 y255.length y255 := (by rw [hA26]; exact hr26)
   rw [← hy26, ← hA26, ← hc26] at hcut26
   have HR258 := A_ hr26
   have HC258 := A_ (show y255.length ≤ c26 from (by rw [hy26, hc26]; exact Nat.sub_le_sub_right (Nat.le_trans (by omega) hroom26) _))
   clear hr26 hC26 hroom26 hi026 hsz26 hc26
   have KY26 := A_ hy26
   have KA26 := A_ hA26
   clear hy26 hA26
   replace q26 := eq_true q26
   refine hK.out _ _ ⟨(blk_cell BK253.out 0).trans rfl, (blk_cell BK253.out 1).trans rfl, (blk_cell BK253.out 2).trans rfl, (blk_cell BK253.out 3).trans rfl⟩ (fun hHeld => ?_)
   clear hK K
   refine norm_ (nz_ 33) ?_
   refine pu_ 9 (some 34) #[true, true, true, true, true, true, true, true, true, true, false, false, false, false, false, false] ?_
   refine one_ (i := 10) (N := some 35) #[true, true, true, true, true, true, true, true, true, true, true, false, false, false, false, false] rfl rfl (one_of HT_.out (by kernel_rfl)) (by decide) (fun K hK => ?_)
   refine goes_ Try.func110 (by kernel_rfl) rfl #[.slice A26 y255.length c26] (by rfl) rfl rfl z73n ?_
   with_reducible refine (spec_l4Packed.calls k1 _ _ y255 t259 _ ?side1 ?side2 A23.out).mono ?_
   (case side1 => repeat (first | exact (Kd.C_below HR258.out z73j) | (with_reducible refine Kd.C_alloc ?_ _) | (with_reducible refine Kd.C_drewN ?_ _) | (with_reducible refine Kd.C_drew ?_)))
   (case side2 => exact HC258.out)
   rintro e w27 ⟨v260, rfl, ho0, hb⟩
   refine ⟨_, rfl, ?_⟩
   have n0_ := A_ (Kd.R_below (by (with_reducible repeat (first | apply Kd.R_alloc | apply Kd.R_drewN | apply Kd.R_drew)); exact HO_254002.out) hb)
   have n1_ := A_ (Kd.R_below (by (with_reducible repeat (first | apply Kd.R_alloc | apply Kd.R_drewN | apply Kd.R_drew)); exact HO_254003.out) hb)
   have n2_ := A_ (Kd.R_lower ho0 (below_size z73j))
   have n3_ := A_ (blk_below (g := gb247) (o := .cells #[.string (⟨#[]⟩ : ByteArray), .string (⟨#[]⟩ : ByteArray), .slice none 0 0, .slice none 0 0] 57 (0, 0)) z73k hb)
   have n4_ := A_ (blk_below (g := gb253) (o := .cells #[.string ((rd_T31 l0 0).f0), .string ((rd_T31 l0 (ji3)).f0), .slice Ao13 t250.length co13, u254003] 57 (0, 0)) z73m hb)
   have n5_ := A_ (below_step z73j hb)
   clear HO_254002
   clear HO_254003
   clear BK247
   clear BK253
   clear HB
   have HO_254002 := n0_
   have HO_254003 := n1_
   have HO261 := n2_
   have BK247 := n3_
   have BK253 := n4_
   have HB := n5_
   clear n0_ n1_ n2_ n3_ n4_ n5_
   refine hK.out _ _ ⟨(blk_cell BK253.out 0).trans rfl, (blk_cell BK253.out 1).trans rfl, (blk_cell BK253.out 2).trans rfl, (blk_cell BK253.out 3).trans rfl⟩ (fun hHeld => ?_)
   clear hK K
   refine norm_ (nz_ 35) ?_
   refine one_ (i := 11) (N := some 36) #[true, true, true, true, true, true, true, true, true, true, true, true, false, false, false, false] rfl rfl (one_of HT_.out (by kernel_rfl)) (by decide) (fun K hK => ?_)
   have hcv28 := own_string (P := Try.prog) Try.underlying36 Try.underlying5 Try.underlying9 (Kd.own_of_R HO261.out)
   refine value_ (w1 := ?_) (v := ?_) (by rfl) rfl ?_ ?_
   rotate_left 2
   {
   go_simp
   constructor
   {
   rfl
   }
   {
   rfl
   }
   }
   clear hcv28
   refine hK.out _ _ ⟨(blk_cell BK253.out 0).trans rfl, (blk_cell BK253.out 1).trans rfl, (blk_cell BK253.out 2).trans rfl, (blk_cell BK253.out 3).trans rfl⟩ (fun hHeld => ?_)
   clear hK K
   refine norm_ (nz_ 36) ?_
   refine one_ (i := 12) (N := some 37) #[true, true, true, true, true, true, true, true, true, true, true, true, true, false, false, false] rfl rfl (one_of HT_.out (by kernel_rfl)) (by decide) (fun K hK => ?_)
   refine value_ (w1 := ?_) (v := ?_) (by rfl) rfl ?_ ?_
   rotate_left 2
   {
   go_simp
   constructor
   {
   rfl
   }
   {
   rfl
   }
   }
   refine hK.out _ _ ⟨(blk_cell (blk_alloc BK253.out _) 0).trans rfl, (blk_cell (blk_alloc BK253.out _) 1).trans rfl, (blk_cell (blk_alloc BK253.out _) 2).trans rfl, (blk_cell (blk_alloc BK253.out _) 3).trans rfl⟩ (fun hHeld => ?_)
   clear hK K
   refine norm_ (nz_ 37) ?_
   refine one_ (i := 13) (N := some 38) #[true, true, true, true, true, true, true, true, true, true, true, true, true, true, false, false] rfl rfl (one_of HT_.out (by kernel_rfl)) (by decide) (fun K hK => ?_)
   refine Kd.R_append_step Kd.string (w0 := w) w.heap.size (by rfl) (.tmp 26) (.tmp 37) 55 9 (.string ⟨#[]⟩) 16 rfl Try.underlying55 info9 rfl (by decide) (by omega) u254003 x254003_1 (strOfNums t259) [.string (strOfNums t259)] (fun _ => True) (fun _ => False) rfl rfl ?aP (fun _ hk => hk.elim) ?aF ?aO ?aB ?aS ?aL ?_
   (case aP => exact rfl)
   (case aB => exact z73j)
   (case aF => exact (fun _ _ => trivial))
   (case aO => exact (by (with_reducible repeat (first | apply Kd.R_alloc | apply Kd.R_drewN | apply Kd.R_drew)); exact HO_254003.out))
   (case aS => exact (below_size z73j))
   (case aL => have := LMc24.out; omega)
   intro v263 w29 ho hb hg hat
   rw [← Ny262.out] at ho
   have n0_ := A_ (Kd.R_over' (by (with_reducible repeat (first | apply Kd.R_alloc | apply Kd.R_drewN | apply Kd.R_drew)); exact HO_254002.out) (Kd.R_typed (by (with_reducible repeat (first | apply Kd.R_alloc | apply Kd.R_drewN | apply Kd.R_drew)); exact HO_254003.out)) (by decide) hg)
   have n1_ := A_ (blk_grown (g := gb247) (o := .cells #[.string (⟨#[]⟩ : ByteArray), .string (⟨#[]⟩ : ByteArray), .slice none 0 0, .slice none 0 0] 57 (0, 0)) z73k hg (Kd.R_ne HO_254003.out BK247.out (by decide)))
   have n2_ := A_ (blk_grown (g := gb253) (o := .cells #[.string ((rd_T31 l0 0).f0), .string ((rd_T31 l0 (ji3)).f0), .slice Ao13 t250.length co13, u254003] 57 (0, 0)) z73m hg (Kd.R_ne HO_254003.out BK253.out (by decide)))
   have n3_ := A_ (Kd.R_over' (by (with_reducible repeat (first | apply Kd.R_alloc | apply Kd.R_drewN | apply Kd.R_drew)); exact HO261.out) (Kd.R_typed (by (with_reducible repeat (first | apply Kd.R_alloc | apply Kd.R_drewN | apply Kd.R_drew)); exact HO_254003.out)) (by decide) hg)
   have n4_ := A_ (hb)
   have n5_ := A_ (ho)
   clear HO_254002
   clear BK247
   clear BK253
   clear HO261
   clear HB
   clear HO_254003
   have HO_254002 := n0_
   have BK247 := n1_
   have BK253 := n2_
   have HO261 := n3_
   have HB := n4_
   have HO264 := n5_
   clear n0_ n1_ n2_ n3_ n4_ n5_
   clear ho hb hg hat
   obtain ⟨Ao30, co30, eo30⟩ := Kd.R_slice HO264.out
   (first | subst eo30 | (injection eo30 with f1_ f2_ f3_; have f4_ := f1_.symm; have f5_ := f3_.symm; clear f1_ f2_ f3_; subst f4_; subst f5_))
   refine hK.out _ _ ⟨(blk_cell BK253.out 0).trans rfl, (blk_cell BK253.out 1).trans rfl, (blk_cell BK253.out 2).trans rfl, (blk_cell BK253.out 3).trans rfl⟩ (fun hHeld => ?_)
   clear hK K
   refine norm_ (nz_ 38) ?_
   refine pu_ 14 (some 39) #[true, true, true, true, true, true, true, true, true, true, true, true, true, true, true, false] ?_
   refine last_ (i := 15) (N := none) #[true, true, true, true, true, true, true, true, true, true, true, true, true, true, true, true] rfl rfl (one_of HT_.out (by kernel_rfl)) (by decide) (fun K hK => ?_)
   have hs31 : w29.cell? ⟨gb253, 3, none⟩ = some (u254003) := (blk_cell BK253.out 3).trans rfl
   have hfs31 := blk_frozen BK253.out 3
   have hns31_0 := NB247_253.out
   have hms31_0 := NB253_247.out
   refine skip_ (w1 := ?_) (by rfl) rfl ?_ ?_
   rotate_left
   {
   go_simp
   rfl
   }
   refine hK.out _ _ ?_
   clear hK K
   refine done_ (done_of HT_.out (by kernel_rfl)) ?_
   try go_wp2
   go_roundg k1
   case measure => have := HK1.out; omega
   case rel => exact ⟨(wrap64 (x4_1 + 8)), (y262), (.slice Ao30 y262.length co30), (by first | rfl | (simp; done) | (simp [*]; done)), H', ⟨by have := HK1.out; omega⟩, ⟨by (with_reducible repeat (first | apply Kd.R_alloc | apply Kd.R_drewN | apply Kd.R_drew)); exact Kd.R_mono (Kd.R_far (p := ⟨gb253, 3, none⟩) (Kd.R_types HO_254002.out BK253.out (by decide)) (fun _ hk => hk.2) (.slice Ao30 y262.length co30)) (fun _ hk => trivial)⟩, ⟨by (with_reducible repeat (first | apply Kd.R_alloc | apply Kd.R_drewN | apply Kd.R_drew)); exact Kd.R_mono (Kd.R_far (p := ⟨gb253, 3, none⟩) (Kd.R_types HO264.out BK253.out (by decide)) (fun _ hk => hk.2) (.slice Ao30 y262.length co30)) (fun _ hk => trivial)⟩, ⟨by (with_reducible repeat (first | refine blk_drewN ?_ _ | refine blk_drew ?_ | refine blk_alloc ?_ _)); refine blk_far ?_ NB247_253.out _; (with_reducible repeat (first | refine blk_drewN ?_ _ | refine blk_drew ?_ | refine blk_alloc ?_ _)); exact BK247.out⟩, ⟨by (with_reducible repeat (first | refine blk_drewN ?_ _ | refine blk_drew ?_ | refine blk_alloc ?_ _)); refine blk_put (cs := #[.string ((rd_T31 l0 0).f0), .string ((rd_T31 l0 (ji3)).f0), .slice Ao13 t250.length co13, u254003]) ?_ 3 _ rfl; (with_reducible repeat (first | refine blk_drewN ?_ _ | refine blk_drew ?_ | refine blk_alloc ?_ _)); exact BK253.out⟩, ⟨by repeat (first | (with_reducible first | exact HB.out | apply below_alloc | apply pw_below_drewN | apply below_drew1 | refine below_set ?_ GE247.out | refine below_set ?_ GE253.out) | exact HB.out)⟩⟩
   }
   {
   rw [if_neg c24] at H
   exact absurd H (by simp)
   }
   }
   {
   rw [if_neg c22] at H
   exact absurd H (by simp)
   }
   }
   {
   rw [if_neg c21] at H
   exact absurd H (by simp)
   }
   }
   {
   rw [if_neg c20] at H
   exact absurd H (by simp)
   }
   }
   {
   rw [if_neg c18] at H
   have c18b0 : decide (x4_1 < (l0.length : Int)) = false := decide_eq_false c18
   clear c18
   simp only [Option.some.injEq, Prod.mk.injEq] at H
   obtain ⟨rfl, rfl, rfl, rfl⟩ := H
   have hnb32 := NB253_247.out
   have hnc32 := NB247_253.out
   have hcz33_0 : wr.cell? ⟨gb253, 0, none⟩ = some (.string ((rd_T31 l0 0).f0)) := (blk_cell BK253.out 0).trans rfl
   have hcz33_1 : wr.cell? ⟨gb253, 1, none⟩ = some (.string ((rd_T31 l0 (ji3)).f0)) := (blk_cell BK253.out 1).trans rfl
   have hcz33_2 : wr.cell? ⟨gb253, 2, none⟩ = some (.slice Ao13 t250.length co13) := (blk_cell BK253.out 2).trans rfl
   have hcz33_3 : wr.cell? ⟨gb253, 3, none⟩ = some (u254003) := (blk_cell BK253.out 3).trans rfl
   have hfz33_0 := blk_frozen BK253.out 0
   have hfz33_1 := blk_frozen BK253.out 1
   have hfz33_2 := blk_frozen BK253.out 2
   have hfz33_3 := blk_frozen BK253.out 3
   have hcz34_0 : wr.cell? ⟨gb247, 0, none⟩ = some (.string (⟨#[]⟩ : ByteArray)) := (blk_cell BK247.out 0).trans rfl
   have hcz34_1 : wr.cell? ⟨gb247, 1, none⟩ = some (.string (⟨#[]⟩ : ByteArray)) := (blk_cell BK247.out 1).trans rfl
   have hcz34_2 : wr.cell? ⟨gb247, 2, none⟩ = some (.slice none 0 0) := (blk_cell BK247.out 2).trans rfl
   have hcz34_3 : wr.cell? ⟨gb247, 3, none⟩ = some (.slice none 0 0) := (blk_cell BK247.out 3).trans rfl
   have hfz34_0 := blk_frozen BK247.out 0
   have hfz34_1 := blk_frozen BK247.out 1
   have hfz34_2 := blk_frozen BK247.out 2
   have hfz34_3 := blk_frozen BK247.out 3
   obtain ⟨Ao35, co35, eo35⟩ := Kd.R_slice HO_254003.out
   subst eo35
   go_wp2
   refine bodyPost_ret (results_cell_row rfl _ _ gb247 57 #[.string ((rd_T31 l0 0).f0), .string ((rd_T31 l0 (ji3)).f0), .slice Ao13 t250.length co13, .slice Ao35 x254003_1.length co35] (0, 0) _ rfl (by (with_reducible repeat (first | refine blk_drewN ?_ _ | refine blk_drew ?_ | refine blk_alloc ?_ _)); refine blk_put (cs := #[.string ((rd_T31 l0 0).f0), .string ((rd_T31 l0 (ji3)).f0), .slice Ao13 t250.length co13, .slice none 0 0]) ?_ 3 _ rfl; (with_reducible repeat (first | refine blk_drewN ?_ _ | refine blk_drew ?_ | refine blk_alloc ?_ _)); refine blk_put (cs := #[.string ((rd_T31 l0 0).f0), .string ((rd_T31 l0 (ji3)).f0), .slice none 0 0, .slice none 0 0]) ?_ 2 _ rfl; (with_reducible repeat (first | refine blk_drewN ?_ _ | refine blk_drew ?_ | refine blk_alloc ?_ _)); refine blk_put (cs := #[.string ((rd_T31 l0 0).f0), .string (⟨#[]⟩ : ByteArray), .slice none 0 0, .slice none 0 0]) ?_ 1 _ rfl; (with_reducible repeat (first | refine blk_drewN ?_ _ | refine blk_drew ?_ | refine blk_alloc ?_ _)); refine blk_put (cs := #[.string (⟨#[]⟩ : ByteArray), .string (⟨#[]⟩ : ByteArray), .slice none 0 0, .slice none 0 0]) ?_ 0 _ rfl; (with_reducible repeat (first | refine blk_drewN ?_ _ | refine blk_drew ?_ | refine blk_alloc ?_ _)); exact BK247.out) Try.underlying57 rfl (by kernel_rfl)) rfl ?_
   exact ⟨_, _, by first | rfl | (simp [errW_none, errW_some] <;> rfl) | (simp only [← hji3]; first | rfl | (simp [errW_none, errW_some] <;> rfl)) | (simp [*, errW_none, errW_some] <;> rfl), by (with_reducible repeat (first | apply Kd.R_alloc | apply Kd.R_drewN | apply Kd.R_drew)); exact Kd.R_mono (Kd.R_far (p := ⟨gb247, 3, none⟩) (Kd.R_far (p := ⟨gb247, 2, none⟩) (Kd.R_far (p := ⟨gb247, 1, none⟩) (Kd.R_far (p := ⟨gb247, 0, none⟩) (Kd.R_types HO_254002.out BK247.out (by decide)) (fun _ hk => hk.2) (.string ((rd_T31 l0 0).f0))) (fun _ hk => hk.2) (.string ((rd_T31 l0 (ji3)).f0))) (fun _ hk => hk.2) (.slice Ao13 t250.length co13)) (fun _ hk => hk.2) (.slice Ao35 x254003_1.length co35)) (fun _ hk => trivial), by (with_reducible repeat (first | apply Kd.R_alloc | apply Kd.R_drewN | apply Kd.R_drew)); exact Kd.R_mono (Kd.R_far (p := ⟨gb247, 3, none⟩) (Kd.R_far (p := ⟨gb247, 2, none⟩) (Kd.R_far (p := ⟨gb247, 1, none⟩) (Kd.R_far (p := ⟨gb247, 0, none⟩) (Kd.R_types HO_254003.out BK247.out (by decide)) (fun _ hk => hk.2) (.string ((rd_T31 l0 0).f0))) (fun _ hk => hk.2) (.string ((rd_T31 l0 (ji3)).f0))) (fun _ hk => hk.2) (.slice Ao13 t250.length co13)) (fun _ hk => hk.2) (.slice Ao35 x254003_1.length co35)) (fun _ hk => trivial), by repeat (first | (with_reducible first | exact HB.out | apply below_alloc | apply pw_below_drewN | apply below_drew1 | refine below_set ?_ GE247.out | refine below_set ?_ GE253.out) | exact HB.out)⟩
   }
 }
 {
 rw [if_neg c5] at H
 exact absurd H (by simp)
 }
 }
 {
 rw [if_neg c4] at H
 exact absurd H (by simp)
 }
 }
 {
 rw [if_neg c2] at H
 exact absurd H (by simp)
 
 }
theorem z36a {p_ : Prop} (h_ : p_ := by repeat (first | (with_reducible first | exact HB.out | apply below_alloc | apply pw_below_drewN | apply below_drew1) | exact HB.out)) : p_ := h_
theorem z36b {p_ : Prop} (h_ : p_ := by (with_reducible repeat (first | refine blk_drewN ?_ _ | refine blk_drew ?_ | refine blk_alloc ?_ _)); refine blk_put (cs := #[.string (⟨#[]⟩ : ByteArray), .string (⟨#[]⟩ : ByteArray), .slice none 0 0, .slice none 0 0]) ?_ 3 _ rfl; (with_reducible repeat (first | refine blk_drewN ?_ _ | refine blk_drew ?_ | refine blk_alloc ?_ _)); refine blk_put (cs := #[.string (⟨#[]⟩ : ByteArray), .string (⟨#[]⟩ : ByteArray), .slice none 0 0, .slice none 0 0]) ?_ 2 _ rfl; (with_reducible repeat (first | refine blk_drewN ?_ _ | refine blk_drew ?_ | refine blk_alloc ?_ _)); refine blk_put (cs := #[.string (⟨#[]⟩ : ByteArray), .string (⟨#[]⟩ : ByteArray), .slice none 0 0, .slice none 0 0]) ?_ 1 _ rfl; (with_reducible repeat (first | refine blk_drewN ?_ _ | refine blk_drew ?_ | refine blk_alloc ?_ _)); refine blk_put (cs := #[.string (⟨#[]⟩ : ByteArray), .string (⟨#[]⟩ : ByteArray), .slice none 0 0, .slice none 0 0]) ?_ 0 _ rfl; (with_reducible repeat (first | refine blk_drewN ?_ _ | refine blk_drew ?_ | refine blk_alloc ?_ _)); exact BK265.out) : p_ := h_
theorem z36c {p_ : Prop} (h_ : p_ := by repeat (first | (with_reducible first | exact HB.out | apply below_alloc | apply pw_below_drewN | apply below_drew1 | refine below_set ?_ GE265.out) | exact HB.out)) : p_ := h_
theorem z36d {p_ : Prop} (h_ : p_ := by repeat (first | exact (Kd.C_below HR0.out HB.out) | (with_reducible refine Kd.C_alloc ?_ _) | (with_reducible refine Kd.C_drewN ?_ _) | (with_reducible refine Kd.C_drew ?_))) : p_ := h_
theorem z36e {p_ : Prop} (h_ : p_ := by (try simp only [List.map_toArray, List.map_cons, List.map_nil]); first | done | rfl | (simp only [List.length_drop, List.length_take]; rfl)) : p_ := h_
def spec_Built.f (k : Nat) (l0 : List (S31)) : Option (ByteArray × ByteArray × List Int × List ByteArray × Bool) := (spec_EntriesOk.f k l0).bind fun t266 => (if t266 = true then (if (l0.length : Int) = 0 then (some ((⟨#[]⟩ : ByteArray), (⟨#[]⟩ : ByteArray), ([] : List Int), ([] : List ByteArray), false)) else ((spec_l5Built.f k l0).bind fun bt267 => (some (bt267.1, bt267.2.1, bt267.2.2.1, bt267.2.2.2, true)))) else (some ((⟨#[]⟩ : ByteArray), (⟨#[]⟩ : ByteArray), ([] : List Int), ([] : List ByteArray), false)))
set_option maxHeartbeats 8000000 in
set_option maxRecDepth 100000 in
theorem spec_Built.calls (k : Nat) (A0 : Option Addr) (c0 : Nat) (l0 : List (S31)) (r1 : ByteArray) (r2 : ByteArray) (r3 : List Int) (r4 : List ByteArray) (r5 : Bool) (w : World) (hr0 : Kd.C k31 w A0 l0.length l0) (hc0 : l0.length ≤ c0) (h : spec_Built.f k l0 = some (r1, r2, r3, r4, r5)) :
  Calls Try.prog 36 #[.slice A0 l0.length c0] w fun e w' => ∃ v2_ v3_ : Value, e = .returned (.tuple #[.agg #[.string r1, .string r2, v2_, v3_], .bool r5]) ∧ Kd.R (Kd.int .i64) 2 w' w.heap.size (fun _ => True) v2_ r3 ∧ Kd.R Kd.string 9 w' w.heap.size (fun _ => True) v3_ r4 ∧ Below w.heap.size w w' := by
 have hu57 := Try.underlying57
 have HR0 := A_ hr0
 have HC0 := A_ hc0
 clear hr0 hc0
 have HB := A_ (Below.refl w.heap.size w)
 have H : ((spec_EntriesOk.f k l0).bind fun t266 => (if t266 = true then (if (l0.length : Int) = 0 then (some ((⟨#[]⟩ : ByteArray), (⟨#[]⟩ : ByteArray), ([] : List Int), ([] : List ByteArray), false)) else ((spec_l5Built.f k l0).bind fun bt267 => (some (bt267.1, bt267.2.1, bt267.2.2.1, bt267.2.2.2, true)))) else (some ((⟨#[]⟩ : ByteArray), (⟨#[]⟩ : ByteArray), ([] : List Int), ([] : List ByteArray), false)))) = some (r1, r2, r3, r4, r5) := h
 clear h
 replace H := Option.bind_eq_some_iff.mp H
 obtain ⟨t266, A20, H⟩ := H
 replace H : (if t266 = true then (if (l0.length : Int) = 0 then (some ((⟨#[]⟩ : ByteArray), (⟨#[]⟩ : ByteArray), ([] : List Int), ([] : List ByteArray), false)) else ((spec_l5Built.f k l0).bind fun bt267 => (some (bt267.1, bt267.2.1, bt267.2.2.1, bt267.2.2.2, true)))) else (some ((⟨#[]⟩ : ByteArray), (⟨#[]⟩ : ByteArray), ([] : List Int), ([] : List ByteArray), false))) = some (r1, r2, r3, r4, r5) := H
 have A2 := A_ A20
 clear A20
 by_cases c3 : t266 = true
 {
 subst c3
 have H1 : (if (l0.length : Int) = 0 then (some ((⟨#[]⟩ : ByteArray), (⟨#[]⟩ : ByteArray), ([] : List Int), ([] : List ByteArray), false)) else ((spec_l5Built.f k l0).bind fun bt267 => (some (bt267.1, bt267.2.1, bt267.2.2.1, bt267.2.2.2, true)))) = some (r1, r2, r3, r4, r5) := by rw [if_pos rfl] at H; exact H
 clear H
 have H := H1
 clear H1
 by_cases c4 : (l0.length : Int) = 0
 {
 rw [if_pos c4] at H
 have c4b0 : ((l0.length : Int) == 0) = true := beq_iff_eq.mpr c4
 have c4b1 : ((l0.length : Int) != 0) = false := bne_eq_false_iff_eq.mpr c4
 clear c4
 simp only [Option.some.injEq, Prod.mk.injEq] at H
 obtain ⟨rfl, rfl, rfl, rfl, rfl⟩ := H
 go_enter Try.func36, Try.ntmps36
 go_wp2_with (first | ((with_reducible refine gate_dst (N := 2) rfl ?_); (try (refine gate_guard (by rfl) ?_; dsimp only)); refine box_event ?hg (N := 2) ?hd (cs := #[.string (⟨#[]⟩ : ByteArray), .string (⟨#[]⟩ : ByteArray), .slice none 0 0, .slice none 0 0]) (t := 57) ?hr ?_; (case hd => rfl); (case hg => rfl); (case hr => first | (go_simp; done) | (go_simp; rfl)); intro gb265 hg w5 hbox hb; have n0_ := A_ (below_step z36a hb); have n1_ := A_ (hbox); have n2_ := A_ ((by rw [hg]; exact (below_size z36a) : w.heap.size ≤ gb265)); have n3_ := A_ ((by rw [hg]; exact (below_size z36a) : w.heap.size ≤ gb265)); clear HB; have HB := n0_; have BK265 := n1_; have GW265 := n2_; have GE265 := n3_; clear n0_ n1_ n2_ n3_; clear hb hbox hg) | ((with_reducible refine gate_callee (f := 27) rfl ?_); refine goesL_ (some 5) rfl rfl Try.func27 (by kernel_rfl) rfl #[.slice A0 l0.length c0] rfl z36e ?_; (with_reducible refine (spec_EntriesOk.calls k _ _ l0 true _ ?side1 ?side2 A2.out).mono ?_); (case side1 => exact z36d); (case side2 => exact HC0.out); rintro e w6 ⟨rfl, hb⟩; refine ⟨_, rfl, ?_⟩; replace BK265 := A_ (blk_below (g := gb265) (o := .cells #[.string (⟨#[]⟩ : ByteArray), .string (⟨#[]⟩ : ByteArray), .slice none 0 0, .slice none 0 0] 57 (0, 0)) (by (with_reducible repeat (first | refine blk_drewN ?_ _ | refine blk_drew ?_ | refine blk_alloc ?_ _)); exact BK265.out) hb); replace HB := A_ (below_step z36c hb); have hcz7_0 : w6.cell? ⟨gb265, 0, none⟩ = some (.string (⟨#[]⟩ : ByteArray)) := (blk_cell BK265.out 0).trans rfl; have hcz7_1 : w6.cell? ⟨gb265, 1, none⟩ = some (.string (⟨#[]⟩ : ByteArray)) := (blk_cell BK265.out 1).trans rfl; have hcz7_2 : w6.cell? ⟨gb265, 2, none⟩ = some (.slice none 0 0) := (blk_cell BK265.out 2).trans rfl; have hcz7_3 : w6.cell? ⟨gb265, 3, none⟩ = some (.slice none 0 0) := (blk_cell BK265.out 3).trans rfl; have hfz7_0 := blk_frozen BK265.out 0; have hfz7_1 := blk_frozen BK265.out 1; have hfz7_2 := blk_frozen BK265.out 2; have hfz7_3 := blk_frozen BK265.out 3))
 refine bodyPost_ret (results_ct rfl _ _ gb265 57 #[.string (⟨#[]⟩ : ByteArray), .string (⟨#[]⟩ : ByteArray), .slice none 0 0, .slice none 0 0] (0, 0) _ rfl z36b Try.underlying57 rfl (by kernel_rfl)) rfl ?_
 exact ⟨_, _, by first | rfl | (simp [errW_none, errW_some] <;> rfl) | (simp [*, errW_none, errW_some] <;> rfl), by first | exact Kd.R_nil _ _ _ _ _ | exact Kd.N_nil _ _ _ _ _ | exact Kd.V_nil _ _ _ _ _ | exact Kd.Q_nil _ _ _ _ _ | exact Kd.S_nil _ _ _ _ _, by first | exact Kd.R_nil _ _ _ _ _ | exact Kd.N_nil _ _ _ _ _ | exact Kd.V_nil _ _ _ _ _ | exact Kd.Q_nil _ _ _ _ _ | exact Kd.S_nil _ _ _ _ _, by repeat (first | (with_reducible first | exact HB.out | apply below_alloc | apply pw_below_drewN | apply below_drew1 | refine below_set ?_ GE265.out) | exact HB.out)⟩
 }
 {
 rw [if_neg c4] at H
 have c4b0 : ((l0.length : Int) == 0) = false := beq_eq_false_iff_ne.mpr c4
 have c4b1 : ((l0.length : Int) != 0) = true := bne_iff_ne.mpr c4
 have c4b2 : ¬ (l0 = []) := fun h_ => c4 (by rw [h_]; rfl)
 replace H := Option.bind_eq_some_iff.mp H
 obtain ⟨⟨t267, t268, t269, t272⟩, A80, H⟩ := H
 replace H : (some (t267, t268, t269, t272, true)) = some (r1, r2, r3, r4, r5) := H
 have A8 := A_ A80
 clear A80
 simp only [Option.some.injEq, Prod.mk.injEq] at H
 obtain ⟨rfl, rfl, rfl, rfl, rfl⟩ := H
 go_enter Try.func36, Try.ntmps36
 go_wp2_with (first | ((with_reducible refine gate_dst (N := 2) rfl ?_); (try (refine gate_guard (by rfl) ?_; dsimp only)); refine box_event ?hg (N := 2) ?hd (cs := #[.string (⟨#[]⟩ : ByteArray), .string (⟨#[]⟩ : ByteArray), .slice none 0 0, .slice none 0 0]) (t := 57) ?hr ?_; (case hd => rfl); (case hg => rfl); (case hr => first | (go_simp; done) | (go_simp; rfl)); intro gb265 hg w9 hbox hb; have n0_ := A_ (below_step z36a hb); have n1_ := A_ (hbox); have n2_ := A_ ((by rw [hg]; exact (below_size z36a) : w.heap.size ≤ gb265)); have n3_ := A_ ((by rw [hg]; exact (below_size z36a) : w.heap.size ≤ gb265)); clear HB; have HB := n0_; have BK265 := n1_; have GW265 := n2_; have GE265 := n3_; clear n0_ n1_ n2_ n3_; clear hb hbox hg) | ((with_reducible refine gate_callee (f := 27) rfl ?_); refine goesL_ (some 5) rfl rfl Try.func27 (by kernel_rfl) rfl #[.slice A0 l0.length c0] rfl z36e ?_; (with_reducible refine (spec_EntriesOk.calls k _ _ l0 true _ ?side1 ?side2 A2.out).mono ?_); (case side1 => exact z36d); (case side2 => exact HC0.out); rintro e w10 ⟨rfl, hb⟩; refine ⟨_, rfl, ?_⟩; replace BK265 := A_ (blk_below (g := gb265) (o := .cells #[.string (⟨#[]⟩ : ByteArray), .string (⟨#[]⟩ : ByteArray), .slice none 0 0, .slice none 0 0] 57 (0, 0)) (by (with_reducible repeat (first | refine blk_drewN ?_ _ | refine blk_drew ?_ | refine blk_alloc ?_ _)); exact BK265.out) hb); replace HB := A_ (below_step z36c hb)) | ((with_reducible refine gate_callee (f := 73) rfl ?_); refine goesL_ (some 14) rfl rfl Try.func73 (by kernel_rfl) rfl #[.slice A0 l0.length c0] rfl z36e ?_; (with_reducible refine (spec_l5Built.calls k _ _ l0 t267 t268 t269 t272 _ ?side1 ?side2 A8.out).mono ?_); (case side1 => exact z36d); (case side2 => exact HC0.out); rintro e w11 ⟨v270, v273, rfl, ho0, ho1, hb⟩; refine ⟨_, rfl, ?_⟩; have n0_ := A_ (Kd.R_lower ho0 (below_size z36c)); have n1_ := A_ (Kd.R_lower ho1 (below_size z36c)); have n2_ := A_ (blk_below (g := gb265) (o := .cells #[.string (⟨#[]⟩ : ByteArray), .string (⟨#[]⟩ : ByteArray), .slice none 0 0, .slice none 0 0] 57 (0, 0)) (by (with_reducible repeat (first | refine blk_drewN ?_ _ | refine blk_drew ?_ | refine blk_alloc ?_ _)); exact BK265.out) hb); have n3_ := A_ (below_step z36c hb); clear BK265; clear HB; have HO271 := n0_; have HO274 := n1_; have BK265 := n2_; have HB := n3_; clear n0_ n1_ n2_ n3_; (try clear ho1); have hcz12_0 : w11.cell? ⟨gb265, 0, none⟩ = some (.string (⟨#[]⟩ : ByteArray)) := (blk_cell BK265.out 0).trans rfl; have hcz12_1 : w11.cell? ⟨gb265, 1, none⟩ = some (.string (⟨#[]⟩ : ByteArray)) := (blk_cell BK265.out 1).trans rfl; have hcz12_2 : w11.cell? ⟨gb265, 2, none⟩ = some (.slice none 0 0) := (blk_cell BK265.out 2).trans rfl; have hcz12_3 : w11.cell? ⟨gb265, 3, none⟩ = some (.slice none 0 0) := (blk_cell BK265.out 3).trans rfl; have hfz12_0 := blk_frozen BK265.out 0; have hfz12_1 := blk_frozen BK265.out 1; have hfz12_2 := blk_frozen BK265.out 2; have hfz12_3 := blk_frozen BK265.out 3; obtain ⟨Ao13, co13, eo13⟩ := Kd.R_slice HO271.out; subst eo13; obtain ⟨Ao14, co14, eo14⟩ := Kd.R_slice HO274.out; subst eo14))
 refine bodyPost_ret (results_ct rfl _ _ gb265 57 #[.string t267, .string t268, .slice Ao13 t269.length co13, .slice Ao14 t272.length co14] (0, 0) _ rfl (by (with_reducible repeat (first | refine blk_drewN ?_ _ | refine blk_drew ?_ | refine blk_alloc ?_ _)); refine blk_put (cs := #[.string t267, .string t268, .slice Ao13 t269.length co13, .slice none 0 0]) ?_ 3 _ rfl; (with_reducible repeat (first | refine blk_drewN ?_ _ | refine blk_drew ?_ | refine blk_alloc ?_ _)); refine blk_put (cs := #[.string t267, .string t268, .slice none 0 0, .slice none 0 0]) ?_ 2 _ rfl; (with_reducible repeat (first | refine blk_drewN ?_ _ | refine blk_drew ?_ | refine blk_alloc ?_ _)); refine blk_put (cs := #[.string t267, .string (⟨#[]⟩ : ByteArray), .slice none 0 0, .slice none 0 0]) ?_ 1 _ rfl; (with_reducible repeat (first | refine blk_drewN ?_ _ | refine blk_drew ?_ | refine blk_alloc ?_ _)); refine blk_put (cs := #[.string (⟨#[]⟩ : ByteArray), .string (⟨#[]⟩ : ByteArray), .slice none 0 0, .slice none 0 0]) ?_ 0 _ rfl; (with_reducible repeat (first | refine blk_drewN ?_ _ | refine blk_drew ?_ | refine blk_alloc ?_ _)); exact BK265.out) Try.underlying57 rfl (by kernel_rfl)) rfl ?_
 exact ⟨_, _, by first | rfl | (simp [errW_none, errW_some] <;> rfl) | (simp [*, errW_none, errW_some] <;> rfl), by (with_reducible repeat (first | apply Kd.R_alloc | apply Kd.R_drewN | apply Kd.R_drew)); exact Kd.R_mono (Kd.R_far (p := ⟨gb265, 3, none⟩) (Kd.R_far (p := ⟨gb265, 2, none⟩) (Kd.R_far (p := ⟨gb265, 1, none⟩) (Kd.R_far (p := ⟨gb265, 0, none⟩) (Kd.R_types HO271.out BK265.out (by decide)) (fun _ hk => hk.2) (.string t267)) (fun _ hk => hk.2) (.string t268)) (fun _ hk => hk.2) (.slice Ao13 t269.length co13)) (fun _ hk => hk.2) (.slice Ao14 t272.length co14)) (fun _ hk => trivial), by (with_reducible repeat (first | apply Kd.R_alloc | apply Kd.R_drewN | apply Kd.R_drew)); exact Kd.R_mono (Kd.R_far (p := ⟨gb265, 3, none⟩) (Kd.R_far (p := ⟨gb265, 2, none⟩) (Kd.R_far (p := ⟨gb265, 1, none⟩) (Kd.R_far (p := ⟨gb265, 0, none⟩) (Kd.R_types HO274.out BK265.out (by decide)) (fun _ hk => hk.2) (.string t267)) (fun _ hk => hk.2) (.string t268)) (fun _ hk => hk.2) (.slice Ao13 t269.length co13)) (fun _ hk => hk.2) (.slice Ao14 t272.length co14)) (fun _ hk => trivial), by repeat (first | (with_reducible first | exact HB.out | apply below_alloc | apply pw_below_drewN | apply below_drew1 | refine below_set ?_ GE265.out) | exact HB.out)⟩
 }
 }
 {
 replace c3 := Bool.eq_false_iff.mpr c3
 subst c3
 have H1 : (some ((⟨#[]⟩ : ByteArray), (⟨#[]⟩ : ByteArray), ([] : List Int), ([] : List ByteArray), false)) = some (r1, r2, r3, r4, r5) := by rw [if_neg (show ¬ (false = true) by decide)] at H; exact H
 clear H
 have H := H1
 clear H1
 simp only [Option.some.injEq, Prod.mk.injEq] at H
 obtain ⟨rfl, rfl, rfl, rfl, rfl⟩ := H
 go_enter Try.func36, Try.ntmps36
 go_wp2_with (first | ((with_reducible refine gate_dst (N := 2) rfl ?_); (try (refine gate_guard (by rfl) ?_; dsimp only)); refine box_event ?hg (N := 2) ?hd (cs := #[.string (⟨#[]⟩ : ByteArray), .string (⟨#[]⟩ : ByteArray), .slice none 0 0, .slice none 0 0]) (t := 57) ?hr ?_; (case hd => rfl); (case hg => rfl); (case hr => first | (go_simp; done) | (go_simp; rfl)); intro gb265 hg w15 hbox hb; have n0_ := A_ (below_step z36a hb); have n1_ := A_ (hbox); have n2_ := A_ ((by rw [hg]; exact (below_size z36a) : w.heap.size ≤ gb265)); have n3_ := A_ ((by rw [hg]; exact (below_size z36a) : w.heap.size ≤ gb265)); clear HB; have HB := n0_; have BK265 := n1_; have GW265 := n2_; have GE265 := n3_; clear n0_ n1_ n2_ n3_; clear hb hbox hg) | ((with_reducible refine gate_callee (f := 27) rfl ?_); refine goesL_ (some 5) rfl rfl Try.func27 (by kernel_rfl) rfl #[.slice A0 l0.length c0] rfl z36e ?_; (with_reducible refine (spec_EntriesOk.calls k _ _ l0 false _ ?side1 ?side2 A2.out).mono ?_); (case side1 => exact z36d); (case side2 => exact HC0.out); rintro e w16 ⟨rfl, hb⟩; refine ⟨_, rfl, ?_⟩; replace BK265 := A_ (blk_below (g := gb265) (o := .cells #[.string (⟨#[]⟩ : ByteArray), .string (⟨#[]⟩ : ByteArray), .slice none 0 0, .slice none 0 0] 57 (0, 0)) (by (with_reducible repeat (first | refine blk_drewN ?_ _ | refine blk_drew ?_ | refine blk_alloc ?_ _)); exact BK265.out) hb); replace HB := A_ (below_step z36c hb); have hcz17_0 : w16.cell? ⟨gb265, 0, none⟩ = some (.string (⟨#[]⟩ : ByteArray)) := (blk_cell BK265.out 0).trans rfl; have hcz17_1 : w16.cell? ⟨gb265, 1, none⟩ = some (.string (⟨#[]⟩ : ByteArray)) := (blk_cell BK265.out 1).trans rfl; have hcz17_2 : w16.cell? ⟨gb265, 2, none⟩ = some (.slice none 0 0) := (blk_cell BK265.out 2).trans rfl; have hcz17_3 : w16.cell? ⟨gb265, 3, none⟩ = some (.slice none 0 0) := (blk_cell BK265.out 3).trans rfl; have hfz17_0 := blk_frozen BK265.out 0; have hfz17_1 := blk_frozen BK265.out 1; have hfz17_2 := blk_frozen BK265.out 2; have hfz17_3 := blk_frozen BK265.out 3))
 refine bodyPost_ret (results_ct rfl _ _ gb265 57 #[.string (⟨#[]⟩ : ByteArray), .string (⟨#[]⟩ : ByteArray), .slice none 0 0, .slice none 0 0] (0, 0) _ rfl z36b Try.underlying57 rfl (by kernel_rfl)) rfl ?_
 exact ⟨_, _, by first | rfl | (simp [errW_none, errW_some] <;> rfl) | (simp [*, errW_none, errW_some] <;> rfl), by first | exact Kd.R_nil _ _ _ _ _ | exact Kd.N_nil _ _ _ _ _ | exact Kd.V_nil _ _ _ _ _ | exact Kd.Q_nil _ _ _ _ _ | exact Kd.S_nil _ _ _ _ _, by first | exact Kd.R_nil _ _ _ _ _ | exact Kd.N_nil _ _ _ _ _ | exact Kd.V_nil _ _ _ _ _ | exact Kd.Q_nil _ _ _ _ _ | exact Kd.S_nil _ _ _ _ _, by repeat (first | (with_reducible first | exact HB.out | apply below_alloc | apply pw_below_drewN | apply below_drew1 | refine below_set ?_ GE265.out) | exact HB.out)⟩
 
 }
def impl_within.f (a0 : Int) (a1 : Int) (a2 : Int) : Option (Bool) := if a0 ≥ a1 then (some (decide (a0 ≤ a2))) else (some false)
set_option maxHeartbeats 8000000 in
set_option maxRecDepth 100000 in
theorem impl_within.calls (a0 : Int) (a1 : Int) (a2 : Int) (r : Bool) (w : World) (h : impl_within.f a0 a1 a2 = some r) :
  Calls Try.prog 96 #[.int .i64 a0, .int .i64 a1, .int .i64 a2] w fun e w' => e = .returned (.bool r) ∧ Drawn0 w w' := by
 have H : (if a0 ≥ a1 then (some (decide (a0 ≤ a2))) else (some false)) = some r := h
 clear h
 by_cases c4 : a0 ≥ a1
 {
 rw [if_pos c4] at H
 have c4b0 : decide (a1 ≤ a0) = true := decide_eq_true c4
 clear c4
 obtain rfl := Option.some.inj H
 go_enter Try.func96, Try.ntmps96
 go_wp2
 go_ret
 exact ⟨by first | rfl | (simp; done) | (simp [*]; done), by repeat (first | exact Drawn0.refl _ | apply Drawn0.step)⟩
 }
 {
 rw [if_neg c4] at H
 have c4b0 : decide (a1 ≤ a0) = false := decide_eq_false c4
 clear c4
 obtain rfl := Option.some.inj H
 go_enter Try.func96, Try.ntmps96
 go_wp2
 go_ret
 exact ⟨by first | rfl | (simp; done) | (simp [*]; done), by repeat (first | exact Drawn0.refl _ | apply Drawn0.step)⟩
 
 }
end Go.Proofs.Ytaiggfjkikfcbaa.PFnExactBuilt

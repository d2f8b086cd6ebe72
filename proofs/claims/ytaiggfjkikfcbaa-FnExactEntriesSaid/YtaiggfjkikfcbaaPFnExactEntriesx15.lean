-- by a program of this session (wip/print/run.py) for this claim
import Derived.Test.YtaiggfjkikfcbaaLibPu
import Derived.Test.YtaiggfjkikfcbaaPFnExactEntriesx0
import Derived.Test.YtaiggfjkikfcbaaPFnExactEntriesx14
namespace Go.Proofs.Ytaiggfjkikfcbaa.PFnExactEntries
open Go.Proofs.Ytaiggfjkikfcbaa.Lib Go.RowKit Go.Proofs.YtaiggfjkikfcbaaW.PrintWords Go.Proofs.YtaiggfjkikfcbaaW.PrintLast Go.Proofs.YtaiggfjkikfcbaaW.PrintMore
attribute [local go_sem] max2_int min2_int max_two min_two max_three min_three max_four min_four   -- for this text's walks alone
set_option linter.unusedVariables false
set_option linter.unusedSimpArgs false

theorem z115a {p_ : Prop} (h_ : p_ := by repeat (first | (with_reducible first | exact HB.out | apply below_alloc | apply pw_below_drewN | apply below_drew1 | refine below_set ?_ GE419.out) | exact HB.out)) : p_ := h_
theorem z115b {p_ : Prop} (h_ : p_ := by (with_reducible repeat (first | apply Kd.R_alloc | apply Kd.R_drewN | apply Kd.R_drew)); exact HO424.out) : p_ := h_
theorem z115c {p_ : Prop} (h_ : p_ := by (with_reducible repeat (first | refine blk_drewN ?_ _ | refine blk_drew ?_ | refine blk_alloc ?_ _)); exact BK419.out) : p_ := h_
theorem z115d {p_ : Prop} (h_ : p_ := by (with_reducible repeat (first | apply Kd.R_alloc | apply Kd.R_drewN | apply Kd.R_drew)); exact HO430.out) : p_ := h_
theorem z115f {p_ : Prop} (h_ : p_ := by (with_reducible repeat (first | apply Kd.R_alloc | apply Kd.R_drewN | apply Kd.R_drew)); exact HO436.out) : p_ := h_
theorem z115g {p_ : Prop} (h_ : p_ := by (with_reducible repeat (first | apply Kd.R_alloc | apply Kd.R_drewN | apply Kd.R_drew)); exact HO427.out) : p_ := h_
theorem z115h {p_ : Prop} (h_ : p_ := by (with_reducible repeat (first | apply Kd.R_alloc | apply Kd.R_drewN | apply Kd.R_drew)); exact HO_3.out) : p_ := h_
theorem z115i {p_ : Prop} (h_ : p_ := by (with_reducible repeat (first | apply Kd.R_alloc | apply Kd.R_drewN | apply Kd.R_drew)); exact HO433.out) : p_ := h_
theorem z115j {p_ : Prop} (h_ : p_ := by (with_reducible repeat (first | apply Kd.R_alloc | apply Kd.R_drewN | apply Kd.R_drew)); exact HO439.out) : p_ := h_
theorem z115k {p_ : Prop} (h_ : p_ := by first | (rw [add_block]; exact hn420_0) | (show (Addr.add _ _).block ≠ _; rw [add_block]; exact hn420_0) | exact hn420_0) : p_ := h_
theorem z115l {p_ : Prop} (h_ : p_ := by first | (rw [add_block]; exact hn420_1) | (show (Addr.add _ _).block ≠ _; rw [add_block]; exact hn420_1) | exact hn420_1) : p_ := h_
theorem z115m {p_ : Prop} (h_ : p_ := by first | (rw [add_block]; exact hn420_2) | (show (Addr.add _ _).block ≠ _; rw [add_block]; exact hn420_2) | exact hn420_2) : p_ := h_
theorem z115n {p_ : Prop} (h_ : p_ := by first | (rw [add_block]; exact hn420_3) | (show (Addr.add _ _).block ≠ _; rw [add_block]; exact hn420_3) | exact hn420_3) : p_ := h_
mutual
def impl_packed.l0 : Nat → List (S31) → List Int → List (S31) → Int → Int → Option (List Int)
 | 0, _, _, _, _, _ => none
 | k + 1, x0, x3, x11, x12, x13 => if x13 < x12 then (if 0 ≤ x13 then (if x13 < (x11.length : Int) then (if (Int.tmod x13 8) > 0 then (if 0 ≤ (wrap64 (x13 - 1)) then (if (wrap64 (x13 - 1)) < (x0.length : Int) then ((impl_Common.f k ((rd_T31 x0 (wrap64 (x13 - 1))).f0) ((rd_T31 x11 x13).f0)).bind fun t421 => (impl_packed.j1 k x0 x3 t421 x11 x12 x13 ((rd_T31 x11 x13).f0) ((rd_T31 x11 x13).f1) ((rd_T31 x11 x13).f2) ((rd_T31 x11 x13).f3))) else (none)) else (none)) else (impl_packed.j1 k x0 x3 0 x11 x12 x13 ((rd_T31 x11 x13).f0) ((rd_T31 x11 x13).f1) ((rd_T31 x11 x13).f2) ((rd_T31 x11 x13).f3))) else (none)) else (none)) else (some x3)
def impl_packed.j1 : Nat → List (S31) → List Int → Int → List (S31) → Int → Int → ByteArray → ByteArray → Int → Bool → Option (List Int)
 | 0, _, _, _, _, _, _, _, _, _, _ => none
 | k + 1, x0, x3, x6, x11, x12, x13, x420000, x420001, x420002, x420003 => if x420003 = true then (impl_packed.j2 k x0 x3 x6 (wrap64 ((wrap64 (2 * x420002)) + 1)) x11 x12 x13 x420000 x420001 x420002 x420003) else (impl_packed.j2 k x0 x3 x6 (wrap64 (2 * x420002)) x11 x12 x13 x420000 x420001 x420002 x420003)
def impl_packed.j2 : Nat → List (S31) → List Int → Int → Int → List (S31) → Int → Int → ByteArray → ByteArray → Int → Bool → Option (List Int)
 | 0, _, _, _, _, _, _, _, _, _, _, _ => none
 | k + 1, x0, x3, x6, x7, x11, x12, x13, x420000, x420001, x420002, x420003 => (impl_Number.f k x6).bind fun t422 => (if x3.length + t422.length < 140737488355328 then ((some (x3 ++ t422 : List Int)).bind fun y425 => (if 0 ≤ x6 then (if x6 ≤ (x420000.size : Int) then ((impl_Text.f k (x420000.extract (x6 : Int).toNat x420000.size)).bind fun t428 => (if y425.length + t428.length < 140737488355328 then ((some (y425 ++ t428 : List Int)).bind fun y431 => ((impl_Number.f k x7).bind fun t434 => (if y431.length + t434.length < 140737488355328 then ((some (y431 ++ t434 : List Int)).bind fun y437 => ((impl_Text.f k x420001).bind fun t440 => (if y437.length + t440.length < 140737488355328 then (impl_packed.l0 k x0 (y437 ++ t440) x11 x12 (wrap64 (x13 + 1))) else (none)))) else (none)))) else (none))) else (none)) else (none))) else (none))
end
def impl_packed.f (k : Nat) (l0 : List (S31)) : Option (List Int) := (impl_Number.f k (l0.length : Int)).bind fun t415 => (impl_packed.l0 k l0 t415 l0 (l0.length : Int) 0)
set_option maxHeartbeats 8000000 in
set_option maxRecDepth 100000 in
theorem impl_packed.calls (k : Nat) (A0 : Option Addr) (c0 : Nat) (l0 : List (S31)) (r : List Int) (w : World) (hr0 : Kd.C k31 w A0 l0.length l0) (hc0 : l0.length ≤ c0) (h : impl_packed.f k l0 = some r) :
  Calls Try.prog 115 #[.slice A0 l0.length c0] w fun e w' => ∃ v0_ : Value, e = .returned (v0_) ∧ Kd.R (Kd.int .u8) 5 w' w.heap.size (fun _ => True) v0_ r ∧ Below w.heap.size w w' := by
 have hu31 := Try.underlying31
 have HR0 := A_ hr0
 have HC0 := A_ hc0
 clear hr0 hc0
 have HB := A_ (Below.refl w.heap.size w)
 have H : ((impl_Number.f k (l0.length : Int)).bind fun t415 => (impl_packed.l0 k l0 t415 l0 (l0.length : Int) 0)) = some r := h
 clear h
 replace H := Option.bind_eq_some_iff.mp H
 obtain ⟨t415, A20, H⟩ := H
 (try dsimp only at H)
 have A2 := A_ A20
 clear A20
 have H' := A_ H
 clear H
 go_enter Try.func115, Try.ntmps115
 go_wp2_with (first | (go_at_call 137; (with_reducible refine (impl_Number.calls k (l0.length : Int) t415 _ A2.out).mono ?_); rintro e w3 ⟨v416, rfl, ho0, hb⟩; have n0_ := A_ (Kd.R_lower ho0 (below_size zg0)); have n1_ := A_ (below_step zg0 hb); clear HB; have HO417 := n0_; have HB := n1_; clear n0_ n1_))
 repeat (go_quiet (first | (go_at_call 137; (with_reducible refine (impl_Number.calls k (l0.length : Int) t415 _ A2.out).mono ?_); rintro e w3 ⟨v416, rfl, ho0, hb⟩; have n0_ := A_ (Kd.R_lower ho0 (below_size zg0)); have n1_ := A_ (below_step zg0 hb); clear HB; have HO417 := n0_; have HB := n1_; clear n0_ n1_)); try go_wp2_with (first | (go_at_call 137; (with_reducible refine (impl_Number.calls k (l0.length : Int) t415 _ A2.out).mono ?_); rintro e w3 ⟨v416, rfl, ho0, hb⟩; have n0_ := A_ (Kd.R_lower ho0 (below_size zg0)); have n1_ := A_ (below_step zg0 hb); clear HB; have HO417 := n0_; have HB := n1_; clear n0_ n1_)))
 go_loopg [3, 13] k (fun kq v3 v13 w' => ∃ (x3_1 : List Int) (x13_1 : Int), v13 = .int .i64 x13_1 ∧ Aside0 (impl_packed.l0 kq l0 x3_1 l0 (l0.length : Int) x13_1 = some r) ∧ Aside0 (kq ≤ k) ∧ Aside0 (Kd.R (Kd.int .u8) 5 w' w.heap.size (fun _ => True) v3 x3_1) ∧ Aside0 (Below w.heap.size w w'))
 case atStart => exact ⟨(t415), (0), (zs), H', ⟨Nat.le_refl _⟩, ⟨by (with_reducible repeat (first | apply Kd.R_alloc | apply Kd.R_drewN | apply Kd.R_drew)); exact HO417.out⟩, ⟨zg0⟩⟩
 case round =>
  clear H'
  try clear c1
  try clear p2
  obtain ⟨x3_1, x13_1, rfl, HA, HK1, HO_3, HB⟩ := hrel
  cases gk with
  | zero => exact absurd HA.out (by simp [impl_packed.l0])
  | succ k1 =>
   have H := HA.out
   clear HA
   simp only [impl_packed.l0] at H
   by_cases c4 : x13_1 < (l0.length : Int)
   {
   rw [if_pos c4] at H
   have c4b0 : decide (x13_1 < (l0.length : Int)) = true := decide_eq_true c4
   clear c4
   by_cases c5 : 0 ≤ x13_1
   {
   rw [if_pos c5] at H
   have c5b0 : decide (0 ≤ x13_1) = true := decide_eq_true c5
   clear c5
   by_cases c6 : x13_1 < (l0.length : Int)
   {
   rw [if_pos c6] at H
   have c6b0 : decide (x13_1 < (l0.length : Int)) = true := decide_eq_true c6
   clear c6
   have HC7 := A_ H
   clear H
   have p418 : 0 ≤ (x13_1 : Int) := of_decide_eq_true zg2
   have q418 : x13_1 < (l0.length : Int) := of_decide_eq_true zg2
   obtain ⟨ad418, e418, hx418_0, hx418_1, hx418_2, hx418_3⟩ := at_T31 HR0.out x13_1 p418 q418
   cases e418
   replace hx418_0 := bq HB.out hx418_0
   replace hx418_1 := bq HB.out hx418_1
   replace hx418_2 := bq HB.out hx418_2
   replace hx418_3 := bq HB.out hx418_3
   replace p418 := eq_true p418
   replace q418 := eq_true q418
   go_upto_if 20 with (first | ((with_reducible refine gate_dst (N := 5) rfl ?_); refine box_event ?hg (N := 5) ?hd (cs := #[.string (⟨#[]⟩ : ByteArray), .string (⟨#[]⟩ : ByteArray), .int .i64 0, .bool false]) (t := 31) ?hr ?_; (case hd => rfl); (case hg => rfl); (case hr => first | (go_simp; done) | (go_simp; rfl)); intro gb419 hg w8 hbox hb; have n0_ := A_ (Kd.R_below z115h hb); have n1_ := A_ (below_step zg0 hb); have n2_ := A_ (hbox); have n3_ := A_ ((by rw [hg]; exact (below_size zg0) : w.heap.size ≤ gb419)); have n4_ := A_ ((by rw [hg]; exact (below_size zg0) : w.heap.size ≤ gb419)); clear HO_3; clear HB; have HO_3 := n0_; have HB := n1_; have BK419 := n2_; have GW419 := n3_; have GE419 := n4_; clear n0_ n1_ n2_ n3_ n4_; clear hb hbox hg; obtain ⟨hcz9_0, hcz9_1, hcz9_2, hcz9_3, hfz9_0, hfz9_1, hfz9_2, hfz9_3⟩ := bz4 BK419.out))
   repeat (go_quiet (first | ((with_reducible refine gate_dst (N := 5) rfl ?_); refine box_event ?hg (N := 5) ?hd (cs := #[.string (⟨#[]⟩ : ByteArray), .string (⟨#[]⟩ : ByteArray), .int .i64 0, .bool false]) (t := 31) ?hr ?_; (case hd => rfl); (case hg => rfl); (case hr => first | (go_simp; done) | (go_simp; rfl)); intro gb419 hg w8 hbox hb; have n0_ := A_ (Kd.R_below z115h hb); have n1_ := A_ (below_step zg0 hb); have n2_ := A_ (hbox); have n3_ := A_ ((by rw [hg]; exact (below_size zg0) : w.heap.size ≤ gb419)); have n4_ := A_ ((by rw [hg]; exact (below_size zg0) : w.heap.size ≤ gb419)); clear HO_3; clear HB; have HO_3 := n0_; have HB := n1_; have BK419 := n2_; have GW419 := n3_; have GE419 := n4_; clear n0_ n1_ n2_ n3_ n4_; clear hb hbox hg; obtain ⟨hcz9_0, hcz9_1, hcz9_2, hcz9_3, hfz9_0, hfz9_1, hfz9_2, hfz9_3⟩ := bz4 BK419.out)); go_upto_if 20 with (first | ((with_reducible refine gate_dst (N := 5) rfl ?_); refine box_event ?hg (N := 5) ?hd (cs := #[.string (⟨#[]⟩ : ByteArray), .string (⟨#[]⟩ : ByteArray), .int .i64 0, .bool false]) (t := 31) ?hr ?_; (case hd => rfl); (case hg => rfl); (case hr => first | (go_simp; done) | (go_simp; rfl)); intro gb419 hg w8 hbox hb; have n0_ := A_ (Kd.R_below z115h hb); have n1_ := A_ (below_step zg0 hb); have n2_ := A_ (hbox); have n3_ := A_ ((by rw [hg]; exact (below_size zg0) : w.heap.size ≤ gb419)); have n4_ := A_ ((by rw [hg]; exact (below_size zg0) : w.heap.size ≤ gb419)); clear HO_3; clear HB; have HO_3 := n0_; have HB := n1_; have BK419 := n2_; have GW419 := n3_; have GE419 := n4_; clear n0_ n1_ n2_ n3_ n4_; clear hb hbox hg; obtain ⟨hcz9_0, hcz9_1, hcz9_2, hcz9_3, hfz9_0, hfz9_1, hfz9_2, hfz9_3⟩ := bz4 BK419.out)))
   (try simp only [Act.put, List.setIfInBounds_toArray, List.set_cons_zero, List.set_cons_succ])
   go_cut [6] (fun v6 wc => ∃ (kq : Nat) (x6_6 : Int), v6 = .int .i64 x6_6 ∧ Aside0 (impl_packed.j1 kq l0 x3_1 x6_6 l0 (l0.length : Int) x13_1 ((rd_T31 l0 x13_1).f0) ((rd_T31 l0 x13_1).f1) ((rd_T31 l0 x13_1).f2) ((rd_T31 l0 x13_1).f3) = some r) ∧ Aside0 (kq ≤ k1) ∧ Aside0 (Kd.R (Kd.int .u8) 5 wc w.heap.size (fun _ => True) u3 x3_1) ∧ Aside0 (wc.heap[gb419]? = some (.cells #[.string ((rd_T31 l0 x13_1).f0), .string ((rd_T31 l0 x13_1).f1), .int .i64 ((rd_T31 l0 x13_1).f2), .bool ((rd_T31 l0 x13_1).f3)] 31 (0, 0))) ∧ Aside0 (Below w.heap.size w wc))
   case first =>
    have H := HC7.out
    clear HC7
    by_cases c10 : (Int.tmod x13_1 8) > 0
    {
    rw [if_pos c10] at H
    have c10b0 : decide (0 < (Int.tmod x13_1 8)) = true := decide_eq_true c10
    clear c10
    (first | rw [c10b0] | (simp only [i64_w, i32_w]; rw [c10b0]) | skip)
    obtain ⟨ji11, hji11⟩ : ∃ j_ : Int, (wrap64 (x13_1 - 1)) = j_ := ⟨_, rfl⟩
    replace H : (if 0 ≤ (ji11) then (if (ji11) < (l0.length : Int) then ((impl_Common.f k1 ((rd_T31 l0 (ji11)).f0) ((rd_T31 l0 x13_1).f0)).bind fun t421 => (impl_packed.j1 k1 l0 x3_1 t421 l0 (l0.length : Int) x13_1 ((rd_T31 l0 x13_1).f0) ((rd_T31 l0 x13_1).f1) ((rd_T31 l0 x13_1).f2) ((rd_T31 l0 x13_1).f3))) else (none)) else (none)) = some r := by first | (rw [hji11] at H; exact H) | (simp only [hji11] at H ⊢; exact H)
    (try rw [hji11])
    have hji11w : (IntKind.i64.wrap (x13_1 - 1)) = ji11 := (i64_w _).trans hji11
    by_cases c12 : 0 ≤ (ji11)
    {
    rw [if_pos c12] at H
    have c12b0 : decide (0 ≤ (ji11)) = true := decide_eq_true c12
    clear c12
    by_cases c13 : (ji11) < (l0.length : Int)
    {
    rw [if_pos c13] at H
    have c13b0 : decide ((ji11) < (l0.length : Int)) = true := decide_eq_true c13
    clear c13
    replace H := Option.bind_eq_some_iff.mp H
    obtain ⟨t421, A140, H⟩ := H
    (try dsimp only at H)
    have A14 := A_ A140
    clear A140
    have H' := A_ H
    clear H
    have p420 : 0 ≤ ((ji11) : Int) := of_decide_eq_true zg2
    have q420 : (ji11) < (l0.length : Int) := of_decide_eq_true zg2
    obtain ⟨ad420, e420, hx420_0, hx420_1, hx420_2, hx420_3⟩ := at_T31 HR0.out (ji11) p420 q420
    obtain rfl : ad418 = ad420 := (by injection e420)
    have hn420_0 : ad418.block ≠ gb419 := Nat.ne_of_lt (Nat.lt_of_lt_of_le (by have := World.block_lt_of_cell? _ _ hx420_0; first | rwa [add_block] at this | exact this) GW419.out)
    have hn420_1 : ad418.block ≠ gb419 := Nat.ne_of_lt (Nat.lt_of_lt_of_le (by have := World.block_lt_of_cell? _ _ hx420_0; first | rwa [add_block] at this | exact this) GW419.out)
    have hn420_2 : ad418.block ≠ gb419 := Nat.ne_of_lt (Nat.lt_of_lt_of_le (by have := World.block_lt_of_cell? _ _ hx420_0; first | rwa [add_block] at this | exact this) GW419.out)
    have hn420_3 : ad418.block ≠ gb419 := Nat.ne_of_lt (Nat.lt_of_lt_of_le (by have := World.block_lt_of_cell? _ _ hx420_0; first | rwa [add_block] at this | exact this) GW419.out)
    replace hx420_0 := bq HB.out hx420_0
    replace hx420_1 := bq HB.out hx420_1
    replace hx420_2 := bq HB.out hx420_2
    replace hx420_3 := bq HB.out hx420_3
    replace hx420_0 := (cell_far (p := ⟨gb419, 0, none⟩) z115k (.string ((rd_T31 l0 x13_1).f0))).trans hx420_0
    replace hx420_1 := (cell_far (p := ⟨gb419, 0, none⟩) z115k (.string ((rd_T31 l0 x13_1).f0))).trans hx420_1
    replace hx420_2 := (cell_far (p := ⟨gb419, 0, none⟩) z115k (.string ((rd_T31 l0 x13_1).f0))).trans hx420_2
    replace hx420_3 := (cell_far (p := ⟨gb419, 0, none⟩) z115k (.string ((rd_T31 l0 x13_1).f0))).trans hx420_3
    replace hx420_0 := (cell_far (p := ⟨gb419, 1, none⟩) z115l (.string ((rd_T31 l0 x13_1).f1))).trans hx420_0
    replace hx420_1 := (cell_far (p := ⟨gb419, 1, none⟩) z115l (.string ((rd_T31 l0 x13_1).f1))).trans hx420_1
    replace hx420_2 := (cell_far (p := ⟨gb419, 1, none⟩) z115l (.string ((rd_T31 l0 x13_1).f1))).trans hx420_2
    replace hx420_3 := (cell_far (p := ⟨gb419, 1, none⟩) z115l (.string ((rd_T31 l0 x13_1).f1))).trans hx420_3
    replace hx420_0 := (cell_far (p := ⟨gb419, 2, none⟩) z115m (.int .i64 ((rd_T31 l0 x13_1).f2))).trans hx420_0
    replace hx420_1 := (cell_far (p := ⟨gb419, 2, none⟩) z115m (.int .i64 ((rd_T31 l0 x13_1).f2))).trans hx420_1
    replace hx420_2 := (cell_far (p := ⟨gb419, 2, none⟩) z115m (.int .i64 ((rd_T31 l0 x13_1).f2))).trans hx420_2
    replace hx420_3 := (cell_far (p := ⟨gb419, 2, none⟩) z115m (.int .i64 ((rd_T31 l0 x13_1).f2))).trans hx420_3
    replace hx420_0 := (cell_far (p := ⟨gb419, 3, none⟩) z115n (.bool ((rd_T31 l0 x13_1).f3))).trans hx420_0
    replace hx420_1 := (cell_far (p := ⟨gb419, 3, none⟩) z115n (.bool ((rd_T31 l0 x13_1).f3))).trans hx420_1
    replace hx420_2 := (cell_far (p := ⟨gb419, 3, none⟩) z115n (.bool ((rd_T31 l0 x13_1).f3))).trans hx420_2
    replace hx420_3 := (cell_far (p := ⟨gb419, 3, none⟩) z115n (.bool ((rd_T31 l0 x13_1).f3))).trans hx420_3
    (try have hy420_0 := fun (n_ : Nat) => (show ((((((w8.drewN n_).setCell ⟨gb419, 0, none⟩ (.string ((rd_T31 l0 x13_1).f0))).setCell ⟨gb419, 1, none⟩ (.string ((rd_T31 l0 x13_1).f1))).setCell ⟨gb419, 2, none⟩ (.int .i64 ((rd_T31 l0 x13_1).f2))).setCell ⟨gb419, 3, none⟩ (.bool ((rd_T31 l0 x13_1).f3)))).cell? _ = some _ from hx420_0))
    (try have hy420_1 := fun (n_ : Nat) => (show ((((((w8.drewN n_).setCell ⟨gb419, 0, none⟩ (.string ((rd_T31 l0 x13_1).f0))).setCell ⟨gb419, 1, none⟩ (.string ((rd_T31 l0 x13_1).f1))).setCell ⟨gb419, 2, none⟩ (.int .i64 ((rd_T31 l0 x13_1).f2))).setCell ⟨gb419, 3, none⟩ (.bool ((rd_T31 l0 x13_1).f3)))).cell? _ = some _ from hx420_1))
    (try have hy420_2 := fun (n_ : Nat) => (show ((((((w8.drewN n_).setCell ⟨gb419, 0, none⟩ (.string ((rd_T31 l0 x13_1).f0))).setCell ⟨gb419, 1, none⟩ (.string ((rd_T31 l0 x13_1).f1))).setCell ⟨gb419, 2, none⟩ (.int .i64 ((rd_T31 l0 x13_1).f2))).setCell ⟨gb419, 3, none⟩ (.bool ((rd_T31 l0 x13_1).f3)))).cell? _ = some _ from hx420_2))
    (try have hy420_3 := fun (n_ : Nat) => (show ((((((w8.drewN n_).setCell ⟨gb419, 0, none⟩ (.string ((rd_T31 l0 x13_1).f0))).setCell ⟨gb419, 1, none⟩ (.string ((rd_T31 l0 x13_1).f1))).setCell ⟨gb419, 2, none⟩ (.int .i64 ((rd_T31 l0 x13_1).f2))).setCell ⟨gb419, 3, none⟩ (.bool ((rd_T31 l0 x13_1).f3)))).cell? _ = some _ from hx420_3))
    clear hn420_0
    clear hn420_1
    clear hn420_2
    clear hn420_3
    replace p420 := eq_true p420
    replace q420 := eq_true q420
    obtain ⟨hcz15_0, hcz15_1, hcz15_2, hcz15_3, hfz15_0, hfz15_1, hfz15_2, hfz15_3⟩ := bz4 BK419.out
    go_wp2_with (first | (go_at_call 138; (with_reducible refine (impl_Common.calls k1 ((rd_T31 l0 (ji11)).f0) ((rd_T31 l0 x13_1).f0) t421 _ A14.out).mono ?_); rintro e w' ⟨rfl, ⟨nd, rfl⟩⟩; (try first | exact ⟨rfl, _, World.drewN_drewN _ _ _⟩ | exact ⟨rfl, _, Eq.trans (World.drewN_drewN _ _ _) (congrArg (World.drewN _) (Nat.add_assoc _ _ _))⟩)))
    repeat (go_quiet (first | (go_at_call 138; (with_reducible refine (impl_Common.calls k1 ((rd_T31 l0 (ji11)).f0) ((rd_T31 l0 x13_1).f0) t421 _ A14.out).mono ?_); rintro e w' ⟨rfl, ⟨nd, rfl⟩⟩; (try first | exact ⟨rfl, _, World.drewN_drewN _ _ _⟩ | exact ⟨rfl, _, Eq.trans (World.drewN_drewN _ _ _) (congrArg (World.drewN _) (Nat.add_assoc _ _ _))⟩))); try go_wp2_with (first | (go_at_call 138; (with_reducible refine (impl_Common.calls k1 ((rd_T31 l0 (ji11)).f0) ((rd_T31 l0 x13_1).f0) t421 _ A14.out).mono ?_); rintro e w' ⟨rfl, ⟨nd, rfl⟩⟩; (try first | exact ⟨rfl, _, World.drewN_drewN _ _ _⟩ | exact ⟨rfl, _, Eq.trans (World.drewN_drewN _ _ _) (congrArg (World.drewN _) (Nat.add_assoc _ _ _))⟩))))
    go_meet
    case rel => exact ⟨_, (t421), (zs), H', ⟨by have := HK1.out; first | omega | exact Nat.le_refl _⟩, ⟨by (with_reducible repeat (first | apply Kd.R_alloc | apply Kd.R_drewN | apply Kd.R_drew)); exact Kd.R_mono (Kd.R_far (p := ⟨gb419, 3, none⟩) (Kd.R_far (p := ⟨gb419, 2, none⟩) (Kd.R_far (p := ⟨gb419, 1, none⟩) (Kd.R_far (p := ⟨gb419, 0, none⟩) (Kd.R_types HO_3.out BK419.out (by decide)) (fun _ hk => hk.2) (.string ((rd_T31 l0 x13_1).f0))) (fun _ hk => hk.2) (.string ((rd_T31 l0 x13_1).f1))) (fun _ hk => hk.2) (.int .i64 ((rd_T31 l0 x13_1).f2))) (fun _ hk => hk.2) (.bool ((rd_T31 l0 x13_1).f3))) (fun _ hk => trivial)⟩, ⟨by (with_reducible repeat (first | refine blk_drewN ?_ _ | refine blk_drew ?_ | refine blk_alloc ?_ _)); refine blk_put (cs := #[.string ((rd_T31 l0 x13_1).f0), .string ((rd_T31 l0 x13_1).f1), .int .i64 ((rd_T31 l0 x13_1).f2), .bool false]) ?_ 3 _ rfl; (with_reducible repeat (first | refine blk_drewN ?_ _ | refine blk_drew ?_ | refine blk_alloc ?_ _)); refine blk_put (cs := #[.string ((rd_T31 l0 x13_1).f0), .string ((rd_T31 l0 x13_1).f1), .int .i64 0, .bool false]) ?_ 2 _ rfl; (with_reducible repeat (first | refine blk_drewN ?_ _ | refine blk_drew ?_ | refine blk_alloc ?_ _)); refine blk_put (cs := #[.string ((rd_T31 l0 x13_1).f0), .string (⟨#[]⟩ : ByteArray), .int .i64 0, .bool false]) ?_ 1 _ rfl; (with_reducible repeat (first | refine blk_drewN ?_ _ | refine blk_drew ?_ | refine blk_alloc ?_ _)); refine blk_put (cs := #[.string (⟨#[]⟩ : ByteArray), .string (⟨#[]⟩ : ByteArray), .int .i64 0, .bool false]) ?_ 0 _ rfl; (with_reducible repeat (first | refine blk_drewN ?_ _ | refine blk_drew ?_ | refine blk_alloc ?_ _)); exact BK419.out⟩, ⟨z115a⟩⟩
    }
    {
    rw [if_neg c13] at H
    exact absurd H (by simp)
    }
    }
    {
    rw [if_neg c12] at H
    exact absurd H (by simp)
    }
    }
    {
    rw [if_neg c10] at H
    have c10b0 : decide (0 < (Int.tmod x13_1 8)) = false := decide_eq_false c10
    clear c10
    (first | rw [c10b0] | (simp only [i64_w, i32_w]; rw [c10b0]) | skip)
    have H' := A_ H
    clear H
    go_wp2
    repeat (go_quiet (fail); try go_wp2)
    go_meet
    case rel => exact ⟨_, (0), (zs), H', ⟨by have := HK1.out; first | omega | exact Nat.le_refl _⟩, ⟨by (with_reducible repeat (first | apply Kd.R_alloc | apply Kd.R_drewN | apply Kd.R_drew)); exact Kd.R_mono (Kd.R_far (p := ⟨gb419, 3, none⟩) (Kd.R_far (p := ⟨gb419, 2, none⟩) (Kd.R_far (p := ⟨gb419, 1, none⟩) (Kd.R_far (p := ⟨gb419, 0, none⟩) (Kd.R_types HO_3.out BK419.out (by decide)) (fun _ hk => hk.2) (.string ((rd_T31 l0 x13_1).f0))) (fun _ hk => hk.2) (.string ((rd_T31 l0 x13_1).f1))) (fun _ hk => hk.2) (.int .i64 ((rd_T31 l0 x13_1).f2))) (fun _ hk => hk.2) (.bool ((rd_T31 l0 x13_1).f3))) (fun _ hk => trivial)⟩, ⟨by (with_reducible repeat (first | refine blk_drewN ?_ _ | refine blk_drew ?_ | refine blk_alloc ?_ _)); refine blk_put (cs := #[.string ((rd_T31 l0 x13_1).f0), .string ((rd_T31 l0 x13_1).f1), .int .i64 ((rd_T31 l0 x13_1).f2), .bool false]) ?_ 3 _ rfl; (with_reducible repeat (first | refine blk_drewN ?_ _ | refine blk_drew ?_ | refine blk_alloc ?_ _)); refine blk_put (cs := #[.string ((rd_T31 l0 x13_1).f0), .string ((rd_T31 l0 x13_1).f1), .int .i64 0, .bool false]) ?_ 2 _ rfl; (with_reducible repeat (first | refine blk_drewN ?_ _ | refine blk_drew ?_ | refine blk_alloc ?_ _)); refine blk_put (cs := #[.string ((rd_T31 l0 x13_1).f0), .string (⟨#[]⟩ : ByteArray), .int .i64 0, .bool false]) ?_ 1 _ rfl; (with_reducible repeat (first | refine blk_drewN ?_ _ | refine blk_drew ?_ | refine blk_alloc ?_ _)); refine blk_put (cs := #[.string (⟨#[]⟩ : ByteArray), .string (⟨#[]⟩ : ByteArray), .int .i64 0, .bool false]) ?_ 0 _ rfl; (with_reducible repeat (first | refine blk_drewN ?_ _ | refine blk_drew ?_ | refine blk_alloc ?_ _)); exact BK419.out⟩, ⟨z115a⟩⟩
    }
   case rest =>
    clear HC7
    try clear c1
    try clear p2
    try clear c4
    try clear c4b0
    try clear p4
    try clear q4
    try clear hx4
    try clear c5
    try clear c5b0
    try clear c6
    try clear c6b0
    try clear p6
    try clear c10
    try clear c10b0
    try clear c11
    try clear c12
    try clear c12b0
    try clear c13
    try clear c13b0
    try clear hcz15_0
    try clear hcz15_1
    try clear hcz15_2
    try clear hcz15_3
    try clear hcz9_0
    try clear hcz9_1
    try clear hcz9_2
    try clear hcz9_3
    try clear hfz15_0
    try clear hfz15_1
    try clear hfz15_2
    try clear hfz15_3
    try clear hfz9_0
    try clear hfz9_1
    try clear hfz9_2
    try clear hfz9_3
    try clear hx418_0
    try clear hx418_1
    try clear hx418_2
    try clear hx418_3
    try clear hx420_0
    try clear hx420_1
    try clear hx420_2
    try clear hx420_3
    try clear p2
    try clear p418
    try clear p420
    try clear q418
    try clear q420
    obtain ⟨kq, x6_6, rfl, HA, HJ6, HO_3, BK419, HB⟩ := hcut
    cases kq with
    | zero => exact absurd HA.out (by simp [impl_packed.j1])
    | succ kj6 =>
     have H := HA.out
     clear HA
     simp only [impl_packed.j1] at H
     have HC16 := A_ H
     clear H
     obtain ⟨hcz17_0, hcz17_1, hcz17_2, hcz17_3, hfz17_0, hfz17_1, hfz17_2, hfz17_3⟩ := bz4 BK419.out
     go_upto_if 34 with (fail)
     repeat (go_quiet (fail); go_upto_if 34 with (fail))
     go_cut [7] (fun v7 wc => ∃ (kq : Nat) (x7_15 : Int), v7 = .int .i64 x7_15 ∧ Aside0 (impl_packed.j2 kq l0 x3_1 x6_6 x7_15 l0 (l0.length : Int) x13_1 ((rd_T31 l0 x13_1).f0) ((rd_T31 l0 x13_1).f1) ((rd_T31 l0 x13_1).f2) ((rd_T31 l0 x13_1).f3) = some r) ∧ Aside0 (kq ≤ kj6) ∧ Aside0 (Kd.R (Kd.int .u8) 5 wc w.heap.size (fun _ => True) u3 x3_1) ∧ Aside0 (wc.heap[gb419]? = some (.cells #[.string ((rd_T31 l0 x13_1).f0), .string ((rd_T31 l0 x13_1).f1), .int .i64 ((rd_T31 l0 x13_1).f2), .bool ((rd_T31 l0 x13_1).f3)] 31 (0, 0))) ∧ Aside0 (Below w.heap.size w wc))
     case first =>
      have H := HC16.out
      clear HC16
      by_cases c18 : ((rd_T31 l0 x13_1).f3) = true
      {
      rw [if_pos c18] at H
      have c18b0 : ((rd_T31 l0 x13_1).f3) = true := c18
      clear c18
      (first | rw [c18b0] | (simp only [i64_w, i32_w]; rw [c18b0]) | skip)
      have H' := A_ H
      clear H
      go_wp2
      repeat (go_quiet (fail); try go_wp2)
      go_meet
      case rel => exact ⟨_, (wrap64 ((wrap64 (2 * ((rd_T31 l0 x13_1).f2))) + 1)), (zs), H', ⟨by have := HK1.out; have := HJ6.out; first | omega | exact Nat.le_refl _⟩, ⟨by (with_reducible repeat (first | apply Kd.R_alloc | apply Kd.R_drewN | apply Kd.R_drew)); exact HO_3.out⟩, ⟨by (with_reducible repeat (first | refine blk_drewN ?_ _ | refine blk_drew ?_ | refine blk_alloc ?_ _)); exact BK419.out⟩, ⟨z115a⟩⟩
      }
      {
      rw [if_neg c18] at H
      have c18b0 : ((rd_T31 l0 x13_1).f3) = false := by simpa using c18
      clear c18
      (first | rw [c18b0] | (simp only [i64_w, i32_w]; rw [c18b0]) | skip)
      have H' := A_ H
      clear H
      go_wp2
      repeat (go_quiet (fail); try go_wp2)
      go_meet
      case rel => exact ⟨_, (wrap64 (2 * ((rd_T31 l0 x13_1).f2))), (zs), H', ⟨by have := HK1.out; have := HJ6.out; first | omega | exact Nat.le_refl _⟩, ⟨by (with_reducible repeat (first | apply Kd.R_alloc | apply Kd.R_drewN | apply Kd.R_drew)); exact HO_3.out⟩, ⟨by (with_reducible repeat (first | refine blk_drewN ?_ _ | refine blk_drew ?_ | refine blk_alloc ?_ _)); exact BK419.out⟩, ⟨z115a⟩⟩
      }
     case rest =>
      clear HC16
      try clear c1
      try clear p2
      try clear c4
      try clear c4b0
      try clear p4
      try clear q4
      try clear hx4
      try clear c5
      try clear c5b0
      try clear c6
      try clear c6b0
      try clear p6
      try clear c10
      try clear c10b0
      try clear c11
      try clear c12
      try clear c12b0
      try clear c13
      try clear c13b0
      try clear c18
      try clear c18b0
      try clear hcz15_0
      try clear hcz15_1
      try clear hcz15_2
      try clear hcz15_3
      try clear hcz17_0
      try clear hcz17_1
      try clear hcz17_2
      try clear hcz17_3
      try clear hcz9_0
      try clear hcz9_1
      try clear hcz9_2
      try clear hcz9_3
      try clear hfz15_0
      try clear hfz15_1
      try clear hfz15_2
      try clear hfz15_3
      try clear hfz17_0
      try clear hfz17_1
      try clear hfz17_2
      try clear hfz17_3
      try clear hfz9_0
      try clear hfz9_1
      try clear hfz9_2
      try clear hfz9_3
      try clear hx418_0
      try clear hx418_1
      try clear hx418_2
      try clear hx418_3
      try clear hx420_0
      try clear hx420_1
      try clear hx420_2
      try clear hx420_3
      try clear p2
      try clear p4
      try clear p418
      try clear p420
      try clear p6
      try clear q4
      try clear q418
      try clear q420
      obtain ⟨kq, x7_15, rfl, HA, HJ15, HO_3, BK419, HB⟩ := hcut
      cases kq with
      | zero => exact absurd HA.out (by simp [impl_packed.j2])
      | succ kj15 =>
       have H := HA.out
       clear HA
       simp only [impl_packed.j2] at H
       replace H := Option.bind_eq_some_iff.mp H
       obtain ⟨t422, A190, H⟩ := H
       (try dsimp only at H)
       have A19 := A_ A190
       clear A190
       by_cases c20 : x3_1.length + t422.length < 140737488355328
       {
       rw [if_pos c20] at H
       have LMc20 := A_ c20
       clear c20
       obtain ⟨y425, hy425⟩ : ∃ y_ : List Int, y_ = (x3_1 ++ t422) := ⟨_, rfl⟩
       replace H : (if 0 ≤ x6_6 then (if x6_6 ≤ (((rd_T31 l0 x13_1).f0).size : Int) then ((impl_Text.f kj15 (((rd_T31 l0 x13_1).f0).extract (x6_6 : Int).toNat ((rd_T31 l0 x13_1).f0).size)).bind fun t428 => (if y425.length + t428.length < 140737488355328 then ((some (y425 ++ t428 : List Int)).bind fun y431 => ((impl_Number.f kj15 x7_15).bind fun t434 => (if y431.length + t434.length < 140737488355328 then ((some (y431 ++ t434 : List Int)).bind fun y437 => ((impl_Text.f kj15 ((rd_T31 l0 x13_1).f1)).bind fun t440 => (if y437.length + t440.length < 140737488355328 then (impl_packed.l0 kj15 l0 (y437 ++ t440) l0 (l0.length : Int) (wrap64 (x13_1 + 1))) else (none)))) else (none)))) else (none))) else (none)) else (none)) = some r := by first | (rw [hy425]; with_reducible exact H) | (have H2_ := (Option.bind_some _ _).symm.trans H; rw [hy425]; with_reducible exact H2_) | (have H2_ := (Option.bind_some _ _).symm.trans H; with_reducible exact H2_) | with_reducible exact H | (rw [hy425]; exact H) | exact H
       have Ny425 := A_ hy425
       clear hy425
       by_cases c21 : 0 ≤ x6_6
       {
       rw [if_pos c21] at H
       have c21b0 := eq_true c21
       have c21b1 : decide (0 ≤ x6_6) = true := decide_eq_true c21
       clear c21
       by_cases c22 : x6_6 ≤ (((rd_T31 l0 x13_1).f0).size : Int)
       {
       rw [if_pos c22] at H
       have c22b0 := eq_true c22
       have c22b1 : decide (x6_6 ≤ (((rd_T31 l0 x13_1).f0).size : Int)) = true := decide_eq_true c22
       clear c22
       replace H := Option.bind_eq_some_iff.mp H
       obtain ⟨t428, A230, H⟩ := H
       (try dsimp only at H)
       have A23 := A_ A230
       clear A230
       by_cases c24 : y425.length + t428.length < 140737488355328
       {
       rw [if_pos c24] at H
       have LMc24 := A_ c24
       clear c24
       obtain ⟨y431, hy431⟩ : ∃ y_ : List Int, y_ = (y425 ++ t428) := ⟨_, rfl⟩
       replace H : ((impl_Number.f kj15 x7_15).bind fun t434 => (if y431.length + t434.length < 140737488355328 then ((some (y431 ++ t434 : List Int)).bind fun y437 => ((impl_Text.f kj15 ((rd_T31 l0 x13_1).f1)).bind fun t440 => (if y437.length + t440.length < 140737488355328 then (impl_packed.l0 kj15 l0 (y437 ++ t440) l0 (l0.length : Int) (wrap64 (x13_1 + 1))) else (none)))) else (none))) = some r := by first | (rw [hy431]; with_reducible exact H) | (have H2_ := (Option.bind_some _ _).symm.trans H; rw [hy431]; with_reducible exact H2_) | (have H2_ := (Option.bind_some _ _).symm.trans H; with_reducible exact H2_) | with_reducible exact H | (rw [hy431]; exact H) | exact H
       have Ny431 := A_ hy431
       clear hy431
       replace H := Option.bind_eq_some_iff.mp H
       obtain ⟨t434, A250, H⟩ := H
       (try dsimp only at H)
       have A25 := A_ A250
       clear A250
       by_cases c26 : y431.length + t434.length < 140737488355328
       {
       rw [if_pos c26] at H
       have LMc26 := A_ c26
       clear c26
       obtain ⟨y437, hy437⟩ : ∃ y_ : List Int, y_ = (y431 ++ t434) := ⟨_, rfl⟩
       replace H : ((impl_Text.f kj15 ((rd_T31 l0 x13_1).f1)).bind fun t440 => (if y437.length + t440.length < 140737488355328 then (impl_packed.l0 kj15 l0 (y437 ++ t440) l0 (l0.length : Int) (wrap64 (x13_1 + 1))) else (none))) = some r := by first | (rw [hy437]; with_reducible exact H) | (have H2_ := (Option.bind_some _ _).symm.trans H; rw [hy437]; with_reducible exact H2_) | (have H2_ := (Option.bind_some _ _).symm.trans H; with_reducible exact H2_) | with_reducible exact H | (rw [hy437]; exact H) | exact H
       have Ny437 := A_ hy437
       clear hy437
       replace H := Option.bind_eq_some_iff.mp H
       obtain ⟨t440, A270, H⟩ := H
       (try dsimp only at H)
       have A27 := A_ A270
       clear A270
       by_cases c28 : y437.length + t440.length < 140737488355328
       {
       rw [if_pos c28] at H
       have LMc28 := A_ c28
       clear c28
       obtain ⟨y443, hy443⟩ : ∃ y_ : List Int, y_ = (y437 ++ t440) := ⟨_, rfl⟩
       replace H : (impl_packed.l0 kj15 l0 y443 l0 (l0.length : Int) (wrap64 (x13_1 + 1))) = some r := by first | (rw [hy443]; with_reducible exact H) | (have H2_ := (Option.bind_some _ _).symm.trans H; rw [hy443]; with_reducible exact H2_) | (have H2_ := (Option.bind_some _ _).symm.trans H; with_reducible exact H2_) | with_reducible exact H | (rw [hy443]; exact H) | exact H
       have Ny443 := A_ hy443
       clear hy443
       have H' := A_ H
       clear H
       go_wp2_with (first | (go_at_call 137; (with_reducible refine (impl_Number.calls kj15 x6_6 t422 _ A19.out).mono ?_); rintro e w29 ⟨v423, rfl, ho0, hb⟩; have n0_ := A_ (Kd.R_elder' z115h (Kd.R_base ho0) hb); have n1_ := A_ (Kd.R_lower (Kd.R_new' ho0 (Kd.R_lt z115h)) (below_size z115a)); have n2_ := A_ (blk_below (g := gb419) (o := .cells #[.string ((rd_T31 l0 x13_1).f0), .string ((rd_T31 l0 x13_1).f1), .int .i64 ((rd_T31 l0 x13_1).f2), .bool ((rd_T31 l0 x13_1).f3)] 31 (0, 0)) z115c hb); have n3_ := A_ (below_step z115a hb); clear HO_3; clear BK419; clear HB; have HO_3 := n0_; have HO424 := n1_; have BK419 := n2_; have HB := n3_; clear n0_ n1_ n2_ n3_; obtain ⟨Ao31, co31, eo31⟩ := Kd.R_slice HO424.out; subst eo31) | ((with_reducible refine gate_builtin (b := .append) (xs := #[.tmp 37, .tmp 39]) rfl ?_); at_builtin; refine Kd.R_append_rows (Kd.int .u8) (w0 := w) w.heap.size rfl (.tmp 37) (.tmp 39) 36 5 (.int .u8 0) 1 rfl Try.underlying36 info5 rfl (by decide) (by omega) u3 x3_1 t422 _ _ _ (fun k_ => some k_ ≠ (.slice Ao31 t422.length co31 : Value).ownBlock) (fun _ => False) rfl rfl ?aO ?aR (fun _ _ h => h) (fun _ h => h.elim) ?aF ?aB ?aS ?aL ?_; (case aR => exact (by repeat (first | exact (Kd.R_reads' HO424.out).2.2 | (with_reducible refine Kd.C_alloc ?_ _) | (with_reducible refine Kd.C_drewN ?_ _) | (with_reducible refine Kd.C_drew ?_)))); (case aB => exact z115a); (case aF => exact (fun k_ hk => Kd.fresh' (Kd.R_lt z115b) k_ hk)); (case aO => exact (by (with_reducible repeat (first | apply Kd.R_alloc | apply Kd.R_drewN | apply Kd.R_drew)); exact Kd.R_mono HO_3.out (fun _ hk => hk.2))); (case aS => exact (below_size z115a)); (case aL => have := LMc20.out; omega); intro v426 w30 ho hb hg hat; rw [← Ny425.out] at ho; have n0_ := A_ (blk_grown (g := gb419) (o := .cells #[.string ((rd_T31 l0 x13_1).f0), .string ((rd_T31 l0 x13_1).f1), .int .i64 ((rd_T31 l0 x13_1).f2), .bool ((rd_T31 l0 x13_1).f3)] 31 (0, 0)) z115c hg (Kd.R_ne HO_3.out BK419.out (by decide))); have n1_ := A_ (Kd.R_after (ok := (fun _ => True)) z115b hg hat); have n2_ := A_ (hb); have n3_ := A_ (ho); clear BK419; clear HO424; clear HB; clear HO_3; have BK419 := n0_; have HO424 := n1_; have HB := n2_; have HO427 := n3_; clear n0_ n1_ n2_ n3_; clear ho hb hg hat; obtain ⟨hcz32_0, hcz32_1, hcz32_2, hcz32_3, hfz32_0, hfz32_1, hfz32_2, hfz32_3⟩ := bz4 BK419.out) | (go_at_call 139; (with_reducible refine (impl_Text.calls kj15 (((rd_T31 l0 x13_1).f0).extract (x6_6 : Int).toNat ((rd_T31 l0 x13_1).f0).size) t428 _ A23.out).mono ?_); rintro e w33 ⟨v429, rfl, ho0, hb⟩; have n0_ := A_ (Kd.R_elder' z115b (Kd.R_base ho0) hb); have n1_ := A_ (Kd.R_elder' z115g (Kd.R_base ho0) hb); have n2_ := A_ (Kd.R_lower (Kd.R_new' (Kd.R_new' ho0 (Kd.R_lt z115b)) (Kd.R_lt z115g)) (below_size z115a)); have n3_ := A_ (blk_below (g := gb419) (o := .cells #[.string ((rd_T31 l0 x13_1).f0), .string ((rd_T31 l0 x13_1).f1), .int .i64 ((rd_T31 l0 x13_1).f2), .bool ((rd_T31 l0 x13_1).f3)] 31 (0, 0)) z115c hb); have n4_ := A_ (below_step z115a hb); clear HO424; clear HO427; clear BK419; clear HB; have HO424 := n0_; have HO427 := n1_; have HO430 := n2_; have BK419 := n3_; have HB := n4_; clear n0_ n1_ n2_ n3_ n4_; obtain ⟨Ao35, co35, eo35⟩ := Kd.R_slice HO430.out; subst eo35) | ((with_reducible refine gate_builtin (b := .append) (xs := #[.tmp 41, .tmp 46]) rfl ?_); at_builtin; refine Kd.R_append_rows (Kd.int .u8) (w0 := w) w.heap.size rfl (.tmp 41) (.tmp 46) 36 5 (.int .u8 0) 1 rfl Try.underlying36 info5 rfl (by decide) (by omega) v426 y425 t428 _ _ _ (fun k_ => some k_ ≠ (.slice Ao31 t422.length co31 : Value).ownBlock ∧ some k_ ≠ (.slice Ao35 t428.length co35 : Value).ownBlock) (fun _ => False) rfl rfl ?aO ?aR (fun _ _ h => h) (fun _ h => h.elim) ?aF ?aB ?aS ?aL ?_; (case aR => exact (by repeat (first | exact (Kd.R_reads' HO430.out).2.2 | (with_reducible refine Kd.C_alloc ?_ _) | (with_reducible refine Kd.C_drewN ?_ _) | (with_reducible refine Kd.C_drew ?_)))); (case aB => exact z115a); (case aF => exact (fun k_ hk => ⟨Kd.fresh' (Kd.R_lt z115b) k_ hk, Kd.fresh' (Kd.R_lt z115d) k_ hk⟩)); (case aO => exact z115g); (case aS => exact (below_size z115a)); (case aL => have := LMc24.out; omega); intro v432 w34 ho hb hg hat; rw [← Ny431.out] at ho; have n0_ := A_ (blk_grown (g := gb419) (o := .cells #[.string ((rd_T31 l0 x13_1).f0), .string ((rd_T31 l0 x13_1).f1), .int .i64 ((rd_T31 l0 x13_1).f2), .bool ((rd_T31 l0 x13_1).f3)] 31 (0, 0)) z115c hg (Kd.R_ne HO427.out BK419.out (by decide))); have n1_ := A_ (Kd.R_after (ok := (fun k_ => some k_ ≠ (.slice Ao35 t428.length co35 : Value).ownBlock)) (by (with_reducible repeat (first | apply Kd.R_alloc | apply Kd.R_drewN | apply Kd.R_drew)); exact Kd.R_mono HO424.out (fun _ hk => ⟨hk.2, hk.1.2⟩)) hg hat); have n2_ := A_ (Kd.R_after (ok := (fun k_ => some k_ ≠ (.slice Ao31 t422.length co31 : Value).ownBlock)) (by (with_reducible repeat (first | apply Kd.R_alloc | apply Kd.R_drewN | apply Kd.R_drew)); exact Kd.R_mono HO430.out (fun _ hk => ⟨hk.1.2, hk.2⟩)) hg hat); have n3_ := A_ (hb); have n4_ := A_ (ho); clear BK419; clear HO424; clear HO430; clear HB; clear HO427; have BK419 := n0_; have HO424 := n1_; have HO430 := n2_; have HB := n3_; have HO433 := n4_; clear n0_ n1_ n2_ n3_ n4_; clear ho hb hg hat) | (go_at_call 137; (with_reducible refine (impl_Number.calls kj15 x7_15 t434 _ A25.out).mono ?_); rintro e w36 ⟨v435, rfl, ho0, hb⟩; have n0_ := A_ (Kd.R_elder' z115b (Kd.R_base ho0) hb); have n1_ := A_ (Kd.R_elder' z115d (Kd.R_base ho0) hb); have n2_ := A_ (Kd.R_elder' z115i (Kd.R_base ho0) hb); have n3_ := A_ (Kd.R_lower (Kd.R_new' (Kd.R_new' (Kd.R_new' ho0 (Kd.R_lt z115b)) (Kd.R_lt z115d)) (Kd.R_lt z115i)) (below_size z115a)); have n4_ := A_ (blk_below (g := gb419) (o := .cells #[.string ((rd_T31 l0 x13_1).f0), .string ((rd_T31 l0 x13_1).f1), .int .i64 ((rd_T31 l0 x13_1).f2), .bool ((rd_T31 l0 x13_1).f3)] 31 (0, 0)) z115c hb); have n5_ := A_ (below_step z115a hb); clear HO424; clear HO430; clear HO433; clear BK419; clear HB; have HO424 := n0_; have HO430 := n1_; have HO433 := n2_; have HO436 := n3_; have BK419 := n4_; have HB := n5_; clear n0_ n1_ n2_ n3_ n4_ n5_; obtain ⟨Ao38, co38, eo38⟩ := Kd.R_slice HO436.out; subst eo38) | ((with_reducible refine gate_builtin (b := .append) (xs := #[.tmp 48, .tmp 50]) rfl ?_); at_builtin; refine Kd.R_append_rows (Kd.int .u8) (w0 := w) w.heap.size rfl (.tmp 48) (.tmp 50) 36 5 (.int .u8 0) 1 rfl Try.underlying36 info5 rfl (by decide) (by omega) v432 y431 t434 _ _ _ (fun k_ => some k_ ≠ (.slice Ao31 t422.length co31 : Value).ownBlock ∧ some k_ ≠ (.slice Ao35 t428.length co35 : Value).ownBlock ∧ some k_ ≠ (.slice Ao38 t434.length co38 : Value).ownBlock) (fun _ => False) rfl rfl ?aO ?aR (fun _ _ h => h) (fun _ h => h.elim) ?aF ?aB ?aS ?aL ?_; (case aR => exact (by repeat (first | exact (Kd.R_reads' HO436.out).2.2 | (with_reducible refine Kd.C_alloc ?_ _) | (with_reducible refine Kd.C_drewN ?_ _) | (with_reducible refine Kd.C_drew ?_)))); (case aB => exact z115a); (case aF => exact (fun k_ hk => ⟨Kd.fresh' (Kd.R_lt z115b) k_ hk, Kd.fresh' (Kd.R_lt z115d) k_ hk, Kd.fresh' (Kd.R_lt z115f) k_ hk⟩)); (case aO => exact (by (with_reducible repeat (first | apply Kd.R_alloc | apply Kd.R_drewN | apply Kd.R_drew)); exact Kd.R_mono HO433.out (fun _ hk => ⟨hk.1.1, ⟨hk.1.2, hk.2⟩⟩))); (case aS => exact (below_size z115a)); (case aL => have := LMc26.out; omega); intro v438 w37 ho hb hg hat; rw [← Ny437.out] at ho; have n0_ := A_ (blk_grown (g := gb419) (o := .cells #[.string ((rd_T31 l0 x13_1).f0), .string ((rd_T31 l0 x13_1).f1), .int .i64 ((rd_T31 l0 x13_1).f2), .bool ((rd_T31 l0 x13_1).f3)] 31 (0, 0)) z115c hg (Kd.R_ne HO433.out BK419.out (by decide))); have n1_ := A_ (Kd.R_after (ok := (fun k_ => some k_ ≠ (.slice Ao35 t428.length co35 : Value).ownBlock ∧ some k_ ≠ (.slice Ao38 t434.length co38 : Value).ownBlock)) (by (with_reducible repeat (first | apply Kd.R_alloc | apply Kd.R_drewN | apply Kd.R_drew)); exact Kd.R_mono HO424.out (fun _ hk => ⟨⟨hk.1.1, hk.2⟩, hk.1.2⟩)) hg hat); have n2_ := A_ (Kd.R_after (ok := (fun k_ => some k_ ≠ (.slice Ao31 t422.length co31 : Value).ownBlock ∧ some k_ ≠ (.slice Ao38 t434.length co38 : Value).ownBlock)) (by (with_reducible repeat (first | apply Kd.R_alloc | apply Kd.R_drewN | apply Kd.R_drew)); exact Kd.R_mono HO430.out (fun _ hk => ⟨⟨hk.1.1, hk.2⟩, hk.1.2⟩)) hg hat); have n3_ := A_ (Kd.R_after (ok := (fun k_ => some k_ ≠ (.slice Ao31 t422.length co31 : Value).ownBlock ∧ some k_ ≠ (.slice Ao35 t428.length co35 : Value).ownBlock)) (by (with_reducible repeat (first | apply Kd.R_alloc | apply Kd.R_drewN | apply Kd.R_drew)); exact Kd.R_mono HO436.out (fun _ hk => ⟨⟨hk.1.1.2, hk.1.2⟩, hk.2⟩)) hg hat); have n4_ := A_ (hb); have n5_ := A_ (ho); clear BK419; clear HO424; clear HO430; clear HO436; clear HB; clear HO433; have BK419 := n0_; have HO424 := n1_; have HO430 := n2_; have HO436 := n3_; have HB := n4_; have HO439 := n5_; clear n0_ n1_ n2_ n3_ n4_ n5_; clear ho hb hg hat; obtain ⟨hcz39_0, hcz39_1, hcz39_2, hcz39_3, hfz39_0, hfz39_1, hfz39_2, hfz39_3⟩ := bz4 BK419.out) | (go_at_call 139; (with_reducible refine (impl_Text.calls kj15 ((rd_T31 l0 x13_1).f1) t440 _ A27.out).mono ?_); rintro e w40 ⟨v441, rfl, ho0, hb⟩; have n0_ := A_ (Kd.R_elder' z115b (Kd.R_base ho0) hb); have n1_ := A_ (Kd.R_elder' z115d (Kd.R_base ho0) hb); have n2_ := A_ (Kd.R_elder' z115f (Kd.R_base ho0) hb); have n3_ := A_ (Kd.R_elder' z115j (Kd.R_base ho0) hb); have n4_ := A_ (Kd.R_lower (Kd.R_new' (Kd.R_new' (Kd.R_new' (Kd.R_new' ho0 (Kd.R_lt z115b)) (Kd.R_lt z115d)) (Kd.R_lt z115f)) (Kd.R_lt z115j)) (below_size z115a)); have n5_ := A_ (blk_below (g := gb419) (o := .cells #[.string ((rd_T31 l0 x13_1).f0), .string ((rd_T31 l0 x13_1).f1), .int .i64 ((rd_T31 l0 x13_1).f2), .bool ((rd_T31 l0 x13_1).f3)] 31 (0, 0)) z115c hb); have n6_ := A_ (below_step z115a hb); clear HO424; clear HO430; clear HO436; clear HO439; clear BK419; clear HB; have HO424 := n0_; have HO430 := n1_; have HO436 := n2_; have HO439 := n3_; have HO442 := n4_; have BK419 := n5_; have HB := n6_; clear n0_ n1_ n2_ n3_ n4_ n5_ n6_; obtain ⟨Ao42, co42, eo42⟩ := Kd.R_slice HO442.out; subst eo42) | ((with_reducible refine gate_builtin (b := .append) (xs := #[.tmp 52, .tmp 55]) rfl ?_); at_builtin; refine Kd.R_append_rows (Kd.int .u8) (w0 := w) w.heap.size rfl (.tmp 52) (.tmp 55) 36 5 (.int .u8 0) 1 rfl Try.underlying36 info5 rfl (by decide) (by omega) v438 y437 t440 _ _ _ (fun k_ => some k_ ≠ (.slice Ao31 t422.length co31 : Value).ownBlock ∧ some k_ ≠ (.slice Ao35 t428.length co35 : Value).ownBlock ∧ some k_ ≠ (.slice Ao38 t434.length co38 : Value).ownBlock ∧ some k_ ≠ (.slice Ao42 t440.length co42 : Value).ownBlock) (fun _ => False) rfl rfl ?aO ?aR (fun _ _ h => h) (fun _ h => h.elim) ?aF ?aB ?aS ?aL ?_; (case aR => exact (by repeat (first | exact (Kd.R_reads' HO442.out).2.2 | (with_reducible refine Kd.C_alloc ?_ _) | (with_reducible refine Kd.C_drewN ?_ _) | (with_reducible refine Kd.C_drew ?_)))); (case aB => exact z115a); (case aF => exact (fun k_ hk => ⟨Kd.fresh' (Kd.R_lt z115b) k_ hk, Kd.fresh' (Kd.R_lt z115d) k_ hk, Kd.fresh' (Kd.R_lt z115f) k_ hk, Kd.fresh' (Kd.R_lt (by (with_reducible repeat (first | apply Kd.R_alloc | apply Kd.R_drewN | apply Kd.R_drew)); exact HO442.out)) k_ hk⟩)); (case aO => exact (by (with_reducible repeat (first | apply Kd.R_alloc | apply Kd.R_drewN | apply Kd.R_drew)); exact Kd.R_mono HO439.out (fun _ hk => ⟨hk.1.1, ⟨hk.1.2.1, ⟨hk.1.2.2, hk.2⟩⟩⟩))); (case aS => exact (below_size z115a)); (case aL => have := LMc28.out; omega); intro v444 w41 ho hb hg hat; rw [← Ny443.out] at ho; have n0_ := A_ (blk_grown (g := gb419) (o := .cells #[.string ((rd_T31 l0 x13_1).f0), .string ((rd_T31 l0 x13_1).f1), .int .i64 ((rd_T31 l0 x13_1).f2), .bool ((rd_T31 l0 x13_1).f3)] 31 (0, 0)) z115c hg (Kd.R_ne HO439.out BK419.out (by decide))); have n1_ := A_ (Kd.R_after (ok := (fun k_ => some k_ ≠ (.slice Ao35 t428.length co35 : Value).ownBlock ∧ some k_ ≠ (.slice Ao38 t434.length co38 : Value).ownBlock ∧ some k_ ≠ (.slice Ao42 t440.length co42 : Value).ownBlock)) (by (with_reducible repeat (first | apply Kd.R_alloc | apply Kd.R_drewN | apply Kd.R_drew)); exact Kd.R_mono HO424.out (fun _ hk => ⟨⟨hk.1.1.1, ⟨hk.1.1.2, hk.2⟩⟩, hk.1.2⟩)) hg hat); have n2_ := A_ (Kd.R_after (ok := (fun k_ => some k_ ≠ (.slice Ao31 t422.length co31 : Value).ownBlock ∧ some k_ ≠ (.slice Ao38 t434.length co38 : Value).ownBlock ∧ some k_ ≠ (.slice Ao42 t440.length co42 : Value).ownBlock)) (by (with_reducible repeat (first | apply Kd.R_alloc | apply Kd.R_drewN | apply Kd.R_drew)); exact Kd.R_mono HO430.out (fun _ hk => ⟨⟨hk.1.1.1, ⟨hk.1.1.2, hk.2⟩⟩, hk.1.2⟩)) hg hat); have n3_ := A_ (Kd.R_after (ok := (fun k_ => some k_ ≠ (.slice Ao31 t422.length co31 : Value).ownBlock ∧ some k_ ≠ (.slice Ao35 t428.length co35 : Value).ownBlock ∧ some k_ ≠ (.slice Ao42 t440.length co42 : Value).ownBlock)) (by (with_reducible repeat (first | apply Kd.R_alloc | apply Kd.R_drewN | apply Kd.R_drew)); exact Kd.R_mono HO436.out (fun _ hk => ⟨⟨hk.1.1.1, ⟨hk.1.1.2, hk.2⟩⟩, hk.1.2⟩)) hg hat); have n4_ := A_ (Kd.R_after (ok := (fun k_ => some k_ ≠ (.slice Ao31 t422.length co31 : Value).ownBlock ∧ some k_ ≠ (.slice Ao35 t428.length co35 : Value).ownBlock ∧ some k_ ≠ (.slice Ao38 t434.length co38 : Value).ownBlock)) (by (with_reducible repeat (first | apply Kd.R_alloc | apply Kd.R_drewN | apply Kd.R_drew)); exact Kd.R_mono HO442.out (fun _ hk => ⟨⟨hk.1.1.1.2, ⟨hk.1.1.2, hk.1.2⟩⟩, hk.2⟩)) hg hat); have n5_ := A_ (hb); have n6_ := A_ (ho); clear BK419; clear HO424; clear HO430; clear HO436; clear HO442; clear HB; clear HO439; have BK419 := n0_; have HO424 := n1_; have HO430 := n2_; have HO436 := n3_; have HO442 := n4_; have HB := n5_; have HO445 := n6_; clear n0_ n1_ n2_ n3_ n4_ n5_ n6_; clear ho hb hg hat))
       repeat (go_quiet (first | (go_at_call 137; (with_reducible refine (impl_Number.calls kj15 x6_6 t422 _ A19.out).mono ?_); rintro e w29 ⟨v423, rfl, ho0, hb⟩; have n0_ := A_ (Kd.R_elder' z115h (Kd.R_base ho0) hb); have n1_ := A_ (Kd.R_lower (Kd.R_new' ho0 (Kd.R_lt z115h)) (below_size z115a)); have n2_ := A_ (blk_below (g := gb419) (o := .cells #[.string ((rd_T31 l0 x13_1).f0), .string ((rd_T31 l0 x13_1).f1), .int .i64 ((rd_T31 l0 x13_1).f2), .bool ((rd_T31 l0 x13_1).f3)] 31 (0, 0)) z115c hb); have n3_ := A_ (below_step z115a hb); clear HO_3; clear BK419; clear HB; have HO_3 := n0_; have HO424 := n1_; have BK419 := n2_; have HB := n3_; clear n0_ n1_ n2_ n3_; obtain ⟨Ao31, co31, eo31⟩ := Kd.R_slice HO424.out; subst eo31) | ((with_reducible refine gate_builtin (b := .append) (xs := #[.tmp 37, .tmp 39]) rfl ?_); at_builtin; refine Kd.R_append_rows (Kd.int .u8) (w0 := w) w.heap.size rfl (.tmp 37) (.tmp 39) 36 5 (.int .u8 0) 1 rfl Try.underlying36 info5 rfl (by decide) (by omega) u3 x3_1 t422 _ _ _ (fun k_ => some k_ ≠ (.slice Ao31 t422.length co31 : Value).ownBlock) (fun _ => False) rfl rfl ?aO ?aR (fun _ _ h => h) (fun _ h => h.elim) ?aF ?aB ?aS ?aL ?_; (case aR => exact (by repeat (first | exact (Kd.R_reads' HO424.out).2.2 | (with_reducible refine Kd.C_alloc ?_ _) | (with_reducible refine Kd.C_drewN ?_ _) | (with_reducible refine Kd.C_drew ?_)))); (case aB => exact z115a); (case aF => exact (fun k_ hk => Kd.fresh' (Kd.R_lt z115b) k_ hk)); (case aO => exact (by (with_reducible repeat (first | apply Kd.R_alloc | apply Kd.R_drewN | apply Kd.R_drew)); exact Kd.R_mono HO_3.out (fun _ hk => hk.2))); (case aS => exact (below_size z115a)); (case aL => have := LMc20.out; omega); intro v426 w30 ho hb hg hat; rw [← Ny425.out] at ho; have n0_ := A_ (blk_grown (g := gb419) (o := .cells #[.string ((rd_T31 l0 x13_1).f0), .string ((rd_T31 l0 x13_1).f1), .int .i64 ((rd_T31 l0 x13_1).f2), .bool ((rd_T31 l0 x13_1).f3)] 31 (0, 0)) z115c hg (Kd.R_ne HO_3.out BK419.out (by decide))); have n1_ := A_ (Kd.R_after (ok := (fun _ => True)) z115b hg hat); have n2_ := A_ (hb); have n3_ := A_ (ho); clear BK419; clear HO424; clear HB; clear HO_3; have BK419 := n0_; have HO424 := n1_; have HB := n2_; have HO427 := n3_; clear n0_ n1_ n2_ n3_; clear ho hb hg hat; obtain ⟨hcz32_0, hcz32_1, hcz32_2, hcz32_3, hfz32_0, hfz32_1, hfz32_2, hfz32_3⟩ := bz4 BK419.out) | (go_at_call 139; (with_reducible refine (impl_Text.calls kj15 (((rd_T31 l0 x13_1).f0).extract (x6_6 : Int).toNat ((rd_T31 l0 x13_1).f0).size) t428 _ A23.out).mono ?_); rintro e w33 ⟨v429, rfl, ho0, hb⟩; have n0_ := A_ (Kd.R_elder' z115b (Kd.R_base ho0) hb); have n1_ := A_ (Kd.R_elder' z115g (Kd.R_base ho0) hb); have n2_ := A_ (Kd.R_lower (Kd.R_new' (Kd.R_new' ho0 (Kd.R_lt z115b)) (Kd.R_lt z115g)) (below_size z115a)); have n3_ := A_ (blk_below (g := gb419) (o := .cells #[.string ((rd_T31 l0 x13_1).f0), .string ((rd_T31 l0 x13_1).f1), .int .i64 ((rd_T31 l0 x13_1).f2), .bool ((rd_T31 l0 x13_1).f3)] 31 (0, 0)) z115c hb); have n4_ := A_ (below_step z115a hb); clear HO424; clear HO427; clear BK419; clear HB; have HO424 := n0_; have HO427 := n1_; have HO430 := n2_; have BK419 := n3_; have HB := n4_; clear n0_ n1_ n2_ n3_ n4_; obtain ⟨Ao35, co35, eo35⟩ := Kd.R_slice HO430.out; subst eo35) | ((with_reducible refine gate_builtin (b := .append) (xs := #[.tmp 41, .tmp 46]) rfl ?_); at_builtin; refine Kd.R_append_rows (Kd.int .u8) (w0 := w) w.heap.size rfl (.tmp 41) (.tmp 46) 36 5 (.int .u8 0) 1 rfl Try.underlying36 info5 rfl (by decide) (by omega) v426 y425 t428 _ _ _ (fun k_ => some k_ ≠ (.slice Ao31 t422.length co31 : Value).ownBlock ∧ some k_ ≠ (.slice Ao35 t428.length co35 : Value).ownBlock) (fun _ => False) rfl rfl ?aO ?aR (fun _ _ h => h) (fun _ h => h.elim) ?aF ?aB ?aS ?aL ?_; (case aR => exact (by repeat (first | exact (Kd.R_reads' HO430.out).2.2 | (with_reducible refine Kd.C_alloc ?_ _) | (with_reducible refine Kd.C_drewN ?_ _) | (with_reducible refine Kd.C_drew ?_)))); (case aB => exact z115a); (case aF => exact (fun k_ hk => ⟨Kd.fresh' (Kd.R_lt z115b) k_ hk, Kd.fresh' (Kd.R_lt z115d) k_ hk⟩)); (case aO => exact z115g); (case aS => exact (below_size z115a)); (case aL => have := LMc24.out; omega); intro v432 w34 ho hb hg hat; rw [← Ny431.out] at ho; have n0_ := A_ (blk_grown (g := gb419) (o := .cells #[.string ((rd_T31 l0 x13_1).f0), .string ((rd_T31 l0 x13_1).f1), .int .i64 ((rd_T31 l0 x13_1).f2), .bool ((rd_T31 l0 x13_1).f3)] 31 (0, 0)) z115c hg (Kd.R_ne HO427.out BK419.out (by decide))); have n1_ := A_ (Kd.R_after (ok := (fun k_ => some k_ ≠ (.slice Ao35 t428.length co35 : Value).ownBlock)) (by (with_reducible repeat (first | apply Kd.R_alloc | apply Kd.R_drewN | apply Kd.R_drew)); exact Kd.R_mono HO424.out (fun _ hk => ⟨hk.2, hk.1.2⟩)) hg hat); have n2_ := A_ (Kd.R_after (ok := (fun k_ => some k_ ≠ (.slice Ao31 t422.length co31 : Value).ownBlock)) (by (with_reducible repeat (first | apply Kd.R_alloc | apply Kd.R_drewN | apply Kd.R_drew)); exact Kd.R_mono HO430.out (fun _ hk => ⟨hk.1.2, hk.2⟩)) hg hat); have n3_ := A_ (hb); have n4_ := A_ (ho); clear BK419; clear HO424; clear HO430; clear HB; clear HO427; have BK419 := n0_; have HO424 := n1_; have HO430 := n2_; have HB := n3_; have HO433 := n4_; clear n0_ n1_ n2_ n3_ n4_; clear ho hb hg hat) | (go_at_call 137; (with_reducible refine (impl_Number.calls kj15 x7_15 t434 _ A25.out).mono ?_); rintro e w36 ⟨v435, rfl, ho0, hb⟩; have n0_ := A_ (Kd.R_elder' z115b (Kd.R_base ho0) hb); have n1_ := A_ (Kd.R_elder' z115d (Kd.R_base ho0) hb); have n2_ := A_ (Kd.R_elder' z115i (Kd.R_base ho0) hb); have n3_ := A_ (Kd.R_lower (Kd.R_new' (Kd.R_new' (Kd.R_new' ho0 (Kd.R_lt z115b)) (Kd.R_lt z115d)) (Kd.R_lt z115i)) (below_size z115a)); have n4_ := A_ (blk_below (g := gb419) (o := .cells #[.string ((rd_T31 l0 x13_1).f0), .string ((rd_T31 l0 x13_1).f1), .int .i64 ((rd_T31 l0 x13_1).f2), .bool ((rd_T31 l0 x13_1).f3)] 31 (0, 0)) z115c hb); have n5_ := A_ (below_step z115a hb); clear HO424; clear HO430; clear HO433; clear BK419; clear HB; have HO424 := n0_; have HO430 := n1_; have HO433 := n2_; have HO436 := n3_; have BK419 := n4_; have HB := n5_; clear n0_ n1_ n2_ n3_ n4_ n5_; obtain ⟨Ao38, co38, eo38⟩ := Kd.R_slice HO436.out; subst eo38) | ((with_reducible refine gate_builtin (b := .append) (xs := #[.tmp 48, .tmp 50]) rfl ?_); at_builtin; refine Kd.R_append_rows (Kd.int .u8) (w0 := w) w.heap.size rfl (.tmp 48) (.tmp 50) 36 5 (.int .u8 0) 1 rfl Try.underlying36 info5 rfl (by decide) (by omega) v432 y431 t434 _ _ _ (fun k_ => some k_ ≠ (.slice Ao31 t422.length co31 : Value).ownBlock ∧ some k_ ≠ (.slice Ao35 t428.length co35 : Value).ownBlock ∧ some k_ ≠ (.slice Ao38 t434.length co38 : Value).ownBlock) (fun _ => False) rfl rfl ?aO ?aR (fun _ _ h => h) (fun _ h => h.elim) ?aF ?aB ?aS ?aL ?_; (case aR => exact (by repeat (first | exact (Kd.R_reads' HO436.out).2.2 | (with_reducible refine Kd.C_alloc ?_ _) | (with_reducible refine Kd.C_drewN ?_ _) | (with_reducible refine Kd.C_drew ?_)))); (case aB => exact z115a); (case aF => exact (fun k_ hk => ⟨Kd.fresh' (Kd.R_lt z115b) k_ hk, Kd.fresh' (Kd.R_lt z115d) k_ hk, Kd.fresh' (Kd.R_lt z115f) k_ hk⟩)); (case aO => exact (by (with_reducible repeat (first | apply Kd.R_alloc | apply Kd.R_drewN | apply Kd.R_drew)); exact Kd.R_mono HO433.out (fun _ hk => ⟨hk.1.1, ⟨hk.1.2, hk.2⟩⟩))); (case aS => exact (below_size z115a)); (case aL => have := LMc26.out; omega); intro v438 w37 ho hb hg hat; rw [← Ny437.out] at ho; have n0_ := A_ (blk_grown (g := gb419) (o := .cells #[.string ((rd_T31 l0 x13_1).f0), .string ((rd_T31 l0 x13_1).f1), .int .i64 ((rd_T31 l0 x13_1).f2), .bool ((rd_T31 l0 x13_1).f3)] 31 (0, 0)) z115c hg (Kd.R_ne HO433.out BK419.out (by decide))); have n1_ := A_ (Kd.R_after (ok := (fun k_ => some k_ ≠ (.slice Ao35 t428.length co35 : Value).ownBlock ∧ some k_ ≠ (.slice Ao38 t434.length co38 : Value).ownBlock)) (by (with_reducible repeat (first | apply Kd.R_alloc | apply Kd.R_drewN | apply Kd.R_drew)); exact Kd.R_mono HO424.out (fun _ hk => ⟨⟨hk.1.1, hk.2⟩, hk.1.2⟩)) hg hat); have n2_ := A_ (Kd.R_after (ok := (fun k_ => some k_ ≠ (.slice Ao31 t422.length co31 : Value).ownBlock ∧ some k_ ≠ (.slice Ao38 t434.length co38 : Value).ownBlock)) (by (with_reducible repeat (first | apply Kd.R_alloc | apply Kd.R_drewN | apply Kd.R_drew)); exact Kd.R_mono HO430.out (fun _ hk => ⟨⟨hk.1.1, hk.2⟩, hk.1.2⟩)) hg hat); have n3_ := A_ (Kd.R_after (ok := (fun k_ => some k_ ≠ (.slice Ao31 t422.length co31 : Value).ownBlock ∧ some k_ ≠ (.slice Ao35 t428.length co35 : Value).ownBlock)) (by (with_reducible repeat (first | apply Kd.R_alloc | apply Kd.R_drewN | apply Kd.R_drew)); exact Kd.R_mono HO436.out (fun _ hk => ⟨⟨hk.1.1.2, hk.1.2⟩, hk.2⟩)) hg hat); have n4_ := A_ (hb); have n5_ := A_ (ho); clear BK419; clear HO424; clear HO430; clear HO436; clear HB; clear HO433; have BK419 := n0_; have HO424 := n1_; have HO430 := n2_; have HO436 := n3_; have HB := n4_; have HO439 := n5_; clear n0_ n1_ n2_ n3_ n4_ n5_; clear ho hb hg hat; obtain ⟨hcz39_0, hcz39_1, hcz39_2, hcz39_3, hfz39_0, hfz39_1, hfz39_2, hfz39_3⟩ := bz4 BK419.out) | (go_at_call 139; (with_reducible refine (impl_Text.calls kj15 ((rd_T31 l0 x13_1).f1) t440 _ A27.out).mono ?_); rintro e w40 ⟨v441, rfl, ho0, hb⟩; have n0_ := A_ (Kd.R_elder' z115b (Kd.R_base ho0) hb); have n1_ := A_ (Kd.R_elder' z115d (Kd.R_base ho0) hb); have n2_ := A_ (Kd.R_elder' z115f (Kd.R_base ho0) hb); have n3_ := A_ (Kd.R_elder' z115j (Kd.R_base ho0) hb); have n4_ := A_ (Kd.R_lower (Kd.R_new' (Kd.R_new' (Kd.R_new' (Kd.R_new' ho0 (Kd.R_lt z115b)) (Kd.R_lt z115d)) (Kd.R_lt z115f)) (Kd.R_lt z115j)) (below_size z115a)); have n5_ := A_ (blk_below (g := gb419) (o := .cells #[.string ((rd_T31 l0 x13_1).f0), .string ((rd_T31 l0 x13_1).f1), .int .i64 ((rd_T31 l0 x13_1).f2), .bool ((rd_T31 l0 x13_1).f3)] 31 (0, 0)) z115c hb); have n6_ := A_ (below_step z115a hb); clear HO424; clear HO430; clear HO436; clear HO439; clear BK419; clear HB; have HO424 := n0_; have HO430 := n1_; have HO436 := n2_; have HO439 := n3_; have HO442 := n4_; have BK419 := n5_; have HB := n6_; clear n0_ n1_ n2_ n3_ n4_ n5_ n6_; obtain ⟨Ao42, co42, eo42⟩ := Kd.R_slice HO442.out; subst eo42) | ((with_reducible refine gate_builtin (b := .append) (xs := #[.tmp 52, .tmp 55]) rfl ?_); at_builtin; refine Kd.R_append_rows (Kd.int .u8) (w0 := w) w.heap.size rfl (.tmp 52) (.tmp 55) 36 5 (.int .u8 0) 1 rfl Try.underlying36 info5 rfl (by decide) (by omega) v438 y437 t440 _ _ _ (fun k_ => some k_ ≠ (.slice Ao31 t422.length co31 : Value).ownBlock ∧ some k_ ≠ (.slice Ao35 t428.length co35 : Value).ownBlock ∧ some k_ ≠ (.slice Ao38 t434.length co38 : Value).ownBlock ∧ some k_ ≠ (.slice Ao42 t440.length co42 : Value).ownBlock) (fun _ => False) rfl rfl ?aO ?aR (fun _ _ h => h) (fun _ h => h.elim) ?aF ?aB ?aS ?aL ?_; (case aR => exact (by repeat (first | exact (Kd.R_reads' HO442.out).2.2 | (with_reducible refine Kd.C_alloc ?_ _) | (with_reducible refine Kd.C_drewN ?_ _) | (with_reducible refine Kd.C_drew ?_)))); (case aB => exact z115a); (case aF => exact (fun k_ hk => ⟨Kd.fresh' (Kd.R_lt z115b) k_ hk, Kd.fresh' (Kd.R_lt z115d) k_ hk, Kd.fresh' (Kd.R_lt z115f) k_ hk, Kd.fresh' (Kd.R_lt (by (with_reducible repeat (first | apply Kd.R_alloc | apply Kd.R_drewN | apply Kd.R_drew)); exact HO442.out)) k_ hk⟩)); (case aO => exact (by (with_reducible repeat (first | apply Kd.R_alloc | apply Kd.R_drewN | apply Kd.R_drew)); exact Kd.R_mono HO439.out (fun _ hk => ⟨hk.1.1, ⟨hk.1.2.1, ⟨hk.1.2.2, hk.2⟩⟩⟩))); (case aS => exact (below_size z115a)); (case aL => have := LMc28.out; omega); intro v444 w41 ho hb hg hat; rw [← Ny443.out] at ho; have n0_ := A_ (blk_grown (g := gb419) (o := .cells #[.string ((rd_T31 l0 x13_1).f0), .string ((rd_T31 l0 x13_1).f1), .int .i64 ((rd_T31 l0 x13_1).f2), .bool ((rd_T31 l0 x13_1).f3)] 31 (0, 0)) z115c hg (Kd.R_ne HO439.out BK419.out (by decide))); have n1_ := A_ (Kd.R_after (ok := (fun k_ => some k_ ≠ (.slice Ao35 t428.length co35 : Value).ownBlock ∧ some k_ ≠ (.slice Ao38 t434.length co38 : Value).ownBlock ∧ some k_ ≠ (.slice Ao42 t440.length co42 : Value).ownBlock)) (by (with_reducible repeat (first | apply Kd.R_alloc | apply Kd.R_drewN | apply Kd.R_drew)); exact Kd.R_mono HO424.out (fun _ hk => ⟨⟨hk.1.1.1, ⟨hk.1.1.2, hk.2⟩⟩, hk.1.2⟩)) hg hat); have n2_ := A_ (Kd.R_after (ok := (fun k_ => some k_ ≠ (.slice Ao31 t422.length co31 : Value).ownBlock ∧ some k_ ≠ (.slice Ao38 t434.length co38 : Value).ownBlock ∧ some k_ ≠ (.slice Ao42 t440.length co42 : Value).ownBlock)) (by (with_reducible repeat (first | apply Kd.R_alloc | apply Kd.R_drewN | apply Kd.R_drew)); exact Kd.R_mono HO430.out (fun _ hk => ⟨⟨hk.1.1.1, ⟨hk.1.1.2, hk.2⟩⟩, hk.1.2⟩)) hg hat); have n3_ := A_ (Kd.R_after (ok := (fun k_ => some k_ ≠ (.slice Ao31 t422.length co31 : Value).ownBlock ∧ some k_ ≠ (.slice Ao35 t428.length co35 : Value).ownBlock ∧ some k_ ≠ (.slice Ao42 t440.length co42 : Value).ownBlock)) (by (with_reducible repeat (first | apply Kd.R_alloc | apply Kd.R_drewN | apply Kd.R_drew)); exact Kd.R_mono HO436.out (fun _ hk => ⟨⟨hk.1.1.1, ⟨hk.1.1.2, hk.2⟩⟩, hk.1.2⟩)) hg hat); have n4_ := A_ (Kd.R_after (ok := (fun k_ => some k_ ≠ (.slice Ao31 t422.length co31 : Value).ownBlock ∧ some k_ ≠ (.slice Ao35 t428.length co35 : Value).ownBlock ∧ some k_ ≠ (.slice Ao38 t434.length co38 : Value).ownBlock)) (by (with_reducible repeat (first | apply Kd.R_alloc | apply Kd.R_drewN | apply Kd.R_drew)); exact Kd.R_mono HO442.out (fun _ hk => ⟨⟨hk.1.1.1.2, ⟨hk.1.1.2, hk.1.2⟩⟩, hk.2⟩)) hg hat); have n5_ := A_ (hb); have n6_ := A_ (ho); clear BK419; clear HO424; clear HO430; clear HO436; clear HO442; clear HB; clear HO439; have BK419 := n0_; have HO424 := n1_; have HO430 := n2_; have HO436 := n3_; have HO442 := n4_; have HB := n5_; have HO445 := n6_; clear n0_ n1_ n2_ n3_ n4_ n5_ n6_; clear ho hb hg hat)); try go_wp2_with (first | (go_at_call 137; (with_reducible refine (impl_Number.calls kj15 x6_6 t422 _ A19.out).mono ?_); rintro e w29 ⟨v423, rfl, ho0, hb⟩; have n0_ := A_ (Kd.R_elder' z115h (Kd.R_base ho0) hb); have n1_ := A_ (Kd.R_lower (Kd.R_new' ho0 (Kd.R_lt z115h)) (below_size z115a)); have n2_ := A_ (blk_below (g := gb419) (o := .cells #[.string ((rd_T31 l0 x13_1).f0), .string ((rd_T31 l0 x13_1).f1), .int .i64 ((rd_T31 l0 x13_1).f2), .bool ((rd_T31 l0 x13_1).f3)] 31 (0, 0)) z115c hb); have n3_ := A_ (below_step z115a hb); clear HO_3; clear BK419; clear HB; have HO_3 := n0_; have HO424 := n1_; have BK419 := n2_; have HB := n3_; clear n0_ n1_ n2_ n3_; obtain ⟨Ao31, co31, eo31⟩ := Kd.R_slice HO424.out; subst eo31) | ((with_reducible refine gate_builtin (b := .append) (xs := #[.tmp 37, .tmp 39]) rfl ?_); at_builtin; refine Kd.R_append_rows (Kd.int .u8) (w0 := w) w.heap.size rfl (.tmp 37) (.tmp 39) 36 5 (.int .u8 0) 1 rfl Try.underlying36 info5 rfl (by decide) (by omega) u3 x3_1 t422 _ _ _ (fun k_ => some k_ ≠ (.slice Ao31 t422.length co31 : Value).ownBlock) (fun _ => False) rfl rfl ?aO ?aR (fun _ _ h => h) (fun _ h => h.elim) ?aF ?aB ?aS ?aL ?_; (case aR => exact (by repeat (first | exact (Kd.R_reads' HO424.out).2.2 | (with_reducible refine Kd.C_alloc ?_ _) | (with_reducible refine Kd.C_drewN ?_ _) | (with_reducible refine Kd.C_drew ?_)))); (case aB => exact z115a); (case aF => exact (fun k_ hk => Kd.fresh' (Kd.R_lt z115b) k_ hk)); (case aO => exact (by (with_reducible repeat (first | apply Kd.R_alloc | apply Kd.R_drewN | apply Kd.R_drew)); exact Kd.R_mono HO_3.out (fun _ hk => hk.2))); (case aS => exact (below_size z115a)); (case aL => have := LMc20.out; omega); intro v426 w30 ho hb hg hat; rw [← Ny425.out] at ho; have n0_ := A_ (blk_grown (g := gb419) (o := .cells #[.string ((rd_T31 l0 x13_1).f0), .string ((rd_T31 l0 x13_1).f1), .int .i64 ((rd_T31 l0 x13_1).f2), .bool ((rd_T31 l0 x13_1).f3)] 31 (0, 0)) z115c hg (Kd.R_ne HO_3.out BK419.out (by decide))); have n1_ := A_ (Kd.R_after (ok := (fun _ => True)) z115b hg hat); have n2_ := A_ (hb); have n3_ := A_ (ho); clear BK419; clear HO424; clear HB; clear HO_3; have BK419 := n0_; have HO424 := n1_; have HB := n2_; have HO427 := n3_; clear n0_ n1_ n2_ n3_; clear ho hb hg hat; obtain ⟨hcz32_0, hcz32_1, hcz32_2, hcz32_3, hfz32_0, hfz32_1, hfz32_2, hfz32_3⟩ := bz4 BK419.out) | (go_at_call 139; (with_reducible refine (impl_Text.calls kj15 (((rd_T31 l0 x13_1).f0).extract (x6_6 : Int).toNat ((rd_T31 l0 x13_1).f0).size) t428 _ A23.out).mono ?_); rintro e w33 ⟨v429, rfl, ho0, hb⟩; have n0_ := A_ (Kd.R_elder' z115b (Kd.R_base ho0) hb); have n1_ := A_ (Kd.R_elder' z115g (Kd.R_base ho0) hb); have n2_ := A_ (Kd.R_lower (Kd.R_new' (Kd.R_new' ho0 (Kd.R_lt z115b)) (Kd.R_lt z115g)) (below_size z115a)); have n3_ := A_ (blk_below (g := gb419) (o := .cells #[.string ((rd_T31 l0 x13_1).f0), .string ((rd_T31 l0 x13_1).f1), .int .i64 ((rd_T31 l0 x13_1).f2), .bool ((rd_T31 l0 x13_1).f3)] 31 (0, 0)) z115c hb); have n4_ := A_ (below_step z115a hb); clear HO424; clear HO427; clear BK419; clear HB; have HO424 := n0_; have HO427 := n1_; have HO430 := n2_; have BK419 := n3_; have HB := n4_; clear n0_ n1_ n2_ n3_ n4_; obtain ⟨Ao35, co35, eo35⟩ := Kd.R_slice HO430.out; subst eo35) | ((with_reducible refine gate_builtin (b := .append) (xs := #[.tmp 41, .tmp 46]) rfl ?_); at_builtin; refine Kd.R_append_rows (Kd.int .u8) (w0 := w) w.heap.size rfl (.tmp 41) (.tmp 46) 36 5 (.int .u8 0) 1 rfl Try.underlying36 info5 rfl (by decide) (by omega) v426 y425 t428 _ _ _ (fun k_ => some k_ ≠ (.slice Ao31 t422.length co31 : Value).ownBlock ∧ some k_ ≠ (.slice Ao35 t428.length co35 : Value).ownBlock) (fun _ => False) rfl rfl ?aO ?aR (fun _ _ h => h) (fun _ h => h.elim) ?aF ?aB ?aS ?aL ?_; (case aR => exact (by repeat (first | exact (Kd.R_reads' HO430.out).2.2 | (with_reducible refine Kd.C_alloc ?_ _) | (with_reducible refine Kd.C_drewN ?_ _) | (with_reducible refine Kd.C_drew ?_)))); (case aB => exact z115a); (case aF => exact (fun k_ hk => ⟨Kd.fresh' (Kd.R_lt z115b) k_ hk, Kd.fresh' (Kd.R_lt z115d) k_ hk⟩)); (case aO => exact z115g); (case aS => exact (below_size z115a)); (case aL => have := LMc24.out; omega); intro v432 w34 ho hb hg hat; rw [← Ny431.out] at ho; have n0_ := A_ (blk_grown (g := gb419) (o := .cells #[.string ((rd_T31 l0 x13_1).f0), .string ((rd_T31 l0 x13_1).f1), .int .i64 ((rd_T31 l0 x13_1).f2), .bool ((rd_T31 l0 x13_1).f3)] 31 (0, 0)) z115c hg (Kd.R_ne HO427.out BK419.out (by decide))); have n1_ := A_ (Kd.R_after (ok := (fun k_ => some k_ ≠ (.slice Ao35 t428.length co35 : Value).ownBlock)) (by (with_reducible repeat (first | apply Kd.R_alloc | apply Kd.R_drewN | apply Kd.R_drew)); exact Kd.R_mono HO424.out (fun _ hk => ⟨hk.2, hk.1.2⟩)) hg hat); have n2_ := A_ (Kd.R_after (ok := (fun k_ => some k_ ≠ (.slice Ao31 t422.length co31 : Value).ownBlock)) (by (with_reducible repeat (first | apply Kd.R_alloc | apply Kd.R_drewN | apply Kd.R_drew)); exact Kd.R_mono HO430.out (fun _ hk => ⟨hk.1.2, hk.2⟩)) hg hat); have n3_ := A_ (hb); have n4_ := A_ (ho); clear BK419; clear HO424; clear HO430; clear HB; clear HO427; have BK419 := n0_; have HO424 := n1_; have HO430 := n2_; have HB := n3_; have HO433 := n4_; clear n0_ n1_ n2_ n3_ n4_; clear ho hb hg hat) | (go_at_call 137; (with_reducible refine (impl_Number.calls kj15 x7_15 t434 _ A25.out).mono ?_); rintro e w36 ⟨v435, rfl, ho0, hb⟩; have n0_ := A_ (Kd.R_elder' z115b (Kd.R_base ho0) hb); have n1_ := A_ (Kd.R_elder' z115d (Kd.R_base ho0) hb); have n2_ := A_ (Kd.R_elder' z115i (Kd.R_base ho0) hb); have n3_ := A_ (Kd.R_lower (Kd.R_new' (Kd.R_new' (Kd.R_new' ho0 (Kd.R_lt z115b)) (Kd.R_lt z115d)) (Kd.R_lt z115i)) (below_size z115a)); have n4_ := A_ (blk_below (g := gb419) (o := .cells #[.string ((rd_T31 l0 x13_1).f0), .string ((rd_T31 l0 x13_1).f1), .int .i64 ((rd_T31 l0 x13_1).f2), .bool ((rd_T31 l0 x13_1).f3)] 31 (0, 0)) z115c hb); have n5_ := A_ (below_step z115a hb); clear HO424; clear HO430; clear HO433; clear BK419; clear HB; have HO424 := n0_; have HO430 := n1_; have HO433 := n2_; have HO436 := n3_; have BK419 := n4_; have HB := n5_; clear n0_ n1_ n2_ n3_ n4_ n5_; obtain ⟨Ao38, co38, eo38⟩ := Kd.R_slice HO436.out; subst eo38) | ((with_reducible refine gate_builtin (b := .append) (xs := #[.tmp 48, .tmp 50]) rfl ?_); at_builtin; refine Kd.R_append_rows (Kd.int .u8) (w0 := w) w.heap.size rfl (.tmp 48) (.tmp 50) 36 5 (.int .u8 0) 1 rfl Try.underlying36 info5 rfl (by decide) (by omega) v432 y431 t434 _ _ _ (fun k_ => some k_ ≠ (.slice Ao31 t422.length co31 : Value).ownBlock ∧ some k_ ≠ (.slice Ao35 t428.length co35 : Value).ownBlock ∧ some k_ ≠ (.slice Ao38 t434.length co38 : Value).ownBlock) (fun _ => False) rfl rfl ?aO ?aR (fun _ _ h => h) (fun _ h => h.elim) ?aF ?aB ?aS ?aL ?_; (case aR => exact (by repeat (first | exact (Kd.R_reads' HO436.out).2.2 | (with_reducible refine Kd.C_alloc ?_ _) | (with_reducible refine Kd.C_drewN ?_ _) | (with_reducible refine Kd.C_drew ?_)))); (case aB => exact z115a); (case aF => exact (fun k_ hk => ⟨Kd.fresh' (Kd.R_lt z115b) k_ hk, Kd.fresh' (Kd.R_lt z115d) k_ hk, Kd.fresh' (Kd.R_lt z115f) k_ hk⟩)); (case aO => exact (by (with_reducible repeat (first | apply Kd.R_alloc | apply Kd.R_drewN | apply Kd.R_drew)); exact Kd.R_mono HO433.out (fun _ hk => ⟨hk.1.1, ⟨hk.1.2, hk.2⟩⟩))); (case aS => exact (below_size z115a)); (case aL => have := LMc26.out; omega); intro v438 w37 ho hb hg hat; rw [← Ny437.out] at ho; have n0_ := A_ (blk_grown (g := gb419) (o := .cells #[.string ((rd_T31 l0 x13_1).f0), .string ((rd_T31 l0 x13_1).f1), .int .i64 ((rd_T31 l0 x13_1).f2), .bool ((rd_T31 l0 x13_1).f3)] 31 (0, 0)) z115c hg (Kd.R_ne HO433.out BK419.out (by decide))); have n1_ := A_ (Kd.R_after (ok := (fun k_ => some k_ ≠ (.slice Ao35 t428.length co35 : Value).ownBlock ∧ some k_ ≠ (.slice Ao38 t434.length co38 : Value).ownBlock)) (by (with_reducible repeat (first | apply Kd.R_alloc | apply Kd.R_drewN | apply Kd.R_drew)); exact Kd.R_mono HO424.out (fun _ hk => ⟨⟨hk.1.1, hk.2⟩, hk.1.2⟩)) hg hat); have n2_ := A_ (Kd.R_after (ok := (fun k_ => some k_ ≠ (.slice Ao31 t422.length co31 : Value).ownBlock ∧ some k_ ≠ (.slice Ao38 t434.length co38 : Value).ownBlock)) (by (with_reducible repeat (first | apply Kd.R_alloc | apply Kd.R_drewN | apply Kd.R_drew)); exact Kd.R_mono HO430.out (fun _ hk => ⟨⟨hk.1.1, hk.2⟩, hk.1.2⟩)) hg hat); have n3_ := A_ (Kd.R_after (ok := (fun k_ => some k_ ≠ (.slice Ao31 t422.length co31 : Value).ownBlock ∧ some k_ ≠ (.slice Ao35 t428.length co35 : Value).ownBlock)) (by (with_reducible repeat (first | apply Kd.R_alloc | apply Kd.R_drewN | apply Kd.R_drew)); exact Kd.R_mono HO436.out (fun _ hk => ⟨⟨hk.1.1.2, hk.1.2⟩, hk.2⟩)) hg hat); have n4_ := A_ (hb); have n5_ := A_ (ho); clear BK419; clear HO424; clear HO430; clear HO436; clear HB; clear HO433; have BK419 := n0_; have HO424 := n1_; have HO430 := n2_; have HO436 := n3_; have HB := n4_; have HO439 := n5_; clear n0_ n1_ n2_ n3_ n4_ n5_; clear ho hb hg hat; obtain ⟨hcz39_0, hcz39_1, hcz39_2, hcz39_3, hfz39_0, hfz39_1, hfz39_2, hfz39_3⟩ := bz4 BK419.out) | (go_at_call 139; (with_reducible refine (impl_Text.calls kj15 ((rd_T31 l0 x13_1).f1) t440 _ A27.out).mono ?_); rintro e w40 ⟨v441, rfl, ho0, hb⟩; have n0_ := A_ (Kd.R_elder' z115b (Kd.R_base ho0) hb); have n1_ := A_ (Kd.R_elder' z115d (Kd.R_base ho0) hb); have n2_ := A_ (Kd.R_elder' z115f (Kd.R_base ho0) hb); have n3_ := A_ (Kd.R_elder' z115j (Kd.R_base ho0) hb); have n4_ := A_ (Kd.R_lower (Kd.R_new' (Kd.R_new' (Kd.R_new' (Kd.R_new' ho0 (Kd.R_lt z115b)) (Kd.R_lt z115d)) (Kd.R_lt z115f)) (Kd.R_lt z115j)) (below_size z115a)); have n5_ := A_ (blk_below (g := gb419) (o := .cells #[.string ((rd_T31 l0 x13_1).f0), .string ((rd_T31 l0 x13_1).f1), .int .i64 ((rd_T31 l0 x13_1).f2), .bool ((rd_T31 l0 x13_1).f3)] 31 (0, 0)) z115c hb); have n6_ := A_ (below_step z115a hb); clear HO424; clear HO430; clear HO436; clear HO439; clear BK419; clear HB; have HO424 := n0_; have HO430 := n1_; have HO436 := n2_; have HO439 := n3_; have HO442 := n4_; have BK419 := n5_; have HB := n6_; clear n0_ n1_ n2_ n3_ n4_ n5_ n6_; obtain ⟨Ao42, co42, eo42⟩ := Kd.R_slice HO442.out; subst eo42) | ((with_reducible refine gate_builtin (b := .append) (xs := #[.tmp 52, .tmp 55]) rfl ?_); at_builtin; refine Kd.R_append_rows (Kd.int .u8) (w0 := w) w.heap.size rfl (.tmp 52) (.tmp 55) 36 5 (.int .u8 0) 1 rfl Try.underlying36 info5 rfl (by decide) (by omega) v438 y437 t440 _ _ _ (fun k_ => some k_ ≠ (.slice Ao31 t422.length co31 : Value).ownBlock ∧ some k_ ≠ (.slice Ao35 t428.length co35 : Value).ownBlock ∧ some k_ ≠ (.slice Ao38 t434.length co38 : Value).ownBlock ∧ some k_ ≠ (.slice Ao42 t440.length co42 : Value).ownBlock) (fun _ => False) rfl rfl ?aO ?aR (fun _ _ h => h) (fun _ h => h.elim) ?aF ?aB ?aS ?aL ?_; (case aR => exact (by repeat (first | exact (Kd.R_reads' HO442.out).2.2 | (with_reducible refine Kd.C_alloc ?_ _) | (with_reducible refine Kd.C_drewN ?_ _) | (with_reducible refine Kd.C_drew ?_)))); (case aB => exact z115a); (case aF => exact (fun k_ hk => ⟨Kd.fresh' (Kd.R_lt z115b) k_ hk, Kd.fresh' (Kd.R_lt z115d) k_ hk, Kd.fresh' (Kd.R_lt z115f) k_ hk, Kd.fresh' (Kd.R_lt (by (with_reducible repeat (first | apply Kd.R_alloc | apply Kd.R_drewN | apply Kd.R_drew)); exact HO442.out)) k_ hk⟩)); (case aO => exact (by (with_reducible repeat (first | apply Kd.R_alloc | apply Kd.R_drewN | apply Kd.R_drew)); exact Kd.R_mono HO439.out (fun _ hk => ⟨hk.1.1, ⟨hk.1.2.1, ⟨hk.1.2.2, hk.2⟩⟩⟩))); (case aS => exact (below_size z115a)); (case aL => have := LMc28.out; omega); intro v444 w41 ho hb hg hat; rw [← Ny443.out] at ho; have n0_ := A_ (blk_grown (g := gb419) (o := .cells #[.string ((rd_T31 l0 x13_1).f0), .string ((rd_T31 l0 x13_1).f1), .int .i64 ((rd_T31 l0 x13_1).f2), .bool ((rd_T31 l0 x13_1).f3)] 31 (0, 0)) z115c hg (Kd.R_ne HO439.out BK419.out (by decide))); have n1_ := A_ (Kd.R_after (ok := (fun k_ => some k_ ≠ (.slice Ao35 t428.length co35 : Value).ownBlock ∧ some k_ ≠ (.slice Ao38 t434.length co38 : Value).ownBlock ∧ some k_ ≠ (.slice Ao42 t440.length co42 : Value).ownBlock)) (by (with_reducible repeat (first | apply Kd.R_alloc | apply Kd.R_drewN | apply Kd.R_drew)); exact Kd.R_mono HO424.out (fun _ hk => ⟨⟨hk.1.1.1, ⟨hk.1.1.2, hk.2⟩⟩, hk.1.2⟩)) hg hat); have n2_ := A_ (Kd.R_after (ok := (fun k_ => some k_ ≠ (.slice Ao31 t422.length co31 : Value).ownBlock ∧ some k_ ≠ (.slice Ao38 t434.length co38 : Value).ownBlock ∧ some k_ ≠ (.slice Ao42 t440.length co42 : Value).ownBlock)) (by (with_reducible repeat (first | apply Kd.R_alloc | apply Kd.R_drewN | apply Kd.R_drew)); exact Kd.R_mono HO430.out (fun _ hk => ⟨⟨hk.1.1.1, ⟨hk.1.1.2, hk.2⟩⟩, hk.1.2⟩)) hg hat); have n3_ := A_ (Kd.R_after (ok := (fun k_ => some k_ ≠ (.slice Ao31 t422.length co31 : Value).ownBlock ∧ some k_ ≠ (.slice Ao35 t428.length co35 : Value).ownBlock ∧ some k_ ≠ (.slice Ao42 t440.length co42 : Value).ownBlock)) (by (with_reducible repeat (first | apply Kd.R_alloc | apply Kd.R_drewN | apply Kd.R_drew)); exact Kd.R_mono HO436.out (fun _ hk => ⟨⟨hk.1.1.1, ⟨hk.1.1.2, hk.2⟩⟩, hk.1.2⟩)) hg hat); have n4_ := A_ (Kd.R_after (ok := (fun k_ => some k_ ≠ (.slice Ao31 t422.length co31 : Value).ownBlock ∧ some k_ ≠ (.slice Ao35 t428.length co35 : Value).ownBlock ∧ some k_ ≠ (.slice Ao38 t434.length co38 : Value).ownBlock)) (by (with_reducible repeat (first | apply Kd.R_alloc | apply Kd.R_drewN | apply Kd.R_drew)); exact Kd.R_mono HO442.out (fun _ hk => ⟨⟨hk.1.1.1.2, ⟨hk.1.1.2, hk.1.2⟩⟩, hk.2⟩)) hg hat); have n5_ := A_ (hb); have n6_ := A_ (ho); clear BK419; clear HO424; clear HO430; clear HO436; clear HO442; clear HB; clear HO439; have BK419 := n0_; have HO424 := n1_; have HO430 := n2_; have HO436 := n3_; have HO442 := n4_; have HB := n5_; have HO445 := n6_; clear n0_ n1_ n2_ n3_ n4_ n5_ n6_; clear ho hb hg hat)))
       go_roundg kj15
       case measure => have := HK1.out; have := HJ6.out; have := HJ15.out; omega
       case rel => exact ⟨(y443), (wrap64 (x13_1 + 1)), (zs), H', ⟨by have := HK1.out; have := HJ6.out; have := HJ15.out; omega⟩, ⟨by (with_reducible repeat (first | apply Kd.R_alloc | apply Kd.R_drewN | apply Kd.R_drew)); exact Kd.R_mono HO445.out (fun _ hk => trivial)⟩, ⟨z115a⟩⟩
       }
       {
       rw [if_neg c28] at H
       exact absurd H (by simp)
       }
       }
       {
       rw [if_neg c26] at H
       exact absurd H (by simp)
       }
       }
       {
       rw [if_neg c24] at H
       exact absurd H (by simp)
       }
       }
       {
       rw [if_neg c22] at H
       exact absurd H (by simp)
       }
       }
       {
       rw [if_neg c21] at H
       exact absurd H (by simp)
       }
       }
       {
       rw [if_neg c20] at H
       exact absurd H (by simp)
       }
   }
   {
   rw [if_neg c6] at H
   exact absurd H (by simp)
   }
   }
   {
   rw [if_neg c5] at H
   exact absurd H (by simp)
   }
   }
   {
   rw [if_neg c4] at H
   have c4b0 : decide (x13_1 < (l0.length : Int)) = false := decide_eq_false c4
   clear c4
   obtain rfl := Option.some.inj H
   go_wp2
   repeat (go_quiet (fail); try go_wp2)
   go_ret
   exact ⟨_, zr, by (with_reducible repeat (first | apply Kd.R_alloc | apply Kd.R_drewN | apply Kd.R_drew)); exact HO_3.out, zg0⟩
   
   }
end Go.Proofs.Ytaiggfjkikfcbaa.PFnExactEntries

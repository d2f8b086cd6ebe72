-- by a program of this session (wip/print/run.py) for this claim
import Derived.Test.YtajidjlbgpaaoaaPFnSeensx0
import Derived.Test.YtajidjlbgpaaoaaPFnSeensx3
namespace Go.Proofs.Ytajidjlbgpaaoaa.PFnSeens
open Go.RowKit Go.Proofs.YtajidjlbgpaaoaaW.PrintWords Go.Proofs.YtajidjlbgpaaoaaW.PrintLast Go.Proofs.YtajidjlbgpaaoaaW.PrintMore
attribute [local go_sem] max2_int min2_int max_two min_two max_three min_three max_four min_four   -- for this text's walks alone
set_option linter.unusedVariables false
set_option linter.unusedSimpArgs false

abbrev Y : Bool := true
abbrev X : Bool := false
/-! ### spec_l6Seens: function 71 -/
theorem z71a {p_ : Prop} (h_ : p_ := by simp only [Act.put, List.setIfInBounds_toArray, List.set_cons_zero, List.set_cons_succ, i64_w, i32_w]; rfl) : p_ := h_
theorem z71b {p_ : Prop} (h_ : p_ := by first | exact Nat.ne_of_lt (Nat.lt_of_lt_of_le (by have := World.block_lt_of_cell? _ _ hw121_0; first | rwa [add_block] at this | exact this) GW128.out) | (rw [add_block]; exact Nat.ne_of_lt (Nat.lt_of_lt_of_le (by have := World.block_lt_of_cell? _ _ hw121_0; first | rwa [add_block] at this | exact this) GW128.out)) | (show (Addr.add _ _).block ≠ _; rw [add_block]; exact Nat.ne_of_lt (Nat.lt_of_lt_of_le (by have := World.block_lt_of_cell? _ _ hw121_0; first | rwa [add_block] at this | exact this) GW128.out)) | (dsimp only; exact Nat.ne_of_lt (Nat.lt_of_lt_of_le (by have := World.block_lt_of_cell? _ _ hw121_0; first | rwa [add_block] at this | exact this) GW128.out))) : p_ := h_
theorem z71c {p_ : Prop} (h_ : p_ := by first | exact Nat.ne_of_lt (Nat.lt_of_lt_of_le (by have := World.block_lt_of_cell? _ _ hw121_1; first | rwa [add_block] at this | exact this) GW128.out) | (rw [add_block]; exact Nat.ne_of_lt (Nat.lt_of_lt_of_le (by have := World.block_lt_of_cell? _ _ hw121_1; first | rwa [add_block] at this | exact this) GW128.out)) | (show (Addr.add _ _).block ≠ _; rw [add_block]; exact Nat.ne_of_lt (Nat.lt_of_lt_of_le (by have := World.block_lt_of_cell? _ _ hw121_1; first | rwa [add_block] at this | exact this) GW128.out)) | (dsimp only; exact Nat.ne_of_lt (Nat.lt_of_lt_of_le (by have := World.block_lt_of_cell? _ _ hw121_1; first | rwa [add_block] at this | exact this) GW128.out))) : p_ := h_
theorem z71d {p_ : Prop} (h_ : p_ := by first | exact Nat.ne_of_lt (Nat.lt_of_lt_of_le (by have := World.block_lt_of_cell? _ _ hw121_2; first | rwa [add_block] at this | exact this) GW128.out) | (rw [add_block]; exact Nat.ne_of_lt (Nat.lt_of_lt_of_le (by have := World.block_lt_of_cell? _ _ hw121_2; first | rwa [add_block] at this | exact this) GW128.out)) | (show (Addr.add _ _).block ≠ _; rw [add_block]; exact Nat.ne_of_lt (Nat.lt_of_lt_of_le (by have := World.block_lt_of_cell? _ _ hw121_2; first | rwa [add_block] at this | exact this) GW128.out)) | (dsimp only; exact Nat.ne_of_lt (Nat.lt_of_lt_of_le (by have := World.block_lt_of_cell? _ _ hw121_2; first | rwa [add_block] at this | exact this) GW128.out))) : p_ := h_
theorem z71e {p_ : Prop} (h_ : p_ := by first | exact Nat.ne_of_lt (Nat.lt_of_lt_of_le (by have := World.block_lt_of_cell? _ _ hw121_3; first | rwa [add_block] at this | exact this) GW128.out) | (rw [add_block]; exact Nat.ne_of_lt (Nat.lt_of_lt_of_le (by have := World.block_lt_of_cell? _ _ hw121_3; first | rwa [add_block] at this | exact this) GW128.out)) | (show (Addr.add _ _).block ≠ _; rw [add_block]; exact Nat.ne_of_lt (Nat.lt_of_lt_of_le (by have := World.block_lt_of_cell? _ _ hw121_3; first | rwa [add_block] at this | exact this) GW128.out)) | (dsimp only; exact Nat.ne_of_lt (Nat.lt_of_lt_of_le (by have := World.block_lt_of_cell? _ _ hw121_3; first | rwa [add_block] at this | exact this) GW128.out))) : p_ := h_
theorem z71f {p_ : Prop} (h_ : p_ := by first | exact Nat.ne_of_lt (Nat.lt_of_lt_of_le (by have := World.block_lt_of_cell? _ _ hw122_0; first | rwa [add_block] at this | exact this) GW128.out) | (rw [add_block]; exact Nat.ne_of_lt (Nat.lt_of_lt_of_le (by have := World.block_lt_of_cell? _ _ hw122_0; first | rwa [add_block] at this | exact this) GW128.out)) | (show (Addr.add _ _).block ≠ _; rw [add_block]; exact Nat.ne_of_lt (Nat.lt_of_lt_of_le (by have := World.block_lt_of_cell? _ _ hw122_0; first | rwa [add_block] at this | exact this) GW128.out)) | (dsimp only; exact Nat.ne_of_lt (Nat.lt_of_lt_of_le (by have := World.block_lt_of_cell? _ _ hw122_0; first | rwa [add_block] at this | exact this) GW128.out))) : p_ := h_
theorem z71g {p_ : Prop} (h_ : p_ := by repeat (first | (with_reducible first | exact HB.out | apply below_alloc | apply pw_below_drewN | apply below_drew1) | exact HB.out)) : p_ := h_
theorem z71h {p_ : Prop} (h_ : p_ := by repeat (first | (with_reducible first | exact HB.out | apply below_alloc | apply pw_below_drewN | apply below_drew1 | refine below_set ?_ GE128.out) | exact HB.out)) : p_ := h_
theorem z71i {p_ : Prop} (h_ : p_ := by (with_reducible repeat (first | apply Kd.R_alloc | apply Kd.R_drewN | apply Kd.R_drew)); exact HO_5.out) : p_ := h_
theorem z71j {p_ : Prop} (h_ : p_ := by (with_reducible repeat (first | refine blk_drewN ?_ _ | refine blk_drew ?_ | refine blk_alloc ?_ _)); exact BK128.out) : p_ := h_
theorem z71k {p_ : Prop} (h_ : p_ := by first | (with_reducible assumption) | assumption) : p_ := h_
theorem z71l {p_ : Prop} (h_ : p_ := by repeat (first | exact (Kd.C_below HR0.out HB.out) | (with_reducible refine Kd.C_alloc ?_ _) | (with_reducible refine Kd.C_drewN ?_ _) | (with_reducible refine Kd.C_drew ?_))) : p_ := h_
theorem z71m {p_ : Prop} (h_ : p_ := by (try simp only [List.map_toArray, List.map_cons, List.map_nil]); first | done | rfl | (simp only [List.length_drop, List.length_take]; rfl)) : p_ := h_
theorem z71n {p_ : Prop} (h_ : p_ := by (with_reducible repeat (first | apply Kd.R_alloc | apply Kd.R_drewN | apply Kd.R_drew)); exact Kd.R_mono HO_5.out (fun _ hk => hk.2)) : p_ := h_
theorem z71o {p_ : Prop} (h_ : p_ := by first | rfl | (simp; done) | (simp [*]; done)) : p_ := h_
theorem z71p {p_ : Prop} (h_ : p_ := by simp only [putAll, Act.put, List.setIfInBounds_toArray, List.set_cons_zero, List.set_cons_succ]) : p_ := h_
mutual
def spec_l6Seens.l0 : Nat → List (S88) → List Int → List (S88) → Int → Option ((List (S88)))
 | 0, _, _, _, _ => none
 | k + 1, x0, x1, x5, x6 => if x6 < (x0.length : Int) then (if x6 = 0 then (spec_l6Seens.j1 k x0 x1 x5 x6 true) else (if 0 ≤ (wrap64 (x6 - 1)) then (if (wrap64 (x6 - 1)) < (x0.length : Int) then (if 0 ≤ x6 then (spec_l6Seens.j1 k x0 x1 x5 x6 (((rd_T88 x0 (wrap64 (x6 - 1))).f0).toList != ((rd_T88 x0 x6).f0).toList)) else (none)) else (none)) else (none))) else (some x5)
def spec_l6Seens.j1 : Nat → List (S88) → List Int → List (S88) → Int → Bool → Option ((List (S88)))
 | 0, _, _, _, _, _ => none
 | k + 1, x0, x1, x5, x6, x7 => spec_l6Seens.l1 k x0 x1 x5 x6 x7 0
def spec_l6Seens.l1 : Nat → List (S88) → List Int → List (S88) → Int → Bool → Int → Option ((List (S88)))
 | 0, _, _, _, _, _, _ => none
 | k + 1, x0, x1, x5, x6, x7, x8 => if x8 < (x1.length : Int) then (if 0 ≤ x6 then (if x6 < (x0.length : Int) then (if 0 ≤ x8 then ((spec_l3Seen.f k x0 ((rd_T88 x0 x6).f0) (rd x1 x8)).bind fun bt123 => (if x7 = true then (spec_l6Seens.l1 k x0 x1 x5 x6 true (wrap64 (x8 + 1))) else (if bt123.2.2.2.2 = true then (spec_l6Seens.l1 k x0 x1 x5 x6 (bt123.2.2.1 == ((rd_T88 x0 x6).f2)) (wrap64 (x8 + 1))) else (spec_l6Seens.l1 k x0 x1 x5 x6 false (wrap64 (x8 + 1)))))) else (none)) else (none)) else (none)) else (if x7 = true then (if 0 ≤ x6 then (if x6 < (x0.length : Int) then (if x5.length < 2932031007402 then (spec_l6Seens.l0 k x0 x1 (x5 ++ [(⟨(rd_T88 x0 x6).f0, (rd_T88 x0 x6).f1, (rd_T88 x0 x6).f2, (rd_T88 x0 x6).f3⟩ : S88)]) (wrap64 (x6 + 1))) else (none)) else (none)) else (none)) else (spec_l6Seens.l0 k x0 x1 x5 (wrap64 (x6 + 1))))
end
def spec_l6Seens.f (k : Nat) (l0 : List (S88)) (l1 : List Int) : Option ((List (S88))) := spec_l6Seens.l0 k l0 l1 (([] : List (S88))) 0
theorem spec_l6Seens.mono_l : ∀ k, (∀ y0 y1 y2 y3, LeO (spec_l6Seens.l0 k y0 y1 y2 y3) (spec_l6Seens.l0 (k + 1) y0 y1 y2 y3)) ∧ (∀ y0 y1 y2 y3 y4, LeO (spec_l6Seens.j1 k y0 y1 y2 y3 y4) (spec_l6Seens.j1 (k + 1) y0 y1 y2 y3 y4)) ∧ (∀ y0 y1 y2 y3 y4 y5, LeO (spec_l6Seens.l1 k y0 y1 y2 y3 y4 y5) (spec_l6Seens.l1 (k + 1) y0 y1 y2 y3 y4 y5))
 | 0 => ⟨fun _ _ _ _ r h => by simp [spec_l6Seens.l0] at h, fun _ _ _ _ _ r h => by simp [spec_l6Seens.j1] at h, fun _ _ _ _ _ _ r h => by simp [spec_l6Seens.l1] at h⟩
 | k + 1 => by
  obtain ⟨ih0, ih1, ih2⟩ := spec_l6Seens.mono_l k
  refine ⟨?_, ?_, ?_⟩
  {
  intro y0 y1 y2 y3
  unfold spec_l6Seens.l0
  repeat' first
  | (with_reducible exact ih0 _ _ _ _)
  | (with_reducible exact ih1 _ _ _ _ _)
  | (with_reducible exact ih2 _ _ _ _ _ _)
  | (with_reducible exact spec_l3Seen.mono _ _ _ _)
  | (with_reducible exact LeO.refl _)
  | (with_reducible exact LeO.none _)
  | (with_reducible refine LeO.ite ?_ ?_)
  | (with_reducible refine LeO.bind ?_ (fun _ => ?_))
  | exact ih0 _ _ _ _
  | exact ih1 _ _ _ _ _
  | exact ih2 _ _ _ _ _ _
  | exact spec_l3Seen.mono _ _ _ _
  | exact LeO.none _
  | refine LeO.ite ?_ ?_
  | refine LeO.bind ?_ (fun _ => ?_)
  }
  {
  intro y0 y1 y2 y3 y4
  unfold spec_l6Seens.j1
  repeat' first
  | (with_reducible exact ih0 _ _ _ _)
  | (with_reducible exact ih1 _ _ _ _ _)
  | (with_reducible exact ih2 _ _ _ _ _ _)
  | (with_reducible exact spec_l3Seen.mono _ _ _ _)
  | (with_reducible exact LeO.refl _)
  | (with_reducible exact LeO.none _)
  | (with_reducible refine LeO.ite ?_ ?_)
  | (with_reducible refine LeO.bind ?_ (fun _ => ?_))
  | exact ih0 _ _ _ _
  | exact ih1 _ _ _ _ _
  | exact ih2 _ _ _ _ _ _
  | exact spec_l3Seen.mono _ _ _ _
  | exact LeO.none _
  | refine LeO.ite ?_ ?_
  | refine LeO.bind ?_ (fun _ => ?_)
  }
  {
  intro y0 y1 y2 y3 y4 y5
  unfold spec_l6Seens.l1
  repeat' first
  | (with_reducible exact ih0 _ _ _ _)
  | (with_reducible exact ih1 _ _ _ _ _)
  | (with_reducible exact ih2 _ _ _ _ _ _)
  | (with_reducible exact spec_l3Seen.mono _ _ _ _)
  | (with_reducible exact LeO.refl _)
  | (with_reducible exact LeO.none _)
  | (with_reducible refine LeO.ite ?_ ?_)
  | (with_reducible refine LeO.bind ?_ (fun _ => ?_))
  | exact ih0 _ _ _ _
  | exact ih1 _ _ _ _ _
  | exact ih2 _ _ _ _ _ _
  | exact spec_l3Seen.mono _ _ _ _
  | exact LeO.none _
  | refine LeO.ite ?_ ?_
  | refine LeO.bind ?_ (fun _ => ?_)
  }
theorem spec_l6Seens.mono : ∀ a0 a1 k, LeO (spec_l6Seens.f k a0 a1) (spec_l6Seens.f (k + 1) a0 a1) := by
 intro a0 a1 k
 obtain ⟨ih0, ih1, ih2⟩ := spec_l6Seens.mono_l k
 unfold spec_l6Seens.f
 repeat' first
   | (with_reducible exact ih0 _ _ _ _)
   | (with_reducible exact ih1 _ _ _ _ _)
   | (with_reducible exact ih2 _ _ _ _ _ _)
   | (with_reducible exact spec_l3Seen.mono _ _ _ _)
   | (with_reducible exact LeO.refl _)
   | (with_reducible exact LeO.none _)
   | (with_reducible refine LeO.ite ?_ ?_)
   | (with_reducible refine LeO.bind ?_ (fun _ => ?_))
   | exact ih0 _ _ _ _
   | exact ih1 _ _ _ _ _
   | exact ih2 _ _ _ _ _ _
   | exact spec_l3Seen.mono _ _ _ _
   | exact LeO.none _
   | refine LeO.ite ?_ ?_
   | refine LeO.bind ?_ (fun _ => ?_)
def spec_l6Seens.T5 : Bool × List (List Nat × List Nat) := (true, [([], []), ([0], [0]), ([1], [1]), ([2], [2]), ([2], [2]), ([4, 2], [2, 4]), ([3, 5, 2], [2, 3, 5]), ([6, 2], [2, 6]), ([7, 2], [2, 7]), ([2], [2]), ([2], [2]), ([9, 10, 2], [2, 9, 10]), ([11, 2], [2, 11]), ([12, 2], [2, 12]), ([8, 13, 2], [2, 8, 13]), ([2, 14], [2, 14]), ([15, 2, 0, 1, 2, 3, 4, 5, 6, 7, 8, 9, 10, 11, 12, 13, 14, 15], [15])])
def spec_l6Seens.B5 : List Nat := [0, 1, 3, 7, 7, 23, 63, 127, 255, 7, 7, 1543, 3591, 7687, 16383, 32767, 65535]
theorem spec_l6Seens.tab5 : rtab .any (opsOf Try.f71 5) = spec_l6Seens.T5 := by kernel_rfl
theorem spec_l6Seens.bits5 : waitsOk spec_l6Seens.T5.2 spec_l6Seens.B5 = true := by kernel_rfl
def spec_l6Seens.T9 : Bool × List (List Nat × List Nat) := (true, [([], []), ([], []), ([], []), ([1, 2], [1, 2]), ([3], [3]), ([4], [4]), ([], []), ([], []), ([6, 7], [6, 7]), ([8], [8]), ([0, 5, 9], [0, 5, 9]), ([10], [10]), ([11], [11]), ([11], [11]), ([], []), ([14, 12, 10, 0, 1, 2, 3, 4, 5, 6, 7, 8, 9, 10, 11, 12, 14], [12, 14]), ([13, 15, 0, 1, 2, 3, 4, 5, 6, 7, 8, 9, 10, 11, 12, 13, 14, 15], [13])])
def spec_l6Seens.B9 : List Nat := [0, 0, 0, 6, 14, 30, 0, 0, 192, 448, 1023, 2047, 4095, 4095, 0, 24575, 65535]
theorem spec_l6Seens.tab9 : rtab .any (opsOf Try.f71 9) = spec_l6Seens.T9 := by kernel_rfl
theorem spec_l6Seens.bits9 : waitsOk spec_l6Seens.T9.2 spec_l6Seens.B9 = true := by kernel_rfl
def spec_l6Seens.T10 : Bool × List (List Nat × List Nat) := (true, [([], []), ([0], [0]), ([1], [1]), ([2, 1, 1], [1, 2]), ([3], [3]), ([4, 3], [3, 4]), ([3], [3]), ([3], [3]), ([6, 7, 3], [3, 6, 7]), ([8, 3], [3, 8]), ([9, 3], [3, 9]), ([5, 10, 3], [3, 5, 10]), ([3, 11, 1], [1, 3, 11]), ([1, 12], [1, 12]), ([13, 3, 0, 1, 2, 3, 4, 5, 6, 7, 8, 9, 10, 11, 12, 13], [0, 13])])
def spec_l6Seens.B10 : List Nat := [0, 1, 3, 7, 15, 31, 15, 15, 207, 463, 975, 2047, 4095, 8191, 16383]
theorem spec_l6Seens.tab10 : rtab .any (opsOf Try.f71 10) = spec_l6Seens.T10 := by kernel_rfl
theorem spec_l6Seens.bits10 : waitsOk spec_l6Seens.T10.2 spec_l6Seens.B10 = true := by kernel_rfl
set_option maxHeartbeats 8000000 in
set_option maxRecDepth 100000 in
theorem spec_l6Seens.calls (k : Nat) (A0 : Option Addr) (c0 : Nat) (l0 : List (S88)) (A1 : Option Addr) (c1 : Nat) (l1 : List Int) (r : List (S88)) (w : World) (hr0 : Kd.C k88 w A0 l0.length l0) (hc0 : l0.length ≤ c0) (hr1 : Kd.C (Kd.int .i64) w A1 l1.length l1) (hc1 : l1.length ≤ c1) (h : spec_l6Seens.f k l0 l1 = some r) :
  Calls Try.prog 71 #[.slice A0 l0.length c0, .slice A1 l1.length c1] w fun e w' => ∃ v0_ : Value, e = .returned (v0_) ∧ Kd.R k88 88 w' w.heap.size (fun _ => True) v0_ r ∧ Below w.heap.size w w' := by
 have hu88 := Try.underlying88
 have HR0 := Aside0.mk hr0
 have HC0 := Aside0.mk hc0
 clear hr0 hc0
 have HR1 := Aside0.mk hr1
 have HC1 := Aside0.mk hc1
 clear hr1 hc1
 have HB := Aside0.mk (Below.refl w.heap.size w)
 have H : (spec_l6Seens.l0 k l0 l1 (([] : List (S88))) 0) = some r := h
 clear h
 obtain ⟨y116, hy116⟩ : ∃ y_ : List (S88), y_ = (([] : List (S88))) := ⟨_, rfl⟩
 replace H : (spec_l6Seens.l0 k l0 l1 y116 0) = some r := by first | (rw [hy116]; with_reducible exact H) | (have H2_ := (Option.bind_some _ _).symm.trans H; rw [hy116]; with_reducible exact H2_) | (have H2_ := (Option.bind_some _ _).symm.trans H; with_reducible exact H2_) | with_reducible exact H | (rw [hy116]; exact H) | exact H
 have Ny116 := Aside0.mk hy116
 clear hy116
 have H' := Aside0.mk H
 clear H
 go_enter Try.func71, Try.ntmps71
 go_wp2_with (first | ((with_reducible refine gate_dst (N := 11) rfl ?_); refine Kd.R_lit k88 _ 88 ?hg (N := 11) ?hd (xs := ([] : List (S88))) (inner := []) (ok := fun _ => True) (okp := fun _ => True) ?hr ?hp (fun _ hk => hk) trivial (Below.refl _ _) (Nat.le_refl _) (by simp) ?_; (case hd => rfl); (case hg => rfl); (case hr => first | (go_simp; done) | (go_simp; rfl)); (case hp => exact (Reps.none _ _)); intro v117 w3 ho4 hb hg_ hnew_; clear hg_ hnew_; (first | rw [← Ny116.out] at ho4 | (simp only [Int.reduceToNat] at ho4; rw [← Ny116.out] at ho4)); have n0_ := Aside0.mk (Kd.R_lower ho4 (below_size z71g)); have n1_ := Aside0.mk (below_step z71g hb); clear HB; have HO118 := n0_; have HB := n1_; clear n0_ n1_; clear hb ho4))
 go_loopg [5, 6] k (fun kq v5 v6 w' => ∃ (x5_1 : List (S88)) (x6_1 : Int), v6 = .int .i64 x6_1 ∧ Aside0 (spec_l6Seens.l0 kq l0 l1 x5_1 x6_1 = some r) ∧ Aside0 (kq ≤ k) ∧ Aside0 (Kd.R k88 88 w' w.heap.size (fun _ => True) v5 x5_1) ∧ Aside0 (Below w.heap.size w w'))
 case atStart => exact ⟨(y116), (0), z71o, H', ⟨Nat.le_refl _⟩, ⟨by (with_reducible repeat (first | apply Kd.R_alloc | apply Kd.R_drewN | apply Kd.R_drew)); exact HO118.out⟩, ⟨by repeat (first | (with_reducible first | exact HB.out | apply below_alloc | apply pw_below_drewN | apply below_drew1) | exact HB.out)⟩⟩
 case round =>
  clear H'
  try clear c1
  try clear p2
  obtain ⟨x5_1, x6_1, rfl, HA, HK1, HO_5, HB⟩ := hrel
  cases gk with
  | zero => exact absurd HA.out (by simp [spec_l6Seens.l0])
  | succ k1 =>
   have H := HA.out
   clear HA
   simp only [spec_l6Seens.l0] at H
   by_cases c5 : x6_1 < (l0.length : Int)
   {
   rw [if_pos c5] at H
   have c5b0 : decide (x6_1 < (l0.length : Int)) = true := decide_eq_true c5
   clear c5
   have HC6 := Aside0.mk H
   clear H
   go_upto_region 5 with (fail)
   go_cut [7] (fun v7 wc => ∃ (kq : Nat) (x7_5 : Bool), v7 = .bool x7_5 ∧ Aside0 (spec_l6Seens.j1 kq l0 l1 x5_1 x6_1 x7_5 = some r) ∧ Aside0 (kq ≤ k1) ∧ Aside0 (Kd.R k88 88 wc w.heap.size (fun _ => True) u5 x5_1) ∧ Aside0 (Below w.heap.size w wc))
   case first =>
    have H := HC6.out
    clear HC6
    by_cases c7 : x6_1 = 0
    {
    rw [if_pos c7] at H
    have c7b0 : (x6_1 == 0) = true := beq_iff_eq.mpr c7
    have c7b1 : (x6_1 != 0) = false := bne_eq_false_iff_eq.mpr c7
    clear c7
    (first | rw [c7b0] | (simp only [i64_w, i32_w]; rw [c7b0]) | skip)
    have H' := Aside0.mk H
    clear H
    try go_wp2
    have n0_ := Aside0.mk (Kd.R_drew HO_5.out)
    have n1_ := Aside0.mk (below_drew1 HB.out)
    clear HO_5
    clear HB
    have HO_5 := n0_
    have HB := n1_
    clear n0_ n1_
    refine start_ (n := 17) (S := fun w' => True) (ds := []) #[X, X, X, X, X, X, X, X, X, X, X, X, X, X, X, X, X] (by kernel_rfl) rfl rfl trivial (fun hHeld => ?_); refine with_tabW spec_l6Seens.tab5 spec_l6Seens.bits5 (fun HT_ HW_ => ?_)
    generalize wr.drew = w8 at HO_5 HB hHeld ⊢
    refine pure_ (i := 0) (N := some 18) (v := _) (a' := _) #[Y, X, X, X, X, X, X, X, X, X, X, X, X, X, X, X, X] rfl rfl (any_of HT_.out (by kernel_rfl)) (fun _ _ _ h => h) (Or.inl ⟨by rfl, (by intro w'; go_simp; with_reducible rfl)⟩) z71a ?_
    refine pure_ (i := 1) (N := some 19) (v := _) (a' := _) #[Y, Y, X, X, X, X, X, X, X, X, X, X, X, X, X, X, X] rfl rfl (any_of HT_.out (by kernel_rfl)) (fun _ _ _ h => h) (Or.inl ⟨by rfl, (by intro w'; go_simp; with_reducible rfl)⟩) z71a ?_
    refine pure_ (i := 2) (N := some 20) (v := _) (a' := _) #[Y, Y, Y, X, X, X, X, X, X, X, X, X, X, X, X, X, X] rfl rfl (any_of HT_.out (by kernel_rfl)) (fun _ _ _ h => h) (Or.inl ⟨by rfl, (by intro w'; go_simp; with_reducible rfl)⟩) z71a ?_
    refine pure_ (i := 3) (N := some 21) (v := undef) (a' := ?_) #[Y, Y, Y, Y, X, X, X, X, X, X, X, X, X, X, X, X, X] rfl rfl (any_of HT_.out (by kernel_rfl)) (fun _ _ _ h => h) (Or.inr ⟨by rfl, rfl⟩) ?_ ?_
    rotate_left
    exact z71a
    refine pure_ (i := 4) (N := some 22) (v := undef) (a' := ?_) #[Y, Y, Y, Y, Y, X, X, X, X, X, X, X, X, X, X, X, X] rfl rfl (any_of HT_.out (by kernel_rfl)) (fun _ _ _ h => h) (Or.inr ⟨by rfl, rfl⟩) ?_ ?_
    rotate_left
    exact z71a
    refine pure_ (i := 5) (N := some 23) (v := undef) (a' := ?_) #[Y, Y, Y, Y, Y, Y, X, X, X, X, X, X, X, X, X, X, X] rfl rfl (any_of HT_.out (by kernel_rfl)) (fun _ _ _ h => h) (Or.inr ⟨by rfl, rfl⟩) ?_ ?_
    rotate_left
    exact z71a
    refine pure_ (i := 6) (N := some 24) (v := undef) (a' := ?_) #[Y, Y, Y, Y, Y, Y, Y, X, X, X, X, X, X, X, X, X, X] rfl rfl (any_of HT_.out (by kernel_rfl)) (fun _ _ _ h => h) (Or.inr ⟨by rfl, rfl⟩) ?_ ?_
    rotate_left
    exact z71a
    refine pure_ (i := 7) (N := some 25) (v := undef) (a' := ?_) #[Y, Y, Y, Y, Y, Y, Y, Y, X, X, X, X, X, X, X, X, X] rfl rfl (any_of HT_.out (by kernel_rfl)) (fun _ _ _ h => h) (Or.inr ⟨by rfl, rfl⟩) ?_ ?_
    rotate_left
    exact z71a
    refine pure_ (i := 8) (N := some 26) (v := undef) (a' := ?_) #[Y, Y, Y, Y, Y, Y, Y, Y, Y, X, X, X, X, X, X, X, X] rfl rfl (any_of HT_.out (by kernel_rfl)) (fun _ _ _ h => h) (Or.inr ⟨by rfl, rfl⟩) ?_ ?_
    rotate_left
    exact z71a
    refine pure_ (i := 9) (N := some 27) (v := undef) (a' := ?_) #[Y, Y, Y, Y, Y, Y, Y, Y, Y, Y, X, X, X, X, X, X, X] rfl rfl (any_of HT_.out (by kernel_rfl)) (fun _ _ _ h => h) (Or.inr ⟨by rfl, rfl⟩) ?_ ?_
    rotate_left
    exact z71a
    refine pure_ (i := 10) (N := some 28) (v := undef) (a' := ?_) #[Y, Y, Y, Y, Y, Y, Y, Y, Y, Y, Y, X, X, X, X, X, X] rfl rfl (any_of HT_.out (by kernel_rfl)) (fun _ _ _ h => h) (Or.inr ⟨by rfl, rfl⟩) ?_ ?_
    rotate_left
    exact z71a
    refine pure_ (i := 11) (N := some 29) (v := undef) (a' := ?_) #[Y, Y, Y, Y, Y, Y, Y, Y, Y, Y, Y, Y, X, X, X, X, X] rfl rfl (any_of HT_.out (by kernel_rfl)) (fun _ _ _ h => h) (Or.inr ⟨by rfl, rfl⟩) ?_ ?_
    rotate_left
    exact z71a
    refine pure_ (i := 12) (N := some 30) (v := undef) (a' := ?_) #[Y, Y, Y, Y, Y, Y, Y, Y, Y, Y, Y, Y, Y, X, X, X, X] rfl rfl (any_of HT_.out (by kernel_rfl)) (fun _ _ _ h => h) (Or.inr ⟨by rfl, rfl⟩) ?_ ?_
    rotate_left
    exact z71a
    refine pure_ (i := 13) (N := some 31) (v := undef) (a' := ?_) #[Y, Y, Y, Y, Y, Y, Y, Y, Y, Y, Y, Y, Y, Y, X, X, X] rfl rfl (any_of HT_.out (by kernel_rfl)) (fun _ _ _ h => h) (Or.inr ⟨by rfl, rfl⟩) ?_ ?_
    rotate_left
    exact z71a
    refine pure_ (i := 14) (N := some 32) (v := undef) (a' := ?_) #[Y, Y, Y, Y, Y, Y, Y, Y, Y, Y, Y, Y, Y, Y, Y, X, X] rfl rfl (any_of HT_.out (by kernel_rfl)) (fun _ _ _ h => h) (Or.inr ⟨by rfl, rfl⟩) ?_ ?_
    rotate_left
    exact z71a
    refine pure_ (i := 15) (N := some 33) (v := _) (a' := _) #[Y, Y, Y, Y, Y, Y, Y, Y, Y, Y, Y, Y, Y, Y, Y, Y, X] rfl rfl (any_of HT_.out (by kernel_rfl)) (fun _ _ _ h => h) (Or.inl ⟨by rfl, (by intro w'; go_simp; with_reducible rfl)⟩) z71a ?_
    refine pure_ (i := 16) (N := some 7) (v := _) (a' := _) #[Y, Y, Y, Y, Y, Y, Y, Y, Y, Y, Y, Y, Y, Y, Y, Y, Y] rfl rfl (any_of HT_.out (by kernel_rfl)) (fun _ _ _ h => h) (Or.inl ⟨by rfl, (by intro w'; go_simp; with_reducible rfl)⟩) z71a ?_
    refine done_ (done_of HT_.out (by kernel_rfl)) ?_
    try go_wp2
    go_meet
    case rel => exact ⟨_, (true), z71o, H', ⟨by have := HK1.out; first | omega | exact Nat.le_refl _⟩, ⟨by (with_reducible repeat (first | apply Kd.R_alloc | apply Kd.R_drewN | apply Kd.R_drew)); exact HO_5.out⟩, ⟨by repeat (first | (with_reducible first | exact HB.out | apply below_alloc | apply pw_below_drewN | apply below_drew1) | exact HB.out)⟩⟩
    }
    {
    rw [if_neg c7] at H
    have c7b0 : (x6_1 == 0) = false := beq_eq_false_iff_ne.mpr c7
    have c7b1 : (x6_1 != 0) = true := bne_iff_ne.mpr c7
    (first | rw [c7b0] | (simp only [i64_w, i32_w]; rw [c7b0]) | skip)
    obtain ⟨ji9, hji9⟩ : ∃ j_ : Int, (wrap64 (x6_1 - 1)) = j_ := ⟨_, rfl⟩
    replace H : (if 0 ≤ (ji9) then (if (ji9) < (l0.length : Int) then (if 0 ≤ x6_1 then (spec_l6Seens.j1 k1 l0 l1 x5_1 x6_1 (((rd_T88 l0 (ji9)).f0).toList != ((rd_T88 l0 x6_1).f0).toList)) else (none)) else (none)) else (none)) = some r := by first | (rw [hji9] at H; exact H) | (simp only [hji9] at H ⊢; exact H)
    (try rw [hji9])
    have hji9w : (IntKind.i64.wrap (x6_1 - 1)) = ji9 := (i64_w _).trans hji9
    by_cases c10 : 0 ≤ (ji9)
    {
    rw [if_pos c10] at H
    have c10b0 : decide (0 ≤ (ji9)) = true := decide_eq_true c10
    clear c10
    by_cases c11 : (ji9) < (l0.length : Int)
    {
    rw [if_pos c11] at H
    have c11b0 : decide ((ji9) < (l0.length : Int)) = true := decide_eq_true c11
    clear c11
    by_cases c12 : 0 ≤ x6_1
    {
    rw [if_pos c12] at H
    have c12b0 : decide (0 ≤ x6_1) = true := decide_eq_true c12
    clear c12
    have H' := Aside0.mk H
    clear H
    try go_wp2
    have n0_ := Aside0.mk (Kd.R_drew HO_5.out)
    have n1_ := Aside0.mk (below_drew1 HB.out)
    clear HO_5
    clear HB
    have HO_5 := n0_
    have HB := n1_
    clear n0_ n1_
    have p119 : 0 ≤ ((ji9) : Int) := of_decide_eq_true z71k
    have q119 : (ji9) < (l0.length : Int) := of_decide_eq_true z71k
    obtain ⟨ad119, e119, hx119_0, hx119_1, hx119_2, hx119_3⟩ := at_T88 HR0.out (ji9) p119 q119
    have hw119_3 := hx119_3
    have hw119_2 := hx119_2
    have hw119_1 := hx119_1
    have hw119_0 := hx119_0
    cases e119
    replace hx119_0 := (HB.out.cell (World.block_lt_of_cell? w _ hx119_0)).trans hx119_0
    replace hx119_1 := (HB.out.cell (World.block_lt_of_cell? w _ hx119_1)).trans hx119_1
    replace hx119_2 := (HB.out.cell (World.block_lt_of_cell? w _ hx119_2)).trans hx119_2
    replace hx119_3 := (HB.out.cell (World.block_lt_of_cell? w _ hx119_3)).trans hx119_3
    replace p119 := eq_true p119
    replace q119 := eq_true q119
    have p120 : 0 ≤ (x6_1 : Int) := of_decide_eq_true z71k
    have q120 : x6_1 < (l0.length : Int) := of_decide_eq_true z71k
    obtain ⟨ad120, e120, hx120_0, hx120_1, hx120_2, hx120_3⟩ := at_T88 HR0.out x6_1 p120 q120
    have hw120_3 := hx120_3
    have hw120_2 := hx120_2
    have hw120_1 := hx120_1
    have hw120_0 := hx120_0
    obtain rfl : ad119 = ad120 := (by injection e120)
    replace hx120_0 := (HB.out.cell (World.block_lt_of_cell? w _ hx120_0)).trans hx120_0
    replace hx120_1 := (HB.out.cell (World.block_lt_of_cell? w _ hx120_1)).trans hx120_1
    replace hx120_2 := (HB.out.cell (World.block_lt_of_cell? w _ hx120_2)).trans hx120_2
    replace hx120_3 := (HB.out.cell (World.block_lt_of_cell? w _ hx120_3)).trans hx120_3
    replace p120 := eq_true p120
    replace q120 := eq_true q120
    refine start_ (n := 17) (S := fun w' => w'.cell? (ad119.add (((ji9)).toNat * 4)) = some (.string ((rd_T88 l0 (ji9)).f0)) ∧ w'.cell? ⟨(ad119.add (((ji9)).toNat * 4)).block, (ad119.add (((ji9)).toNat * 4)).off + 1, none⟩ = some (.string ((rd_T88 l0 (ji9)).f1)) ∧ w'.cell? ⟨(ad119.add (((ji9)).toNat * 4)).block, (ad119.add (((ji9)).toNat * 4)).off + 2, none⟩ = some (.int .i64 ((rd_T88 l0 (ji9)).f2)) ∧ w'.cell? ⟨(ad119.add (((ji9)).toNat * 4)).block, (ad119.add (((ji9)).toNat * 4)).off + 3, none⟩ = some (.bool ((rd_T88 l0 (ji9)).f3)) ∧ w'.cell? (ad119.add ((x6_1).toNat * 4)) = some (.string ((rd_T88 l0 x6_1).f0)) ∧ w'.cell? ⟨(ad119.add ((x6_1).toNat * 4)).block, (ad119.add ((x6_1).toNat * 4)).off + 1, none⟩ = some (.string ((rd_T88 l0 x6_1).f1)) ∧ w'.cell? ⟨(ad119.add ((x6_1).toNat * 4)).block, (ad119.add ((x6_1).toNat * 4)).off + 2, none⟩ = some (.int .i64 ((rd_T88 l0 x6_1).f2)) ∧ w'.cell? ⟨(ad119.add ((x6_1).toNat * 4)).block, (ad119.add ((x6_1).toNat * 4)).off + 3, none⟩ = some (.bool ((rd_T88 l0 x6_1).f3))) (ds := []) #[X, X, X, X, X, X, X, X, X, X, X, X, X, X, X, X, X] (by kernel_rfl) rfl rfl ⟨((HB.out.cell (World.block_lt_of_cell? w _ hw119_0)).trans hw119_0), ((HB.out.cell (World.block_lt_of_cell? w _ hw119_1)).trans hw119_1), ((HB.out.cell (World.block_lt_of_cell? w _ hw119_2)).trans hw119_2), ((HB.out.cell (World.block_lt_of_cell? w _ hw119_3)).trans hw119_3), ((HB.out.cell (World.block_lt_of_cell? w _ hw120_0)).trans hw120_0), ((HB.out.cell (World.block_lt_of_cell? w _ hw120_1)).trans hw120_1), ((HB.out.cell (World.block_lt_of_cell? w _ hw120_2)).trans hw120_2), ((HB.out.cell (World.block_lt_of_cell? w _ hw120_3)).trans hw120_3)⟩ (fun hHeld => ?_); refine with_tabW spec_l6Seens.tab5 spec_l6Seens.bits5 (fun HT_ HW_ => ?_)
    generalize wr.drew = w13 at HO_5 HB hx119_0 hx119_1 hx119_2 hx119_3 hx120_0 hx120_1 hx120_2 hx120_3 hHeld ⊢
    refine pure_ (i := 0) (N := some 18) (v := _) (a' := _) #[Y, X, X, X, X, X, X, X, X, X, X, X, X, X, X, X, X] rfl rfl (any_of HT_.out (by kernel_rfl)) (fun _ _ _ h => h) (Or.inl ⟨by rfl, (by intro w'; go_simp; with_reducible rfl)⟩) z71a ?_
    refine pure_ (i := 1) (N := some 19) (v := _) (a' := _) #[Y, Y, X, X, X, X, X, X, X, X, X, X, X, X, X, X, X] rfl rfl (any_of HT_.out (by kernel_rfl)) (fun _ _ _ h => h) (Or.inl ⟨by rfl, (by intro w'; go_simp; with_reducible rfl)⟩) z71a ?_
    refine pure_ (i := 2) (N := some 20) (v := _) (a' := _) #[Y, Y, Y, X, X, X, X, X, X, X, X, X, X, X, X, X, X] rfl rfl (any_of HT_.out (by kernel_rfl)) (fun _ _ _ h => h) (Or.inl ⟨by rfl, (by intro w'; go_simp; with_reducible rfl)⟩) z71a ?_
    refine pure_ (i := 3) (N := some 21) (v := _) (a' := _) #[Y, Y, Y, Y, X, X, X, X, X, X, X, X, X, X, X, X, X] rfl rfl (any_of HT_.out (by kernel_rfl)) (fun _ _ _ h => h) (Or.inl ⟨by rfl, (by intro w'; go_simp; with_reducible rfl)⟩) z71a ?_
    refine pure_ (i := 4) (N := some 22) (v := _) (a' := _) #[Y, Y, Y, Y, Y, X, X, X, X, X, X, X, X, X, X, X, X] rfl rfl (any_of HT_.out (by kernel_rfl)) (fun _ _ _ h => h) (Or.inl ⟨by rfl, (by intro w'; go_simp; with_reducible rfl)⟩) z71a ?_
    refine pure_ (i := 5) (N := some 23) (v := _) (a' := _) #[Y, Y, Y, Y, Y, Y, X, X, X, X, X, X, X, X, X, X, X] rfl rfl (any_of HT_.out (by kernel_rfl)) (fun _ _ _ h => h) (Or.inl ⟨by rfl, (by intro w'; go_simp; with_reducible rfl)⟩) z71a ?_
    refine pure_ (i := 6) (N := some 24) (v := _) (a' := _) #[Y, Y, Y, Y, Y, Y, Y, X, X, X, X, X, X, X, X, X, X] rfl rfl (any_of HT_.out (by kernel_rfl)) (fun _ _ _ h => h) (Or.inl ⟨by rfl, (by intro w'; go_simp; with_reducible rfl)⟩) z71a ?_
    refine pure_ (i := 7) (N := some 25) (v := _) (a' := _) #[Y, Y, Y, Y, Y, Y, Y, Y, X, X, X, X, X, X, X, X, X] rfl rfl (any_of HT_.out (by kernel_rfl)) (fun _ _ _ h => h) (Or.inl ⟨by rfl, (by intro w'; go_simp; with_reducible rfl)⟩) z71a ?_
    refine pure_ (i := 9) (N := some 27) (v := _) (a' := _) #[Y, Y, Y, Y, Y, Y, Y, Y, X, Y, X, X, X, X, X, X, X] rfl rfl (any_of HT_.out (by kernel_rfl)) (fun _ _ _ h => h) (Or.inl ⟨by rfl, (by intro w'; go_simp; with_reducible rfl)⟩) z71a ?_
    refine pure_ (i := 10) (N := some 28) (v := _) (a' := _) #[Y, Y, Y, Y, Y, Y, Y, Y, X, Y, Y, X, X, X, X, X, X] rfl rfl (any_of HT_.out (by kernel_rfl)) (fun _ _ _ h => h) (Or.inl ⟨by rfl, (by intro w'; go_simp; with_reducible rfl)⟩) z71a ?_
    refine pure_ (i := 11) (N := some 29) (v := _) (a' := _) #[Y, Y, Y, Y, Y, Y, Y, Y, X, Y, Y, Y, X, X, X, X, X] rfl rfl (any_of HT_.out (by kernel_rfl)) (fun _ _ _ h => h) (Or.inl ⟨by rfl, (by intro w'; go_simp; with_reducible rfl)⟩) z71a ?_
    refine pure_ (i := 12) (N := some 30) (v := _) (a' := _) #[Y, Y, Y, Y, Y, Y, Y, Y, X, Y, Y, Y, Y, X, X, X, X] rfl rfl (any_of HT_.out (by kernel_rfl)) (fun _ _ _ h => h) (Or.inl ⟨by rfl, (by intro w'; go_simp; with_reducible rfl)⟩) z71a ?_
    refine take_ (i := 8) (N := some 26) (v := _) (a' := _) #[Y, Y, Y, Y, Y, Y, Y, Y, Y, Y, Y, Y, Y, X, X, X, X] rfl rfl (take_ofW HT_.out HW_.out (by kernel_rfl)) (fun _ _ _ h => h) (Or.inl ⟨by rfl, (by rintro w' ⟨s0, s1, s2, s3, s4, s5, s6, s7⟩; go_simp; with_reducible rfl)⟩) hHeld z71a ?_
    refine take_ (i := 13) (N := some 31) (v := _) (a' := _) #[Y, Y, Y, Y, Y, Y, Y, Y, Y, Y, Y, Y, Y, Y, X, X, X] rfl rfl (take_ofW HT_.out HW_.out (by kernel_rfl)) (fun _ _ _ h => h) (Or.inl ⟨by rfl, (by rintro w' ⟨s0, s1, s2, s3, s4, s5, s6, s7⟩; go_simp; with_reducible rfl)⟩) hHeld z71a ?_
    refine pure_ (i := 14) (N := some 32) (v := _) (a' := _) #[Y, Y, Y, Y, Y, Y, Y, Y, Y, Y, Y, Y, Y, Y, Y, X, X] rfl rfl (any_of HT_.out (by kernel_rfl)) (fun _ _ _ h => h) (Or.inl ⟨by rfl, (by intro w'; go_simp; with_reducible rfl)⟩) z71a ?_
    refine pure_ (i := 15) (N := some 33) (v := _) (a' := _) #[Y, Y, Y, Y, Y, Y, Y, Y, Y, Y, Y, Y, Y, Y, Y, Y, X] rfl rfl (any_of HT_.out (by kernel_rfl)) (fun _ _ _ h => h) (Or.inl ⟨by rfl, (by intro w'; go_simp; with_reducible rfl)⟩) z71a ?_
    refine pure_ (i := 16) (N := some 7) (v := _) (a' := _) #[Y, Y, Y, Y, Y, Y, Y, Y, Y, Y, Y, Y, Y, Y, Y, Y, Y] rfl rfl (any_of HT_.out (by kernel_rfl)) (fun _ _ _ h => h) (Or.inl ⟨by rfl, (by intro w'; go_simp; with_reducible rfl)⟩) z71a ?_
    refine done_ (done_of HT_.out (by kernel_rfl)) ?_
    try go_wp2
    go_meet
    case rel => exact ⟨_, ((((rd_T88 l0 (ji9)).f0).toList != ((rd_T88 l0 x6_1).f0).toList)), (by first | rfl | (simp; done) | (simp only [← hji9] <;> (first | rfl | simp)) | (simp [*]; done)), H', ⟨by have := HK1.out; first | omega | exact Nat.le_refl _⟩, ⟨by (with_reducible repeat (first | apply Kd.R_alloc | apply Kd.R_drewN | apply Kd.R_drew)); exact HO_5.out⟩, ⟨by repeat (first | (with_reducible first | exact HB.out | apply below_alloc | apply pw_below_drewN | apply below_drew1) | exact HB.out)⟩⟩
    }
    {
    rw [if_neg c12] at H
    exact absurd H (by simp)
    }
    }
    {
    rw [if_neg c11] at H
    exact absurd H (by simp)
    }
    }
    {
    rw [if_neg c10] at H
    exact absurd H (by simp)
    }
    }
   case rest =>
    clear HC6
    try clear c1
    try clear p1
    try clear q1
    try clear hx1
    try clear p2
    try clear c5
    try clear c5b0
    try clear p6
    try clear c7
    try clear c7b0
    try clear c7b1
    try clear c10
    try clear c10b0
    try clear c11
    try clear c11b0
    try clear p11
    try clear q11
    try clear hx11
    try clear c12
    try clear c12b0
    try clear p12
    try clear q12
    try clear hx12
    try clear hx119_0
    try clear hx119_1
    try clear hx119_2
    try clear hx119_3
    try clear hx120_0
    try clear hx120_1
    try clear hx120_2
    try clear hx120_3
    try clear p119
    try clear p120
    try clear p2
    try clear q119
    try clear q120
    obtain ⟨kq, x7_5, rfl, HA, HJ5, HO_5, HB⟩ := hcut
    cases kq with
    | zero => exact absurd HA.out (by simp [spec_l6Seens.j1])
    | succ kj5 =>
     have H := HA.out
     clear HA
     simp only [spec_l6Seens.j1] at H
     have H' := Aside0.mk H
     clear H
     go_wp2
     go_loopg [7, 8] kj5 (fun kq v7 v8 w' => ∃ (x7_3 : Bool) (x8_3 : Int), v7 = .bool x7_3 ∧ v8 = .int .i64 x8_3 ∧ Aside0 (spec_l6Seens.l1 kq l0 l1 x5_1 x6_1 x7_3 x8_3 = some r) ∧ Aside0 (kq ≤ kj5) ∧ Aside0 (Kd.R k88 88 w' w.heap.size (fun _ => True) u5 x5_1) ∧ Aside0 (Below w.heap.size w w'))
     case atStart => exact ⟨(x7_5), (0), z71o, z71o, H', ⟨Nat.le_refl _⟩, ⟨by (with_reducible repeat (first | apply Kd.R_alloc | apply Kd.R_drewN | apply Kd.R_drew)); exact HO_5.out⟩, ⟨by repeat (first | (with_reducible first | exact HB.out | apply below_alloc | apply pw_below_drewN | apply below_drew1) | exact HB.out)⟩⟩
     case round =>
      clear H'
      try clear c1
      try clear p1
      try clear q1
      try clear hx1
      try clear p2
      try clear c5
      try clear c5b0
      try clear p6
      try clear c7
      try clear c7b0
      try clear c7b1
      try clear c10
      try clear c10b0
      try clear c11
      try clear c11b0
      try clear p11
      try clear q11
      try clear hx11
      try clear c12
      try clear c12b0
      try clear p12
      try clear q12
      try clear hx12
      try clear hx119_0
      try clear hx119_1
      try clear hx119_2
      try clear hx119_3
      try clear hx120_0
      try clear hx120_1
      try clear hx120_2
      try clear hx120_3
      try clear p1
      try clear p11
      try clear p119
      try clear p12
      try clear p120
      try clear p2
      try clear p6
      try clear q1
      try clear q11
      try clear q119
      try clear q12
      try clear q120
      obtain ⟨x7_3, x8_3, rfl, rfl, HA, HK3, HO_5, HB⟩ := hrel
      cases gk with
      | zero => exact absurd HA.out (by simp [spec_l6Seens.l1])
      | succ k3 =>
       have H := HA.out
       clear HA
       simp only [spec_l6Seens.l1] at H
       by_cases c14 : x8_3 < (l1.length : Int)
       {
       rw [if_pos c14] at H
       have c14b0 : decide (x8_3 < (l1.length : Int)) = true := decide_eq_true c14
       clear c14
       by_cases c15 : 0 ≤ x6_1
       {
       rw [if_pos c15] at H
       have c15b0 : decide (0 ≤ x6_1) = true := decide_eq_true c15
       clear c15
       by_cases c16 : x6_1 < (l0.length : Int)
       {
       rw [if_pos c16] at H
       have c16b0 : decide (x6_1 < (l0.length : Int)) = true := decide_eq_true c16
       clear c16
       by_cases c17 : 0 ≤ x8_3
       {
       rw [if_pos c17] at H
       have c17b0 : decide (0 ≤ x8_3) = true := decide_eq_true c17
       clear c17
       replace H := Option.bind_eq_some_iff.mp H
       obtain ⟨⟨t123, t124, t125, t126, t127⟩, A180, H⟩ := H
       replace H : (if x7_3 = true then (spec_l6Seens.l1 k3 l0 l1 x5_1 x6_1 true (wrap64 (x8_3 + 1))) else (if t127 = true then (spec_l6Seens.l1 k3 l0 l1 x5_1 x6_1 (t125 == ((rd_T88 l0 x6_1).f2)) (wrap64 (x8_3 + 1))) else (spec_l6Seens.l1 k3 l0 l1 x5_1 x6_1 false (wrap64 (x8_3 + 1))))) = some r := H
       have A18 := Aside0.mk A180
       clear A180
       by_cases c19 : x7_3 = true
       {
       subst c19
       have H1 : (spec_l6Seens.l1 k3 l0 l1 x5_1 x6_1 true (wrap64 (x8_3 + 1))) = some r := by rw [if_pos rfl] at H; exact H
       clear H
       have H := H1
       clear H1
       have H' := Aside0.mk H
       clear H
       try go_wp2
       have n0_ := Aside0.mk (Kd.R_drew HO_5.out)
       have n1_ := Aside0.mk (below_drew1 HB.out)
       clear HO_5
       clear HB
       have HO_5 := n0_
       have HB := n1_
       clear n0_ n1_
       have p121 : 0 ≤ (x6_1 : Int) := of_decide_eq_true z71k
       have q121 : x6_1 < (l0.length : Int) := of_decide_eq_true z71k
       obtain ⟨ad121, e121, hx121_0, hx121_1, hx121_2, hx121_3⟩ := at_T88 HR0.out x6_1 p121 q121
       have hw121_3 := hx121_3
       have hw121_2 := hx121_2
       have hw121_1 := hx121_1
       have hw121_0 := hx121_0
       cases e121
       replace hx121_0 := (HB.out.cell (World.block_lt_of_cell? w _ hx121_0)).trans hx121_0
       replace hx121_1 := (HB.out.cell (World.block_lt_of_cell? w _ hx121_1)).trans hx121_1
       replace hx121_2 := (HB.out.cell (World.block_lt_of_cell? w _ hx121_2)).trans hx121_2
       replace hx121_3 := (HB.out.cell (World.block_lt_of_cell? w _ hx121_3)).trans hx121_3
       replace p121 := eq_true p121
       replace q121 := eq_true q121
       have p122 : 0 ≤ (x8_3 : Int) := of_decide_eq_true z71k
       have q122 : x8_3 < (l1.length : Int) := of_decide_eq_true z71k
       obtain ⟨ad122, e122, hx122_0⟩ := Kd.at_int HR1.out x8_3 p122 q122
       have hw122_0 := hx122_0
       cases e122
       replace hx122_0 := (HB.out.cell (World.block_lt_of_cell? w _ hx122_0)).trans hx122_0
       replace p122 := eq_true p122
       replace q122 := eq_true q122
       refine start_ (n := 17) (S := fun w' => w'.cell? (ad121.add ((x6_1).toNat * 4)) = some (.string ((rd_T88 l0 x6_1).f0)) ∧ w'.cell? ⟨(ad121.add ((x6_1).toNat * 4)).block, (ad121.add ((x6_1).toNat * 4)).off + 1, none⟩ = some (.string ((rd_T88 l0 x6_1).f1)) ∧ w'.cell? ⟨(ad121.add ((x6_1).toNat * 4)).block, (ad121.add ((x6_1).toNat * 4)).off + 2, none⟩ = some (.int .i64 ((rd_T88 l0 x6_1).f2)) ∧ w'.cell? ⟨(ad121.add ((x6_1).toNat * 4)).block, (ad121.add ((x6_1).toNat * 4)).off + 3, none⟩ = some (.bool ((rd_T88 l0 x6_1).f3)) ∧ w'.cell? (ad122.add (x8_3).toNat) = some (.int .i64 (rd l1 x8_3))) (ds := []) #[X, X, X, X, X, X, X, X, X, X, X, X, X, X, X, X, X] (by kernel_rfl) rfl rfl ⟨((HB.out.cell (World.block_lt_of_cell? w _ hw121_0)).trans hw121_0), ((HB.out.cell (World.block_lt_of_cell? w _ hw121_1)).trans hw121_1), ((HB.out.cell (World.block_lt_of_cell? w _ hw121_2)).trans hw121_2), ((HB.out.cell (World.block_lt_of_cell? w _ hw121_3)).trans hw121_3), ((HB.out.cell (World.block_lt_of_cell? w _ hw122_0)).trans hw122_0)⟩ (fun hHeld => ?_); refine with_tabW spec_l6Seens.tab9 spec_l6Seens.bits9 (fun HT_ HW_ => ?_)
       generalize wr.drew = w20 at HO_5 HB hx121_0 hx121_1 hx121_2 hx121_3 hx122_0 hHeld ⊢
       refine pure_ (i := 0) (N := some 41) (v := _) (a' := _) #[Y, X, X, X, X, X, X, X, X, X, X, X, X, X, X, X, X] rfl rfl (any_of HT_.out (by kernel_rfl)) (fun _ _ _ h => h) (Or.inl ⟨by rfl, (by intro w'; go_simp; with_reducible rfl)⟩) z71a ?_
       refine pure_ (i := 1) (N := some 42) (v := _) (a' := _) #[Y, Y, X, X, X, X, X, X, X, X, X, X, X, X, X, X, X] rfl rfl (any_of HT_.out (by kernel_rfl)) (fun _ _ _ h => h) (Or.inl ⟨by rfl, (by intro w'; go_simp; with_reducible rfl)⟩) z71a ?_
       refine pure_ (i := 2) (N := some 43) (v := _) (a' := _) #[Y, Y, Y, X, X, X, X, X, X, X, X, X, X, X, X, X, X] rfl rfl (any_of HT_.out (by kernel_rfl)) (fun _ _ _ h => h) (Or.inl ⟨by rfl, (by intro w'; go_simp; with_reducible rfl)⟩) z71a ?_
       refine pure_ (i := 3) (N := some 44) (v := _) (a' := _) #[Y, Y, Y, Y, X, X, X, X, X, X, X, X, X, X, X, X, X] rfl rfl (any_of HT_.out (by kernel_rfl)) (fun _ _ _ h => h) (Or.inl ⟨by rfl, (by intro w'; go_simp; with_reducible rfl)⟩) z71a ?_
       refine pure_ (i := 4) (N := some 45) (v := _) (a' := _) #[Y, Y, Y, Y, Y, X, X, X, X, X, X, X, X, X, X, X, X] rfl rfl (any_of HT_.out (by kernel_rfl)) (fun _ _ _ h => h) (Or.inl ⟨by rfl, (by intro w'; go_simp; with_reducible rfl)⟩) z71a ?_
       refine pure_ (i := 6) (N := some 47) (v := _) (a' := _) #[Y, Y, Y, Y, Y, X, Y, X, X, X, X, X, X, X, X, X, X] rfl rfl (any_of HT_.out (by kernel_rfl)) (fun _ _ _ h => h) (Or.inl ⟨by rfl, (by intro w'; go_simp; with_reducible rfl)⟩) z71a ?_
       refine pure_ (i := 7) (N := some 48) (v := _) (a' := _) #[Y, Y, Y, Y, Y, X, Y, Y, X, X, X, X, X, X, X, X, X] rfl rfl (any_of HT_.out (by kernel_rfl)) (fun _ _ _ h => h) (Or.inl ⟨by rfl, (by intro w'; go_simp; with_reducible rfl)⟩) z71a ?_
       refine pure_ (i := 8) (N := some 49) (v := _) (a' := _) #[Y, Y, Y, Y, Y, X, Y, Y, Y, X, X, X, X, X, X, X, X] rfl rfl (any_of HT_.out (by kernel_rfl)) (fun _ _ _ h => h) (Or.inl ⟨by rfl, (by intro w'; go_simp; with_reducible rfl)⟩) z71a ?_
       refine take_ (i := 5) (N := some 46) (v := _) (a' := _) #[Y, Y, Y, Y, Y, Y, Y, Y, Y, X, X, X, X, X, X, X, X] rfl rfl (take_ofW HT_.out HW_.out (by kernel_rfl)) (fun _ _ _ h => h) (Or.inl ⟨by rfl, (by rintro w' ⟨s0, s1, s2, s3, s4⟩; go_simp; with_reducible rfl)⟩) hHeld z71a ?_
       refine take_ (i := 9) (N := some 50) (v := _) (a' := _) #[Y, Y, Y, Y, Y, Y, Y, Y, Y, Y, X, X, X, X, X, X, X] rfl rfl (take_ofW HT_.out HW_.out (by kernel_rfl)) (fun _ _ _ h => h) (Or.inl ⟨by rfl, (by rintro w' ⟨s0, s1, s2, s3, s4⟩; go_simp; with_reducible rfl)⟩) hHeld z71a ?_
       refine join_ (σ := Nat) 2 #[Y, Y, Y, Y, Y, Y, Y, Y, Y, Y, Y, Y, Y, Y, Y, X, X] (fun s_ => [(51, .tuple #[.agg #[.string t123, .string t124, .int .i64 t125, .bool t126], .bool t127]), (9, .pointer (some ⟨s_, 0, none⟩)), (40, .tuple #[.agg #[.string t123, .string t124, .int .i64 t125, .bool t126], .bool t127]), (52, .agg #[.string t123, .string t124, .int .i64 t125, .bool t126]), (53, .bool t127)]) (fun s_ w' => (w'.cell? (ad121.add ((x6_1).toNat * 4)) = some (.string ((rd_T88 l0 x6_1).f0)) ∧ w'.cell? ⟨(ad121.add ((x6_1).toNat * 4)).block, (ad121.add ((x6_1).toNat * 4)).off + 1, none⟩ = some (.string ((rd_T88 l0 x6_1).f1)) ∧ w'.cell? ⟨(ad121.add ((x6_1).toNat * 4)).block, (ad121.add ((x6_1).toNat * 4)).off + 2, none⟩ = some (.int .i64 ((rd_T88 l0 x6_1).f2)) ∧ w'.cell? ⟨(ad121.add ((x6_1).toNat * 4)).block, (ad121.add ((x6_1).toNat * 4)).off + 3, none⟩ = some (.bool ((rd_T88 l0 x6_1).f3)) ∧ w'.cell? (ad122.add (x8_3).toNat) = some (.int .i64 (rd l1 x8_3))) ∧ (Kd.R k88 88 w' w.heap.size (fun k_ => k_ ≠ s_) u5 x5_1) ∧ (w'.heap[s_]? = some (.cells #[.string (⟨#[]⟩ : ByteArray), .string (⟨#[]⟩ : ByteArray), .int .i64 0, .bool false] 88 (0, 0))) ∧ (w.heap.size ≤ s_) ∧ (w.heap.size ≤ s_) ∧ (Below w.heap.size w w')) ?_ ?_
       rotate_left
       {
       intro hCont
       refine two_ (i := 10) (j := 14) (Ni := some 51) (Nj := some 9) #[Y, Y, Y, Y, Y, Y, Y, Y, Y, Y, Y, X, X, X, X, X, X] #[Y, Y, Y, Y, Y, Y, Y, Y, Y, Y, X, X, X, X, Y, X, X] rfl rfl rfl rfl (two_of HT_.out (by kernel_rfl)) (by decide) (by decide) (fun K hK => ?_) (fun K hK => ?_)
       {
       skip
       refine goes_ Try.func95 (by kernel_rfl) rfl #[.slice (some ad121) l0.length c0, .string ((rd_T88 l0 x6_1).f0), .int .i64 (rd l1 x8_3)] (by rfl) rfl rfl z71m ?_
       with_reducible refine (spec_l3Seen.calls k3 _ _ l0 ((rd_T88 l0 x6_1).f0) (rd l1 x8_3) t123 t124 t125 t126 t127 _ ?side1 ?side2 A18.out).mono ?_
       (case side1 => exact z71l)
       (case side2 => exact HC0.out)
       rintro e w21 ⟨rfl, hb⟩
       refine ⟨_, rfl, ?_⟩
       have n0_ := Aside0.mk (Kd.R_below z71i hb)
       have n1_ := Aside0.mk (below_step z71g hb)
       clear HO_5
       clear HB
       have HO_5 := n0_
       have HB := n1_
       clear n0_ n1_
       (try clear hb)
       (try clear hb2)
       (try clear hk)
       (try clear hi)
       refine hK.out _ _ ⟨((HB.out.cell (World.block_lt_of_cell? w _ hw121_0)).trans hw121_0), ((HB.out.cell (World.block_lt_of_cell? w _ hw121_1)).trans hw121_1), ((HB.out.cell (World.block_lt_of_cell? w _ hw121_2)).trans hw121_2), ((HB.out.cell (World.block_lt_of_cell? w _ hw121_3)).trans hw121_3), ((HB.out.cell (World.block_lt_of_cell? w _ hw122_0)).trans hw122_0)⟩ (fun hHeld => ?_)
       clear hK K
       refine norm_ (a' := ?_) ?_ ?_
       rotate_left
       {
       show Act.put _ (some 51) _ = _
       simp only [Act.put, List.setIfInBounds_toArray, List.set_cons_zero, List.set_cons_succ, i64_w, i32_w]
       rfl
       }
       refine pure_ (i := 11) (N := some 40) (v := _) (a' := _) #[Y, Y, Y, Y, Y, Y, Y, Y, Y, Y, Y, Y, X, X, X, X, X] rfl rfl (any_of HT_.out (by kernel_rfl)) (fun _ _ _ h => h) (Or.inl ⟨by rfl, (by intro w'; go_simp; with_reducible rfl)⟩) z71a ?_
       refine pure_ (i := 12) (N := some 52) (v := _) (a' := _) #[Y, Y, Y, Y, Y, Y, Y, Y, Y, Y, Y, Y, Y, X, X, X, X] rfl rfl (any_of HT_.out (by kernel_rfl)) (fun _ _ _ h => h) (Or.inl ⟨by rfl, (by intro w'; go_simp; with_reducible rfl)⟩) z71a ?_
       refine pure_ (i := 13) (N := some 53) (v := _) (a' := _) #[Y, Y, Y, Y, Y, Y, Y, Y, Y, Y, Y, Y, Y, Y, X, X, X] rfl rfl (any_of HT_.out (by kernel_rfl)) (fun _ _ _ h => h) (Or.inl ⟨by rfl, (by intro w'; go_simp; with_reducible rfl)⟩) z71a ?_
       refine one_ (i := 14) (N := some 9) #[Y, Y, Y, Y, Y, Y, Y, Y, Y, Y, Y, Y, Y, Y, Y, X, X] rfl rfl (one_of HT_.out (by kernel_rfl)) (by decide) (fun K hK => ?_)
       refine box_step ?hg (N := 9) ?hd (cs := #[.string (⟨#[]⟩ : ByteArray), .string (⟨#[]⟩ : ByteArray), .int .i64 0, .bool false]) (t := 88) ?hr ?_; (case hd => rfl); (case hg => rfl); (case hr => first | (go_simp; done) | (go_simp; rfl))
       intro gb128 hg w22 hbox hb
       have n0_ := Aside0.mk (Kd.R_below (Kd.R_elderB z71i gb128 (Nat.le_of_eq hg.symm)) hb)
       have n1_ := Aside0.mk (below_step z71g hb)
       have n2_ := Aside0.mk (hbox)
       have n3_ := Aside0.mk ((by rw [hg]; exact (below_size z71g) : w.heap.size ≤ gb128))
       have n4_ := Aside0.mk ((by rw [hg]; exact (below_size z71g) : w.heap.size ≤ gb128))
       clear HO_5
       clear HB
       have HO_5 := n0_
       have HB := n1_
       have BK128 := n2_
       have GW128 := n3_
       have GE128 := n4_
       clear n0_ n1_ n2_ n3_ n4_
       clear hb hbox hg
       refine hK.out _ _ ⟨((HB.out.cell (World.block_lt_of_cell? w _ hw121_0)).trans hw121_0), ((HB.out.cell (World.block_lt_of_cell? w _ hw121_1)).trans hw121_1), ((HB.out.cell (World.block_lt_of_cell? w _ hw121_2)).trans hw121_2), ((HB.out.cell (World.block_lt_of_cell? w _ hw121_3)).trans hw121_3), ((HB.out.cell (World.block_lt_of_cell? w _ hw122_0)).trans hw122_0)⟩ (fun hHeld => ?_)
       clear hK K
       refine norm_ (a' := ?_) ?_ ?_
       rotate_left
       {
       show Act.put _ (some 9) _ = _
       simp only [Act.put, List.setIfInBounds_toArray, List.set_cons_zero, List.set_cons_succ, i64_w, i32_w]
       rfl
       }
       exact norm_ z71p (hCont (gb128) _ ⟨hHeld, z71n, z71j, GW128.out, GE128.out, z71h⟩)
       }
       {
       skip
       refine box_step ?hg (N := 9) ?hd (cs := #[.string (⟨#[]⟩ : ByteArray), .string (⟨#[]⟩ : ByteArray), .int .i64 0, .bool false]) (t := 88) ?hr ?_; (case hd => rfl); (case hg => rfl); (case hr => first | (go_simp; done) | (go_simp; rfl))
       intro gb128 hg w21 hbox hb
       have n0_ := Aside0.mk (Kd.R_below (Kd.R_elderB z71i gb128 (Nat.le_of_eq hg.symm)) hb)
       have n1_ := Aside0.mk (below_step z71g hb)
       have n2_ := Aside0.mk (hbox)
       have n3_ := Aside0.mk ((by rw [hg]; exact (below_size z71g) : w.heap.size ≤ gb128))
       have n4_ := Aside0.mk ((by rw [hg]; exact (below_size z71g) : w.heap.size ≤ gb128))
       clear HO_5
       clear HB
       have HO_5 := n0_
       have HB := n1_
       have BK128 := n2_
       have GW128 := n3_
       have GE128 := n4_
       clear n0_ n1_ n2_ n3_ n4_
       clear hb hbox hg
       refine hK.out _ _ ⟨((HB.out.cell (World.block_lt_of_cell? w _ hw121_0)).trans hw121_0), ((HB.out.cell (World.block_lt_of_cell? w _ hw121_1)).trans hw121_1), ((HB.out.cell (World.block_lt_of_cell? w _ hw121_2)).trans hw121_2), ((HB.out.cell (World.block_lt_of_cell? w _ hw121_3)).trans hw121_3), ((HB.out.cell (World.block_lt_of_cell? w _ hw122_0)).trans hw122_0)⟩ (fun hHeld => ?_)
       clear hK K
       refine norm_ (a' := ?_) ?_ ?_
       rotate_left
       {
       show Act.put _ (some 9) _ = _
       simp only [Act.put, List.setIfInBounds_toArray, List.set_cons_zero, List.set_cons_succ, i64_w, i32_w]
       rfl
       }
       refine one_ (i := 10) (N := some 51) #[Y, Y, Y, Y, Y, Y, Y, Y, Y, Y, Y, X, X, X, Y, X, X] rfl rfl (one_of HT_.out (by kernel_rfl)) (by decide) (fun K hK => ?_)
       refine goes_ Try.func95 (by kernel_rfl) rfl #[.slice (some ad121) l0.length c0, .string ((rd_T88 l0 x6_1).f0), .int .i64 (rd l1 x8_3)] (by rfl) rfl rfl z71m ?_
       with_reducible refine (spec_l3Seen.calls k3 _ _ l0 ((rd_T88 l0 x6_1).f0) (rd l1 x8_3) t123 t124 t125 t126 t127 _ ?side1 ?side2 A18.out).mono ?_
       (case side1 => exact z71l)
       (case side2 => exact HC0.out)
       rintro e w22 ⟨rfl, hb⟩
       refine ⟨_, rfl, ?_⟩
       have n0_ := Aside0.mk (Kd.R_below z71i hb)
       have n1_ := Aside0.mk (blk_below (g := gb128) (o := .cells #[.string (⟨#[]⟩ : ByteArray), .string (⟨#[]⟩ : ByteArray), .int .i64 0, .bool false] 88 (0, 0)) z71j hb)
       have n2_ := Aside0.mk (below_step z71h hb)
       clear HO_5
       clear BK128
       clear HB
       have HO_5 := n0_
       have BK128 := n1_
       have HB := n2_
       clear n0_ n1_ n2_
       (try clear hb)
       (try clear hb2)
       (try clear hk)
       (try clear hi)
       refine hK.out _ _ ⟨((HB.out.cell (World.block_lt_of_cell? w _ hw121_0)).trans hw121_0), ((HB.out.cell (World.block_lt_of_cell? w _ hw121_1)).trans hw121_1), ((HB.out.cell (World.block_lt_of_cell? w _ hw121_2)).trans hw121_2), ((HB.out.cell (World.block_lt_of_cell? w _ hw121_3)).trans hw121_3), ((HB.out.cell (World.block_lt_of_cell? w _ hw122_0)).trans hw122_0)⟩ (fun hHeld => ?_)
       clear hK K
       refine norm_ (a' := ?_) ?_ ?_
       rotate_left
       {
       show Act.put _ (some 51) _ = _
       simp only [Act.put, List.setIfInBounds_toArray, List.set_cons_zero, List.set_cons_succ, i64_w, i32_w]
       rfl
       }
       refine pure_ (i := 11) (N := some 40) (v := _) (a' := _) #[Y, Y, Y, Y, Y, Y, Y, Y, Y, Y, Y, Y, X, X, Y, X, X] rfl rfl (any_of HT_.out (by kernel_rfl)) (fun _ _ _ h => h) (Or.inl ⟨by rfl, (by intro w'; go_simp; with_reducible rfl)⟩) z71a ?_
       refine pure_ (i := 12) (N := some 52) (v := _) (a' := _) #[Y, Y, Y, Y, Y, Y, Y, Y, Y, Y, Y, Y, Y, X, Y, X, X] rfl rfl (any_of HT_.out (by kernel_rfl)) (fun _ _ _ h => h) (Or.inl ⟨by rfl, (by intro w'; go_simp; with_reducible rfl)⟩) z71a ?_
       refine pure_ (i := 13) (N := some 53) (v := _) (a' := _) #[Y, Y, Y, Y, Y, Y, Y, Y, Y, Y, Y, Y, Y, Y, Y, X, X] rfl rfl (any_of HT_.out (by kernel_rfl)) (fun _ _ _ h => h) (Or.inl ⟨by rfl, (by intro w'; go_simp; with_reducible rfl)⟩) z71a ?_
       exact norm_ z71p (hCont (gb128) _ ⟨hHeld, z71n, z71j, GW128.out, GE128.out, z71h⟩)
       }
       }
       rintro gb128 w23 ⟨hS_, h0_, h1_, h2_, h3_, h4_⟩
       have n0_ : Aside0 (Kd.R k88 88 w23 w.heap.size (fun k_ => k_ ≠ gb128) u5 x5_1) := ⟨h0_⟩
       have n1_ : Aside0 (w23.heap[gb128]? = some (.cells #[.string (⟨#[]⟩ : ByteArray), .string (⟨#[]⟩ : ByteArray), .int .i64 0, .bool false] 88 (0, 0))) := ⟨h1_⟩
       have n2_ : Aside0 (w.heap.size ≤ gb128) := ⟨h2_⟩
       have n3_ : Aside0 (w.heap.size ≤ gb128) := ⟨h3_⟩
       have n4_ : Aside0 (Below w.heap.size w w23) := ⟨h4_⟩
       clear HO_5
       clear HB
       clear h0_ h1_ h2_ h3_ h4_
       have HO_5 := n0_
       have BK128 := n1_
       have GW128 := n2_
       have GE128 := n3_
       have HB := n4_
       clear n0_ n1_ n2_ n3_ n4_
       have hHeld : w23.cell? (ad121.add ((x6_1).toNat * 4)) = some (.string ((rd_T88 l0 x6_1).f0)) ∧ w23.cell? ⟨(ad121.add ((x6_1).toNat * 4)).block, (ad121.add ((x6_1).toNat * 4)).off + 1, none⟩ = some (.string ((rd_T88 l0 x6_1).f1)) ∧ w23.cell? ⟨(ad121.add ((x6_1).toNat * 4)).block, (ad121.add ((x6_1).toNat * 4)).off + 2, none⟩ = some (.int .i64 ((rd_T88 l0 x6_1).f2)) ∧ w23.cell? ⟨(ad121.add ((x6_1).toNat * 4)).block, (ad121.add ((x6_1).toNat * 4)).off + 3, none⟩ = some (.bool ((rd_T88 l0 x6_1).f3)) ∧ w23.cell? (ad122.add (x8_3).toNat) = some (.int .i64 (rd l1 x8_3)) := hS_
       refine norm_ (a' := ?_) ?_ ?_
       rotate_left
       exact (by simp only [putAll, Act.put, List.setIfInBounds_toArray, List.set_cons_zero, List.set_cons_succ]; rfl)
       refine one_ (i := 15) (N := none) #[Y, Y, Y, Y, Y, Y, Y, Y, Y, Y, Y, Y, Y, Y, Y, Y, X] rfl rfl (one_of HT_.out (by kernel_rfl)) (by decide) (fun K hK => ?_)
       have hs24 : w23.cell? ⟨gb128, 0, none⟩ = some (.string (⟨#[]⟩ : ByteArray)) := (blk_cell BK128.out 0).trans rfl
       have hfs24 := blk_frozen BK128.out 0
       have hs25 : w23.cell? ⟨gb128, 1, none⟩ = some (.string (⟨#[]⟩ : ByteArray)) := (blk_cell BK128.out 1).trans rfl
       have hfs25 := blk_frozen BK128.out 1
       have hs26 : w23.cell? ⟨gb128, 2, none⟩ = some (.int .i64 0) := (blk_cell BK128.out 2).trans rfl
       have hfs26 := blk_frozen BK128.out 2
       have hs27 : w23.cell? ⟨gb128, 3, none⟩ = some (.bool false) := (blk_cell BK128.out 3).trans rfl
       have hfs27 := blk_frozen BK128.out 3
       refine skip_ (w1 := ?_) (by rfl) rfl ?_ ?_
       rotate_left
       {
       go_simp
       rfl
       }
       refine hK.out _ _ ⟨((cell_far (p := ⟨gb128, _, none⟩) z71b _).trans (((cell_far (p := ⟨gb128, _, none⟩) z71b _).trans (((cell_far (p := ⟨gb128, _, none⟩) z71b _).trans (((cell_far (p := ⟨gb128, _, none⟩) z71b _).trans (hHeld.1)))))))), ((cell_far (p := ⟨gb128, _, none⟩) z71c _).trans (((cell_far (p := ⟨gb128, _, none⟩) z71c _).trans (((cell_far (p := ⟨gb128, _, none⟩) z71c _).trans (((cell_far (p := ⟨gb128, _, none⟩) z71c _).trans (hHeld.2.1)))))))), ((cell_far (p := ⟨gb128, _, none⟩) z71d _).trans (((cell_far (p := ⟨gb128, _, none⟩) z71d _).trans (((cell_far (p := ⟨gb128, _, none⟩) z71d _).trans (((cell_far (p := ⟨gb128, _, none⟩) z71d _).trans (hHeld.2.2.1)))))))), ((cell_far (p := ⟨gb128, _, none⟩) z71e _).trans (((cell_far (p := ⟨gb128, _, none⟩) z71e _).trans (((cell_far (p := ⟨gb128, _, none⟩) z71e _).trans (((cell_far (p := ⟨gb128, _, none⟩) z71e _).trans (hHeld.2.2.2.1)))))))), ((cell_far (p := ⟨gb128, _, none⟩) z71f _).trans (((cell_far (p := ⟨gb128, _, none⟩) z71f _).trans (((cell_far (p := ⟨gb128, _, none⟩) z71f _).trans (((cell_far (p := ⟨gb128, _, none⟩) z71f _).trans (hHeld.2.2.2.2))))))))⟩ (fun hHeld => ?_)
       clear hK K
       refine pure_ (i := 16) (N := some 10) (v := _) (a' := _) #[Y, Y, Y, Y, Y, Y, Y, Y, Y, Y, Y, Y, Y, Y, Y, Y, Y] rfl rfl (any_of HT_.out (by kernel_rfl)) (fun _ _ _ h => h) (Or.inl ⟨by rfl, (by intro w'; go_simp; with_reducible rfl)⟩) z71a ?_
       refine done_ (done_of HT_.out (by kernel_rfl)) ?_
       try go_wp2
       have n0_ : Aside0 (Kd.R k88 88 ((((w23.setCell ⟨gb128, 0, none⟩ (.string t123)).setCell ⟨gb128, 1, none⟩ (.string t124)).setCell ⟨gb128, 2, none⟩ (.int .i64 t125)).setCell ⟨gb128, 3, none⟩ (.bool t126)) w.heap.size (fun k_ => k_ ≠ gb128) u5 x5_1) := ⟨by (with_reducible repeat (first | apply Kd.R_alloc | apply Kd.R_drewN | apply Kd.R_drew)); exact Kd.R_mono (Kd.R_far (p := ⟨gb128, 3, none⟩) (Kd.R_far (p := ⟨gb128, 2, none⟩) (Kd.R_far (p := ⟨gb128, 1, none⟩) (Kd.R_far (p := ⟨gb128, 0, none⟩) (Kd.R_mono HO_5.out (fun k_ hk => (⟨hk, hk⟩ : _ ∧ k_ ≠ gb128))) (fun _ hk => hk.2) (.string t123)) (fun _ hk => hk.2) (.string t124)) (fun _ hk => hk.2) (.int .i64 t125)) (fun _ hk => hk.2) (.bool t126)) (fun _ hk => hk.1)⟩
       have n1_ : Aside0 (((((w23.setCell ⟨gb128, 0, none⟩ (.string t123)).setCell ⟨gb128, 1, none⟩ (.string t124)).setCell ⟨gb128, 2, none⟩ (.int .i64 t125)).setCell ⟨gb128, 3, none⟩ (.bool t126)).heap[gb128]? = some (.cells #[.string t123, .string t124, .int .i64 t125, .bool t126] 88 (0, 0))) := ⟨by (with_reducible repeat (first | refine blk_drewN ?_ _ | refine blk_drew ?_ | refine blk_alloc ?_ _)); refine blk_put (cs := #[.string t123, .string t124, .int .i64 t125, .bool false]) ?_ 3 _ rfl; (with_reducible repeat (first | refine blk_drewN ?_ _ | refine blk_drew ?_ | refine blk_alloc ?_ _)); refine blk_put (cs := #[.string t123, .string t124, .int .i64 0, .bool false]) ?_ 2 _ rfl; (with_reducible repeat (first | refine blk_drewN ?_ _ | refine blk_drew ?_ | refine blk_alloc ?_ _)); refine blk_put (cs := #[.string t123, .string (⟨#[]⟩ : ByteArray), .int .i64 0, .bool false]) ?_ 1 _ rfl; (with_reducible repeat (first | refine blk_drewN ?_ _ | refine blk_drew ?_ | refine blk_alloc ?_ _)); refine blk_put (cs := #[.string (⟨#[]⟩ : ByteArray), .string (⟨#[]⟩ : ByteArray), .int .i64 0, .bool false]) ?_ 0 _ rfl; (with_reducible repeat (first | refine blk_drewN ?_ _ | refine blk_drew ?_ | refine blk_alloc ?_ _)); exact BK128.out⟩
       have n2_ : Aside0 (Below w.heap.size w ((((w23.setCell ⟨gb128, 0, none⟩ (.string t123)).setCell ⟨gb128, 1, none⟩ (.string t124)).setCell ⟨gb128, 2, none⟩ (.int .i64 t125)).setCell ⟨gb128, 3, none⟩ (.bool t126))) := ⟨by repeat (first | (with_reducible first | exact HB.out | apply below_alloc | apply pw_below_drewN | apply below_drew1 | refine below_set ?_ GE128.out) | exact HB.out)⟩
       (try clear HO_5)
       (try clear BK128)
       (try clear HB)
       generalize ((((w23.setCell ⟨gb128, 0, none⟩ (.string t123)).setCell ⟨gb128, 1, none⟩ (.string t124)).setCell ⟨gb128, 2, none⟩ (.int .i64 t125)).setCell ⟨gb128, 3, none⟩ (.bool t126)) = w28 at n0_ n1_ n2_ ⊢
       have HO_5 := n0_
       have BK128 := n1_
       have HB := n2_
       clear n0_ n1_ n2_
       have n0_ := Aside0.mk (Kd.R_drew HO_5.out)
       have n1_ := Aside0.mk (blk_drew BK128.out)
       have n2_ := Aside0.mk (below_drew1 HB.out)
       clear HO_5
       clear BK128
       clear HB
       have HO_5 := n0_
       have BK128 := n1_
       have HB := n2_
       clear n0_ n1_ n2_
       refine start_ (n := 15) (S := fun w' => True) (ds := []) #[X, X, X, X, X, X, X, X, X, X, X, X, X, X, X] (by kernel_rfl) rfl rfl trivial (fun hHeld => ?_); refine with_tabW spec_l6Seens.tab10 spec_l6Seens.bits10 (fun HT_ HW_ => ?_)
       generalize w28.drew = w29 at HO_5 BK128 HB hHeld ⊢
       refine pure_ (i := 0) (N := some 54) (v := _) (a' := _) #[Y, X, X, X, X, X, X, X, X, X, X, X, X, X, X] rfl rfl (any_of HT_.out (by kernel_rfl)) (fun _ _ _ h => h) (Or.inl ⟨by rfl, (by intro w'; go_simp; with_reducible rfl)⟩) z71a ?_
       refine pure_ (i := 1) (N := some 55) (v := _) (a' := _) #[Y, Y, X, X, X, X, X, X, X, X, X, X, X, X, X] rfl rfl (any_of HT_.out (by kernel_rfl)) (fun _ _ _ h => h) (Or.inl ⟨by rfl, (by intro w'; go_simp; with_reducible rfl)⟩) z71a ?_
       refine pure_ (i := 2) (N := some 56) (v := undef) (a' := ?_) #[Y, Y, Y, X, X, X, X, X, X, X, X, X, X, X, X] rfl rfl (any_of HT_.out (by kernel_rfl)) (fun _ _ _ h => h) (Or.inr ⟨by rfl, rfl⟩) ?_ ?_
       rotate_left
       exact z71a
       refine pure_ (i := 3) (N := some 57) (v := undef) (a' := ?_) #[Y, Y, Y, Y, X, X, X, X, X, X, X, X, X, X, X] rfl rfl (any_of HT_.out (by kernel_rfl)) (fun _ _ _ h => h) (Or.inr ⟨by rfl, rfl⟩) ?_ ?_
       rotate_left
       exact z71a
       refine pure_ (i := 4) (N := some 58) (v := undef) (a' := ?_) #[Y, Y, Y, Y, Y, X, X, X, X, X, X, X, X, X, X] rfl rfl (any_of HT_.out (by kernel_rfl)) (fun _ _ _ h => h) (Or.inr ⟨by rfl, rfl⟩) ?_ ?_
       rotate_left
       exact z71a
       refine pure_ (i := 5) (N := some 59) (v := undef) (a' := ?_) #[Y, Y, Y, Y, Y, Y, X, X, X, X, X, X, X, X, X] rfl rfl (any_of HT_.out (by kernel_rfl)) (fun _ _ _ h => h) (Or.inr ⟨by rfl, rfl⟩) ?_ ?_
       rotate_left
       exact z71a
       refine pure_ (i := 6) (N := some 60) (v := undef) (a' := ?_) #[Y, Y, Y, Y, Y, Y, Y, X, X, X, X, X, X, X, X] rfl rfl (any_of HT_.out (by kernel_rfl)) (fun _ _ _ h => h) (Or.inr ⟨by rfl, rfl⟩) ?_ ?_
       rotate_left
       exact z71a
       refine pure_ (i := 7) (N := some 61) (v := undef) (a' := ?_) #[Y, Y, Y, Y, Y, Y, Y, Y, X, X, X, X, X, X, X] rfl rfl (any_of HT_.out (by kernel_rfl)) (fun _ _ _ h => h) (Or.inr ⟨by rfl, rfl⟩) ?_ ?_
       rotate_left
       exact z71a
       refine pure_ (i := 8) (N := some 62) (v := undef) (a' := ?_) #[Y, Y, Y, Y, Y, Y, Y, Y, Y, X, X, X, X, X, X] rfl rfl (any_of HT_.out (by kernel_rfl)) (fun _ _ _ h => h) (Or.inr ⟨by rfl, rfl⟩) ?_ ?_
       rotate_left
       exact z71a
       refine pure_ (i := 9) (N := some 63) (v := undef) (a' := ?_) #[Y, Y, Y, Y, Y, Y, Y, Y, Y, Y, X, X, X, X, X] rfl rfl (any_of HT_.out (by kernel_rfl)) (fun _ _ _ h => h) (Or.inr ⟨by rfl, rfl⟩) ?_ ?_
       rotate_left
       exact z71a
       refine pure_ (i := 10) (N := some 64) (v := undef) (a' := ?_) #[Y, Y, Y, Y, Y, Y, Y, Y, Y, Y, Y, X, X, X, X] rfl rfl (any_of HT_.out (by kernel_rfl)) (fun _ _ _ h => h) (Or.inr ⟨by rfl, rfl⟩) ?_ ?_
       rotate_left
       exact z71a
       refine pure_ (i := 11) (N := some 65) (v := undef) (a' := ?_) #[Y, Y, Y, Y, Y, Y, Y, Y, Y, Y, Y, Y, X, X, X] rfl rfl (any_of HT_.out (by kernel_rfl)) (fun _ _ _ h => h) (Or.inr ⟨by rfl, rfl⟩) ?_ ?_
       rotate_left
       exact z71a
       refine pure_ (i := 12) (N := some 66) (v := undef) (a' := ?_) #[Y, Y, Y, Y, Y, Y, Y, Y, Y, Y, Y, Y, Y, X, X] rfl rfl (any_of HT_.out (by kernel_rfl)) (fun _ _ _ h => h) (Or.inr ⟨by rfl, rfl⟩) ?_ ?_
       rotate_left
       exact z71a
       refine pure_ (i := 13) (N := some 67) (v := _) (a' := _) #[Y, Y, Y, Y, Y, Y, Y, Y, Y, Y, Y, Y, Y, Y, X] rfl rfl (any_of HT_.out (by kernel_rfl)) (fun _ _ _ h => h) (Or.inl ⟨by rfl, (by intro w'; go_simp; with_reducible rfl)⟩) z71a ?_
       refine pure_ (i := 14) (N := some 7) (v := _) (a' := _) #[Y, Y, Y, Y, Y, Y, Y, Y, Y, Y, Y, Y, Y, Y, Y] rfl rfl (any_of HT_.out (by kernel_rfl)) (fun _ _ _ h => h) (Or.inl ⟨by rfl, (by intro w'; go_simp; with_reducible rfl)⟩) z71a ?_
       refine done_ (done_of HT_.out (by kernel_rfl)) ?_
       try go_wp2
       go_roundg k3
       case measure => have := HK1.out; have := HJ5.out; have := HK3.out; omega
       case rel => exact ⟨(true), (wrap64 (x8_3 + 1)), z71o, z71o, H', ⟨by have := HK1.out; have := HJ5.out; have := HK3.out; omega⟩, ⟨by (with_reducible repeat (first | apply Kd.R_alloc | apply Kd.R_drewN | apply Kd.R_drew)); exact Kd.R_mono HO_5.out (fun _ hk => trivial)⟩, ⟨by repeat (first | (with_reducible first | exact HB.out | apply below_alloc | apply pw_below_drewN | apply below_drew1 | refine below_set ?_ GE128.out) | exact HB.out)⟩⟩
       }
       {
       replace c19 := Bool.eq_false_iff.mpr c19
       subst c19
       have H1 : (if t127 = true then (spec_l6Seens.l1 k3 l0 l1 x5_1 x6_1 (t125 == ((rd_T88 l0 x6_1).f2)) (wrap64 (x8_3 + 1))) else (spec_l6Seens.l1 k3 l0 l1 x5_1 x6_1 false (wrap64 (x8_3 + 1)))) = some r := by rw [if_neg (show ¬ (false = true) by decide)] at H; exact H
       clear H
       have H := H1
       clear H1
       by_cases c30 : t127 = true
       {
       subst c30
       have H1 : (spec_l6Seens.l1 k3 l0 l1 x5_1 x6_1 (t125 == ((rd_T88 l0 x6_1).f2)) (wrap64 (x8_3 + 1))) = some r := by rw [if_pos rfl] at H; exact H
       clear H
       have H := H1
       clear H1
       have H' := Aside0.mk H
       clear H
       try go_wp2
       have n0_ := Aside0.mk (Kd.R_drew HO_5.out)
       have n1_ := Aside0.mk (below_drew1 HB.out)
       clear HO_5
       clear HB
       have HO_5 := n0_
       have HB := n1_
       clear n0_ n1_
       have p121 : 0 ≤ (x6_1 : Int) := of_decide_eq_true z71k
       have q121 : x6_1 < (l0.length : Int) := of_decide_eq_true z71k
       obtain ⟨ad121, e121, hx121_0, hx121_1, hx121_2, hx121_3⟩ := at_T88 HR0.out x6_1 p121 q121
       have hw121_3 := hx121_3
       have hw121_2 := hx121_2
       have hw121_1 := hx121_1
       have hw121_0 := hx121_0
       cases e121
       replace hx121_0 := (HB.out.cell (World.block_lt_of_cell? w _ hx121_0)).trans hx121_0
       replace hx121_1 := (HB.out.cell (World.block_lt_of_cell? w _ hx121_1)).trans hx121_1
       replace hx121_2 := (HB.out.cell (World.block_lt_of_cell? w _ hx121_2)).trans hx121_2
       replace hx121_3 := (HB.out.cell (World.block_lt_of_cell? w _ hx121_3)).trans hx121_3
       replace p121 := eq_true p121
       replace q121 := eq_true q121
       have p122 : 0 ≤ (x8_3 : Int) := of_decide_eq_true z71k
       have q122 : x8_3 < (l1.length : Int) := of_decide_eq_true z71k
       obtain ⟨ad122, e122, hx122_0⟩ := Kd.at_int HR1.out x8_3 p122 q122
       have hw122_0 := hx122_0
       cases e122
       replace hx122_0 := (HB.out.cell (World.block_lt_of_cell? w _ hx122_0)).trans hx122_0
       replace p122 := eq_true p122
       replace q122 := eq_true q122
       refine start_ (n := 17) (S := fun w' => w'.cell? (ad121.add ((x6_1).toNat * 4)) = some (.string ((rd_T88 l0 x6_1).f0)) ∧ w'.cell? ⟨(ad121.add ((x6_1).toNat * 4)).block, (ad121.add ((x6_1).toNat * 4)).off + 1, none⟩ = some (.string ((rd_T88 l0 x6_1).f1)) ∧ w'.cell? ⟨(ad121.add ((x6_1).toNat * 4)).block, (ad121.add ((x6_1).toNat * 4)).off + 2, none⟩ = some (.int .i64 ((rd_T88 l0 x6_1).f2)) ∧ w'.cell? ⟨(ad121.add ((x6_1).toNat * 4)).block, (ad121.add ((x6_1).toNat * 4)).off + 3, none⟩ = some (.bool ((rd_T88 l0 x6_1).f3)) ∧ w'.cell? (ad122.add (x8_3).toNat) = some (.int .i64 (rd l1 x8_3))) (ds := []) #[X, X, X, X, X, X, X, X, X, X, X, X, X, X, X, X, X] (by kernel_rfl) rfl rfl ⟨((HB.out.cell (World.block_lt_of_cell? w _ hw121_0)).trans hw121_0), ((HB.out.cell (World.block_lt_of_cell? w _ hw121_1)).trans hw121_1), ((HB.out.cell (World.block_lt_of_cell? w _ hw121_2)).trans hw121_2), ((HB.out.cell (World.block_lt_of_cell? w _ hw121_3)).trans hw121_3), ((HB.out.cell (World.block_lt_of_cell? w _ hw122_0)).trans hw122_0)⟩ (fun hHeld => ?_); refine with_tabW spec_l6Seens.tab9 spec_l6Seens.bits9 (fun HT_ HW_ => ?_)
       generalize wr.drew = w31 at HO_5 HB hx121_0 hx121_1 hx121_2 hx121_3 hx122_0 hHeld ⊢
       refine pure_ (i := 0) (N := some 41) (v := _) (a' := _) #[Y, X, X, X, X, X, X, X, X, X, X, X, X, X, X, X, X] rfl rfl (any_of HT_.out (by kernel_rfl)) (fun _ _ _ h => h) (Or.inl ⟨by rfl, (by intro w'; go_simp; with_reducible rfl)⟩) z71a ?_
       refine pure_ (i := 1) (N := some 42) (v := _) (a' := _) #[Y, Y, X, X, X, X, X, X, X, X, X, X, X, X, X, X, X] rfl rfl (any_of HT_.out (by kernel_rfl)) (fun _ _ _ h => h) (Or.inl ⟨by rfl, (by intro w'; go_simp; with_reducible rfl)⟩) z71a ?_
       refine pure_ (i := 2) (N := some 43) (v := _) (a' := _) #[Y, Y, Y, X, X, X, X, X, X, X, X, X, X, X, X, X, X] rfl rfl (any_of HT_.out (by kernel_rfl)) (fun _ _ _ h => h) (Or.inl ⟨by rfl, (by intro w'; go_simp; with_reducible rfl)⟩) z71a ?_
       refine pure_ (i := 3) (N := some 44) (v := _) (a' := _) #[Y, Y, Y, Y, X, X, X, X, X, X, X, X, X, X, X, X, X] rfl rfl (any_of HT_.out (by kernel_rfl)) (fun _ _ _ h => h) (Or.inl ⟨by rfl, (by intro w'; go_simp; with_reducible rfl)⟩) z71a ?_
       refine pure_ (i := 4) (N := some 45) (v := _) (a' := _) #[Y, Y, Y, Y, Y, X, X, X, X, X, X, X, X, X, X, X, X] rfl rfl (any_of HT_.out (by kernel_rfl)) (fun _ _ _ h => h) (Or.inl ⟨by rfl, (by intro w'; go_simp; with_reducible rfl)⟩) z71a ?_
       refine pure_ (i := 6) (N := some 47) (v := _) (a' := _) #[Y, Y, Y, Y, Y, X, Y, X, X, X, X, X, X, X, X, X, X] rfl rfl (any_of HT_.out (by kernel_rfl)) (fun _ _ _ h => h) (Or.inl ⟨by rfl, (by intro w'; go_simp; with_reducible rfl)⟩) z71a ?_
       refine pure_ (i := 7) (N := some 48) (v := _) (a' := _) #[Y, Y, Y, Y, Y, X, Y, Y, X, X, X, X, X, X, X, X, X] rfl rfl (any_of HT_.out (by kernel_rfl)) (fun _ _ _ h => h) (Or.inl ⟨by rfl, (by intro w'; go_simp; with_reducible rfl)⟩) z71a ?_
       refine pure_ (i := 8) (N := some 49) (v := _) (a' := _) #[Y, Y, Y, Y, Y, X, Y, Y, Y, X, X, X, X, X, X, X, X] rfl rfl (any_of HT_.out (by kernel_rfl)) (fun _ _ _ h => h) (Or.inl ⟨by rfl, (by intro w'; go_simp; with_reducible rfl)⟩) z71a ?_
       refine take_ (i := 5) (N := some 46) (v := _) (a' := _) #[Y, Y, Y, Y, Y, Y, Y, Y, Y, X, X, X, X, X, X, X, X] rfl rfl (take_ofW HT_.out HW_.out (by kernel_rfl)) (fun _ _ _ h => h) (Or.inl ⟨by rfl, (by rintro w' ⟨s0, s1, s2, s3, s4⟩; go_simp; with_reducible rfl)⟩) hHeld z71a ?_
       refine take_ (i := 9) (N := some 50) (v := _) (a' := _) #[Y, Y, Y, Y, Y, Y, Y, Y, Y, Y, X, X, X, X, X, X, X] rfl rfl (take_ofW HT_.out HW_.out (by kernel_rfl)) (fun _ _ _ h => h) (Or.inl ⟨by rfl, (by rintro w' ⟨s0, s1, s2, s3, s4⟩; go_simp; with_reducible rfl)⟩) hHeld z71a ?_
       refine join_ (σ := Nat) 2 #[Y, Y, Y, Y, Y, Y, Y, Y, Y, Y, Y, Y, Y, Y, Y, X, X] (fun s_ => [(51, .tuple #[.agg #[.string t123, .string t124, .int .i64 t125, .bool t126], .bool true]), (9, .pointer (some ⟨s_, 0, none⟩)), (40, .tuple #[.agg #[.string t123, .string t124, .int .i64 t125, .bool t126], .bool true]), (52, .agg #[.string t123, .string t124, .int .i64 t125, .bool t126]), (53, .bool true)]) (fun s_ w' => (w'.cell? (ad121.add ((x6_1).toNat * 4)) = some (.string ((rd_T88 l0 x6_1).f0)) ∧ w'.cell? ⟨(ad121.add ((x6_1).toNat * 4)).block, (ad121.add ((x6_1).toNat * 4)).off + 1, none⟩ = some (.string ((rd_T88 l0 x6_1).f1)) ∧ w'.cell? ⟨(ad121.add ((x6_1).toNat * 4)).block, (ad121.add ((x6_1).toNat * 4)).off + 2, none⟩ = some (.int .i64 ((rd_T88 l0 x6_1).f2)) ∧ w'.cell? ⟨(ad121.add ((x6_1).toNat * 4)).block, (ad121.add ((x6_1).toNat * 4)).off + 3, none⟩ = some (.bool ((rd_T88 l0 x6_1).f3)) ∧ w'.cell? (ad122.add (x8_3).toNat) = some (.int .i64 (rd l1 x8_3))) ∧ (Kd.R k88 88 w' w.heap.size (fun k_ => k_ ≠ s_) u5 x5_1) ∧ (w'.heap[s_]? = some (.cells #[.string (⟨#[]⟩ : ByteArray), .string (⟨#[]⟩ : ByteArray), .int .i64 0, .bool false] 88 (0, 0))) ∧ (w.heap.size ≤ s_) ∧ (w.heap.size ≤ s_) ∧ (Below w.heap.size w w')) ?_ ?_
       rotate_left
       {
       intro hCont
       refine two_ (i := 10) (j := 14) (Ni := some 51) (Nj := some 9) #[Y, Y, Y, Y, Y, Y, Y, Y, Y, Y, Y, X, X, X, X, X, X] #[Y, Y, Y, Y, Y, Y, Y, Y, Y, Y, X, X, X, X, Y, X, X] rfl rfl rfl rfl (two_of HT_.out (by kernel_rfl)) (by decide) (by decide) (fun K hK => ?_) (fun K hK => ?_)
       {
       skip
       refine goes_ Try.func95 (by kernel_rfl) rfl #[.slice (some ad121) l0.length c0, .string ((rd_T88 l0 x6_1).f0), .int .i64 (rd l1 x8_3)] (by rfl) rfl rfl z71m ?_
       with_reducible refine (spec_l3Seen.calls k3 _ _ l0 ((rd_T88 l0 x6_1).f0) (rd l1 x8_3) t123 t124 t125 t126 true _ ?side1 ?side2 A18.out).mono ?_
       (case side1 => exact z71l)
       (case side2 => exact HC0.out)
       rintro e w32 ⟨rfl, hb⟩
       refine ⟨_, rfl, ?_⟩
       have n0_ := Aside0.mk (Kd.R_below z71i hb)
       have n1_ := Aside0.mk (below_step z71g hb)
       clear HO_5
       clear HB
       have HO_5 := n0_
       have HB := n1_
       clear n0_ n1_
       (try clear hb)
       (try clear hb2)
       (try clear hk)
       (try clear hi)
       refine hK.out _ _ ⟨((HB.out.cell (World.block_lt_of_cell? w _ hw121_0)).trans hw121_0), ((HB.out.cell (World.block_lt_of_cell? w _ hw121_1)).trans hw121_1), ((HB.out.cell (World.block_lt_of_cell? w _ hw121_2)).trans hw121_2), ((HB.out.cell (World.block_lt_of_cell? w _ hw121_3)).trans hw121_3), ((HB.out.cell (World.block_lt_of_cell? w _ hw122_0)).trans hw122_0)⟩ (fun hHeld => ?_)
       clear hK K
       refine norm_ (a' := ?_) ?_ ?_
       rotate_left
       {
       show Act.put _ (some 51) _ = _
       simp only [Act.put, List.setIfInBounds_toArray, List.set_cons_zero, List.set_cons_succ, i64_w, i32_w]
       rfl
       }
       refine pure_ (i := 11) (N := some 40) (v := _) (a' := _) #[Y, Y, Y, Y, Y, Y, Y, Y, Y, Y, Y, Y, X, X, X, X, X] rfl rfl (any_of HT_.out (by kernel_rfl)) (fun _ _ _ h => h) (Or.inl ⟨by rfl, (by intro w'; go_simp; with_reducible rfl)⟩) z71a ?_
       refine pure_ (i := 12) (N := some 52) (v := _) (a' := _) #[Y, Y, Y, Y, Y, Y, Y, Y, Y, Y, Y, Y, Y, X, X, X, X] rfl rfl (any_of HT_.out (by kernel_rfl)) (fun _ _ _ h => h) (Or.inl ⟨by rfl, (by intro w'; go_simp; with_reducible rfl)⟩) z71a ?_
       refine pure_ (i := 13) (N := some 53) (v := _) (a' := _) #[Y, Y, Y, Y, Y, Y, Y, Y, Y, Y, Y, Y, Y, Y, X, X, X] rfl rfl (any_of HT_.out (by kernel_rfl)) (fun _ _ _ h => h) (Or.inl ⟨by rfl, (by intro w'; go_simp; with_reducible rfl)⟩) z71a ?_
       refine one_ (i := 14) (N := some 9) #[Y, Y, Y, Y, Y, Y, Y, Y, Y, Y, Y, Y, Y, Y, Y, X, X] rfl rfl (one_of HT_.out (by kernel_rfl)) (by decide) (fun K hK => ?_)
       refine box_step ?hg (N := 9) ?hd (cs := #[.string (⟨#[]⟩ : ByteArray), .string (⟨#[]⟩ : ByteArray), .int .i64 0, .bool false]) (t := 88) ?hr ?_; (case hd => rfl); (case hg => rfl); (case hr => first | (go_simp; done) | (go_simp; rfl))
       intro gb128 hg w33 hbox hb
       have n0_ := Aside0.mk (Kd.R_below (Kd.R_elderB z71i gb128 (Nat.le_of_eq hg.symm)) hb)
       have n1_ := Aside0.mk (below_step z71g hb)
       have n2_ := Aside0.mk (hbox)
       have n3_ := Aside0.mk ((by rw [hg]; exact (below_size z71g) : w.heap.size ≤ gb128))
       have n4_ := Aside0.mk ((by rw [hg]; exact (below_size z71g) : w.heap.size ≤ gb128))
       clear HO_5
       clear HB
       have HO_5 := n0_
       have HB := n1_
       have BK128 := n2_
       have GW128 := n3_
       have GE128 := n4_
       clear n0_ n1_ n2_ n3_ n4_
       clear hb hbox hg
       refine hK.out _ _ ⟨((HB.out.cell (World.block_lt_of_cell? w _ hw121_0)).trans hw121_0), ((HB.out.cell (World.block_lt_of_cell? w _ hw121_1)).trans hw121_1), ((HB.out.cell (World.block_lt_of_cell? w _ hw121_2)).trans hw121_2), ((HB.out.cell (World.block_lt_of_cell? w _ hw121_3)).trans hw121_3), ((HB.out.cell (World.block_lt_of_cell? w _ hw122_0)).trans hw122_0)⟩ (fun hHeld => ?_)
       clear hK K
       refine norm_ (a' := ?_) ?_ ?_
       rotate_left
       {
       show Act.put _ (some 9) _ = _
       simp only [Act.put, List.setIfInBounds_toArray, List.set_cons_zero, List.set_cons_succ, i64_w, i32_w]
       rfl
       }
       exact norm_ z71p (hCont (gb128) _ ⟨hHeld, z71n, z71j, GW128.out, GE128.out, z71h⟩)
       }
       {
       skip
       refine box_step ?hg (N := 9) ?hd (cs := #[.string (⟨#[]⟩ : ByteArray), .string (⟨#[]⟩ : ByteArray), .int .i64 0, .bool false]) (t := 88) ?hr ?_; (case hd => rfl); (case hg => rfl); (case hr => first | (go_simp; done) | (go_simp; rfl))
       intro gb128 hg w32 hbox hb
       have n0_ := Aside0.mk (Kd.R_below (Kd.R_elderB z71i gb128 (Nat.le_of_eq hg.symm)) hb)
       have n1_ := Aside0.mk (below_step z71g hb)
       have n2_ := Aside0.mk (hbox)
       have n3_ := Aside0.mk ((by rw [hg]; exact (below_size z71g) : w.heap.size ≤ gb128))
       have n4_ := Aside0.mk ((by rw [hg]; exact (below_size z71g) : w.heap.size ≤ gb128))
       clear HO_5
       clear HB
       have HO_5 := n0_
       have HB := n1_
       have BK128 := n2_
       have GW128 := n3_
       have GE128 := n4_
       clear n0_ n1_ n2_ n3_ n4_
       clear hb hbox hg
       refine hK.out _ _ ⟨((HB.out.cell (World.block_lt_of_cell? w _ hw121_0)).trans hw121_0), ((HB.out.cell (World.block_lt_of_cell? w _ hw121_1)).trans hw121_1), ((HB.out.cell (World.block_lt_of_cell? w _ hw121_2)).trans hw121_2), ((HB.out.cell (World.block_lt_of_cell? w _ hw121_3)).trans hw121_3), ((HB.out.cell (World.block_lt_of_cell? w _ hw122_0)).trans hw122_0)⟩ (fun hHeld => ?_)
       clear hK K
       refine norm_ (a' := ?_) ?_ ?_
       rotate_left
       {
       show Act.put _ (some 9) _ = _
       simp only [Act.put, List.setIfInBounds_toArray, List.set_cons_zero, List.set_cons_succ, i64_w, i32_w]
       rfl
       }
       refine one_ (i := 10) (N := some 51) #[Y, Y, Y, Y, Y, Y, Y, Y, Y, Y, Y, X, X, X, Y, X, X] rfl rfl (one_of HT_.out (by kernel_rfl)) (by decide) (fun K hK => ?_)
       refine goes_ Try.func95 (by kernel_rfl) rfl #[.slice (some ad121) l0.length c0, .string ((rd_T88 l0 x6_1).f0), .int .i64 (rd l1 x8_3)] (by rfl) rfl rfl z71m ?_
       with_reducible refine (spec_l3Seen.calls k3 _ _ l0 ((rd_T88 l0 x6_1).f0) (rd l1 x8_3) t123 t124 t125 t126 true _ ?side1 ?side2 A18.out).mono ?_
       (case side1 => exact z71l)
       (case side2 => exact HC0.out)
       rintro e w33 ⟨rfl, hb⟩
       refine ⟨_, rfl, ?_⟩
       have n0_ := Aside0.mk (Kd.R_below z71i hb)
       have n1_ := Aside0.mk (blk_below (g := gb128) (o := .cells #[.string (⟨#[]⟩ : ByteArray), .string (⟨#[]⟩ : ByteArray), .int .i64 0, .bool false] 88 (0, 0)) z71j hb)
       have n2_ := Aside0.mk (below_step z71h hb)
       clear HO_5
       clear BK128
       clear HB
       have HO_5 := n0_
       have BK128 := n1_
       have HB := n2_
       clear n0_ n1_ n2_
       (try clear hb)
       (try clear hb2)
       (try clear hk)
       (try clear hi)
       refine hK.out _ _ ⟨((HB.out.cell (World.block_lt_of_cell? w _ hw121_0)).trans hw121_0), ((HB.out.cell (World.block_lt_of_cell? w _ hw121_1)).trans hw121_1), ((HB.out.cell (World.block_lt_of_cell? w _ hw121_2)).trans hw121_2), ((HB.out.cell (World.block_lt_of_cell? w _ hw121_3)).trans hw121_3), ((HB.out.cell (World.block_lt_of_cell? w _ hw122_0)).trans hw122_0)⟩ (fun hHeld => ?_)
       clear hK K
       refine norm_ (a' := ?_) ?_ ?_
       rotate_left
       {
       show Act.put _ (some 51) _ = _
       simp only [Act.put, List.setIfInBounds_toArray, List.set_cons_zero, List.set_cons_succ, i64_w, i32_w]
       rfl
       }
       refine pure_ (i := 11) (N := some 40) (v := _) (a' := _) #[Y, Y, Y, Y, Y, Y, Y, Y, Y, Y, Y, Y, X, X, Y, X, X] rfl rfl (any_of HT_.out (by kernel_rfl)) (fun _ _ _ h => h) (Or.inl ⟨by rfl, (by intro w'; go_simp; with_reducible rfl)⟩) z71a ?_
       refine pure_ (i := 12) (N := some 52) (v := _) (a' := _) #[Y, Y, Y, Y, Y, Y, Y, Y, Y, Y, Y, Y, Y, X, Y, X, X] rfl rfl (any_of HT_.out (by kernel_rfl)) (fun _ _ _ h => h) (Or.inl ⟨by rfl, (by intro w'; go_simp; with_reducible rfl)⟩) z71a ?_
       refine pure_ (i := 13) (N := some 53) (v := _) (a' := _) #[Y, Y, Y, Y, Y, Y, Y, Y, Y, Y, Y, Y, Y, Y, Y, X, X] rfl rfl (any_of HT_.out (by kernel_rfl)) (fun _ _ _ h => h) (Or.inl ⟨by rfl, (by intro w'; go_simp; with_reducible rfl)⟩) z71a ?_
       exact norm_ z71p (hCont (gb128) _ ⟨hHeld, z71n, z71j, GW128.out, GE128.out, z71h⟩)
       }
       }
       rintro gb128 w34 ⟨hS_, h0_, h1_, h2_, h3_, h4_⟩
       have n0_ : Aside0 (Kd.R k88 88 w34 w.heap.size (fun k_ => k_ ≠ gb128) u5 x5_1) := ⟨h0_⟩
       have n1_ : Aside0 (w34.heap[gb128]? = some (.cells #[.string (⟨#[]⟩ : ByteArray), .string (⟨#[]⟩ : ByteArray), .int .i64 0, .bool false] 88 (0, 0))) := ⟨h1_⟩
       have n2_ : Aside0 (w.heap.size ≤ gb128) := ⟨h2_⟩
       have n3_ : Aside0 (w.heap.size ≤ gb128) := ⟨h3_⟩
       have n4_ : Aside0 (Below w.heap.size w w34) := ⟨h4_⟩
       clear HO_5
       clear HB
       clear h0_ h1_ h2_ h3_ h4_
       have HO_5 := n0_
       have BK128 := n1_
       have GW128 := n2_
       have GE128 := n3_
       have HB := n4_
       clear n0_ n1_ n2_ n3_ n4_
       have hHeld : w34.cell? (ad121.add ((x6_1).toNat * 4)) = some (.string ((rd_T88 l0 x6_1).f0)) ∧ w34.cell? ⟨(ad121.add ((x6_1).toNat * 4)).block, (ad121.add ((x6_1).toNat * 4)).off + 1, none⟩ = some (.string ((rd_T88 l0 x6_1).f1)) ∧ w34.cell? ⟨(ad121.add ((x6_1).toNat * 4)).block, (ad121.add ((x6_1).toNat * 4)).off + 2, none⟩ = some (.int .i64 ((rd_T88 l0 x6_1).f2)) ∧ w34.cell? ⟨(ad121.add ((x6_1).toNat * 4)).block, (ad121.add ((x6_1).toNat * 4)).off + 3, none⟩ = some (.bool ((rd_T88 l0 x6_1).f3)) ∧ w34.cell? (ad122.add (x8_3).toNat) = some (.int .i64 (rd l1 x8_3)) := hS_
       refine norm_ (a' := ?_) ?_ ?_
       rotate_left
       exact (by simp only [putAll, Act.put, List.setIfInBounds_toArray, List.set_cons_zero, List.set_cons_succ]; rfl)
       refine one_ (i := 15) (N := none) #[Y, Y, Y, Y, Y, Y, Y, Y, Y, Y, Y, Y, Y, Y, Y, Y, X] rfl rfl (one_of HT_.out (by kernel_rfl)) (by decide) (fun K hK => ?_)
       have hs35 : w34.cell? ⟨gb128, 0, none⟩ = some (.string (⟨#[]⟩ : ByteArray)) := (blk_cell BK128.out 0).trans rfl
       have hfs35 := blk_frozen BK128.out 0
       have hs36 : w34.cell? ⟨gb128, 1, none⟩ = some (.string (⟨#[]⟩ : ByteArray)) := (blk_cell BK128.out 1).trans rfl
       have hfs36 := blk_frozen BK128.out 1
       have hs37 : w34.cell? ⟨gb128, 2, none⟩ = some (.int .i64 0) := (blk_cell BK128.out 2).trans rfl
       have hfs37 := blk_frozen BK128.out 2
       have hs38 : w34.cell? ⟨gb128, 3, none⟩ = some (.bool false) := (blk_cell BK128.out 3).trans rfl
       have hfs38 := blk_frozen BK128.out 3
       refine skip_ (w1 := ?_) (by rfl) rfl ?_ ?_
       rotate_left
       {
       go_simp
       rfl
       }
       refine hK.out _ _ ⟨((cell_far (p := ⟨gb128, _, none⟩) z71b _).trans (((cell_far (p := ⟨gb128, _, none⟩) z71b _).trans (((cell_far (p := ⟨gb128, _, none⟩) z71b _).trans (((cell_far (p := ⟨gb128, _, none⟩) z71b _).trans (hHeld.1)))))))), ((cell_far (p := ⟨gb128, _, none⟩) z71c _).trans (((cell_far (p := ⟨gb128, _, none⟩) z71c _).trans (((cell_far (p := ⟨gb128, _, none⟩) z71c _).trans (((cell_far (p := ⟨gb128, _, none⟩) z71c _).trans (hHeld.2.1)))))))), ((cell_far (p := ⟨gb128, _, none⟩) z71d _).trans (((cell_far (p := ⟨gb128, _, none⟩) z71d _).trans (((cell_far (p := ⟨gb128, _, none⟩) z71d _).trans (((cell_far (p := ⟨gb128, _, none⟩) z71d _).trans (hHeld.2.2.1)))))))), ((cell_far (p := ⟨gb128, _, none⟩) z71e _).trans (((cell_far (p := ⟨gb128, _, none⟩) z71e _).trans (((cell_far (p := ⟨gb128, _, none⟩) z71e _).trans (((cell_far (p := ⟨gb128, _, none⟩) z71e _).trans (hHeld.2.2.2.1)))))))), ((cell_far (p := ⟨gb128, _, none⟩) z71f _).trans (((cell_far (p := ⟨gb128, _, none⟩) z71f _).trans (((cell_far (p := ⟨gb128, _, none⟩) z71f _).trans (((cell_far (p := ⟨gb128, _, none⟩) z71f _).trans (hHeld.2.2.2.2))))))))⟩ (fun hHeld => ?_)
       clear hK K
       refine pure_ (i := 16) (N := some 10) (v := _) (a' := _) #[Y, Y, Y, Y, Y, Y, Y, Y, Y, Y, Y, Y, Y, Y, Y, Y, Y] rfl rfl (any_of HT_.out (by kernel_rfl)) (fun _ _ _ h => h) (Or.inl ⟨by rfl, (by intro w'; go_simp; with_reducible rfl)⟩) z71a ?_
       refine done_ (done_of HT_.out (by kernel_rfl)) ?_
       try go_wp2
       have n0_ : Aside0 (Kd.R k88 88 ((((w34.setCell ⟨gb128, 0, none⟩ (.string t123)).setCell ⟨gb128, 1, none⟩ (.string t124)).setCell ⟨gb128, 2, none⟩ (.int .i64 t125)).setCell ⟨gb128, 3, none⟩ (.bool t126)) w.heap.size (fun k_ => k_ ≠ gb128) u5 x5_1) := ⟨by (with_reducible repeat (first | apply Kd.R_alloc | apply Kd.R_drewN | apply Kd.R_drew)); exact Kd.R_mono (Kd.R_far (p := ⟨gb128, 3, none⟩) (Kd.R_far (p := ⟨gb128, 2, none⟩) (Kd.R_far (p := ⟨gb128, 1, none⟩) (Kd.R_far (p := ⟨gb128, 0, none⟩) (Kd.R_mono HO_5.out (fun k_ hk => (⟨hk, hk⟩ : _ ∧ k_ ≠ gb128))) (fun _ hk => hk.2) (.string t123)) (fun _ hk => hk.2) (.string t124)) (fun _ hk => hk.2) (.int .i64 t125)) (fun _ hk => hk.2) (.bool t126)) (fun _ hk => hk.1)⟩
       have n1_ : Aside0 (((((w34.setCell ⟨gb128, 0, none⟩ (.string t123)).setCell ⟨gb128, 1, none⟩ (.string t124)).setCell ⟨gb128, 2, none⟩ (.int .i64 t125)).setCell ⟨gb128, 3, none⟩ (.bool t126)).heap[gb128]? = some (.cells #[.string t123, .string t124, .int .i64 t125, .bool t126] 88 (0, 0))) := ⟨by (with_reducible repeat (first | refine blk_drewN ?_ _ | refine blk_drew ?_ | refine blk_alloc ?_ _)); refine blk_put (cs := #[.string t123, .string t124, .int .i64 t125, .bool false]) ?_ 3 _ rfl; (with_reducible repeat (first | refine blk_drewN ?_ _ | refine blk_drew ?_ | refine blk_alloc ?_ _)); refine blk_put (cs := #[.string t123, .string t124, .int .i64 0, .bool false]) ?_ 2 _ rfl; (with_reducible repeat (first | refine blk_drewN ?_ _ | refine blk_drew ?_ | refine blk_alloc ?_ _)); refine blk_put (cs := #[.string t123, .string (⟨#[]⟩ : ByteArray), .int .i64 0, .bool false]) ?_ 1 _ rfl; (with_reducible repeat (first | refine blk_drewN ?_ _ | refine blk_drew ?_ | refine blk_alloc ?_ _)); refine blk_put (cs := #[.string (⟨#[]⟩ : ByteArray), .string (⟨#[]⟩ : ByteArray), .int .i64 0, .bool false]) ?_ 0 _ rfl; (with_reducible repeat (first | refine blk_drewN ?_ _ | refine blk_drew ?_ | refine blk_alloc ?_ _)); exact BK128.out⟩
       have n2_ : Aside0 (Below w.heap.size w ((((w34.setCell ⟨gb128, 0, none⟩ (.string t123)).setCell ⟨gb128, 1, none⟩ (.string t124)).setCell ⟨gb128, 2, none⟩ (.int .i64 t125)).setCell ⟨gb128, 3, none⟩ (.bool t126))) := ⟨by repeat (first | (with_reducible first | exact HB.out | apply below_alloc | apply pw_below_drewN | apply below_drew1 | refine below_set ?_ GE128.out) | exact HB.out)⟩
       (try clear HO_5)
       (try clear BK128)
       (try clear HB)
       generalize ((((w34.setCell ⟨gb128, 0, none⟩ (.string t123)).setCell ⟨gb128, 1, none⟩ (.string t124)).setCell ⟨gb128, 2, none⟩ (.int .i64 t125)).setCell ⟨gb128, 3, none⟩ (.bool t126)) = w39 at n0_ n1_ n2_ ⊢
       have HO_5 := n0_
       have BK128 := n1_
       have HB := n2_
       clear n0_ n1_ n2_
       have n0_ := Aside0.mk (Kd.R_drew HO_5.out)
       have n1_ := Aside0.mk (blk_drew BK128.out)
       have n2_ := Aside0.mk (below_drew1 HB.out)
       clear HO_5
       clear BK128
       clear HB
       have HO_5 := n0_
       have BK128 := n1_
       have HB := n2_
       clear n0_ n1_ n2_
       have p129 : 0 ≤ (x6_1 : Int) := of_decide_eq_true z71k
       have q129 : x6_1 < (l0.length : Int) := of_decide_eq_true z71k
       obtain ⟨ad129, e129, hx129_0, hx129_1, hx129_2, hx129_3⟩ := at_T88 HR0.out x6_1 p129 q129
       have hw129_3 := hx129_3
       have hw129_2 := hx129_2
       have hw129_1 := hx129_1
       have hw129_0 := hx129_0
       obtain rfl : ad121 = ad129 := (by injection e129)
       replace hx129_0 := (HB.out.cell (World.block_lt_of_cell? w _ hx129_0)).trans hx129_0
       replace hx129_1 := (HB.out.cell (World.block_lt_of_cell? w _ hx129_1)).trans hx129_1
       replace hx129_2 := (HB.out.cell (World.block_lt_of_cell? w _ hx129_2)).trans hx129_2
       replace hx129_3 := (HB.out.cell (World.block_lt_of_cell? w _ hx129_3)).trans hx129_3
       replace p129 := eq_true p129
       replace q129 := eq_true q129
       refine start_ (n := 15) (S := fun w' => w'.cell? ⟨gb128, 0, none⟩ = some (.string t123) ∧ w'.cell? ⟨gb128, 1, none⟩ = some (.string t124) ∧ w'.cell? ⟨gb128, 2, none⟩ = some (.int .i64 t125) ∧ w'.cell? ⟨gb128, 3, none⟩ = some (.bool t126) ∧ w'.cell? (ad121.add ((x6_1).toNat * 4)) = some (.string ((rd_T88 l0 x6_1).f0)) ∧ w'.cell? ⟨(ad121.add ((x6_1).toNat * 4)).block, (ad121.add ((x6_1).toNat * 4)).off + 1, none⟩ = some (.string ((rd_T88 l0 x6_1).f1)) ∧ w'.cell? ⟨(ad121.add ((x6_1).toNat * 4)).block, (ad121.add ((x6_1).toNat * 4)).off + 2, none⟩ = some (.int .i64 ((rd_T88 l0 x6_1).f2)) ∧ w'.cell? ⟨(ad121.add ((x6_1).toNat * 4)).block, (ad121.add ((x6_1).toNat * 4)).off + 3, none⟩ = some (.bool ((rd_T88 l0 x6_1).f3))) (ds := []) #[X, X, X, X, X, X, X, X, X, X, X, X, X, X, X] (by kernel_rfl) rfl rfl ⟨(blk_cell BK128.out 0).trans rfl, (blk_cell BK128.out 1).trans rfl, (blk_cell BK128.out 2).trans rfl, (blk_cell BK128.out 3).trans rfl, ((HB.out.cell (World.block_lt_of_cell? w _ hw129_0)).trans hw129_0), ((HB.out.cell (World.block_lt_of_cell? w _ hw129_1)).trans hw129_1), ((HB.out.cell (World.block_lt_of_cell? w _ hw129_2)).trans hw129_2), ((HB.out.cell (World.block_lt_of_cell? w _ hw129_3)).trans hw129_3)⟩ (fun hHeld => ?_); refine with_tabW spec_l6Seens.tab10 spec_l6Seens.bits10 (fun HT_ HW_ => ?_)
       generalize w39.drew = w40 at HO_5 BK128 HB hx129_0 hx129_1 hx129_2 hx129_3 hHeld ⊢
       refine pure_ (i := 0) (N := some 54) (v := _) (a' := _) #[Y, X, X, X, X, X, X, X, X, X, X, X, X, X, X] rfl rfl (any_of HT_.out (by kernel_rfl)) (fun _ _ _ h => h) (Or.inl ⟨by rfl, (by intro w'; go_simp; with_reducible rfl)⟩) z71a ?_
       refine pure_ (i := 1) (N := some 55) (v := _) (a' := _) #[Y, Y, X, X, X, X, X, X, X, X, X, X, X, X, X] rfl rfl (any_of HT_.out (by kernel_rfl)) (fun _ _ _ h => h) (Or.inl ⟨by rfl, (by intro w'; go_simp; with_reducible rfl)⟩) z71a ?_
       refine pure_ (i := 2) (N := some 56) (v := _) (a' := _) #[Y, Y, Y, X, X, X, X, X, X, X, X, X, X, X, X] rfl rfl (any_of HT_.out (by kernel_rfl)) (fun _ _ _ h => h) (Or.inl ⟨by rfl, (by intro w'; go_simp; with_reducible rfl)⟩) z71a ?_
       refine pure_ (i := 3) (N := some 57) (v := _) (a' := _) #[Y, Y, Y, Y, X, X, X, X, X, X, X, X, X, X, X] rfl rfl (any_of HT_.out (by kernel_rfl)) (fun _ _ _ h => h) (Or.inl ⟨by rfl, (by intro w'; go_simp; with_reducible rfl)⟩) z71a ?_
       refine pure_ (i := 4) (N := some 58) (v := _) (a' := _) #[Y, Y, Y, Y, Y, X, X, X, X, X, X, X, X, X, X] rfl rfl (any_of HT_.out (by kernel_rfl)) (fun _ _ _ h => h) (Or.inl ⟨by rfl, (by intro w'; go_simp; with_reducible rfl)⟩) z71a ?_
       refine pure_ (i := 6) (N := some 60) (v := _) (a' := _) #[Y, Y, Y, Y, Y, X, Y, X, X, X, X, X, X, X, X] rfl rfl (any_of HT_.out (by kernel_rfl)) (fun _ _ _ h => h) (Or.inl ⟨by rfl, (by intro w'; go_simp; with_reducible rfl)⟩) z71a ?_
       refine pure_ (i := 7) (N := some 61) (v := _) (a' := _) #[Y, Y, Y, Y, Y, X, Y, Y, X, X, X, X, X, X, X] rfl rfl (any_of HT_.out (by kernel_rfl)) (fun _ _ _ h => h) (Or.inl ⟨by rfl, (by intro w'; go_simp; with_reducible rfl)⟩) z71a ?_
       refine pure_ (i := 8) (N := some 62) (v := _) (a' := _) #[Y, Y, Y, Y, Y, X, Y, Y, Y, X, X, X, X, X, X] rfl rfl (any_of HT_.out (by kernel_rfl)) (fun _ _ _ h => h) (Or.inl ⟨by rfl, (by intro w'; go_simp; with_reducible rfl)⟩) z71a ?_
       refine pure_ (i := 9) (N := some 63) (v := _) (a' := _) #[Y, Y, Y, Y, Y, X, Y, Y, Y, Y, X, X, X, X, X] rfl rfl (any_of HT_.out (by kernel_rfl)) (fun _ _ _ h => h) (Or.inl ⟨by rfl, (by intro w'; go_simp; with_reducible rfl)⟩) z71a ?_
       refine take_ (i := 5) (N := some 59) (v := _) (a' := _) #[Y, Y, Y, Y, Y, Y, Y, Y, Y, Y, X, X, X, X, X] rfl rfl (take_ofW HT_.out HW_.out (by kernel_rfl)) (fun _ _ _ h => h) (Or.inl ⟨by rfl, (by rintro w' ⟨s0, s1, s2, s3, s4, s5, s6, s7⟩; go_simp; with_reducible rfl)⟩) hHeld z71a ?_
       refine take_ (i := 10) (N := some 64) (v := _) (a' := _) #[Y, Y, Y, Y, Y, Y, Y, Y, Y, Y, Y, X, X, X, X] rfl rfl (take_ofW HT_.out HW_.out (by kernel_rfl)) (fun _ _ _ h => h) (Or.inl ⟨by rfl, (by rintro w' ⟨s0, s1, s2, s3, s4, s5, s6, s7⟩; go_simp; with_reducible rfl)⟩) hHeld z71a ?_
       refine pure_ (i := 11) (N := some 65) (v := _) (a' := _) #[Y, Y, Y, Y, Y, Y, Y, Y, Y, Y, Y, Y, X, X, X] rfl rfl (any_of HT_.out (by kernel_rfl)) (fun _ _ _ h => h) (Or.inl ⟨by rfl, (by intro w'; go_simp; with_reducible rfl)⟩) z71a ?_
       refine pure_ (i := 12) (N := some 66) (v := _) (a' := _) #[Y, Y, Y, Y, Y, Y, Y, Y, Y, Y, Y, Y, Y, X, X] rfl rfl (any_of HT_.out (by kernel_rfl)) (fun _ _ _ h => h) (Or.inl ⟨by rfl, (by intro w'; go_simp; with_reducible rfl)⟩) z71a ?_
       refine pure_ (i := 13) (N := some 67) (v := _) (a' := _) #[Y, Y, Y, Y, Y, Y, Y, Y, Y, Y, Y, Y, Y, Y, X] rfl rfl (any_of HT_.out (by kernel_rfl)) (fun _ _ _ h => h) (Or.inl ⟨by rfl, (by intro w'; go_simp; with_reducible rfl)⟩) z71a ?_
       refine pure_ (i := 14) (N := some 7) (v := _) (a' := _) #[Y, Y, Y, Y, Y, Y, Y, Y, Y, Y, Y, Y, Y, Y, Y] rfl rfl (any_of HT_.out (by kernel_rfl)) (fun _ _ _ h => h) (Or.inl ⟨by rfl, (by intro w'; go_simp; with_reducible rfl)⟩) z71a ?_
       refine done_ (done_of HT_.out (by kernel_rfl)) ?_
       try go_wp2
       go_roundg k3
       case measure => have := HK1.out; have := HJ5.out; have := HK3.out; omega
       case rel => exact ⟨((t125 == ((rd_T88 l0 x6_1).f2))), (wrap64 (x8_3 + 1)), z71o, z71o, H', ⟨by have := HK1.out; have := HJ5.out; have := HK3.out; omega⟩, ⟨by (with_reducible repeat (first | apply Kd.R_alloc | apply Kd.R_drewN | apply Kd.R_drew)); exact Kd.R_mono HO_5.out (fun _ hk => trivial)⟩, ⟨by repeat (first | (with_reducible first | exact HB.out | apply below_alloc | apply pw_below_drewN | apply below_drew1 | refine below_set ?_ GE128.out) | exact HB.out)⟩⟩
       }
       {
       replace c30 := Bool.eq_false_iff.mpr c30
       subst c30
       have H1 : (spec_l6Seens.l1 k3 l0 l1 x5_1 x6_1 false (wrap64 (x8_3 + 1))) = some r := by rw [if_neg (show ¬ (false = true) by decide)] at H; exact H
       clear H
       have H := H1
       clear H1
       have H' := Aside0.mk H
       clear H
       try go_wp2
       have n0_ := Aside0.mk (Kd.R_drew HO_5.out)
       have n1_ := Aside0.mk (below_drew1 HB.out)
       clear HO_5
       clear HB
       have HO_5 := n0_
       have HB := n1_
       clear n0_ n1_
       have p121 : 0 ≤ (x6_1 : Int) := of_decide_eq_true z71k
       have q121 : x6_1 < (l0.length : Int) := of_decide_eq_true z71k
       obtain ⟨ad121, e121, hx121_0, hx121_1, hx121_2, hx121_3⟩ := at_T88 HR0.out x6_1 p121 q121
       have hw121_3 := hx121_3
       have hw121_2 := hx121_2
       have hw121_1 := hx121_1
       have hw121_0 := hx121_0
       cases e121
       replace hx121_0 := (HB.out.cell (World.block_lt_of_cell? w _ hx121_0)).trans hx121_0
       replace hx121_1 := (HB.out.cell (World.block_lt_of_cell? w _ hx121_1)).trans hx121_1
       replace hx121_2 := (HB.out.cell (World.block_lt_of_cell? w _ hx121_2)).trans hx121_2
       replace hx121_3 := (HB.out.cell (World.block_lt_of_cell? w _ hx121_3)).trans hx121_3
       replace p121 := eq_true p121
       replace q121 := eq_true q121
       have p122 : 0 ≤ (x8_3 : Int) := of_decide_eq_true z71k
       have q122 : x8_3 < (l1.length : Int) := of_decide_eq_true z71k
       obtain ⟨ad122, e122, hx122_0⟩ := Kd.at_int HR1.out x8_3 p122 q122
       have hw122_0 := hx122_0
       cases e122
       replace hx122_0 := (HB.out.cell (World.block_lt_of_cell? w _ hx122_0)).trans hx122_0
       replace p122 := eq_true p122
       replace q122 := eq_true q122
       refine start_ (n := 17) (S := fun w' => w'.cell? (ad121.add ((x6_1).toNat * 4)) = some (.string ((rd_T88 l0 x6_1).f0)) ∧ w'.cell? ⟨(ad121.add ((x6_1).toNat * 4)).block, (ad121.add ((x6_1).toNat * 4)).off + 1, none⟩ = some (.string ((rd_T88 l0 x6_1).f1)) ∧ w'.cell? ⟨(ad121.add ((x6_1).toNat * 4)).block, (ad121.add ((x6_1).toNat * 4)).off + 2, none⟩ = some (.int .i64 ((rd_T88 l0 x6_1).f2)) ∧ w'.cell? ⟨(ad121.add ((x6_1).toNat * 4)).block, (ad121.add ((x6_1).toNat * 4)).off + 3, none⟩ = some (.bool ((rd_T88 l0 x6_1).f3)) ∧ w'.cell? (ad122.add (x8_3).toNat) = some (.int .i64 (rd l1 x8_3))) (ds := []) #[X, X, X, X, X, X, X, X, X, X, X, X, X, X, X, X, X] (by kernel_rfl) rfl rfl ⟨((HB.out.cell (World.block_lt_of_cell? w _ hw121_0)).trans hw121_0), ((HB.out.cell (World.block_lt_of_cell? w _ hw121_1)).trans hw121_1), ((HB.out.cell (World.block_lt_of_cell? w _ hw121_2)).trans hw121_2), ((HB.out.cell (World.block_lt_of_cell? w _ hw121_3)).trans hw121_3), ((HB.out.cell (World.block_lt_of_cell? w _ hw122_0)).trans hw122_0)⟩ (fun hHeld => ?_); refine with_tabW spec_l6Seens.tab9 spec_l6Seens.bits9 (fun HT_ HW_ => ?_)
       generalize wr.drew = w41 at HO_5 HB hx121_0 hx121_1 hx121_2 hx121_3 hx122_0 hHeld ⊢
       refine pure_ (i := 0) (N := some 41) (v := _) (a' := _) #[Y, X, X, X, X, X, X, X, X, X, X, X, X, X, X, X, X] rfl rfl (any_of HT_.out (by kernel_rfl)) (fun _ _ _ h => h) (Or.inl ⟨by rfl, (by intro w'; go_simp; with_reducible rfl)⟩) z71a ?_
       refine pure_ (i := 1) (N := some 42) (v := _) (a' := _) #[Y, Y, X, X, X, X, X, X, X, X, X, X, X, X, X, X, X] rfl rfl (any_of HT_.out (by kernel_rfl)) (fun _ _ _ h => h) (Or.inl ⟨by rfl, (by intro w'; go_simp; with_reducible rfl)⟩) z71a ?_
       refine pure_ (i := 2) (N := some 43) (v := _) (a' := _) #[Y, Y, Y, X, X, X, X, X, X, X, X, X, X, X, X, X, X] rfl rfl (any_of HT_.out (by kernel_rfl)) (fun _ _ _ h => h) (Or.inl ⟨by rfl, (by intro w'; go_simp; with_reducible rfl)⟩) z71a ?_
       refine pure_ (i := 3) (N := some 44) (v := _) (a' := _) #[Y, Y, Y, Y, X, X, X, X, X, X, X, X, X, X, X, X, X] rfl rfl (any_of HT_.out (by kernel_rfl)) (fun _ _ _ h => h) (Or.inl ⟨by rfl, (by intro w'; go_simp; with_reducible rfl)⟩) z71a ?_
       refine pure_ (i := 4) (N := some 45) (v := _) (a' := _) #[Y, Y, Y, Y, Y, X, X, X, X, X, X, X, X, X, X, X, X] rfl rfl (any_of HT_.out (by kernel_rfl)) (fun _ _ _ h => h) (Or.inl ⟨by rfl, (by intro w'; go_simp; with_reducible rfl)⟩) z71a ?_
       refine pure_ (i := 6) (N := some 47) (v := _) (a' := _) #[Y, Y, Y, Y, Y, X, Y, X, X, X, X, X, X, X, X, X, X] rfl rfl (any_of HT_.out (by kernel_rfl)) (fun _ _ _ h => h) (Or.inl ⟨by rfl, (by intro w'; go_simp; with_reducible rfl)⟩) z71a ?_
       refine pure_ (i := 7) (N := some 48) (v := _) (a' := _) #[Y, Y, Y, Y, Y, X, Y, Y, X, X, X, X, X, X, X, X, X] rfl rfl (any_of HT_.out (by kernel_rfl)) (fun _ _ _ h => h) (Or.inl ⟨by rfl, (by intro w'; go_simp; with_reducible rfl)⟩) z71a ?_
       refine pure_ (i := 8) (N := some 49) (v := _) (a' := _) #[Y, Y, Y, Y, Y, X, Y, Y, Y, X, X, X, X, X, X, X, X] rfl rfl (any_of HT_.out (by kernel_rfl)) (fun _ _ _ h => h) (Or.inl ⟨by rfl, (by intro w'; go_simp; with_reducible rfl)⟩) z71a ?_
       refine take_ (i := 5) (N := some 46) (v := _) (a' := _) #[Y, Y, Y, Y, Y, Y, Y, Y, Y, X, X, X, X, X, X, X, X] rfl rfl (take_ofW HT_.out HW_.out (by kernel_rfl)) (fun _ _ _ h => h) (Or.inl ⟨by rfl, (by rintro w' ⟨s0, s1, s2, s3, s4⟩; go_simp; with_reducible rfl)⟩) hHeld z71a ?_
       refine take_ (i := 9) (N := some 50) (v := _) (a' := _) #[Y, Y, Y, Y, Y, Y, Y, Y, Y, Y, X, X, X, X, X, X, X] rfl rfl (take_ofW HT_.out HW_.out (by kernel_rfl)) (fun _ _ _ h => h) (Or.inl ⟨by rfl, (by rintro w' ⟨s0, s1, s2, s3, s4⟩; go_simp; with_reducible rfl)⟩) hHeld z71a ?_
       refine join_ (σ := Nat) 2 #[Y, Y, Y, Y, Y, Y, Y, Y, Y, Y, Y, Y, Y, Y, Y, X, X] (fun s_ => [(51, .tuple #[.agg #[.string t123, .string t124, .int .i64 t125, .bool t126], .bool false]), (9, .pointer (some ⟨s_, 0, none⟩)), (40, .tuple #[.agg #[.string t123, .string t124, .int .i64 t125, .bool t126], .bool false]), (52, .agg #[.string t123, .string t124, .int .i64 t125, .bool t126]), (53, .bool false)]) (fun s_ w' => (w'.cell? (ad121.add ((x6_1).toNat * 4)) = some (.string ((rd_T88 l0 x6_1).f0)) ∧ w'.cell? ⟨(ad121.add ((x6_1).toNat * 4)).block, (ad121.add ((x6_1).toNat * 4)).off + 1, none⟩ = some (.string ((rd_T88 l0 x6_1).f1)) ∧ w'.cell? ⟨(ad121.add ((x6_1).toNat * 4)).block, (ad121.add ((x6_1).toNat * 4)).off + 2, none⟩ = some (.int .i64 ((rd_T88 l0 x6_1).f2)) ∧ w'.cell? ⟨(ad121.add ((x6_1).toNat * 4)).block, (ad121.add ((x6_1).toNat * 4)).off + 3, none⟩ = some (.bool ((rd_T88 l0 x6_1).f3)) ∧ w'.cell? (ad122.add (x8_3).toNat) = some (.int .i64 (rd l1 x8_3))) ∧ (Kd.R k88 88 w' w.heap.size (fun k_ => k_ ≠ s_) u5 x5_1) ∧ (w'.heap[s_]? = some (.cells #[.string (⟨#[]⟩ : ByteArray), .string (⟨#[]⟩ : ByteArray), .int .i64 0, .bool false] 88 (0, 0))) ∧ (w.heap.size ≤ s_) ∧ (w.heap.size ≤ s_) ∧ (Below w.heap.size w w')) ?_ ?_
       rotate_left
       {
       intro hCont
       refine two_ (i := 10) (j := 14) (Ni := some 51) (Nj := some 9) #[Y, Y, Y, Y, Y, Y, Y, Y, Y, Y, Y, X, X, X, X, X, X] #[Y, Y, Y, Y, Y, Y, Y, Y, Y, Y, X, X, X, X, Y, X, X] rfl rfl rfl rfl (two_of HT_.out (by kernel_rfl)) (by decide) (by decide) (fun K hK => ?_) (fun K hK => ?_)
       {
       skip
       refine goes_ Try.func95 (by kernel_rfl) rfl #[.slice (some ad121) l0.length c0, .string ((rd_T88 l0 x6_1).f0), .int .i64 (rd l1 x8_3)] (by rfl) rfl rfl z71m ?_
       with_reducible refine (spec_l3Seen.calls k3 _ _ l0 ((rd_T88 l0 x6_1).f0) (rd l1 x8_3) t123 t124 t125 t126 false _ ?side1 ?side2 A18.out).mono ?_
       (case side1 => exact z71l)
       (case side2 => exact HC0.out)
       rintro e w42 ⟨rfl, hb⟩
       refine ⟨_, rfl, ?_⟩
       have n0_ := Aside0.mk (Kd.R_below z71i hb)
       have n1_ := Aside0.mk (below_step z71g hb)
       clear HO_5
       clear HB
       have HO_5 := n0_
       have HB := n1_
       clear n0_ n1_
       (try clear hb)
       (try clear hb2)
       (try clear hk)
       (try clear hi)
       refine hK.out _ _ ⟨((HB.out.cell (World.block_lt_of_cell? w _ hw121_0)).trans hw121_0), ((HB.out.cell (World.block_lt_of_cell? w _ hw121_1)).trans hw121_1), ((HB.out.cell (World.block_lt_of_cell? w _ hw121_2)).trans hw121_2), ((HB.out.cell (World.block_lt_of_cell? w _ hw121_3)).trans hw121_3), ((HB.out.cell (World.block_lt_of_cell? w _ hw122_0)).trans hw122_0)⟩ (fun hHeld => ?_)
       clear hK K
       refine norm_ (a' := ?_) ?_ ?_
       rotate_left
       {
       show Act.put _ (some 51) _ = _
       simp only [Act.put, List.setIfInBounds_toArray, List.set_cons_zero, List.set_cons_succ, i64_w, i32_w]
       rfl
       }
       refine pure_ (i := 11) (N := some 40) (v := _) (a' := _) #[Y, Y, Y, Y, Y, Y, Y, Y, Y, Y, Y, Y, X, X, X, X, X] rfl rfl (any_of HT_.out (by kernel_rfl)) (fun _ _ _ h => h) (Or.inl ⟨by rfl, (by intro w'; go_simp; with_reducible rfl)⟩) z71a ?_
       refine pure_ (i := 12) (N := some 52) (v := _) (a' := _) #[Y, Y, Y, Y, Y, Y, Y, Y, Y, Y, Y, Y, Y, X, X, X, X] rfl rfl (any_of HT_.out (by kernel_rfl)) (fun _ _ _ h => h) (Or.inl ⟨by rfl, (by intro w'; go_simp; with_reducible rfl)⟩) z71a ?_
       refine pure_ (i := 13) (N := some 53) (v := _) (a' := _) #[Y, Y, Y, Y, Y, Y, Y, Y, Y, Y, Y, Y, Y, Y, X, X, X] rfl rfl (any_of HT_.out (by kernel_rfl)) (fun _ _ _ h => h) (Or.inl ⟨by rfl, (by intro w'; go_simp; with_reducible rfl)⟩) z71a ?_
       refine one_ (i := 14) (N := some 9) #[Y, Y, Y, Y, Y, Y, Y, Y, Y, Y, Y, Y, Y, Y, Y, X, X] rfl rfl (one_of HT_.out (by kernel_rfl)) (by decide) (fun K hK => ?_)
       refine box_step ?hg (N := 9) ?hd (cs := #[.string (⟨#[]⟩ : ByteArray), .string (⟨#[]⟩ : ByteArray), .int .i64 0, .bool false]) (t := 88) ?hr ?_; (case hd => rfl); (case hg => rfl); (case hr => first | (go_simp; done) | (go_simp; rfl))
       intro gb128 hg w43 hbox hb
       have n0_ := Aside0.mk (Kd.R_below (Kd.R_elderB z71i gb128 (Nat.le_of_eq hg.symm)) hb)
       have n1_ := Aside0.mk (below_step z71g hb)
       have n2_ := Aside0.mk (hbox)
       have n3_ := Aside0.mk ((by rw [hg]; exact (below_size z71g) : w.heap.size ≤ gb128))
       have n4_ := Aside0.mk ((by rw [hg]; exact (below_size z71g) : w.heap.size ≤ gb128))
       clear HO_5
       clear HB
       have HO_5 := n0_
       have HB := n1_
       have BK128 := n2_
       have GW128 := n3_
       have GE128 := n4_
       clear n0_ n1_ n2_ n3_ n4_
       clear hb hbox hg
       refine hK.out _ _ ⟨((HB.out.cell (World.block_lt_of_cell? w _ hw121_0)).trans hw121_0), ((HB.out.cell (World.block_lt_of_cell? w _ hw121_1)).trans hw121_1), ((HB.out.cell (World.block_lt_of_cell? w _ hw121_2)).trans hw121_2), ((HB.out.cell (World.block_lt_of_cell? w _ hw121_3)).trans hw121_3), ((HB.out.cell (World.block_lt_of_cell? w _ hw122_0)).trans hw122_0)⟩ (fun hHeld => ?_)
       clear hK K
       refine norm_ (a' := ?_) ?_ ?_
       rotate_left
       {
       show Act.put _ (some 9) _ = _
       simp only [Act.put, List.setIfInBounds_toArray, List.set_cons_zero, List.set_cons_succ, i64_w, i32_w]
       rfl
       }
       exact norm_ z71p (hCont (gb128) _ ⟨hHeld, z71n, z71j, GW128.out, GE128.out, z71h⟩)
       }
       {
       skip
       refine box_step ?hg (N := 9) ?hd (cs := #[.string (⟨#[]⟩ : ByteArray), .string (⟨#[]⟩ : ByteArray), .int .i64 0, .bool false]) (t := 88) ?hr ?_; (case hd => rfl); (case hg => rfl); (case hr => first | (go_simp; done) | (go_simp; rfl))
       intro gb128 hg w42 hbox hb
       have n0_ := Aside0.mk (Kd.R_below (Kd.R_elderB z71i gb128 (Nat.le_of_eq hg.symm)) hb)
       have n1_ := Aside0.mk (below_step z71g hb)
       have n2_ := Aside0.mk (hbox)
       have n3_ := Aside0.mk ((by rw [hg]; exact (below_size z71g) : w.heap.size ≤ gb128))
       have n4_ := Aside0.mk ((by rw [hg]; exact (below_size z71g) : w.heap.size ≤ gb128))
       clear HO_5
       clear HB
       have HO_5 := n0_
       have HB := n1_
       have BK128 := n2_
       have GW128 := n3_
       have GE128 := n4_
       clear n0_ n1_ n2_ n3_ n4_
       clear hb hbox hg
       refine hK.out _ _ ⟨((HB.out.cell (World.block_lt_of_cell? w _ hw121_0)).trans hw121_0), ((HB.out.cell (World.block_lt_of_cell? w _ hw121_1)).trans hw121_1), ((HB.out.cell (World.block_lt_of_cell? w _ hw121_2)).trans hw121_2), ((HB.out.cell (World.block_lt_of_cell? w _ hw121_3)).trans hw121_3), ((HB.out.cell (World.block_lt_of_cell? w _ hw122_0)).trans hw122_0)⟩ (fun hHeld => ?_)
       clear hK K
       refine norm_ (a' := ?_) ?_ ?_
       rotate_left
       {
       show Act.put _ (some 9) _ = _
       simp only [Act.put, List.setIfInBounds_toArray, List.set_cons_zero, List.set_cons_succ, i64_w, i32_w]
       rfl
       }
       refine one_ (i := 10) (N := some 51) #[Y, Y, Y, Y, Y, Y, Y, Y, Y, Y, Y, X, X, X, Y, X, X] rfl rfl (one_of HT_.out (by kernel_rfl)) (by decide) (fun K hK => ?_)
       refine goes_ Try.func95 (by kernel_rfl) rfl #[.slice (some ad121) l0.length c0, .string ((rd_T88 l0 x6_1).f0), .int .i64 (rd l1 x8_3)] (by rfl) rfl rfl z71m ?_
       with_reducible refine (spec_l3Seen.calls k3 _ _ l0 ((rd_T88 l0 x6_1).f0) (rd l1 x8_3) t123 t124 t125 t126 false _ ?side1 ?side2 A18.out).mono ?_
       (case side1 => exact z71l)
       (case side2 => exact HC0.out)
       rintro e w43 ⟨rfl, hb⟩
       refine ⟨_, rfl, ?_⟩
       have n0_ := Aside0.mk (Kd.R_below z71i hb)
       have n1_ := Aside0.mk (blk_below (g := gb128) (o := .cells #[.string (⟨#[]⟩ : ByteArray), .string (⟨#[]⟩ : ByteArray), .int .i64 0, .bool false] 88 (0, 0)) z71j hb)
       have n2_ := Aside0.mk (below_step z71h hb)
       clear HO_5
       clear BK128
       clear HB
       have HO_5 := n0_
       have BK128 := n1_
       have HB := n2_
       clear n0_ n1_ n2_
       (try clear hb)
       (try clear hb2)
       (try clear hk)
       (try clear hi)
       refine hK.out _ _ ⟨((HB.out.cell (World.block_lt_of_cell? w _ hw121_0)).trans hw121_0), ((HB.out.cell (World.block_lt_of_cell? w _ hw121_1)).trans hw121_1), ((HB.out.cell (World.block_lt_of_cell? w _ hw121_2)).trans hw121_2), ((HB.out.cell (World.block_lt_of_cell? w _ hw121_3)).trans hw121_3), ((HB.out.cell (World.block_lt_of_cell? w _ hw122_0)).trans hw122_0)⟩ (fun hHeld => ?_)
       clear hK K
       refine norm_ (a' := ?_) ?_ ?_
       rotate_left
       {
       show Act.put _ (some 51) _ = _
       simp only [Act.put, List.setIfInBounds_toArray, List.set_cons_zero, List.set_cons_succ, i64_w, i32_w]
       rfl
       }
       refine pure_ (i := 11) (N := some 40) (v := _) (a' := _) #[Y, Y, Y, Y, Y, Y, Y, Y, Y, Y, Y, Y, X, X, Y, X, X] rfl rfl (any_of HT_.out (by kernel_rfl)) (fun _ _ _ h => h) (Or.inl ⟨by rfl, (by intro w'; go_simp; with_reducible rfl)⟩) z71a ?_
       refine pure_ (i := 12) (N := some 52) (v := _) (a' := _) #[Y, Y, Y, Y, Y, Y, Y, Y, Y, Y, Y, Y, Y, X, Y, X, X] rfl rfl (any_of HT_.out (by kernel_rfl)) (fun _ _ _ h => h) (Or.inl ⟨by rfl, (by intro w'; go_simp; with_reducible rfl)⟩) z71a ?_
       refine pure_ (i := 13) (N := some 53) (v := _) (a' := _) #[Y, Y, Y, Y, Y, Y, Y, Y, Y, Y, Y, Y, Y, Y, Y, X, X] rfl rfl (any_of HT_.out (by kernel_rfl)) (fun _ _ _ h => h) (Or.inl ⟨by rfl, (by intro w'; go_simp; with_reducible rfl)⟩) z71a ?_
       exact norm_ z71p (hCont (gb128) _ ⟨hHeld, z71n, z71j, GW128.out, GE128.out, z71h⟩)
       }
       }
       rintro gb128 w44 ⟨hS_, h0_, h1_, h2_, h3_, h4_⟩
       have n0_ : Aside0 (Kd.R k88 88 w44 w.heap.size (fun k_ => k_ ≠ gb128) u5 x5_1) := ⟨h0_⟩
       have n1_ : Aside0 (w44.heap[gb128]? = some (.cells #[.string (⟨#[]⟩ : ByteArray), .string (⟨#[]⟩ : ByteArray), .int .i64 0, .bool false] 88 (0, 0))) := ⟨h1_⟩
       have n2_ : Aside0 (w.heap.size ≤ gb128) := ⟨h2_⟩
       have n3_ : Aside0 (w.heap.size ≤ gb128) := ⟨h3_⟩
       have n4_ : Aside0 (Below w.heap.size w w44) := ⟨h4_⟩
       clear HO_5
       clear HB
       clear h0_ h1_ h2_ h3_ h4_
       have HO_5 := n0_
       have BK128 := n1_
       have GW128 := n2_
       have GE128 := n3_
       have HB := n4_
       clear n0_ n1_ n2_ n3_ n4_
       have hHeld : w44.cell? (ad121.add ((x6_1).toNat * 4)) = some (.string ((rd_T88 l0 x6_1).f0)) ∧ w44.cell? ⟨(ad121.add ((x6_1).toNat * 4)).block, (ad121.add ((x6_1).toNat * 4)).off + 1, none⟩ = some (.string ((rd_T88 l0 x6_1).f1)) ∧ w44.cell? ⟨(ad121.add ((x6_1).toNat * 4)).block, (ad121.add ((x6_1).toNat * 4)).off + 2, none⟩ = some (.int .i64 ((rd_T88 l0 x6_1).f2)) ∧ w44.cell? ⟨(ad121.add ((x6_1).toNat * 4)).block, (ad121.add ((x6_1).toNat * 4)).off + 3, none⟩ = some (.bool ((rd_T88 l0 x6_1).f3)) ∧ w44.cell? (ad122.add (x8_3).toNat) = some (.int .i64 (rd l1 x8_3)) := hS_
       refine norm_ (a' := ?_) ?_ ?_
       rotate_left
       exact (by simp only [putAll, Act.put, List.setIfInBounds_toArray, List.set_cons_zero, List.set_cons_succ]; rfl)
       refine one_ (i := 15) (N := none) #[Y, Y, Y, Y, Y, Y, Y, Y, Y, Y, Y, Y, Y, Y, Y, Y, X] rfl rfl (one_of HT_.out (by kernel_rfl)) (by decide) (fun K hK => ?_)
       have hs45 : w44.cell? ⟨gb128, 0, none⟩ = some (.string (⟨#[]⟩ : ByteArray)) := (blk_cell BK128.out 0).trans rfl
       have hfs45 := blk_frozen BK128.out 0
       have hs46 : w44.cell? ⟨gb128, 1, none⟩ = some (.string (⟨#[]⟩ : ByteArray)) := (blk_cell BK128.out 1).trans rfl
       have hfs46 := blk_frozen BK128.out 1
       have hs47 : w44.cell? ⟨gb128, 2, none⟩ = some (.int .i64 0) := (blk_cell BK128.out 2).trans rfl
       have hfs47 := blk_frozen BK128.out 2
       have hs48 : w44.cell? ⟨gb128, 3, none⟩ = some (.bool false) := (blk_cell BK128.out 3).trans rfl
       have hfs48 := blk_frozen BK128.out 3
       refine skip_ (w1 := ?_) (by rfl) rfl ?_ ?_
       rotate_left
       {
       go_simp
       rfl
       }
       refine hK.out _ _ ⟨((cell_far (p := ⟨gb128, _, none⟩) z71b _).trans (((cell_far (p := ⟨gb128, _, none⟩) z71b _).trans (((cell_far (p := ⟨gb128, _, none⟩) z71b _).trans (((cell_far (p := ⟨gb128, _, none⟩) z71b _).trans (hHeld.1)))))))), ((cell_far (p := ⟨gb128, _, none⟩) z71c _).trans (((cell_far (p := ⟨gb128, _, none⟩) z71c _).trans (((cell_far (p := ⟨gb128, _, none⟩) z71c _).trans (((cell_far (p := ⟨gb128, _, none⟩) z71c _).trans (hHeld.2.1)))))))), ((cell_far (p := ⟨gb128, _, none⟩) z71d _).trans (((cell_far (p := ⟨gb128, _, none⟩) z71d _).trans (((cell_far (p := ⟨gb128, _, none⟩) z71d _).trans (((cell_far (p := ⟨gb128, _, none⟩) z71d _).trans (hHeld.2.2.1)))))))), ((cell_far (p := ⟨gb128, _, none⟩) z71e _).trans (((cell_far (p := ⟨gb128, _, none⟩) z71e _).trans (((cell_far (p := ⟨gb128, _, none⟩) z71e _).trans (((cell_far (p := ⟨gb128, _, none⟩) z71e _).trans (hHeld.2.2.2.1)))))))), ((cell_far (p := ⟨gb128, _, none⟩) z71f _).trans (((cell_far (p := ⟨gb128, _, none⟩) z71f _).trans (((cell_far (p := ⟨gb128, _, none⟩) z71f _).trans (((cell_far (p := ⟨gb128, _, none⟩) z71f _).trans (hHeld.2.2.2.2))))))))⟩ (fun hHeld => ?_)
       clear hK K
       refine pure_ (i := 16) (N := some 10) (v := _) (a' := _) #[Y, Y, Y, Y, Y, Y, Y, Y, Y, Y, Y, Y, Y, Y, Y, Y, Y] rfl rfl (any_of HT_.out (by kernel_rfl)) (fun _ _ _ h => h) (Or.inl ⟨by rfl, (by intro w'; go_simp; with_reducible rfl)⟩) z71a ?_
       refine done_ (done_of HT_.out (by kernel_rfl)) ?_
       try go_wp2
       have n0_ : Aside0 (Kd.R k88 88 ((((w44.setCell ⟨gb128, 0, none⟩ (.string t123)).setCell ⟨gb128, 1, none⟩ (.string t124)).setCell ⟨gb128, 2, none⟩ (.int .i64 t125)).setCell ⟨gb128, 3, none⟩ (.bool t126)) w.heap.size (fun k_ => k_ ≠ gb128) u5 x5_1) := ⟨by (with_reducible repeat (first | apply Kd.R_alloc | apply Kd.R_drewN | apply Kd.R_drew)); exact Kd.R_mono (Kd.R_far (p := ⟨gb128, 3, none⟩) (Kd.R_far (p := ⟨gb128, 2, none⟩) (Kd.R_far (p := ⟨gb128, 1, none⟩) (Kd.R_far (p := ⟨gb128, 0, none⟩) (Kd.R_mono HO_5.out (fun k_ hk => (⟨hk, hk⟩ : _ ∧ k_ ≠ gb128))) (fun _ hk => hk.2) (.string t123)) (fun _ hk => hk.2) (.string t124)) (fun _ hk => hk.2) (.int .i64 t125)) (fun _ hk => hk.2) (.bool t126)) (fun _ hk => hk.1)⟩
       have n1_ : Aside0 (((((w44.setCell ⟨gb128, 0, none⟩ (.string t123)).setCell ⟨gb128, 1, none⟩ (.string t124)).setCell ⟨gb128, 2, none⟩ (.int .i64 t125)).setCell ⟨gb128, 3, none⟩ (.bool t126)).heap[gb128]? = some (.cells #[.string t123, .string t124, .int .i64 t125, .bool t126] 88 (0, 0))) := ⟨by (with_reducible repeat (first | refine blk_drewN ?_ _ | refine blk_drew ?_ | refine blk_alloc ?_ _)); refine blk_put (cs := #[.string t123, .string t124, .int .i64 t125, .bool false]) ?_ 3 _ rfl; (with_reducible repeat (first | refine blk_drewN ?_ _ | refine blk_drew ?_ | refine blk_alloc ?_ _)); refine blk_put (cs := #[.string t123, .string t124, .int .i64 0, .bool false]) ?_ 2 _ rfl; (with_reducible repeat (first | refine blk_drewN ?_ _ | refine blk_drew ?_ | refine blk_alloc ?_ _)); refine blk_put (cs := #[.string t123, .string (⟨#[]⟩ : ByteArray), .int .i64 0, .bool false]) ?_ 1 _ rfl; (with_reducible repeat (first | refine blk_drewN ?_ _ | refine blk_drew ?_ | refine blk_alloc ?_ _)); refine blk_put (cs := #[.string (⟨#[]⟩ : ByteArray), .string (⟨#[]⟩ : ByteArray), .int .i64 0, .bool false]) ?_ 0 _ rfl; (with_reducible repeat (first | refine blk_drewN ?_ _ | refine blk_drew ?_ | refine blk_alloc ?_ _)); exact BK128.out⟩
       have n2_ : Aside0 (Below w.heap.size w ((((w44.setCell ⟨gb128, 0, none⟩ (.string t123)).setCell ⟨gb128, 1, none⟩ (.string t124)).setCell ⟨gb128, 2, none⟩ (.int .i64 t125)).setCell ⟨gb128, 3, none⟩ (.bool t126))) := ⟨by repeat (first | (with_reducible first | exact HB.out | apply below_alloc | apply pw_below_drewN | apply below_drew1 | refine below_set ?_ GE128.out) | exact HB.out)⟩
       (try clear HO_5)
       (try clear BK128)
       (try clear HB)
       generalize ((((w44.setCell ⟨gb128, 0, none⟩ (.string t123)).setCell ⟨gb128, 1, none⟩ (.string t124)).setCell ⟨gb128, 2, none⟩ (.int .i64 t125)).setCell ⟨gb128, 3, none⟩ (.bool t126)) = w49 at n0_ n1_ n2_ ⊢
       have HO_5 := n0_
       have BK128 := n1_
       have HB := n2_
       clear n0_ n1_ n2_
       have n0_ := Aside0.mk (Kd.R_drew HO_5.out)
       have n1_ := Aside0.mk (blk_drew BK128.out)
       have n2_ := Aside0.mk (below_drew1 HB.out)
       clear HO_5
       clear BK128
       clear HB
       have HO_5 := n0_
       have BK128 := n1_
       have HB := n2_
       clear n0_ n1_ n2_
       refine start_ (n := 15) (S := fun w' => True) (ds := []) #[X, X, X, X, X, X, X, X, X, X, X, X, X, X, X] (by kernel_rfl) rfl rfl trivial (fun hHeld => ?_); refine with_tabW spec_l6Seens.tab10 spec_l6Seens.bits10 (fun HT_ HW_ => ?_)
       generalize w49.drew = w50 at HO_5 BK128 HB hHeld ⊢
       refine pure_ (i := 0) (N := some 54) (v := _) (a' := _) #[Y, X, X, X, X, X, X, X, X, X, X, X, X, X, X] rfl rfl (any_of HT_.out (by kernel_rfl)) (fun _ _ _ h => h) (Or.inl ⟨by rfl, (by intro w'; go_simp; with_reducible rfl)⟩) z71a ?_
       refine pure_ (i := 1) (N := some 55) (v := _) (a' := _) #[Y, Y, X, X, X, X, X, X, X, X, X, X, X, X, X] rfl rfl (any_of HT_.out (by kernel_rfl)) (fun _ _ _ h => h) (Or.inl ⟨by rfl, (by intro w'; go_simp; with_reducible rfl)⟩) z71a ?_
       refine pure_ (i := 2) (N := some 56) (v := _) (a' := _) #[Y, Y, Y, X, X, X, X, X, X, X, X, X, X, X, X] rfl rfl (any_of HT_.out (by kernel_rfl)) (fun _ _ _ h => h) (Or.inl ⟨by rfl, (by intro w'; go_simp; with_reducible rfl)⟩) z71a ?_
       refine pure_ (i := 3) (N := some 57) (v := _) (a' := _) #[Y, Y, Y, Y, X, X, X, X, X, X, X, X, X, X, X] rfl rfl (any_of HT_.out (by kernel_rfl)) (fun _ _ _ h => h) (Or.inl ⟨by rfl, (by intro w'; go_simp; with_reducible rfl)⟩) z71a ?_
       refine pure_ (i := 4) (N := some 58) (v := undef) (a' := ?_) #[Y, Y, Y, Y, Y, X, X, X, X, X, X, X, X, X, X] rfl rfl (any_of HT_.out (by kernel_rfl)) (fun _ _ _ h => h) (Or.inr ⟨by rfl, rfl⟩) ?_ ?_
       rotate_left
       exact z71a
       refine pure_ (i := 5) (N := some 59) (v := undef) (a' := ?_) #[Y, Y, Y, Y, Y, Y, X, X, X, X, X, X, X, X, X] rfl rfl (any_of HT_.out (by kernel_rfl)) (fun _ _ _ h => h) (Or.inr ⟨by rfl, rfl⟩) ?_ ?_
       rotate_left
       exact z71a
       refine pure_ (i := 6) (N := some 60) (v := undef) (a' := ?_) #[Y, Y, Y, Y, Y, Y, Y, X, X, X, X, X, X, X, X] rfl rfl (any_of HT_.out (by kernel_rfl)) (fun _ _ _ h => h) (Or.inr ⟨by rfl, rfl⟩) ?_ ?_
       rotate_left
       exact z71a
       refine pure_ (i := 7) (N := some 61) (v := undef) (a' := ?_) #[Y, Y, Y, Y, Y, Y, Y, Y, X, X, X, X, X, X, X] rfl rfl (any_of HT_.out (by kernel_rfl)) (fun _ _ _ h => h) (Or.inr ⟨by rfl, rfl⟩) ?_ ?_
       rotate_left
       exact z71a
       refine pure_ (i := 8) (N := some 62) (v := undef) (a' := ?_) #[Y, Y, Y, Y, Y, Y, Y, Y, Y, X, X, X, X, X, X] rfl rfl (any_of HT_.out (by kernel_rfl)) (fun _ _ _ h => h) (Or.inr ⟨by rfl, rfl⟩) ?_ ?_
       rotate_left
       exact z71a
       refine pure_ (i := 9) (N := some 63) (v := undef) (a' := ?_) #[Y, Y, Y, Y, Y, Y, Y, Y, Y, Y, X, X, X, X, X] rfl rfl (any_of HT_.out (by kernel_rfl)) (fun _ _ _ h => h) (Or.inr ⟨by rfl, rfl⟩) ?_ ?_
       rotate_left
       exact z71a
       refine pure_ (i := 10) (N := some 64) (v := undef) (a' := ?_) #[Y, Y, Y, Y, Y, Y, Y, Y, Y, Y, Y, X, X, X, X] rfl rfl (any_of HT_.out (by kernel_rfl)) (fun _ _ _ h => h) (Or.inr ⟨by rfl, rfl⟩) ?_ ?_
       rotate_left
       exact z71a
       refine pure_ (i := 11) (N := some 65) (v := undef) (a' := ?_) #[Y, Y, Y, Y, Y, Y, Y, Y, Y, Y, Y, Y, X, X, X] rfl rfl (any_of HT_.out (by kernel_rfl)) (fun _ _ _ h => h) (Or.inr ⟨by rfl, rfl⟩) ?_ ?_
       rotate_left
       exact z71a
       refine pure_ (i := 12) (N := some 66) (v := _) (a' := _) #[Y, Y, Y, Y, Y, Y, Y, Y, Y, Y, Y, Y, Y, X, X] rfl rfl (any_of HT_.out (by kernel_rfl)) (fun _ _ _ h => h) (Or.inl ⟨by rfl, (by intro w'; go_simp; with_reducible rfl)⟩) z71a ?_
       refine pure_ (i := 13) (N := some 67) (v := _) (a' := _) #[Y, Y, Y, Y, Y, Y, Y, Y, Y, Y, Y, Y, Y, Y, X] rfl rfl (any_of HT_.out (by kernel_rfl)) (fun _ _ _ h => h) (Or.inl ⟨by rfl, (by intro w'; go_simp; with_reducible rfl)⟩) z71a ?_
       refine pure_ (i := 14) (N := some 7) (v := _) (a' := _) #[Y, Y, Y, Y, Y, Y, Y, Y, Y, Y, Y, Y, Y, Y, Y] rfl rfl (any_of HT_.out (by kernel_rfl)) (fun _ _ _ h => h) (Or.inl ⟨by rfl, (by intro w'; go_simp; with_reducible rfl)⟩) z71a ?_
       refine done_ (done_of HT_.out (by kernel_rfl)) ?_
       try go_wp2
       go_roundg k3
       case measure => have := HK1.out; have := HJ5.out; have := HK3.out; omega
       case rel => exact ⟨(false), (wrap64 (x8_3 + 1)), z71o, z71o, H', ⟨by have := HK1.out; have := HJ5.out; have := HK3.out; omega⟩, ⟨by (with_reducible repeat (first | apply Kd.R_alloc | apply Kd.R_drewN | apply Kd.R_drew)); exact Kd.R_mono HO_5.out (fun _ hk => trivial)⟩, ⟨by repeat (first | (with_reducible first | exact HB.out | apply below_alloc | apply pw_below_drewN | apply below_drew1 | refine below_set ?_ GE128.out) | exact HB.out)⟩⟩
       }
       }
       }
       {
       rw [if_neg c17] at H
       exact absurd H (by simp)
       }
       }
       {
       rw [if_neg c16] at H
       exact absurd H (by simp)
       }
       }
       {
       rw [if_neg c15] at H
       exact absurd H (by simp)
       }
       }
       {
       rw [if_neg c14] at H
       have c14b0 : decide (x8_3 < (l1.length : Int)) = false := decide_eq_false c14
       clear c14
       by_cases c51 : x7_3 = true
       {
       subst c51
       have H1 : (if 0 ≤ x6_1 then (if x6_1 < (l0.length : Int) then (if x5_1.length < 2932031007402 then (spec_l6Seens.l0 k3 l0 l1 (x5_1 ++ [(⟨(rd_T88 l0 x6_1).f0, (rd_T88 l0 x6_1).f1, (rd_T88 l0 x6_1).f2, (rd_T88 l0 x6_1).f3⟩ : S88)]) (wrap64 (x6_1 + 1))) else (none)) else (none)) else (none)) = some r := by rw [if_pos rfl] at H; exact H
       clear H
       have H := H1
       clear H1
       by_cases c52 : 0 ≤ x6_1
       {
       rw [if_pos c52] at H
       have c52b0 : decide (0 ≤ x6_1) = true := decide_eq_true c52
       clear c52
       by_cases c53 : x6_1 < (l0.length : Int)
       {
       rw [if_pos c53] at H
       have c53b0 : decide (x6_1 < (l0.length : Int)) = true := decide_eq_true c53
       clear c53
       by_cases c54 : x5_1.length < 2932031007402
       {
       rw [if_pos c54] at H
       have LMc54 := Aside0.mk c54
       clear c54
       obtain ⟨y131, hy131⟩ : ∃ y_ : List (S88), y_ = (x5_1 ++ [(⟨(rd_T88 l0 x6_1).f0, (rd_T88 l0 x6_1).f1, (rd_T88 l0 x6_1).f2, (rd_T88 l0 x6_1).f3⟩ : S88)]) := ⟨_, rfl⟩
       replace H : (spec_l6Seens.l0 k3 l0 l1 y131 (wrap64 (x6_1 + 1))) = some r := by first | (rw [hy131]; with_reducible exact H) | (have H2_ := (Option.bind_some _ _).symm.trans H; rw [hy131]; with_reducible exact H2_) | (have H2_ := (Option.bind_some _ _).symm.trans H; with_reducible exact H2_) | with_reducible exact H | (rw [hy131]; exact H) | exact H
       have Ny131 := Aside0.mk hy131
       clear hy131
       have H' := Aside0.mk H
       clear H
       have p130 : 0 ≤ (x6_1 : Int) := of_decide_eq_true z71k
       have q130 : x6_1 < (l0.length : Int) := of_decide_eq_true z71k
       obtain ⟨ad130, e130, hx130_0, hx130_1, hx130_2, hx130_3⟩ := at_T88 HR0.out x6_1 p130 q130
       cases e130
       replace hx130_0 := (HB.out.cell (World.block_lt_of_cell? w _ hx130_0)).trans hx130_0
       replace hx130_1 := (HB.out.cell (World.block_lt_of_cell? w _ hx130_1)).trans hx130_1
       replace hx130_2 := (HB.out.cell (World.block_lt_of_cell? w _ hx130_2)).trans hx130_2
       replace hx130_3 := (HB.out.cell (World.block_lt_of_cell? w _ hx130_3)).trans hx130_3
       replace p130 := eq_true p130
       replace q130 := eq_true q130
       go_wp2_with (first | ((with_reducible refine gate_builtin (b := .append) (xs := #[.tmp 69, .tmp 74]) rfl ?_); at_builtin; (first | (refine Kd.R_append k88 (w0 := w) w.heap.size rfl (.tmp 69) (.tmp 74) 50 88 (.agg #[(.string ⟨#[]⟩), (.string ⟨#[]⟩), (.int .i64 0), (.bool false)]) 48 rfl Try.underlying50 info88 rfl (by decide) (by omega) u5 x5_1 (⟨(rd_T88 l0 x6_1).f0, (rd_T88 l0 x6_1).f1, (rd_T88 l0 x6_1).f2, (rd_T88 l0 x6_1).f3⟩ : S88) [.string ((rd_T88 l0 x6_1).f0), .string ((rd_T88 l0 x6_1).f1), .int .i64 ((rd_T88 l0 x6_1).f2), .bool ((rd_T88 l0 x6_1).f3)] (fun _ => True) (fun _ => False) rfl rfl ?aP (fun _ hk => hk.elim) ?aF ?aO ?aB ?aS ?aL ?_) | (refine Kd.R_append k88 (w0 := w) w.heap.size rfl (.tmp 69) (.tmp 74) 50 88 (.agg #[(.string ⟨#[]⟩), (.string ⟨#[]⟩), (.int .i64 0), (.bool false)]) 48 rfl Try.underlying50 info88 rfl (by decide) (by omega) u5 x5_1 (⟨(rd_T88 l0 x6_1).f0, (rd_T88 l0 x6_1).f1, (rd_T88 l0 x6_1).f2, (rd_T88 l0 x6_1).f3⟩ : S88) [.string ((rd_T88 l0 x6_1).f0), .string ((rd_T88 l0 x6_1).f1), .int .i64 ((rd_T88 l0 x6_1).f2), .bool false] (fun _ => True) (fun _ => False) rfl rfl ?aP (fun _ hk => hk.elim) ?aF ?aO ?aB ?aS ?aL ?_) | (refine Kd.R_append k88 (w0 := w) w.heap.size rfl (.tmp 69) (.tmp 74) 50 88 (.agg #[(.string ⟨#[]⟩), (.string ⟨#[]⟩), (.int .i64 0), (.bool false)]) 48 rfl Try.underlying50 info88 rfl (by decide) (by omega) u5 x5_1 (⟨(rd_T88 l0 x6_1).f0, (rd_T88 l0 x6_1).f1, (rd_T88 l0 x6_1).f2, (rd_T88 l0 x6_1).f3⟩ : S88) [.string ((rd_T88 l0 x6_1).f0), .string ((rd_T88 l0 x6_1).f1), .int .i64 ((rd_T88 l0 x6_1).f2), .bool true] (fun _ => True) (fun _ => False) rfl rfl ?aP (fun _ hk => hk.elim) ?aF ?aO ?aB ?aS ?aL ?_)); (case aP => first | exact k88_mkM _ _ _ (⟨(rd_T88 l0 x6_1).f0, (rd_T88 l0 x6_1).f1, (rd_T88 l0 x6_1).f2, (rd_T88 l0 x6_1).f3⟩ : S88) | (rw [show ((rd_T88 l0 x6_1).f3) = false from (by assumption)]; exact k88_mkM _ _ _ _) | (rw [show ((rd_T88 l0 x6_1).f3) = true from (by assumption)]; exact k88_mkM _ _ _ _)); (case aB => exact z71g); (case aF => exact (fun _ _ => trivial)); (case aO => exact z71i); (case aS => exact (below_size z71g)); (case aL => have := LMc54.out; omega); intro v132 w55 ho hb hg hat; rw [← Ny131.out] at ho; have n0_ := Aside0.mk (hb); have n1_ := Aside0.mk (ho); clear HB; clear HO_5; have HB := n0_; have HO133 := n1_; clear n0_ n1_; clear ho hb hg hat))
       go_roundg k3
       case measure => have := HK1.out; have := HJ5.out; have := HK3.out; omega
       case rel => exact ⟨(y131), (wrap64 (x6_1 + 1)), z71o, H', ⟨by have := HK1.out; have := HJ5.out; have := HK3.out; omega⟩, ⟨by (with_reducible repeat (first | apply Kd.R_alloc | apply Kd.R_drewN | apply Kd.R_drew)); exact HO133.out⟩, ⟨by repeat (first | (with_reducible first | exact HB.out | apply below_alloc | apply pw_below_drewN | apply below_drew1) | exact HB.out)⟩⟩
       }
       {
       rw [if_neg c54] at H
       exact absurd H (by simp)
       }
       }
       {
       rw [if_neg c53] at H
       exact absurd H (by simp)
       }
       }
       {
       rw [if_neg c52] at H
       exact absurd H (by simp)
       }
       }
       {
       replace c51 := Bool.eq_false_iff.mpr c51
       subst c51
       have H1 : (spec_l6Seens.l0 k3 l0 l1 x5_1 (wrap64 (x6_1 + 1))) = some r := by rw [if_neg (show ¬ (false = true) by decide)] at H; exact H
       clear H
       have H := H1
       clear H1
       have H' := Aside0.mk H
       clear H
       go_wp2
       go_roundg k3
       case measure => have := HK1.out; have := HJ5.out; have := HK3.out; omega
       case rel => exact ⟨(x5_1), (wrap64 (x6_1 + 1)), z71o, H', ⟨by have := HK1.out; have := HJ5.out; have := HK3.out; omega⟩, ⟨by (with_reducible repeat (first | apply Kd.R_alloc | apply Kd.R_drewN | apply Kd.R_drew)); exact HO_5.out⟩, ⟨by repeat (first | (with_reducible first | exact HB.out | apply below_alloc | apply pw_below_drewN | apply below_drew1) | exact HB.out)⟩⟩
       }
       }
   }
   {
   rw [if_neg c5] at H
   have c5b0 : decide (x6_1 < (l0.length : Int)) = false := decide_eq_false c5
   clear c5
   obtain rfl := Option.some.inj H
   go_wp2
   go_ret
   exact ⟨_, by first | rfl | (simp [errW_none, errW_some] <;> rfl) | (simp [*, errW_none, errW_some] <;> rfl), by (with_reducible repeat (first | apply Kd.R_alloc | apply Kd.R_drewN | apply Kd.R_drew)); exact HO_5.out, by repeat (first | (with_reducible first | exact HB.out | apply below_alloc | apply pw_below_drewN | apply below_drew1) | exact HB.out)⟩
   
   }
end Go.Proofs.Ytajidjlbgpaaoaa.PFnSeens

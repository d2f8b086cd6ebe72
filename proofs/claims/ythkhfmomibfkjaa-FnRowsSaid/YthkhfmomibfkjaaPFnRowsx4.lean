-- by a program of this session (wip/print/run.py) for this claim
import Derived.Test.YthkhfmomibfkjaaPFnRowsx0
import Derived.Test.YthkhfmomibfkjaaPFnRowsx2
namespace Go.Proofs.Ythkhfmomibfkjaa.PFnRows
open Go.RowKit Go.Proofs.YthkhfmomibfkjaaW.PrintWords Go.Proofs.YthkhfmomibfkjaaW.PrintLast Go.Proofs.YthkhfmomibfkjaaW.PrintMore
attribute [local go_sem] max2_int min2_int max_two min_two max_three min_three max_four min_four   -- for this text's walks alone
set_option linter.unusedVariables false
set_option linter.unusedSimpArgs false

/-! ### spec_l1Bend: function 97 -/
theorem z97a {p_ : Prop} (h_ : p_ := by repeat (first | (with_reducible first | exact HI0.out | apply IsS105.alloc | apply IsS105.drewN | apply IsS105.drew | apply IsS105.set_1 | apply IsS105.set_2) | exact HI0.out)) : p_ := h_
theorem z97b {p_ : Prop} (h_ : p_ := by (with_reducible repeat (first | apply Kd.R_alloc | apply Kd.R_drewN | apply Kd.R_drew)); exact HO_7.out) : p_ := h_
theorem z97c {p_ : Prop} (h_ : p_ := by repeat (first | (with_reducible first | exact HK.out | apply KeepBut.set_ | apply keep_drewN | apply keep_drew | apply keep_alloc) | exact HK.out)) : p_ := h_
theorem z97d {p_ : Prop} (h_ : p_ := by repeat (first | (with_reducible first | exact HB.out | apply below_alloc | apply pw_below_drewN | apply below_drew1 | refine below_set ?_ (IsS105.ge HI0.out)) | exact HB.out)) : p_ := h_
theorem z97e {p_ : Prop} (h_ : p_ := by simp only [Act.put, List.setIfInBounds_toArray, List.set_cons_zero, List.set_cons_succ, i64_w, i32_w]; rfl) : p_ := h_
theorem z97f {p_ : Prop} (h_ : p_ := by (try simp only [List.map_toArray, List.map_cons, List.map_nil]); first | done | rfl | (simp only [List.length_drop, List.length_take]; rfl)) : p_ := h_
theorem z97g {p_ : Prop} (h_ : p_ := by first | (with_reducible assumption) | assumption) : p_ := h_
theorem z97h {p_ : Prop} (h_ : p_ := by rw [Ny267.out, KA71.out]; exact Kd.C_drop (m := (t221 : Int).toNat) (c := co66) ((Kd.R_reads' (Kd.R_after (ok := (fun _ => True)) z97b hg hat)).2.2) KL71.out ((Kd.R_reads' (Kd.R_after (ok := (fun _ => True)) z97b hg hat)).2.1)) : p_ := h_
mutual
def spec_l1Bend.l0 : Nat → ByteArray → List Int → Int → List Int → Int → Int → Option (ByteArray × Int × Int)
 | 0, _, _, _, _, _, _ => none
 | k + 1, x2, x7, x8, x1000, x1001, x1002 => if x8 > 0 then (spec_l1Bend.j1 k x2 x7 x8 (decide ((x7.length : Int) > 0)) x1000 x1001 x1002) else (spec_l1Bend.j1 k x2 x7 x8 false x1000 x1001 x1002)
def spec_l1Bend.j1 : Nat → ByteArray → List Int → Int → Bool → List Int → Int → Int → Option (ByteArray × Int × Int)
 | 0, _, _, _, _, _, _, _ => none
 | k + 1, x2, x7, x8, x20, x1000, x1001, x1002 => if x20 = true then ((spec_l1Below.f x1000 x1001 x1002 (x7.length : Int)).bind fun bt221 => ((spec_l1Below.f x1000 bt221.2.1 bt221.2.2 4).bind fun bt224 => (if bt224.1 = 0 then ((spec_l1Below.f x1000 bt224.2.1 bt224.2.2 (x2.size : Int)).bind fun bt227 => (if 0 ≤ bt227.1 then (if bt227.1 < (x2.size : Int) then (if 0 ≤ bt221.1 then (if bt221.1 < (x7.length : Int) then (spec_l1Bend.l0 k x2 (x7.set (bt221.1 : Int).toNat (bt x2 bt227.1)) (wrap64 (x8 - 1)) x1000 bt227.2.1 bt227.2.2) else (none)) else (none)) else (none)) else (none))) else (if bt224.1 = 1 then (if 0 ≤ bt221.1 then (if bt221.1 ≤ (x7.length : Int) then (spec_l1Bend.l0 k x2 (x7.take (bt221.1 : Int).toNat) (wrap64 (x8 - 1)) x1000 bt224.2.1 bt224.2.2) else (none)) else (none)) else (if bt224.1 = 2 then ((some (([] : List Int) : List Int)).bind fun y234 => (if 0 ≤ bt221.1 then (if bt221.1 ≤ (x7.length : Int) then ((some (x7.take (bt221.1 : Int).toNat : List Int)).bind fun y237 => (if y234.length + y237.length < 140737488355328 then ((some (y234 ++ y237 : List Int)).bind fun y241 => (if 0 ≤ (wrap64 (bt221.1 + 1)) then (if (wrap64 (bt221.1 + 1)) ≤ (x7.length : Int) then ((some (x7.drop ((wrap64 (bt221.1 + 1)) : Int).toNat : List Int)).bind fun y244 => (if y241.length + y244.length < 140737488355328 then (spec_l1Bend.l0 k x2 (y241 ++ y244) (wrap64 (x8 - 1)) x1000 bt224.2.1 bt224.2.2) else (none))) else (none)) else (none))) else (none))) else (none)) else (none))) else (if bt224.1 = 3 then ((some (([] : List Int) : List Int)).bind fun y251 => (if 0 ≤ bt221.1 then (if bt221.1 ≤ (x7.length : Int) then ((some (x7.take (bt221.1 : Int).toNat : List Int)).bind fun y254 => (if y251.length + y254.length < 140737488355328 then ((some (y251 ++ y254 : List Int)).bind fun y258 => ((spec_l1Below.f x1000 bt224.2.1 bt224.2.2 (x2.size : Int)).bind fun bt261 => (if 0 ≤ bt261.1 then (if bt261.1 < (x2.size : Int) then (if y258.length < 140737488355328 then ((some (y258 ++ [bt x2 bt261.1] : List Int)).bind fun y264 => ((some (x7.drop (bt221.1 : Int).toNat : List Int)).bind fun y267 => (if y264.length + y267.length < 140737488355328 then (spec_l1Bend.l0 k x2 (y264 ++ y267) (wrap64 (x8 - 1)) x1000 bt261.2.1 bt261.2.2) else (none)))) else (none)) else (none)) else (none)))) else (none))) else (none)) else (none))) else (spec_l1Bend.l0 k x2 x7 (wrap64 (x8 - 1)) x1000 bt224.2.1 bt224.2.2))))))) else (some (strOfNums x7, x1001, x1002))
end
def spec_l1Bend.f (k : Nat) (s0_0 : List Int) (s0_1 : Int) (s0_2 : Int) (a1 : ByteArray) (a2 : ByteArray) : Option (ByteArray × Int × Int) := if (a1.size : Int) ≤ 140737488351232 then ((spec_l1Below.f s0_0 s0_1 s0_2 3).bind fun bt218 => (spec_l1Bend.l0 k a2 (bytesOf a1) bt218.1 s0_0 bt218.2.1 bt218.2.2)) else (none)
theorem spec_l1Bend.mono_l : ∀ k, (∀ y0 y1 y2 y3 y4 y5, LeO (spec_l1Bend.l0 k y0 y1 y2 y3 y4 y5) (spec_l1Bend.l0 (k + 1) y0 y1 y2 y3 y4 y5)) ∧ (∀ y0 y1 y2 y3 y4 y5 y6, LeO (spec_l1Bend.j1 k y0 y1 y2 y3 y4 y5 y6) (spec_l1Bend.j1 (k + 1) y0 y1 y2 y3 y4 y5 y6))
 | 0 => ⟨fun _ _ _ _ _ _ r h => by simp [spec_l1Bend.l0] at h, fun _ _ _ _ _ _ _ r h => by simp [spec_l1Bend.j1] at h⟩
 | k + 1 => by
  obtain ⟨ih0, ih1⟩ := spec_l1Bend.mono_l k
  refine ⟨?_, ?_⟩
  {
  intro y0 y1 y2 y3 y4 y5
  unfold spec_l1Bend.l0
  repeat' first
  | (with_reducible exact ih0 _ _ _ _ _ _)
  | (with_reducible exact ih1 _ _ _ _ _ _ _)
  | (with_reducible exact LeO.refl _)
  | (with_reducible exact LeO.none _)
  | (with_reducible refine LeO.ite ?_ ?_)
  | (with_reducible refine LeO.bind ?_ (fun _ => ?_))
  | exact ih0 _ _ _ _ _ _
  | exact ih1 _ _ _ _ _ _ _
  | exact LeO.none _
  | refine LeO.ite ?_ ?_
  | refine LeO.bind ?_ (fun _ => ?_)
  }
  {
  intro y0 y1 y2 y3 y4 y5 y6
  unfold spec_l1Bend.j1
  repeat' first
  | (with_reducible exact ih0 _ _ _ _ _ _)
  | (with_reducible exact ih1 _ _ _ _ _ _ _)
  | (with_reducible exact LeO.refl _)
  | (with_reducible exact LeO.none _)
  | (with_reducible refine LeO.ite ?_ ?_)
  | (with_reducible refine LeO.bind ?_ (fun _ => ?_))
  | exact ih0 _ _ _ _ _ _
  | exact ih1 _ _ _ _ _ _ _
  | exact LeO.none _
  | refine LeO.ite ?_ ?_
  | refine LeO.bind ?_ (fun _ => ?_)
  }
theorem spec_l1Bend.mono : ∀ a0 a1 a2 a3 a4 k, LeO (spec_l1Bend.f k a0 a1 a2 a3 a4) (spec_l1Bend.f (k + 1) a0 a1 a2 a3 a4) := by
 intro a0 a1 a2 a3 a4 k
 obtain ⟨ih0, ih1⟩ := spec_l1Bend.mono_l k
 unfold spec_l1Bend.f
 repeat' first
   | (with_reducible exact ih0 _ _ _ _ _ _)
   | (with_reducible exact ih1 _ _ _ _ _ _ _)
   | (with_reducible exact LeO.refl _)
   | (with_reducible exact LeO.none _)
   | (with_reducible refine LeO.ite ?_ ?_)
   | (with_reducible refine LeO.bind ?_ (fun _ => ?_))
   | exact ih0 _ _ _ _ _ _
   | exact ih1 _ _ _ _ _ _ _
   | exact LeO.none _
   | refine LeO.ite ?_ ?_
   | refine LeO.bind ?_ (fun _ => ?_)
def spec_l1Bend.T12 : Bool × List (List Nat × List Nat) := (true, [([], []), ([], []), ([], []), ([1, 2], [1, 2]), ([0, 3], [0, 3]), ([], []), ([], []), ([6], [6]), ([5, 7], [5, 7]), ([4, 8, 4], [4, 8]), ([9, 9, 0, 1, 2, 3, 4, 5, 6, 7, 8, 9], [1, 5, 9])])
def spec_l1Bend.B12 : List Nat := [0, 0, 0, 6, 15, 0, 0, 64, 224, 511, 1023]
theorem spec_l1Bend.tab12 : rtab .any (opsOf Try.f97 12) = spec_l1Bend.T12 := by kernel_rfl
theorem spec_l1Bend.bits12 : waitsOk spec_l1Bend.T12.2 spec_l1Bend.B12 = true := by kernel_rfl
def spec_l1Bend.T14 : Bool × List (List Nat × List Nat) := (true, [([], []), ([], []), ([], []), ([1, 2], [1, 2]), ([0, 3], [0, 3]), ([], []), ([], []), ([], []), ([7], [7]), ([6, 8, 4], [6, 8]), ([5, 9], [5, 9]), ([10], [10]), ([4, 11, 9], [4, 11]), ([], []), ([], []), ([13, 14], [13, 14]), ([12, 15, 12], [12, 15]), ([16, 16, 0, 1, 2, 3, 4, 5, 6, 7, 8, 9, 10, 11, 12, 13, 14, 15, 16], [1, 13, 16])])
def spec_l1Bend.B14 : List Nat := [0, 0, 0, 6, 15, 0, 0, 0, 128, 479, 1023, 2047, 4095, 0, 0, 24576, 65535, 131071]
theorem spec_l1Bend.tab14 : rtab .any (opsOf Try.f97 14) = spec_l1Bend.T14 := by kernel_rfl
theorem spec_l1Bend.bits14 : waitsOk spec_l1Bend.T14.2 spec_l1Bend.B14 = true := by kernel_rfl
set_option maxHeartbeats 8000000 in
set_option maxRecDepth 100000 in
theorem spec_l1Bend.calls (k : Nat) (g : Nat) (s0_0 : List Int) (s0_1 : Int) (s0_2 : Int) (a1 : ByteArray) (a2 : ByteArray) (r1 : ByteArray) (r2 : Int) (r3 : Int) (w0 w : World) (hI : IsS105 w0 w g s0_0 s0_1 s0_2) (hB : Below w0.heap.size w0 w) (h : spec_l1Bend.f k s0_0 s0_1 s0_2 a1 a2 = some (r1, r2, r3)) :
  Calls Try.prog 97 #[.pointer (some ⟨g, 0, none⟩), .string a1, .string a2] w fun e w' => e = .returned (.string r1) ∧ IsS105 w0 w' g s0_0 r2 r3 ∧ Below w0.heap.size w0 w' ∧ KeepBut w w' g none := by
 have HI0 := Aside0.mk hI
 have HK := Aside0.mk (KeepBut.refl w g none)
 have HL := Aside0.mk hB.size
 clear hI
 have HW0 := Aside0.mk hB.size
 have HB := Aside0.mk hB
 clear hB
 have H : (if (a1.size : Int) ≤ 140737488351232 then ((spec_l1Below.f s0_0 s0_1 s0_2 3).bind fun bt218 => (spec_l1Bend.l0 k a2 (bytesOf a1) bt218.1 s0_0 bt218.2.1 bt218.2.2)) else (none)) = some (r1, r2, r3) := h
 clear h
 by_cases c4 : (a1.size : Int) ≤ 140737488351232
 {
 rw [if_pos c4] at H
 have c4b0 := eq_true c4
 have c4b1 : decide ((a1.size : Int) ≤ 140737488351232) = true := decide_eq_true c4
 clear c4
 obtain ⟨y215, hy215⟩ : ∃ y_ : List Int, y_ = (bytesOf a1) := ⟨_, rfl⟩
 replace H : ((spec_l1Below.f s0_0 s0_1 s0_2 3).bind fun bt218 => (spec_l1Bend.l0 k a2 y215 bt218.1 s0_0 bt218.2.1 bt218.2.2)) = some (r1, r2, r3) := by first | (rw [hy215]; with_reducible exact H) | (have H2_ := (Option.bind_some _ _).symm.trans H; rw [hy215]; with_reducible exact H2_) | (have H2_ := (Option.bind_some _ _).symm.trans H; with_reducible exact H2_) | with_reducible exact H | (rw [hy215]; exact H) | exact H
 have Ny215 := Aside0.mk hy215
 clear hy215
 replace H := Option.bind_eq_some_iff.mp H
 obtain ⟨⟨t218, t219, t220⟩, A50, H⟩ := H
 replace H : (spec_l1Bend.l0 k a2 y215 t218 s0_0 t219 t220) = some (r1, r2, r3) := H
 have A5 := Aside0.mk A50
 clear A50
 have H' := Aside0.mk H
 clear H
 go_enter Try.func97, Try.ntmps97
 go_wp2_with (first | ((with_reducible refine gate_dst (N := 11) rfl ?_); (try (refine gate_guard (by rfl) ?_; dsimp only)); refine Go.Proofs.Ythkhfmomibfkjaa.Lib.R_conv _ 5 rfl (N := 11) rfl 9 22 (.tmp 10) rfl Try.underlying9 Try.underlying22 Try.underlying5 a1 rfl (ok := fun _ => True) (okp := fun _ => True) (fun _ hk => hk) trivial (of_decide_eq_true z97g) (Below.refl _ _) (Nat.le_refl _) ?_; intro v216 w6 ho7 hb hg_ hnew_; clear hg_ hnew_; (first | rw [← Ny215.out] at ho7 | (simp only [Int.reduceToNat] at ho7; rw [← Ny215.out] at ho7)); have n0_ := Aside0.mk (Kd.R_lower ho7 (keep_size (w := w) (g := g) (row := none) z97c)); have n1_ := Aside0.mk (IsS105.below z97a hb); have n2_ := Aside0.mk (KeepBut.trans z97c (KeepBut.of_below hb g none) (.inl rfl)); have n3_ := Aside0.mk (below_step z97d hb); clear HI0; clear HK; clear HB; have HO217 := n0_; have HI0 := n1_; have HK := n2_; have HB := n3_; clear n0_ n1_ n2_ n3_; clear hb ho7) | ((with_reducible refine gate_callee (f := 95) rfl ?_); refine goesL_ (some 13) rfl rfl Try.func95 (by kernel_rfl) rfl #[.pointer (some ⟨g, 0, none⟩), .int .i64 3] rfl z97f ?_; (with_reducible refine (spec_l1Below.calls g s0_0 s0_1 s0_2 3 t218 t219 t220 w0 _ ?side1 ?side2 A5.out).mono ?_); (case side1 => exact z97a); (case side2 => exact z97d); rintro e w8 ⟨rfl, hi, hb, hk⟩; refine ⟨_, rfl, ?_⟩; have n0_ := Aside0.mk (Kd.R_mono (Kd.R_keep (IsS105.apart (show IsS105 w0 _ g s0_0 s0_1 s0_2 from z97a) (by (with_reducible repeat (first | apply Kd.R_alloc | apply Kd.R_drewN | apply Kd.R_drew)); exact HO217.out) (by decide)) hk (fun _ h => h.2)) (fun _ h => h.1)); have n1_ := Aside0.mk (KeepBut.trans z97c hk (.inl rfl)); have n2_ := Aside0.mk (hb); have n3_ := Aside0.mk (hi); clear HO217; clear HK; clear HB; clear HI0; have HO217 := n0_; have HK := n1_; have HB := n2_; have HI0 := n3_; clear n0_ n1_ n2_ n3_; (try clear hb); (try clear hb2); (try clear hk); (try clear hi)))
 go_loopg [7, 8] k (fun kq v7 v8 w' => ∃ (x7_1 : List Int) (x8_1 : Int) (x1001_1 : Int) (x1002_1 : Int), v8 = .int .i64 x8_1 ∧ Aside0 (spec_l1Bend.l0 kq a2 x7_1 x8_1 s0_0 x1001_1 x1002_1 = some (r1, r2, r3)) ∧ Aside0 (kq ≤ k) ∧ Aside0 (Kd.R (Kd.int .u8) 5 w' w.heap.size (fun _ => True) v7 x7_1) ∧ Aside0 (IsS105 w0 w' g s0_0 x1001_1 x1002_1) ∧ Aside0 (KeepBut w w' g none) ∧ Aside0 (Below w0.heap.size w0 w'))
 case atStart => exact ⟨(y215), (t218), (t219), (t220), (by first | rfl | (simp; done) | (simp [*]; done)), H', ⟨Nat.le_refl _⟩, ⟨by (with_reducible repeat (first | apply Kd.R_alloc | apply Kd.R_drewN | apply Kd.R_drew)); exact HO217.out⟩, ⟨by repeat (first | (with_reducible first | exact HI0.out | apply IsS105.alloc | apply IsS105.drewN | apply IsS105.drew | apply IsS105.set_1 | apply IsS105.set_2) | exact HI0.out)⟩, ⟨by repeat (first | (with_reducible first | exact HK.out | apply KeepBut.set_ | apply keep_drewN | apply keep_drew | apply keep_alloc) | exact HK.out)⟩, ⟨by repeat (first | (with_reducible first | exact HB.out | apply below_alloc | apply pw_below_drewN | apply below_drew1 | refine below_set ?_ (IsS105.ge HI0.out)) | exact HB.out)⟩⟩
 case round =>
  clear H'
  try clear p2
  try clear c4
  try clear c4b0
  try clear c4b1
  obtain ⟨x7_1, x8_1, x1001_1, x1002_1, rfl, HA, HK1, HO_7, HI0, HK, HB⟩ := hrel
  cases gk with
  | zero => exact absurd HA.out (by simp [spec_l1Bend.l0])
  | succ k1 =>
   have H := HA.out
   clear HA
   simp only [spec_l1Bend.l0] at H
   have HC9 := Aside0.mk H
   clear H
   go_upto_region 3 with (fail)
   go_cut [20] (fun v20 wc => ∃ (kq : Nat) (x20_8 : Bool), v20 = .bool x20_8 ∧ Aside0 (spec_l1Bend.j1 kq a2 x7_1 x8_1 x20_8 s0_0 x1001_1 x1002_1 = some (r1, r2, r3)) ∧ Aside0 (kq ≤ k1) ∧ Aside0 (Kd.R (Kd.int .u8) 5 wc w.heap.size (fun _ => True) u7 x7_1) ∧ Aside0 (IsS105 w0 wc g s0_0 x1001_1 x1002_1) ∧ Aside0 (KeepBut w wc g none) ∧ Aside0 (Below w0.heap.size w0 wc))
   case first =>
    have H := HC9.out
    clear HC9
    by_cases c10 : x8_1 > 0
    {
    rw [if_pos c10] at H
    have c10b0 : decide (0 < x8_1) = true := decide_eq_true c10
    clear c10
    (first | rw [c10b0] | (simp only [i64_w, i32_w]; rw [c10b0]) | skip)
    have H' := Aside0.mk H
    clear H
    obtain ⟨Ao11, co11, eo11⟩ := Kd.R_slice HO_7.out
    subst eo11
    go_wp2
    go_meet
    case rel => exact ⟨_, (decide ((x7_1.length : Int) > 0)), (by first | rfl | (simp; done) | (simp [*]; done)), H', ⟨by have := HK1.out; first | omega | exact Nat.le_refl _⟩, ⟨by (with_reducible repeat (first | apply Kd.R_alloc | apply Kd.R_drewN | apply Kd.R_drew)); exact HO_7.out⟩, ⟨by repeat (first | (with_reducible first | exact HI0.out | apply IsS105.alloc | apply IsS105.drewN | apply IsS105.drew | apply IsS105.set_1 | apply IsS105.set_2) | exact HI0.out)⟩, ⟨by repeat (first | (with_reducible first | exact HK.out | apply KeepBut.set_ | apply keep_drewN | apply keep_drew | apply keep_alloc) | exact HK.out)⟩, ⟨by repeat (first | (with_reducible first | exact HB.out | apply below_alloc | apply pw_below_drewN | apply below_drew1 | refine below_set ?_ (IsS105.ge HI0.out)) | exact HB.out)⟩⟩
    }
    {
    rw [if_neg c10] at H
    have c10b0 : decide (0 < x8_1) = false := decide_eq_false c10
    clear c10
    (first | rw [c10b0] | (simp only [i64_w, i32_w]; rw [c10b0]) | skip)
    have H' := Aside0.mk H
    clear H
    go_wp2
    go_meet
    case rel => exact ⟨_, (false), (by first | rfl | (simp; done) | (simp [*]; done)), H', ⟨by have := HK1.out; first | omega | exact Nat.le_refl _⟩, ⟨by (with_reducible repeat (first | apply Kd.R_alloc | apply Kd.R_drewN | apply Kd.R_drew)); exact HO_7.out⟩, ⟨by repeat (first | (with_reducible first | exact HI0.out | apply IsS105.alloc | apply IsS105.drewN | apply IsS105.drew | apply IsS105.set_1 | apply IsS105.set_2) | exact HI0.out)⟩, ⟨by repeat (first | (with_reducible first | exact HK.out | apply KeepBut.set_ | apply keep_drewN | apply keep_drew | apply keep_alloc) | exact HK.out)⟩, ⟨by repeat (first | (with_reducible first | exact HB.out | apply below_alloc | apply pw_below_drewN | apply below_drew1 | refine below_set ?_ (IsS105.ge HI0.out)) | exact HB.out)⟩⟩
    }
   case rest =>
    clear HC9
    try clear c1
    try clear p2
    try clear c4
    try clear c4b0
    try clear c4b1
    try clear c9
    try clear c10
    try clear c10b0
    try clear p2
    obtain ⟨kq, x20_8, rfl, HA, HJ8, HO_7, HI0, HK, HB⟩ := hcut
    cases kq with
    | zero => exact absurd HA.out (by simp [spec_l1Bend.j1])
    | succ kj8 =>
     have H := HA.out
     clear HA
     simp only [spec_l1Bend.j1] at H
     by_cases c12 : x20_8 = true
     {
     subst c12
     have H1 : ((spec_l1Below.f s0_0 x1001_1 x1002_1 (x7_1.length : Int)).bind fun bt221 => ((spec_l1Below.f s0_0 bt221.2.1 bt221.2.2 4).bind fun bt224 => (if bt224.1 = 0 then ((spec_l1Below.f s0_0 bt224.2.1 bt224.2.2 (a2.size : Int)).bind fun bt227 => (if 0 ≤ bt227.1 then (if bt227.1 < (a2.size : Int) then (if 0 ≤ bt221.1 then (if bt221.1 < (x7_1.length : Int) then (spec_l1Bend.l0 kj8 a2 (x7_1.set (bt221.1 : Int).toNat (bt a2 bt227.1)) (wrap64 (x8_1 - 1)) s0_0 bt227.2.1 bt227.2.2) else (none)) else (none)) else (none)) else (none))) else (if bt224.1 = 1 then (if 0 ≤ bt221.1 then (if bt221.1 ≤ (x7_1.length : Int) then (spec_l1Bend.l0 kj8 a2 (x7_1.take (bt221.1 : Int).toNat) (wrap64 (x8_1 - 1)) s0_0 bt224.2.1 bt224.2.2) else (none)) else (none)) else (if bt224.1 = 2 then ((some (([] : List Int) : List Int)).bind fun y234 => (if 0 ≤ bt221.1 then (if bt221.1 ≤ (x7_1.length : Int) then ((some (x7_1.take (bt221.1 : Int).toNat : List Int)).bind fun y237 => (if y234.length + y237.length < 140737488355328 then ((some (y234 ++ y237 : List Int)).bind fun y241 => (if 0 ≤ (wrap64 (bt221.1 + 1)) then (if (wrap64 (bt221.1 + 1)) ≤ (x7_1.length : Int) then ((some (x7_1.drop ((wrap64 (bt221.1 + 1)) : Int).toNat : List Int)).bind fun y244 => (if y241.length + y244.length < 140737488355328 then (spec_l1Bend.l0 kj8 a2 (y241 ++ y244) (wrap64 (x8_1 - 1)) s0_0 bt224.2.1 bt224.2.2) else (none))) else (none)) else (none))) else (none))) else (none)) else (none))) else (if bt224.1 = 3 then ((some (([] : List Int) : List Int)).bind fun y251 => (if 0 ≤ bt221.1 then (if bt221.1 ≤ (x7_1.length : Int) then ((some (x7_1.take (bt221.1 : Int).toNat : List Int)).bind fun y254 => (if y251.length + y254.length < 140737488355328 then ((some (y251 ++ y254 : List Int)).bind fun y258 => ((spec_l1Below.f s0_0 bt224.2.1 bt224.2.2 (a2.size : Int)).bind fun bt261 => (if 0 ≤ bt261.1 then (if bt261.1 < (a2.size : Int) then (if y258.length < 140737488355328 then ((some (y258 ++ [bt a2 bt261.1] : List Int)).bind fun y264 => ((some (x7_1.drop (bt221.1 : Int).toNat : List Int)).bind fun y267 => (if y264.length + y267.length < 140737488355328 then (spec_l1Bend.l0 kj8 a2 (y264 ++ y267) (wrap64 (x8_1 - 1)) s0_0 bt261.2.1 bt261.2.2) else (none)))) else (none)) else (none)) else (none)))) else (none))) else (none)) else (none))) else (spec_l1Bend.l0 kj8 a2 x7_1 (wrap64 (x8_1 - 1)) s0_0 bt224.2.1 bt224.2.2))))))) = some (r1, r2, r3) := by rw [if_pos rfl] at H; exact H
     clear H
     have H := H1
     clear H1
     replace H := Option.bind_eq_some_iff.mp H
     obtain ⟨⟨t221, t222, t223⟩, A130, H⟩ := H
     replace H : ((spec_l1Below.f s0_0 t222 t223 4).bind fun bt224 => (if bt224.1 = 0 then ((spec_l1Below.f s0_0 bt224.2.1 bt224.2.2 (a2.size : Int)).bind fun bt227 => (if 0 ≤ bt227.1 then (if bt227.1 < (a2.size : Int) then (if 0 ≤ t221 then (if t221 < (x7_1.length : Int) then (spec_l1Bend.l0 kj8 a2 (x7_1.set (t221 : Int).toNat (bt a2 bt227.1)) (wrap64 (x8_1 - 1)) s0_0 bt227.2.1 bt227.2.2) else (none)) else (none)) else (none)) else (none))) else (if bt224.1 = 1 then (if 0 ≤ t221 then (if t221 ≤ (x7_1.length : Int) then (spec_l1Bend.l0 kj8 a2 (x7_1.take (t221 : Int).toNat) (wrap64 (x8_1 - 1)) s0_0 bt224.2.1 bt224.2.2) else (none)) else (none)) else (if bt224.1 = 2 then ((some (([] : List Int) : List Int)).bind fun y234 => (if 0 ≤ t221 then (if t221 ≤ (x7_1.length : Int) then ((some (x7_1.take (t221 : Int).toNat : List Int)).bind fun y237 => (if y234.length + y237.length < 140737488355328 then ((some (y234 ++ y237 : List Int)).bind fun y241 => (if 0 ≤ (wrap64 (t221 + 1)) then (if (wrap64 (t221 + 1)) ≤ (x7_1.length : Int) then ((some (x7_1.drop ((wrap64 (t221 + 1)) : Int).toNat : List Int)).bind fun y244 => (if y241.length + y244.length < 140737488355328 then (spec_l1Bend.l0 kj8 a2 (y241 ++ y244) (wrap64 (x8_1 - 1)) s0_0 bt224.2.1 bt224.2.2) else (none))) else (none)) else (none))) else (none))) else (none)) else (none))) else (if bt224.1 = 3 then ((some (([] : List Int) : List Int)).bind fun y251 => (if 0 ≤ t221 then (if t221 ≤ (x7_1.length : Int) then ((some (x7_1.take (t221 : Int).toNat : List Int)).bind fun y254 => (if y251.length + y254.length < 140737488355328 then ((some (y251 ++ y254 : List Int)).bind fun y258 => ((spec_l1Below.f s0_0 bt224.2.1 bt224.2.2 (a2.size : Int)).bind fun bt261 => (if 0 ≤ bt261.1 then (if bt261.1 < (a2.size : Int) then (if y258.length < 140737488355328 then ((some (y258 ++ [bt a2 bt261.1] : List Int)).bind fun y264 => ((some (x7_1.drop (t221 : Int).toNat : List Int)).bind fun y267 => (if y264.length + y267.length < 140737488355328 then (spec_l1Bend.l0 kj8 a2 (y264 ++ y267) (wrap64 (x8_1 - 1)) s0_0 bt261.2.1 bt261.2.2) else (none)))) else (none)) else (none)) else (none)))) else (none))) else (none)) else (none))) else (spec_l1Bend.l0 kj8 a2 x7_1 (wrap64 (x8_1 - 1)) s0_0 bt224.2.1 bt224.2.2)))))) = some (r1, r2, r3) := H
     have A13 := Aside0.mk A130
     clear A130
     replace H := Option.bind_eq_some_iff.mp H
     obtain ⟨⟨t224, t225, t226⟩, A140, H⟩ := H
     replace H : (if t224 = 0 then ((spec_l1Below.f s0_0 t225 t226 (a2.size : Int)).bind fun bt227 => (if 0 ≤ bt227.1 then (if bt227.1 < (a2.size : Int) then (if 0 ≤ t221 then (if t221 < (x7_1.length : Int) then (spec_l1Bend.l0 kj8 a2 (x7_1.set (t221 : Int).toNat (bt a2 bt227.1)) (wrap64 (x8_1 - 1)) s0_0 bt227.2.1 bt227.2.2) else (none)) else (none)) else (none)) else (none))) else (if t224 = 1 then (if 0 ≤ t221 then (if t221 ≤ (x7_1.length : Int) then (spec_l1Bend.l0 kj8 a2 (x7_1.take (t221 : Int).toNat) (wrap64 (x8_1 - 1)) s0_0 t225 t226) else (none)) else (none)) else (if t224 = 2 then ((some (([] : List Int) : List Int)).bind fun y234 => (if 0 ≤ t221 then (if t221 ≤ (x7_1.length : Int) then ((some (x7_1.take (t221 : Int).toNat : List Int)).bind fun y237 => (if y234.length + y237.length < 140737488355328 then ((some (y234 ++ y237 : List Int)).bind fun y241 => (if 0 ≤ (wrap64 (t221 + 1)) then (if (wrap64 (t221 + 1)) ≤ (x7_1.length : Int) then ((some (x7_1.drop ((wrap64 (t221 + 1)) : Int).toNat : List Int)).bind fun y244 => (if y241.length + y244.length < 140737488355328 then (spec_l1Bend.l0 kj8 a2 (y241 ++ y244) (wrap64 (x8_1 - 1)) s0_0 t225 t226) else (none))) else (none)) else (none))) else (none))) else (none)) else (none))) else (if t224 = 3 then ((some (([] : List Int) : List Int)).bind fun y251 => (if 0 ≤ t221 then (if t221 ≤ (x7_1.length : Int) then ((some (x7_1.take (t221 : Int).toNat : List Int)).bind fun y254 => (if y251.length + y254.length < 140737488355328 then ((some (y251 ++ y254 : List Int)).bind fun y258 => ((spec_l1Below.f s0_0 t225 t226 (a2.size : Int)).bind fun bt261 => (if 0 ≤ bt261.1 then (if bt261.1 < (a2.size : Int) then (if y258.length < 140737488355328 then ((some (y258 ++ [bt a2 bt261.1] : List Int)).bind fun y264 => ((some (x7_1.drop (t221 : Int).toNat : List Int)).bind fun y267 => (if y264.length + y267.length < 140737488355328 then (spec_l1Bend.l0 kj8 a2 (y264 ++ y267) (wrap64 (x8_1 - 1)) s0_0 bt261.2.1 bt261.2.2) else (none)))) else (none)) else (none)) else (none)))) else (none))) else (none)) else (none))) else (spec_l1Bend.l0 kj8 a2 x7_1 (wrap64 (x8_1 - 1)) s0_0 t225 t226))))) = some (r1, r2, r3) := H
     have A14 := Aside0.mk A140
     clear A140
     by_cases c15 : t224 = 0
     {
     rw [if_pos c15] at H
     have c15b0 : (t224 == 0) = true := beq_iff_eq.mpr c15
     have c15b1 : (t224 != 0) = false := bne_eq_false_iff_eq.mpr c15
     clear c15
     replace H := Option.bind_eq_some_iff.mp H
     obtain ⟨⟨t227, t228, t229⟩, A160, H⟩ := H
     replace H : (if 0 ≤ t227 then (if t227 < (a2.size : Int) then (if 0 ≤ t221 then (if t221 < (x7_1.length : Int) then (spec_l1Bend.l0 kj8 a2 (x7_1.set (t221 : Int).toNat (bt a2 t227)) (wrap64 (x8_1 - 1)) s0_0 t228 t229) else (none)) else (none)) else (none)) else (none)) = some (r1, r2, r3) := H
     have A16 := Aside0.mk A160
     clear A160
     by_cases c17 : 0 ≤ t227
     {
     rw [if_pos c17] at H
     have c17b0 : decide (0 ≤ t227) = true := decide_eq_true c17
     clear c17
     by_cases c18 : t227 < (a2.size : Int)
     {
     rw [if_pos c18] at H
     have c18b0 : decide (t227 < (a2.size : Int)) = true := decide_eq_true c18
     clear c18
     by_cases c20 : 0 ≤ t221
     {
     rw [if_pos c20] at H
     have c20b0 : decide (0 ≤ t221) = true := decide_eq_true c20
     clear c20
     by_cases c21 : t221 < (x7_1.length : Int)
     {
     rw [if_pos c21] at H
     have c21b0 : decide (t221 < (x7_1.length : Int)) = true := decide_eq_true c21
     clear c21
     obtain ⟨y230, hy230⟩ : ∃ y_ : List Int, y_ = (x7_1.set (t221 : Int).toNat (bt a2 t227)) := ⟨_, rfl⟩
     replace H : (spec_l1Bend.l0 kj8 a2 y230 (wrap64 (x8_1 - 1)) s0_0 t228 t229) = some (r1, r2, r3) := by first | (rw [hy230]; with_reducible exact H) | (have H2_ := (Option.bind_some _ _).symm.trans H; rw [hy230]; with_reducible exact H2_) | (have H2_ := (Option.bind_some _ _).symm.trans H; with_reducible exact H2_) | with_reducible exact H | (rw [hy230]; exact H) | exact H
     have Ny230 := Aside0.mk hy230
     clear hy230
     have H' := Aside0.mk H
     clear H
     obtain ⟨Ao23, co23, eo23⟩ := Kd.R_slice HO_7.out
     subst eo23
     go_wp2_with (first | ((with_reducible refine gate_callee (f := 95) rfl ?_); refine goesL_ (some 26) rfl rfl Try.func95 (by kernel_rfl) rfl #[.pointer (some ⟨g, 0, none⟩), .int .i64 (x7_1.length : Int)] rfl z97f ?_; (with_reducible refine (spec_l1Below.calls g s0_0 x1001_1 x1002_1 (x7_1.length : Int) t221 t222 t223 w0 _ ?side1 ?side2 A13.out).mono ?_); (case side1 => exact z97a); (case side2 => exact z97d); rintro e w24 ⟨rfl, hi, hb, hk⟩; refine ⟨_, rfl, ?_⟩; have n0_ := Aside0.mk (Kd.R_mono (Kd.R_keep (IsS105.apart (show IsS105 w0 _ g s0_0 x1001_1 x1002_1 from z97a) z97b (by decide)) hk (fun _ h => h.2)) (fun _ h => h.1)); have n1_ := Aside0.mk (KeepBut.trans z97c hk (.inl rfl)); have n2_ := Aside0.mk (hb); have n3_ := Aside0.mk (hi); clear HO_7; clear HK; clear HB; clear HI0; have HO_7 := n0_; have HK := n1_; have HB := n2_; have HI0 := n3_; clear n0_ n1_ n2_ n3_; (try clear hb); (try clear hb2); (try clear hk); (try clear hi)) | ((with_reducible refine gate_callee (f := 95) rfl ?_); refine goesL_ (some 28) rfl rfl Try.func95 (by kernel_rfl) rfl #[.pointer (some ⟨g, 0, none⟩), .int .i64 4] rfl z97f ?_; (with_reducible refine (spec_l1Below.calls g s0_0 t222 t223 4 t224 t225 t226 w0 _ ?side1 ?side2 A14.out).mono ?_); (case side1 => exact z97a); (case side2 => exact z97d); rintro e w25 ⟨rfl, hi, hb, hk⟩; refine ⟨_, rfl, ?_⟩; have n0_ := Aside0.mk (Kd.R_mono (Kd.R_keep (IsS105.apart (show IsS105 w0 _ g s0_0 t222 t223 from z97a) z97b (by decide)) hk (fun _ h => h.2)) (fun _ h => h.1)); have n1_ := Aside0.mk (KeepBut.trans z97c hk (.inl rfl)); have n2_ := Aside0.mk (hb); have n3_ := Aside0.mk (hi); clear HO_7; clear HK; clear HB; clear HI0; have HO_7 := n0_; have HK := n1_; have HB := n2_; have HI0 := n3_; clear n0_ n1_ n2_ n3_; (try clear hb); (try clear hb2); (try clear hk); (try clear hi)) | ((with_reducible refine gate_callee (f := 95) rfl ?_); refine goesL_ (some 37) rfl rfl Try.func95 (by kernel_rfl) rfl #[.pointer (some ⟨g, 0, none⟩), .int .i64 (a2.size : Int)] rfl z97f ?_; (with_reducible refine (spec_l1Below.calls g s0_0 t225 t226 (a2.size : Int) t227 t228 t229 w0 _ ?side1 ?side2 A16.out).mono ?_); (case side1 => exact z97a); (case side2 => exact z97d); rintro e w26 ⟨rfl, hi, hb, hk⟩; refine ⟨_, rfl, ?_⟩; have n0_ := Aside0.mk (Kd.R_mono (Kd.R_keep (IsS105.apart (show IsS105 w0 _ g s0_0 t225 t226 from z97a) z97b (by decide)) hk (fun _ h => h.2)) (fun _ h => h.1)); have n1_ := Aside0.mk (KeepBut.trans z97c hk (.inl rfl)); have n2_ := Aside0.mk (hb); have n3_ := Aside0.mk (hi); clear HO_7; clear HK; clear HB; clear HI0; have HO_7 := n0_; have HK := n1_; have HB := n2_; have HI0 := n3_; clear n0_ n1_ n2_ n3_; (try clear hb); (try clear hb2); (try clear hk); (try clear hi); have p19 : 0 ≤ (t227 : Int) := of_decide_eq_true z97g; have q19 : t227 < (a2.size : Int) := of_decide_eq_true z97g; have hx19 := bt_at a2 t227; replace p19 := eq_true p19; replace q19 := eq_true q19; have p22 : 0 ≤ (t221 : Int) := of_decide_eq_true z97g; have q22 : (t221 : Int) < ((x7_1.length : Int) : Int) := of_decide_eq_true z97g; obtain ⟨go22, co22, eo22, gb22, gl22, cl22, HG22⟩ := Kd.R_form HO_7.out (by omega); (first | cases eo22 | (injection eo22 with ea_ en_ ec_; (first | subst ea_ | (injection ea_ with ea_; subst ea_)); subst ec_; clear en_)); have GB22 := Aside0.mk gb22; have GG22 := Aside0.mk HG22; clear gb22 gl22 HG22; obtain ⟨hx22_0, hf22_0⟩ := Kd.R_celln 0 HO_7.out (t221 : Int) p22 q22; replace p22 := eq_true p22; replace q22 := eq_true q22; obtain ⟨hy27_, hz27_⟩ := Kd.R_celln 0 HO_7.out (t221 : Int) (of_decide_eq_true z97g) (of_decide_eq_true z97g); have HP27 := Kd.R_putg HO_7.out (t221 : Int) (bt a2 t227)) | ((with_reducible refine gate_store (t := 5) (p := 39) rfl ?_); refine store_event (t := 5) (p := 39) (v := ?vo_w28) (w1 := (w26.setCell ⟨go22, (t221 : Int).toNat, none⟩ (.int .u8 (bt a2 t227)))) ?hg ?ho ?hn ?hr ?_; (case ho => rfl); (case hg => rfl); (case hn => rfl); (case hr => first | (go_simp; done) | (go_simp; rfl)); intro w28 hw; have hg : w26.grownBy w28 (some go22) := (by rw [hw]; exact HP27.2); have hp_ : Kd.R (Kd.int .u8) 5 w28 w.heap.size (fun _ => True) (.slice (some ⟨go22, 0, none⟩) x7_1.length co23) y230 := (by rw [hw, Ny230.out]; exact HP27.1); clear HP27; have n0_ := Aside0.mk (hp_); have n1_ := Aside0.mk (IsS105.grown z97a hg (IsS105.own_ne HI0.out HO_7.out (by decide))); have n2_ := Aside0.mk ((by rw [hw]; exact below_set (HB.out) (Nat.le_trans HL.out GB22.out) : Below w0.heap.size w0 w28)); have n3_ := Aside0.mk (KeepBut.trans z97c (KeepBut.of_grown hg g) (Kd.R_base2 HO_7.out)); clear HO_7; clear HI0; clear HB; clear HK; have HO_7 := n0_; have HI0 := n1_; have HB := n2_; have HK := n3_; clear n0_ n1_ n2_ n3_; clear hg hw hp_))
     go_roundg kj8
     case measure => have := HK1.out; have := HJ8.out; omega
     case rel => exact ⟨(y230), (wrap64 (x8_1 - 1)), (t228), (t229), (by first | rfl | (simp; done) | (simp [*]; done)), H', ⟨by have := HK1.out; have := HJ8.out; omega⟩, ⟨by (with_reducible repeat (first | apply Kd.R_alloc | apply Kd.R_drewN | apply Kd.R_drew)); exact HO_7.out⟩, ⟨by repeat (first | (with_reducible first | exact HI0.out | apply IsS105.alloc | apply IsS105.drewN | apply IsS105.drew | apply IsS105.set_1 | apply IsS105.set_2) | exact HI0.out)⟩, ⟨by repeat (first | (with_reducible first | exact HK.out | apply KeepBut.set_ | apply keep_drewN | apply keep_drew | apply keep_alloc) | exact HK.out)⟩, ⟨by repeat (first | (with_reducible first | exact HB.out | apply below_alloc | apply pw_below_drewN | apply below_drew1 | refine below_set ?_ (IsS105.ge HI0.out)) | exact HB.out)⟩⟩
     }
     {
     rw [if_neg c21] at H
     exact absurd H (by simp)
     }
     }
     {
     rw [if_neg c20] at H
     exact absurd H (by simp)
     }
     }
     {
     rw [if_neg c18] at H
     exact absurd H (by simp)
     }
     }
     {
     rw [if_neg c17] at H
     exact absurd H (by simp)
     }
     }
     {
     rw [if_neg c15] at H
     have c15b0 : (t224 == 0) = false := beq_eq_false_iff_ne.mpr c15
     have c15b1 : (t224 != 0) = true := bne_iff_ne.mpr c15
     by_cases c29 : t224 = 1
     {
     rw [if_pos c29] at H
     have c29b0 : (t224 == 1) = true := beq_iff_eq.mpr c29
     have c29b1 : (t224 != 1) = false := bne_eq_false_iff_eq.mpr c29
     clear c29
     by_cases c30 : 0 ≤ t221
     {
     rw [if_pos c30] at H
     have c30b0 := eq_true c30
     have c30b1 : decide (0 ≤ t221) = true := decide_eq_true c30
     clear c30
     by_cases c31 : t221 ≤ (x7_1.length : Int)
     {
     rw [if_pos c31] at H
     have c31b0 := eq_true c31
     have c31b1 : decide (t221 ≤ (x7_1.length : Int)) = true := decide_eq_true c31
     clear c31
     obtain ⟨y231, hy231⟩ : ∃ y_ : List Int, y_ = (x7_1.take (t221 : Int).toNat) := ⟨_, rfl⟩
     replace H : (spec_l1Bend.l0 kj8 a2 y231 (wrap64 (x8_1 - 1)) s0_0 t225 t226) = some (r1, r2, r3) := by first | (rw [hy231]; with_reducible exact H) | (have H2_ := (Option.bind_some _ _).symm.trans H; rw [hy231]; with_reducible exact H2_) | (have H2_ := (Option.bind_some _ _).symm.trans H; with_reducible exact H2_) | with_reducible exact H | (rw [hy231]; exact H) | exact H
     have Ny231 := Aside0.mk hy231
     clear hy231
     have H' := Aside0.mk H
     clear H
     obtain ⟨Ao32, co32, eo32⟩ := Kd.R_slice HO_7.out
     subst eo32
     go_wp2_with (first | ((with_reducible refine gate_callee (f := 95) rfl ?_); refine goesL_ (some 26) rfl rfl Try.func95 (by kernel_rfl) rfl #[.pointer (some ⟨g, 0, none⟩), .int .i64 (x7_1.length : Int)] rfl z97f ?_; (with_reducible refine (spec_l1Below.calls g s0_0 x1001_1 x1002_1 (x7_1.length : Int) t221 t222 t223 w0 _ ?side1 ?side2 A13.out).mono ?_); (case side1 => exact z97a); (case side2 => exact z97d); rintro e w33 ⟨rfl, hi, hb, hk⟩; refine ⟨_, rfl, ?_⟩; have n0_ := Aside0.mk (Kd.R_mono (Kd.R_keep (IsS105.apart (show IsS105 w0 _ g s0_0 x1001_1 x1002_1 from z97a) z97b (by decide)) hk (fun _ h => h.2)) (fun _ h => h.1)); have n1_ := Aside0.mk (KeepBut.trans z97c hk (.inl rfl)); have n2_ := Aside0.mk (hb); have n3_ := Aside0.mk (hi); clear HO_7; clear HK; clear HB; clear HI0; have HO_7 := n0_; have HK := n1_; have HB := n2_; have HI0 := n3_; clear n0_ n1_ n2_ n3_; (try clear hb); (try clear hb2); (try clear hk); (try clear hi)) | ((with_reducible refine gate_callee (f := 95) rfl ?_); refine goesL_ (some 28) rfl rfl Try.func95 (by kernel_rfl) rfl #[.pointer (some ⟨g, 0, none⟩), .int .i64 4] rfl z97f ?_; (with_reducible refine (spec_l1Below.calls g s0_0 t222 t223 4 t224 t225 t226 w0 _ ?side1 ?side2 A14.out).mono ?_); (case side1 => exact z97a); (case side2 => exact z97d); rintro e w34 ⟨rfl, hi, hb, hk⟩; refine ⟨_, rfl, ?_⟩; have n0_ := Aside0.mk (Kd.R_mono (Kd.R_keep (IsS105.apart (show IsS105 w0 _ g s0_0 t222 t223 from z97a) z97b (by decide)) hk (fun _ h => h.2)) (fun _ h => h.1)); have n1_ := Aside0.mk (KeepBut.trans z97c hk (.inl rfl)); have n2_ := Aside0.mk (hb); have n3_ := Aside0.mk (hi); clear HO_7; clear HK; clear HB; clear HI0; have HO_7 := n0_; have HK := n1_; have HB := n2_; have HI0 := n3_; clear n0_ n1_ n2_ n3_; (try clear hb); (try clear hb2); (try clear hk); (try clear hi); have q35 : (t221 : Int) ≤ ((x7_1.length : Int) : Int) := of_decide_eq_true z97g; obtain ⟨i035, hi035, _, hsz35, _⟩ := info_parts info5; have hcut35 := cut_to (P := Try.prog) 22 5 .i64 Try.underlying22 hi035 Ao32 x7_1.length co32 t221 (of_decide_eq_true z97g) q35 (Kd.R_reads' HO_7.out).2.1; have hr35 := Kd.R_take (m := (t221 : Int).toNat) HO_7.out (by omega); have hy35 : y231.length = (t221 : Int).toNat := (by rw [Ny231.out, List.length_take]; omega); rw [← Ny231.out] at hr35; rw [← hy35] at hr35 hcut35; clear hy35 hi035 hsz35 HO_7; have HO233 := Aside0.mk hr35; clear hr35; replace q35 := eq_true q35))
     go_roundg kj8
     case measure => have := HK1.out; have := HJ8.out; omega
     case rel => exact ⟨(y231), (wrap64 (x8_1 - 1)), (t225), (t226), (by first | rfl | (simp; done) | (simp [*]; done)), H', ⟨by have := HK1.out; have := HJ8.out; omega⟩, ⟨by (with_reducible repeat (first | apply Kd.R_alloc | apply Kd.R_drewN | apply Kd.R_drew)); exact HO233.out⟩, ⟨by repeat (first | (with_reducible first | exact HI0.out | apply IsS105.alloc | apply IsS105.drewN | apply IsS105.drew | apply IsS105.set_1 | apply IsS105.set_2) | exact HI0.out)⟩, ⟨by repeat (first | (with_reducible first | exact HK.out | apply KeepBut.set_ | apply keep_drewN | apply keep_drew | apply keep_alloc) | exact HK.out)⟩, ⟨by repeat (first | (with_reducible first | exact HB.out | apply below_alloc | apply pw_below_drewN | apply below_drew1 | refine below_set ?_ (IsS105.ge HI0.out)) | exact HB.out)⟩⟩
     }
     {
     rw [if_neg c31] at H
     exact absurd H (by simp)
     }
     }
     {
     rw [if_neg c30] at H
     exact absurd H (by simp)
     }
     }
     {
     rw [if_neg c29] at H
     have c29b0 : (t224 == 1) = false := beq_eq_false_iff_ne.mpr c29
     have c29b1 : (t224 != 1) = true := bne_iff_ne.mpr c29
     by_cases c36 : t224 = 2
     {
     rw [if_pos c36] at H
     have c36b0 : (t224 == 2) = true := beq_iff_eq.mpr c36
     have c36b1 : (t224 != 2) = false := bne_eq_false_iff_eq.mpr c36
     clear c36
     obtain ⟨y234, hy234⟩ : ∃ y_ : List Int, y_ = (([] : List Int)) := ⟨_, rfl⟩
     replace H : (if 0 ≤ t221 then (if t221 ≤ (x7_1.length : Int) then ((some (x7_1.take (t221 : Int).toNat : List Int)).bind fun y237 => (if y234.length + y237.length < 140737488355328 then ((some (y234 ++ y237 : List Int)).bind fun y241 => (if 0 ≤ (wrap64 (t221 + 1)) then (if (wrap64 (t221 + 1)) ≤ (x7_1.length : Int) then ((some (x7_1.drop ((wrap64 (t221 + 1)) : Int).toNat : List Int)).bind fun y244 => (if y241.length + y244.length < 140737488355328 then (spec_l1Bend.l0 kj8 a2 (y241 ++ y244) (wrap64 (x8_1 - 1)) s0_0 t225 t226) else (none))) else (none)) else (none))) else (none))) else (none)) else (none)) = some (r1, r2, r3) := by first | (rw [hy234]; with_reducible exact H) | (have H2_ := (Option.bind_some _ _).symm.trans H; rw [hy234]; with_reducible exact H2_) | (have H2_ := (Option.bind_some _ _).symm.trans H; with_reducible exact H2_) | with_reducible exact H | (rw [hy234]; exact H) | exact H
     have Ny234 := Aside0.mk hy234
     clear hy234
     by_cases c37 : 0 ≤ t221
     {
     rw [if_pos c37] at H
     have c37b0 := eq_true c37
     have c37b1 : decide (0 ≤ t221) = true := decide_eq_true c37
     clear c37
     by_cases c38 : t221 ≤ (x7_1.length : Int)
     {
     rw [if_pos c38] at H
     have c38b0 := eq_true c38
     have c38b1 : decide (t221 ≤ (x7_1.length : Int)) = true := decide_eq_true c38
     clear c38
     obtain ⟨y237, hy237⟩ : ∃ y_ : List Int, y_ = (x7_1.take (t221 : Int).toNat) := ⟨_, rfl⟩
     replace H : (if y234.length + y237.length < 140737488355328 then ((some (y234 ++ y237 : List Int)).bind fun y241 => (if 0 ≤ (wrap64 (t221 + 1)) then (if (wrap64 (t221 + 1)) ≤ (x7_1.length : Int) then ((some (x7_1.drop ((wrap64 (t221 + 1)) : Int).toNat : List Int)).bind fun y244 => (if y241.length + y244.length < 140737488355328 then (spec_l1Bend.l0 kj8 a2 (y241 ++ y244) (wrap64 (x8_1 - 1)) s0_0 t225 t226) else (none))) else (none)) else (none))) else (none)) = some (r1, r2, r3) := by first | (rw [hy237]; with_reducible exact H) | (have H2_ := (Option.bind_some _ _).symm.trans H; rw [hy237]; with_reducible exact H2_) | (have H2_ := (Option.bind_some _ _).symm.trans H; with_reducible exact H2_) | with_reducible exact H | (rw [hy237]; exact H) | exact H
     have Ny237 := Aside0.mk hy237
     clear hy237
     by_cases c39 : y234.length + y237.length < 140737488355328
     {
     rw [if_pos c39] at H
     have LMc39 := Aside0.mk c39
     clear c39
     obtain ⟨y241, hy241⟩ : ∃ y_ : List Int, y_ = (y234 ++ y237) := ⟨_, rfl⟩
     replace H : (if 0 ≤ (wrap64 (t221 + 1)) then (if (wrap64 (t221 + 1)) ≤ (x7_1.length : Int) then ((some (x7_1.drop ((wrap64 (t221 + 1)) : Int).toNat : List Int)).bind fun y244 => (if y241.length + y244.length < 140737488355328 then (spec_l1Bend.l0 kj8 a2 (y241 ++ y244) (wrap64 (x8_1 - 1)) s0_0 t225 t226) else (none))) else (none)) else (none)) = some (r1, r2, r3) := by first | (rw [hy241]; with_reducible exact H) | (have H2_ := (Option.bind_some _ _).symm.trans H; rw [hy241]; with_reducible exact H2_) | (have H2_ := (Option.bind_some _ _).symm.trans H; with_reducible exact H2_) | with_reducible exact H | (rw [hy241]; exact H) | exact H
     have Ny241 := Aside0.mk hy241
     clear hy241
     obtain ⟨ji40, hji40⟩ : ∃ j_ : Int, (wrap64 (t221 + 1)) = j_ := ⟨_, rfl⟩
     replace H : (if 0 ≤ (ji40) then (if (ji40) ≤ (x7_1.length : Int) then ((some (x7_1.drop ((ji40) : Int).toNat : List Int)).bind fun y244 => (if y241.length + y244.length < 140737488355328 then (spec_l1Bend.l0 kj8 a2 (y241 ++ y244) (wrap64 (x8_1 - 1)) s0_0 t225 t226) else (none))) else (none)) else (none)) = some (r1, r2, r3) := by first | (rw [hji40] at H; exact H) | (simp only [hji40] at H ⊢; exact H)
     (try rw [hji40])
     (try rw [hji40] at A13)
     (try rw [hji40] at A14)
     have hji40w : (IntKind.i64.wrap (t221 + 1)) = ji40 := (i64_w _).trans hji40
     by_cases c41 : 0 ≤ (ji40)
     {
     rw [if_pos c41] at H
     have c41b0 := eq_true c41
     have c41b1 : decide (0 ≤ (ji40)) = true := decide_eq_true c41
     clear c41
     by_cases c42 : (ji40) ≤ (x7_1.length : Int)
     {
     rw [if_pos c42] at H
     have c42b0 := eq_true c42
     have c42b1 : decide ((ji40) ≤ (x7_1.length : Int)) = true := decide_eq_true c42
     clear c42
     obtain ⟨y244, hy244⟩ : ∃ y_ : List Int, y_ = (x7_1.drop ((ji40) : Int).toNat) := ⟨_, rfl⟩
     replace H : (if y241.length + y244.length < 140737488355328 then (spec_l1Bend.l0 kj8 a2 (y241 ++ y244) (wrap64 (x8_1 - 1)) s0_0 t225 t226) else (none)) = some (r1, r2, r3) := by first | (rw [hy244]; with_reducible exact H) | (have H2_ := (Option.bind_some _ _).symm.trans H; rw [hy244]; with_reducible exact H2_) | (have H2_ := (Option.bind_some _ _).symm.trans H; with_reducible exact H2_) | with_reducible exact H | (rw [hy244]; exact H) | exact H
     have Ny244 := Aside0.mk hy244
     clear hy244
     by_cases c43 : y241.length + y244.length < 140737488355328
     {
     rw [if_pos c43] at H
     have LMc43 := Aside0.mk c43
     clear c43
     obtain ⟨y248, hy248⟩ : ∃ y_ : List Int, y_ = (y241 ++ y244) := ⟨_, rfl⟩
     replace H : (spec_l1Bend.l0 kj8 a2 y248 (wrap64 (x8_1 - 1)) s0_0 t225 t226) = some (r1, r2, r3) := by first | (rw [hy248]; with_reducible exact H) | (have H2_ := (Option.bind_some _ _).symm.trans H; rw [hy248]; with_reducible exact H2_) | (have H2_ := (Option.bind_some _ _).symm.trans H; with_reducible exact H2_) | with_reducible exact H | (rw [hy248]; exact H) | exact H
     have Ny248 := Aside0.mk hy248
     clear hy248
     have H' := Aside0.mk H
     clear H
     obtain ⟨Ao44, co44, eo44⟩ := Kd.R_slice HO_7.out
     subst eo44
     try go_wp2_with (first | ((with_reducible refine gate_callee (f := 95) rfl ?_); refine goesL_ (some 26) rfl rfl Try.func95 (by kernel_rfl) rfl #[.pointer (some ⟨g, 0, none⟩), .int .i64 (x7_1.length : Int)] rfl z97f ?_; (with_reducible refine (spec_l1Below.calls g s0_0 x1001_1 x1002_1 (x7_1.length : Int) t221 t222 t223 w0 _ ?side1 ?side2 A13.out).mono ?_); (case side1 => exact z97a); (case side2 => exact z97d); rintro e w45 ⟨rfl, hi, hb, hk⟩; refine ⟨_, rfl, ?_⟩; have n0_ := Aside0.mk (Kd.R_mono (Kd.R_keep (IsS105.apart (show IsS105 w0 _ g s0_0 x1001_1 x1002_1 from z97a) z97b (by decide)) hk (fun _ h => h.2)) (fun _ h => h.1)); have n1_ := Aside0.mk (KeepBut.trans z97c hk (.inl rfl)); have n2_ := Aside0.mk (hb); have n3_ := Aside0.mk (hi); clear HO_7; clear HK; clear HB; clear HI0; have HO_7 := n0_; have HK := n1_; have HB := n2_; have HI0 := n3_; clear n0_ n1_ n2_ n3_; (try clear hb); (try clear hb2); (try clear hk); (try clear hi)) | ((with_reducible refine gate_callee (f := 95) rfl ?_); refine goesL_ (some 28) rfl rfl Try.func95 (by kernel_rfl) rfl #[.pointer (some ⟨g, 0, none⟩), .int .i64 4] rfl z97f ?_; (with_reducible refine (spec_l1Below.calls g s0_0 t222 t223 4 t224 t225 t226 w0 _ ?side1 ?side2 A14.out).mono ?_); (case side1 => exact z97a); (case side2 => exact z97d); rintro e w46 ⟨rfl, hi, hb, hk⟩; refine ⟨_, rfl, ?_⟩; have n0_ := Aside0.mk (Kd.R_mono (Kd.R_keep (IsS105.apart (show IsS105 w0 _ g s0_0 t222 t223 from z97a) z97b (by decide)) hk (fun _ h => h.2)) (fun _ h => h.1)); have n1_ := Aside0.mk (KeepBut.trans z97c hk (.inl rfl)); have n2_ := Aside0.mk (hb); have n3_ := Aside0.mk (hi); clear HO_7; clear HK; clear HB; clear HI0; have HO_7 := n0_; have HK := n1_; have HB := n2_; have HI0 := n3_; clear n0_ n1_ n2_ n3_; (try clear hb); (try clear hb2); (try clear hk); (try clear hi)))
     have n0_ := Aside0.mk (Kd.R_drew HO_7.out)
     have n1_ := Aside0.mk (IsS105.drew HI0.out)
     have n2_ := Aside0.mk (keep_drew HK.out)
     have n3_ := Aside0.mk (below_drew1 HB.out)
     clear HO_7
     clear HI0
     clear HK
     clear HB
     have HO_7 := n0_
     have HI0 := n1_
     have HK := n2_
     have HB := n3_
     clear n0_ n1_ n2_ n3_
     have q48 : (t221 : Int) ≤ ((x7_1.length : Int) : Int) := of_decide_eq_true z97g
     obtain ⟨i048, hi048, _, hsz48, _⟩ := info_parts info5
     have hroom48 : x7_1.length ≤ co44 := (Kd.R_reads' HO_7.out).2.1
     have hC48 : Kd.C (Kd.int .u8) _ Ao44 x7_1.length x7_1 := (Kd.R_reads' HO_7.out).2.2
     have hcut48 := cut_to (P := Try.prog) 22 5 .i64 Try.underlying22 hi048 Ao44 x7_1.length co44 t221 (of_decide_eq_true z97g) q48 hroom48
     have hr48 := Kd.C_take (m := (t221 : Int).toNat) hC48 (by omega)
     have hy48 : y237.length = (t221 : Int).toNat := (by rw [Ny237.out, List.length_take]; omega)
     rw [← Ny237.out] at hr48
     rw [← hy48] at hcut48
     have HR240 := Aside0.mk hr48
     have HC240 := Aside0.mk (show y237.length ≤ co44 from (by omega))
     clear hr48 hC48 hroom48 hi048 hsz48
     have KY48 := Aside0.mk hy48
     clear hy48
     have KL48 := Aside0.mk (show (t221 : Int).toNat ≤ x7_1.length from (by omega))
     replace q48 := eq_true q48
     have q49 : ((ji40) : Int) ≤ ((x7_1.length : Int) : Int) := of_decide_eq_true z97g
     obtain ⟨i049, hi049, _, hsz49, _⟩ := info_parts info5
     have hroom49 : x7_1.length ≤ co44 := (Kd.R_reads' HO_7.out).2.1
     have hC49 : Kd.C (Kd.int .u8) _ Ao44 x7_1.length x7_1 := (Kd.R_reads' HO_7.out).2.2
     have q049 : (0 : Int) ≤ ((ji40) : Int) := of_decide_eq_true z97g
     have hcut49 := cut_from (P := Try.prog) 22 5 .i64 Try.underlying22 hi049 1 hsz49 Ao44 x7_1.length co44 (ji40) q049 q49
     have hr49 := Kd.C_drop (m := ((ji40) : Int).toNat) (c := co44) hC49 (by omega) hroom49
     obtain ⟨A49, hA49⟩ : ∃ A1, A1 = (if co44 = ((ji40) : Int).toNat then Ao44 else (Ao44 : Option Addr).map (·.add (((ji40) : Int).toNat * 1))) := ⟨_, rfl⟩
     obtain ⟨c49, hc49⟩ : ∃ c1, c1 = co44 - ((ji40) : Int).toNat := ⟨_, rfl⟩
     have hy49 : y244.length = x7_1.length - ((ji40) : Int).toNat := (by rw [Ny244.out, List.length_drop] <;> omega)
     rw [show (x7_1).drop ((ji40) : Int).toNat = y244 from Ny244.out.symm] at hr49
     replace hr49 : Kd.C (Kd.int .u8) _ A49 y244.length y244 := (by rw [hA49]; exact hr49)
     rw [← hy49, ← hA49, ← hc49] at hcut49
     have HR247 := Aside0.mk hr49
     have HC247 := Aside0.mk (show y244.length ≤ c49 from (by rw [hy49, hc49]; exact Nat.sub_le_sub_right hroom49 _))
     clear hr49 hC49 hroom49 hi049 hsz49 hc49
     have KY49 := Aside0.mk hy49
     have KA49 := Aside0.mk hA49
     clear hy49 hA49
     have KL49 := Aside0.mk (show ((ji40) : Int).toNat ≤ x7_1.length from (by omega))
     replace q49 := eq_true q49
     refine start_ (n := 11) (S := fun w' => True) (ds := []) #[X, X, X, X, X, X, X, X, X, X, X] (by kernel_rfl) rfl rfl trivial (fun hHeld => ?_); refine with_tabW spec_l1Bend.tab12 spec_l1Bend.bits12 (fun HT_ HW_ => ?_)
     generalize w46.drew = w47 at HO_7 HI0 HK HB HR240 HR247 hHeld ⊢
     refine pure_ (i := 1) (N := some 48) (v := _) (a' := _) #[X, Y, X, X, X, X, X, X, X, X, X] rfl rfl (any_of HT_.out (by kernel_rfl)) (fun _ _ _ h => h) (Or.inl ⟨by rfl, (by intro w'; go_simp; with_reducible rfl)⟩) z97e ?_
     refine pure_ (i := 2) (N := some 49) (v := _) (a' := _) #[X, Y, Y, X, X, X, X, X, X, X, X] rfl rfl (any_of HT_.out (by kernel_rfl)) (fun _ _ _ h => h) (Or.inl ⟨by rfl, (by intro w'; go_simp; with_reducible rfl)⟩) z97e ?_
     refine pure_ (i := 3) (N := some 50) (v := _) (a' := _) #[X, Y, Y, Y, X, X, X, X, X, X, X] rfl rfl (any_of HT_.out (by kernel_rfl)) (fun _ _ _ h => h) (Or.inl ⟨by rfl, (by intro w'; go_simp; with_reducible rfl)⟩) z97e ?_
     refine pure_ (i := 5) (N := some 52) (v := _) (a' := _) #[X, Y, Y, Y, X, Y, X, X, X, X, X] rfl rfl (any_of HT_.out (by kernel_rfl)) (fun _ _ _ h => h) (Or.inl ⟨by rfl, (by intro w'; go_simp; with_reducible rfl)⟩) z97e ?_
     refine pure_ (i := 6) (N := some 53) (v := _) (a' := _) #[X, Y, Y, Y, X, Y, Y, X, X, X, X] rfl rfl (any_of HT_.out (by kernel_rfl)) (fun _ _ _ h => h) (Or.inl ⟨by rfl, (by intro w'; go_simp; with_reducible rfl)⟩) z97e ?_
     refine pure_ (i := 7) (N := some 54) (v := _) (a' := _) #[X, Y, Y, Y, X, Y, Y, Y, X, X, X] rfl rfl (any_of HT_.out (by kernel_rfl)) (fun _ _ _ h => h) (Or.inl ⟨by rfl, (by intro w'; go_simp; with_reducible rfl)⟩) z97e ?_
     refine pure_ (i := 8) (N := some 55) (v := _) (a' := _) #[X, Y, Y, Y, X, Y, Y, Y, Y, X, X] rfl rfl (any_of HT_.out (by kernel_rfl)) (fun _ _ _ h => h) (Or.inl ⟨by rfl, (by intro w'; go_simp; with_reducible rfl)⟩) z97e ?_
     refine one_ (i := 0) (N := some 47) #[Y, Y, Y, Y, X, Y, Y, Y, Y, X, X] rfl rfl (one_of HT_.out (by kernel_rfl)) (by decide) (fun K hK => ?_)
     refine Kd.R_lit_step (Kd.int .u8) _ 5 ?hg (N := 47) ?hd (xs := ([] : List Int)) (inner := []) (ok := fun _ => True) (okp := fun _ => True) ?hr ?hp (fun _ hk => hk) trivial (Below.refl _ _) (Nat.le_refl _) (by simp) ?_; (case hd => rfl); (case hg => rfl); (case hr => first | (go_simp; done) | (go_simp; rfl)); (case hp => exact (Reps.none _ _))
     intro v235 w50 ho51 hb hg_ hnew_
     clear hg_ hnew_
     (first | rw [← Ny234.out] at ho51 | (simp only [Int.reduceToNat] at ho51; rw [← Ny234.out] at ho51))
     have n0_ := Aside0.mk (Kd.R_elder' z97b (Kd.R_base ho51) hb)
     have n1_ := Aside0.mk (Kd.R_lower (Kd.R_new' ho51 (Kd.R_lt z97b)) (keep_size (w := w) (g := g) (row := none) z97c))
     have n2_ := Aside0.mk (IsS105.below z97a hb)
     have n3_ := Aside0.mk (Kd.C_below (by repeat (first | (with_reducible exact HR240.out) | (with_reducible refine Kd.C_alloc ?_ _) | (with_reducible refine Kd.C_drewN ?_ _) | (with_reducible refine Kd.C_drew ?_) | exact HR240.out)) hb)
     have n4_ := Aside0.mk (Kd.C_below (by repeat (first | (with_reducible exact HR247.out) | (with_reducible refine Kd.C_alloc ?_ _) | (with_reducible refine Kd.C_drewN ?_ _) | (with_reducible refine Kd.C_drew ?_) | exact HR247.out)) hb)
     have n5_ := Aside0.mk (KeepBut.trans z97c (KeepBut.of_below hb g none) (.inl rfl))
     have n6_ := Aside0.mk (below_step z97d hb)
     clear HO_7
     clear HI0
     clear HR240
     clear HR247
     clear HK
     clear HB
     have HO_7 := n0_
     have HO236 := n1_
     have HI0 := n2_
     have HR240 := n3_
     have HR247 := n4_
     have HK := n5_
     have HB := n6_
     clear n0_ n1_ n2_ n3_ n4_ n5_ n6_
     clear hb ho51
     refine hK.out _ _ trivial (fun hHeld => ?_)
     clear hK K
     refine norm_ (a' := ?_) ?_ ?_
     rotate_left
     {
     show Act.put _ (some 47) _ = _
     simp only [Act.put, List.setIfInBounds_toArray, List.set_cons_zero, List.set_cons_succ, i64_w, i32_w]
     rfl
     }
     refine one_ (i := 4) (N := some 51) #[Y, Y, Y, Y, Y, Y, Y, Y, Y, X, X] rfl rfl (one_of HT_.out (by kernel_rfl)) (by decide) (fun K hK => ?_)
     refine Kd.R_append_rows_step (Kd.int .u8) w.heap.size (by rfl) (.tmp 47) (.tmp 50) 22 5 (.int .u8 0) 1 rfl Try.underlying22 info5 rfl (by decide) (by omega) v235 y234 y237 _ _ _ (fun k_ => some k_ ≠ (.slice Ao44 x7_1.length co44 : Value).ownBlock) (fun _ => False) rfl rfl ?aO ?aR (fun _ _ h => h) (fun _ h => h.elim) ?aF (Below.refl _ _) ?aS ?aL ?_
     (case aR => repeat (first | exact (by repeat (first | (with_reducible exact HR240.out) | (with_reducible refine Kd.C_alloc ?_ _) | (with_reducible refine Kd.C_drewN ?_ _) | (with_reducible refine Kd.C_drew ?_) | exact HR240.out)) | (with_reducible refine Kd.C_alloc ?_ _) | (with_reducible refine Kd.C_drewN ?_ _) | (with_reducible refine Kd.C_drew ?_)))
     (case aF => exact (fun k_ hk => Kd.fresh' (Kd.R_lt z97b) k_ hk))
     (case aO => exact (by (with_reducible repeat (first | apply Kd.R_alloc | apply Kd.R_drewN | apply Kd.R_drew)); exact Kd.R_mono HO236.out (fun _ hk => hk.2)))
     (case aS => exact (keep_size (w := w) (g := g) (row := none) z97c))
     (case aL => have := LMc39.out; omega)
     intro v242 w52 ho hb hg hat
     rw [← Ny241.out] at ho
     have n0_ := Aside0.mk (Kd.R_after (ok := (fun _ => True)) z97b hg hat)
     have n1_ := Aside0.mk (IsS105.grown z97a hg (IsS105.own_ne HI0.out HO236.out (by decide)))
     have n2_ := Aside0.mk (below_weaken z97d HL.out hb)
     have n3_ := Aside0.mk (KeepBut.trans z97c (KeepBut.of_grown hg g) (Kd.R_base2 HO236.out))
     have n4_ := Aside0.mk ((show Kd.C (Kd.int .u8) w52 Ao44 y237.length y237 from (by rw [Ny237.out]; exact Kd.C_take (m := (t221 : Int).toNat) ((Kd.R_reads' (Kd.R_after (ok := (fun _ => True)) z97b hg hat)).2.2) KL48.out)))
     have n5_ := Aside0.mk ((show Kd.C (Kd.int .u8) w52 A49 y244.length y244 from (by rw [Ny244.out, KA49.out]; exact Kd.C_drop (m := ((ji40) : Int).toNat) (c := co44) ((Kd.R_reads' (Kd.R_after (ok := (fun _ => True)) z97b hg hat)).2.2) KL49.out ((Kd.R_reads' (Kd.R_after (ok := (fun _ => True)) z97b hg hat)).2.1))))
     have n6_ := Aside0.mk (ho)
     clear HO_7
     clear HI0
     clear HB
     clear HK
     clear HR240
     clear HR247
     clear HO236
     have HO_7 := n0_
     have HI0 := n1_
     have HB := n2_
     have HK := n3_
     have HR240 := n4_
     have HR247 := n5_
     have HO243 := n6_
     clear n0_ n1_ n2_ n3_ n4_ n5_ n6_
     clear ho hb hg hat
     refine hK.out _ _ trivial (fun hHeld => ?_)
     clear hK K
     refine norm_ (a' := ?_) ?_ ?_
     rotate_left
     {
     show Act.put _ (some 51) _ = _
     simp only [Act.put, List.setIfInBounds_toArray, List.set_cons_zero, List.set_cons_succ, i64_w, i32_w]
     rfl
     }
     refine one_ (i := 9) (N := some 56) #[Y, Y, Y, Y, Y, Y, Y, Y, Y, Y, X] rfl rfl (one_of HT_.out (by kernel_rfl)) (by decide) (fun K hK => ?_)
     refine Kd.R_append_rows_step (Kd.int .u8) w.heap.size (by rfl) (.tmp 51) (.tmp 55) 22 5 (.int .u8 0) 1 rfl Try.underlying22 info5 rfl (by decide) (by omega) v242 y241 y244 _ _ _ (fun k_ => some k_ ≠ (.slice Ao44 x7_1.length co44 : Value).ownBlock) (fun _ => False) rfl rfl ?aO ?aR (fun _ _ h => h) (fun _ h => h.elim) ?aF (Below.refl _ _) ?aS ?aL ?_
     (case aR => repeat (first | exact (by repeat (first | (with_reducible exact HR247.out) | (with_reducible refine Kd.C_alloc ?_ _) | (with_reducible refine Kd.C_drewN ?_ _) | (with_reducible refine Kd.C_drew ?_) | exact HR247.out)) | (with_reducible refine Kd.C_alloc ?_ _) | (with_reducible refine Kd.C_drewN ?_ _) | (with_reducible refine Kd.C_drew ?_)))
     (case aF => exact (fun k_ hk => Kd.fresh' (Kd.R_lt z97b) k_ hk))
     (case aO => exact (by (with_reducible repeat (first | apply Kd.R_alloc | apply Kd.R_drewN | apply Kd.R_drew)); exact HO243.out))
     (case aS => exact (keep_size (w := w) (g := g) (row := none) z97c))
     (case aL => have := LMc43.out; omega)
     intro v249 w53 ho hb hg hat
     rw [← Ny248.out] at ho
     have n0_ := Aside0.mk (Kd.R_after (ok := (fun _ => True)) z97b hg hat)
     have n1_ := Aside0.mk (IsS105.grown z97a hg (IsS105.own_ne HI0.out HO243.out (by decide)))
     have n2_ := Aside0.mk (below_weaken z97d HL.out hb)
     have n3_ := Aside0.mk (KeepBut.trans z97c (KeepBut.of_grown hg g) (Kd.R_base2 HO243.out))
     have n4_ := Aside0.mk ((show Kd.C (Kd.int .u8) w53 Ao44 y237.length y237 from (by rw [Ny237.out]; exact Kd.C_take (m := (t221 : Int).toNat) ((Kd.R_reads' (Kd.R_after (ok := (fun _ => True)) z97b hg hat)).2.2) KL48.out)))
     have n5_ := Aside0.mk ((show Kd.C (Kd.int .u8) w53 A49 y244.length y244 from (by rw [Ny244.out, KA49.out]; exact Kd.C_drop (m := ((ji40) : Int).toNat) (c := co44) ((Kd.R_reads' (Kd.R_after (ok := (fun _ => True)) z97b hg hat)).2.2) KL49.out ((Kd.R_reads' (Kd.R_after (ok := (fun _ => True)) z97b hg hat)).2.1))))
     have n6_ := Aside0.mk (ho)
     clear HO_7
     clear HI0
     clear HB
     clear HK
     clear HR240
     clear HR247
     clear HO243
     have HO_7 := n0_
     have HI0 := n1_
     have HB := n2_
     have HK := n3_
     have HR240 := n4_
     have HR247 := n5_
     have HO250 := n6_
     clear n0_ n1_ n2_ n3_ n4_ n5_ n6_
     clear ho hb hg hat
     refine hK.out _ _ trivial (fun hHeld => ?_)
     clear hK K
     refine norm_ (a' := ?_) ?_ ?_
     rotate_left
     {
     show Act.put _ (some 56) _ = _
     simp only [Act.put, List.setIfInBounds_toArray, List.set_cons_zero, List.set_cons_succ, i64_w, i32_w]
     rfl
     }
     refine pure_ (i := 10) (N := some 7) (v := _) (a' := _) #[Y, Y, Y, Y, Y, Y, Y, Y, Y, Y, Y] rfl rfl (any_of HT_.out (by kernel_rfl)) (fun _ _ _ h => h) (Or.inl ⟨by rfl, (by intro w'; go_simp; with_reducible rfl)⟩) z97e ?_
     refine done_ (done_of HT_.out (by kernel_rfl)) ?_
     try go_wp2
     go_roundg kj8
     case measure => have := HK1.out; have := HJ8.out; omega
     case rel => exact ⟨(y248), (wrap64 (x8_1 - 1)), (t225), (t226), (by first | rfl | (simp; done) | (simp [*]; done)), H', ⟨by have := HK1.out; have := HJ8.out; omega⟩, ⟨by (with_reducible repeat (first | apply Kd.R_alloc | apply Kd.R_drewN | apply Kd.R_drew)); exact Kd.R_mono HO250.out (fun _ hk => trivial)⟩, ⟨by repeat (first | (with_reducible first | exact HI0.out | apply IsS105.alloc | apply IsS105.drewN | apply IsS105.drew | apply IsS105.set_1 | apply IsS105.set_2) | exact HI0.out)⟩, ⟨by repeat (first | (with_reducible first | exact HK.out | apply KeepBut.set_ | apply keep_drewN | apply keep_drew | apply keep_alloc) | exact HK.out)⟩, ⟨by repeat (first | (with_reducible first | exact HB.out | apply below_alloc | apply pw_below_drewN | apply below_drew1 | refine below_set ?_ (IsS105.ge HI0.out)) | exact HB.out)⟩⟩
     }
     {
     rw [if_neg c43] at H
     exact absurd H (by simp)
     }
     }
     {
     rw [if_neg c42] at H
     exact absurd H (by simp)
     }
     }
     {
     rw [if_neg c41] at H
     exact absurd H (by simp)
     }
     }
     {
     rw [if_neg c39] at H
     exact absurd H (by simp)
     }
     }
     {
     rw [if_neg c38] at H
     exact absurd H (by simp)
     }
     }
     {
     rw [if_neg c37] at H
     exact absurd H (by simp)
     }
     }
     {
     rw [if_neg c36] at H
     have c36b0 : (t224 == 2) = false := beq_eq_false_iff_ne.mpr c36
     have c36b1 : (t224 != 2) = true := bne_iff_ne.mpr c36
     by_cases c54 : t224 = 3
     {
     rw [if_pos c54] at H
     have c54b0 : (t224 == 3) = true := beq_iff_eq.mpr c54
     have c54b1 : (t224 != 3) = false := bne_eq_false_iff_eq.mpr c54
     clear c54
     obtain ⟨y251, hy251⟩ : ∃ y_ : List Int, y_ = (([] : List Int)) := ⟨_, rfl⟩
     replace H : (if 0 ≤ t221 then (if t221 ≤ (x7_1.length : Int) then ((some (x7_1.take (t221 : Int).toNat : List Int)).bind fun y254 => (if y251.length + y254.length < 140737488355328 then ((some (y251 ++ y254 : List Int)).bind fun y258 => ((spec_l1Below.f s0_0 t225 t226 (a2.size : Int)).bind fun bt261 => (if 0 ≤ bt261.1 then (if bt261.1 < (a2.size : Int) then (if y258.length < 140737488355328 then ((some (y258 ++ [bt a2 bt261.1] : List Int)).bind fun y264 => ((some (x7_1.drop (t221 : Int).toNat : List Int)).bind fun y267 => (if y264.length + y267.length < 140737488355328 then (spec_l1Bend.l0 kj8 a2 (y264 ++ y267) (wrap64 (x8_1 - 1)) s0_0 bt261.2.1 bt261.2.2) else (none)))) else (none)) else (none)) else (none)))) else (none))) else (none)) else (none)) = some (r1, r2, r3) := by first | (rw [hy251]; with_reducible exact H) | (have H2_ := (Option.bind_some _ _).symm.trans H; rw [hy251]; with_reducible exact H2_) | (have H2_ := (Option.bind_some _ _).symm.trans H; with_reducible exact H2_) | with_reducible exact H | (rw [hy251]; exact H) | exact H
     have Ny251 := Aside0.mk hy251
     clear hy251
     by_cases c55 : 0 ≤ t221
     {
     rw [if_pos c55] at H
     have c55b0 := eq_true c55
     have c55b1 : decide (0 ≤ t221) = true := decide_eq_true c55
     clear c55
     by_cases c56 : t221 ≤ (x7_1.length : Int)
     {
     rw [if_pos c56] at H
     have c56b0 := eq_true c56
     have c56b1 : decide (t221 ≤ (x7_1.length : Int)) = true := decide_eq_true c56
     clear c56
     obtain ⟨y254, hy254⟩ : ∃ y_ : List Int, y_ = (x7_1.take (t221 : Int).toNat) := ⟨_, rfl⟩
     replace H : (if y251.length + y254.length < 140737488355328 then ((some (y251 ++ y254 : List Int)).bind fun y258 => ((spec_l1Below.f s0_0 t225 t226 (a2.size : Int)).bind fun bt261 => (if 0 ≤ bt261.1 then (if bt261.1 < (a2.size : Int) then (if y258.length < 140737488355328 then ((some (y258 ++ [bt a2 bt261.1] : List Int)).bind fun y264 => ((some (x7_1.drop (t221 : Int).toNat : List Int)).bind fun y267 => (if y264.length + y267.length < 140737488355328 then (spec_l1Bend.l0 kj8 a2 (y264 ++ y267) (wrap64 (x8_1 - 1)) s0_0 bt261.2.1 bt261.2.2) else (none)))) else (none)) else (none)) else (none)))) else (none)) = some (r1, r2, r3) := by first | (rw [hy254]; with_reducible exact H) | (have H2_ := (Option.bind_some _ _).symm.trans H; rw [hy254]; with_reducible exact H2_) | (have H2_ := (Option.bind_some _ _).symm.trans H; with_reducible exact H2_) | with_reducible exact H | (rw [hy254]; exact H) | exact H
     have Ny254 := Aside0.mk hy254
     clear hy254
     by_cases c57 : y251.length + y254.length < 140737488355328
     {
     rw [if_pos c57] at H
     have LMc57 := Aside0.mk c57
     clear c57
     obtain ⟨y258, hy258⟩ : ∃ y_ : List Int, y_ = (y251 ++ y254) := ⟨_, rfl⟩
     replace H : ((spec_l1Below.f s0_0 t225 t226 (a2.size : Int)).bind fun bt261 => (if 0 ≤ bt261.1 then (if bt261.1 < (a2.size : Int) then (if y258.length < 140737488355328 then ((some (y258 ++ [bt a2 bt261.1] : List Int)).bind fun y264 => ((some (x7_1.drop (t221 : Int).toNat : List Int)).bind fun y267 => (if y264.length + y267.length < 140737488355328 then (spec_l1Bend.l0 kj8 a2 (y264 ++ y267) (wrap64 (x8_1 - 1)) s0_0 bt261.2.1 bt261.2.2) else (none)))) else (none)) else (none)) else (none))) = some (r1, r2, r3) := by first | (rw [hy258]; with_reducible exact H) | (have H2_ := (Option.bind_some _ _).symm.trans H; rw [hy258]; with_reducible exact H2_) | (have H2_ := (Option.bind_some _ _).symm.trans H; with_reducible exact H2_) | with_reducible exact H | (rw [hy258]; exact H) | exact H
     have Ny258 := Aside0.mk hy258
     clear hy258
     replace H := Option.bind_eq_some_iff.mp H
     obtain ⟨⟨t261, t262, t263⟩, A580, H⟩ := H
     replace H : (if 0 ≤ t261 then (if t261 < (a2.size : Int) then (if y258.length < 140737488355328 then ((some (y258 ++ [bt a2 t261] : List Int)).bind fun y264 => ((some (x7_1.drop (t221 : Int).toNat : List Int)).bind fun y267 => (if y264.length + y267.length < 140737488355328 then (spec_l1Bend.l0 kj8 a2 (y264 ++ y267) (wrap64 (x8_1 - 1)) s0_0 t262 t263) else (none)))) else (none)) else (none)) else (none)) = some (r1, r2, r3) := H
     have A58 := Aside0.mk A580
     clear A580
     by_cases c59 : 0 ≤ t261
     {
     rw [if_pos c59] at H
     have c59b0 : decide (0 ≤ t261) = true := decide_eq_true c59
     clear c59
     by_cases c60 : t261 < (a2.size : Int)
     {
     rw [if_pos c60] at H
     have c60b0 : decide (t261 < (a2.size : Int)) = true := decide_eq_true c60
     clear c60
     by_cases c62 : y258.length < 140737488355328
     {
     rw [if_pos c62] at H
     have LMc62 := Aside0.mk c62
     clear c62
     obtain ⟨y264, hy264⟩ : ∃ y_ : List Int, y_ = (y258 ++ [bt a2 t261]) := ⟨_, rfl⟩
     replace H : ((some (x7_1.drop (t221 : Int).toNat : List Int)).bind fun y267 => (if y264.length + y267.length < 140737488355328 then (spec_l1Bend.l0 kj8 a2 (y264 ++ y267) (wrap64 (x8_1 - 1)) s0_0 t262 t263) else (none))) = some (r1, r2, r3) := by first | (rw [hy264]; with_reducible exact H) | (have H2_ := (Option.bind_some _ _).symm.trans H; rw [hy264]; with_reducible exact H2_) | (have H2_ := (Option.bind_some _ _).symm.trans H; with_reducible exact H2_) | with_reducible exact H | (rw [hy264]; exact H) | exact H
     have Ny264 := Aside0.mk hy264
     clear hy264
     have c63b0 := eq_true (of_decide_eq_true z97g : 0 ≤ t221)
     have c64b0 := eq_true (of_decide_eq_true z97g : t221 ≤ (x7_1.length : Int))
     obtain ⟨y267, hy267⟩ : ∃ y_ : List Int, y_ = (x7_1.drop (t221 : Int).toNat) := ⟨_, rfl⟩
     replace H : (if y264.length + y267.length < 140737488355328 then (spec_l1Bend.l0 kj8 a2 (y264 ++ y267) (wrap64 (x8_1 - 1)) s0_0 t262 t263) else (none)) = some (r1, r2, r3) := by first | (rw [hy267]; with_reducible exact H) | (have H2_ := (Option.bind_some _ _).symm.trans H; rw [hy267]; with_reducible exact H2_) | (have H2_ := (Option.bind_some _ _).symm.trans H; with_reducible exact H2_) | with_reducible exact H | (rw [hy267]; exact H) | exact H
     have Ny267 := Aside0.mk hy267
     clear hy267
     by_cases c65 : y264.length + y267.length < 140737488355328
     {
     rw [if_pos c65] at H
     have LMc65 := Aside0.mk c65
     clear c65
     obtain ⟨y271, hy271⟩ : ∃ y_ : List Int, y_ = (y264 ++ y267) := ⟨_, rfl⟩
     replace H : (spec_l1Bend.l0 kj8 a2 y271 (wrap64 (x8_1 - 1)) s0_0 t262 t263) = some (r1, r2, r3) := by first | (rw [hy271]; with_reducible exact H) | (have H2_ := (Option.bind_some _ _).symm.trans H; rw [hy271]; with_reducible exact H2_) | (have H2_ := (Option.bind_some _ _).symm.trans H; with_reducible exact H2_) | with_reducible exact H | (rw [hy271]; exact H) | exact H
     have Ny271 := Aside0.mk hy271
     clear hy271
     have H' := Aside0.mk H
     clear H
     obtain ⟨Ao66, co66, eo66⟩ := Kd.R_slice HO_7.out
     subst eo66
     try go_wp2_with (first | ((with_reducible refine gate_callee (f := 95) rfl ?_); refine goesL_ (some 26) rfl rfl Try.func95 (by kernel_rfl) rfl #[.pointer (some ⟨g, 0, none⟩), .int .i64 (x7_1.length : Int)] rfl z97f ?_; (with_reducible refine (spec_l1Below.calls g s0_0 x1001_1 x1002_1 (x7_1.length : Int) t221 t222 t223 w0 _ ?side1 ?side2 A13.out).mono ?_); (case side1 => exact z97a); (case side2 => exact z97d); rintro e w67 ⟨rfl, hi, hb, hk⟩; refine ⟨_, rfl, ?_⟩; have n0_ := Aside0.mk (Kd.R_mono (Kd.R_keep (IsS105.apart (show IsS105 w0 _ g s0_0 x1001_1 x1002_1 from z97a) z97b (by decide)) hk (fun _ h => h.2)) (fun _ h => h.1)); have n1_ := Aside0.mk (KeepBut.trans z97c hk (.inl rfl)); have n2_ := Aside0.mk (hb); have n3_ := Aside0.mk (hi); clear HO_7; clear HK; clear HB; clear HI0; have HO_7 := n0_; have HK := n1_; have HB := n2_; have HI0 := n3_; clear n0_ n1_ n2_ n3_; (try clear hb); (try clear hb2); (try clear hk); (try clear hi)) | ((with_reducible refine gate_callee (f := 95) rfl ?_); refine goesL_ (some 28) rfl rfl Try.func95 (by kernel_rfl) rfl #[.pointer (some ⟨g, 0, none⟩), .int .i64 4] rfl z97f ?_; (with_reducible refine (spec_l1Below.calls g s0_0 t222 t223 4 t224 t225 t226 w0 _ ?side1 ?side2 A14.out).mono ?_); (case side1 => exact z97a); (case side2 => exact z97d); rintro e w68 ⟨rfl, hi, hb, hk⟩; refine ⟨_, rfl, ?_⟩; have n0_ := Aside0.mk (Kd.R_mono (Kd.R_keep (IsS105.apart (show IsS105 w0 _ g s0_0 t222 t223 from z97a) z97b (by decide)) hk (fun _ h => h.2)) (fun _ h => h.1)); have n1_ := Aside0.mk (KeepBut.trans z97c hk (.inl rfl)); have n2_ := Aside0.mk (hb); have n3_ := Aside0.mk (hi); clear HO_7; clear HK; clear HB; clear HI0; have HO_7 := n0_; have HK := n1_; have HB := n2_; have HI0 := n3_; clear n0_ n1_ n2_ n3_; (try clear hb); (try clear hb2); (try clear hk); (try clear hi)))
     have n0_ := Aside0.mk (Kd.R_drew HO_7.out)
     have n1_ := Aside0.mk (IsS105.drew HI0.out)
     have n2_ := Aside0.mk (keep_drew HK.out)
     have n3_ := Aside0.mk (below_drew1 HB.out)
     clear HO_7
     clear HI0
     clear HK
     clear HB
     have HO_7 := n0_
     have HI0 := n1_
     have HK := n2_
     have HB := n3_
     clear n0_ n1_ n2_ n3_
     have q70 : (t221 : Int) ≤ ((x7_1.length : Int) : Int) := of_decide_eq_true z97g
     obtain ⟨i070, hi070, _, hsz70, _⟩ := info_parts info5
     have hroom70 : x7_1.length ≤ co66 := (Kd.R_reads' HO_7.out).2.1
     have hC70 : Kd.C (Kd.int .u8) _ Ao66 x7_1.length x7_1 := (Kd.R_reads' HO_7.out).2.2
     have hcut70 := cut_to (P := Try.prog) 22 5 .i64 Try.underlying22 hi070 Ao66 x7_1.length co66 t221 (of_decide_eq_true z97g) q70 hroom70
     have hr70 := Kd.C_take (m := (t221 : Int).toNat) hC70 (by omega)
     have hy70 : y254.length = (t221 : Int).toNat := (by rw [Ny254.out, List.length_take]; omega)
     rw [← Ny254.out] at hr70
     rw [← hy70] at hcut70
     have HR257 := Aside0.mk hr70
     have HC257 := Aside0.mk (show y254.length ≤ co66 from (by omega))
     clear hr70 hC70 hroom70 hi070 hsz70
     have KY70 := Aside0.mk hy70
     clear hy70
     have KL70 := Aside0.mk (show (t221 : Int).toNat ≤ x7_1.length from (by omega))
     replace q70 := eq_true q70
     have q71 : (t221 : Int) ≤ ((x7_1.length : Int) : Int) := of_decide_eq_true z97g
     obtain ⟨i071, hi071, _, hsz71, _⟩ := info_parts info5
     have hroom71 : x7_1.length ≤ co66 := (Kd.R_reads' HO_7.out).2.1
     have hC71 : Kd.C (Kd.int .u8) _ Ao66 x7_1.length x7_1 := (Kd.R_reads' HO_7.out).2.2
     have q071 : (0 : Int) ≤ (t221 : Int) := of_decide_eq_true z97g
     have hcut71 := cut_from (P := Try.prog) 22 5 .i64 Try.underlying22 hi071 1 hsz71 Ao66 x7_1.length co66 t221 q071 q71
     have hr71 := Kd.C_drop (m := (t221 : Int).toNat) (c := co66) hC71 (by omega) hroom71
     obtain ⟨A71, hA71⟩ : ∃ A1, A1 = (if co66 = (t221 : Int).toNat then Ao66 else (Ao66 : Option Addr).map (·.add ((t221 : Int).toNat * 1))) := ⟨_, rfl⟩
     obtain ⟨c71, hc71⟩ : ∃ c1, c1 = co66 - (t221 : Int).toNat := ⟨_, rfl⟩
     have hy71 : y267.length = x7_1.length - (t221 : Int).toNat := (by rw [Ny267.out, List.length_drop] <;> omega)
     rw [show (x7_1).drop (t221 : Int).toNat = y267 from Ny267.out.symm] at hr71
     replace hr71 : Kd.C (Kd.int .u8) _ A71 y267.length y267 := (by rw [hA71]; exact hr71)
     rw [← hy71, ← hA71, ← hc71] at hcut71
     have HR270 := Aside0.mk hr71
     have HC270 := Aside0.mk (show y267.length ≤ c71 from (by rw [hy71, hc71]; exact Nat.sub_le_sub_right hroom71 _))
     clear hr71 hC71 hroom71 hi071 hsz71 hc71
     have KY71 := Aside0.mk hy71
     have KA71 := Aside0.mk hA71
     clear hy71 hA71
     have KL71 := Aside0.mk (show (t221 : Int).toNat ≤ x7_1.length from (by omega))
     replace q71 := eq_true q71
     refine start_ (n := 18) (S := fun w' => True) (ds := []) #[X, X, X, X, X, X, X, X, X, X, X, X, X, X, X, X, X, X] (by kernel_rfl) rfl rfl trivial (fun hHeld => ?_); refine with_tabW spec_l1Bend.tab14 spec_l1Bend.bits14 (fun HT_ HW_ => ?_)
     generalize w68.drew = w69 at HO_7 HI0 HK HB HR257 HR270 hHeld ⊢
     refine pure_ (i := 1) (N := some 60) (v := _) (a' := _) #[X, Y, X, X, X, X, X, X, X, X, X, X, X, X, X, X, X, X] rfl rfl (any_of HT_.out (by kernel_rfl)) (fun _ _ _ h => h) (Or.inl ⟨by rfl, (by intro w'; go_simp; with_reducible rfl)⟩) z97e ?_
     refine pure_ (i := 2) (N := some 61) (v := _) (a' := _) #[X, Y, Y, X, X, X, X, X, X, X, X, X, X, X, X, X, X, X] rfl rfl (any_of HT_.out (by kernel_rfl)) (fun _ _ _ h => h) (Or.inl ⟨by rfl, (by intro w'; go_simp; with_reducible rfl)⟩) z97e ?_
     refine pure_ (i := 3) (N := some 62) (v := _) (a' := _) #[X, Y, Y, Y, X, X, X, X, X, X, X, X, X, X, X, X, X, X] rfl rfl (any_of HT_.out (by kernel_rfl)) (fun _ _ _ h => h) (Or.inl ⟨by rfl, (by intro w'; go_simp; with_reducible rfl)⟩) z97e ?_
     refine pure_ (i := 5) (N := some 64) (v := _) (a' := _) #[X, Y, Y, Y, X, Y, X, X, X, X, X, X, X, X, X, X, X, X] rfl rfl (any_of HT_.out (by kernel_rfl)) (fun _ _ _ h => h) (Or.inl ⟨by rfl, (by intro w'; go_simp; with_reducible rfl)⟩) z97e ?_
     refine pure_ (i := 6) (N := some 65) (v := _) (a' := _) #[X, Y, Y, Y, X, Y, Y, X, X, X, X, X, X, X, X, X, X, X] rfl rfl (any_of HT_.out (by kernel_rfl)) (fun _ _ _ h => h) (Or.inl ⟨by rfl, (by intro w'; go_simp; with_reducible rfl)⟩) z97e ?_
     refine pure_ (i := 7) (N := some 66) (v := _) (a' := _) #[X, Y, Y, Y, X, Y, Y, Y, X, X, X, X, X, X, X, X, X, X] rfl rfl (any_of HT_.out (by kernel_rfl)) (fun _ _ _ h => h) (Or.inl ⟨by rfl, (by intro w'; go_simp; with_reducible rfl)⟩) z97e ?_
     refine pure_ (i := 8) (N := some 67) (v := _) (a' := _) #[X, Y, Y, Y, X, Y, Y, Y, Y, X, X, X, X, X, X, X, X, X] rfl rfl (any_of HT_.out (by kernel_rfl)) (fun _ _ _ h => h) (Or.inl ⟨by rfl, (by intro w'; go_simp; with_reducible rfl)⟩) z97e ?_
     refine pure_ (i := 13) (N := some 72) (v := _) (a' := _) #[X, Y, Y, Y, X, Y, Y, Y, Y, X, X, X, X, Y, X, X, X, X] rfl rfl (any_of HT_.out (by kernel_rfl)) (fun _ _ _ h => h) (Or.inl ⟨by rfl, (by intro w'; go_simp; with_reducible rfl)⟩) z97e ?_
     refine pure_ (i := 14) (N := some 73) (v := _) (a' := _) #[X, Y, Y, Y, X, Y, Y, Y, Y, X, X, X, X, Y, Y, X, X, X] rfl rfl (any_of HT_.out (by kernel_rfl)) (fun _ _ _ h => h) (Or.inl ⟨by rfl, (by intro w'; go_simp; with_reducible rfl)⟩) z97e ?_
     refine pure_ (i := 15) (N := some 74) (v := _) (a' := _) #[X, Y, Y, Y, X, Y, Y, Y, Y, X, X, X, X, Y, Y, Y, X, X] rfl rfl (any_of HT_.out (by kernel_rfl)) (fun _ _ _ h => h) (Or.inl ⟨by rfl, (by intro w'; go_simp; with_reducible rfl)⟩) z97e ?_
     refine one_ (i := 0) (N := some 59) #[Y, Y, Y, Y, X, Y, Y, Y, Y, X, X, X, X, Y, Y, Y, X, X] rfl rfl (one_of HT_.out (by kernel_rfl)) (by decide) (fun K hK => ?_)
     refine Kd.R_lit_step (Kd.int .u8) _ 5 ?hg (N := 59) ?hd (xs := ([] : List Int)) (inner := []) (ok := fun _ => True) (okp := fun _ => True) ?hr ?hp (fun _ hk => hk) trivial (Below.refl _ _) (Nat.le_refl _) (by simp) ?_; (case hd => rfl); (case hg => rfl); (case hr => first | (go_simp; done) | (go_simp; rfl)); (case hp => exact (Reps.none _ _))
     intro v252 w72 ho73 hb hg_ hnew_
     clear hg_ hnew_
     (first | rw [← Ny251.out] at ho73 | (simp only [Int.reduceToNat] at ho73; rw [← Ny251.out] at ho73))
     have n0_ := Aside0.mk (Kd.R_elder' z97b (Kd.R_base ho73) hb)
     have n1_ := Aside0.mk (Kd.R_lower (Kd.R_new' ho73 (Kd.R_lt z97b)) (keep_size (w := w) (g := g) (row := none) z97c))
     have n2_ := Aside0.mk (IsS105.below z97a hb)
     have n3_ := Aside0.mk (Kd.C_below (by repeat (first | (with_reducible exact HR257.out) | (with_reducible refine Kd.C_alloc ?_ _) | (with_reducible refine Kd.C_drewN ?_ _) | (with_reducible refine Kd.C_drew ?_) | exact HR257.out)) hb)
     have n4_ := Aside0.mk (Kd.C_below (by repeat (first | (with_reducible exact HR270.out) | (with_reducible refine Kd.C_alloc ?_ _) | (with_reducible refine Kd.C_drewN ?_ _) | (with_reducible refine Kd.C_drew ?_) | exact HR270.out)) hb)
     have n5_ := Aside0.mk (KeepBut.trans z97c (KeepBut.of_below hb g none) (.inl rfl))
     have n6_ := Aside0.mk (below_step z97d hb)
     clear HO_7
     clear HI0
     clear HR257
     clear HR270
     clear HK
     clear HB
     have HO_7 := n0_
     have HO253 := n1_
     have HI0 := n2_
     have HR257 := n3_
     have HR270 := n4_
     have HK := n5_
     have HB := n6_
     clear n0_ n1_ n2_ n3_ n4_ n5_ n6_
     clear hb ho73
     refine hK.out _ _ trivial (fun hHeld => ?_)
     clear hK K
     refine norm_ (a' := ?_) ?_ ?_
     rotate_left
     {
     show Act.put _ (some 59) _ = _
     simp only [Act.put, List.setIfInBounds_toArray, List.set_cons_zero, List.set_cons_succ, i64_w, i32_w]
     rfl
     }
     refine one_ (i := 4) (N := some 63) #[Y, Y, Y, Y, Y, Y, Y, Y, Y, X, X, X, X, Y, Y, Y, X, X] rfl rfl (one_of HT_.out (by kernel_rfl)) (by decide) (fun K hK => ?_)
     refine Kd.R_append_rows_step (Kd.int .u8) w.heap.size (by rfl) (.tmp 59) (.tmp 62) 22 5 (.int .u8 0) 1 rfl Try.underlying22 info5 rfl (by decide) (by omega) v252 y251 y254 _ _ _ (fun k_ => some k_ ≠ (.slice Ao66 x7_1.length co66 : Value).ownBlock) (fun _ => False) rfl rfl ?aO ?aR (fun _ _ h => h) (fun _ h => h.elim) ?aF (Below.refl _ _) ?aS ?aL ?_
     (case aR => repeat (first | exact (by repeat (first | (with_reducible exact HR257.out) | (with_reducible refine Kd.C_alloc ?_ _) | (with_reducible refine Kd.C_drewN ?_ _) | (with_reducible refine Kd.C_drew ?_) | exact HR257.out)) | (with_reducible refine Kd.C_alloc ?_ _) | (with_reducible refine Kd.C_drewN ?_ _) | (with_reducible refine Kd.C_drew ?_)))
     (case aF => exact (fun k_ hk => Kd.fresh' (Kd.R_lt z97b) k_ hk))
     (case aO => exact (by (with_reducible repeat (first | apply Kd.R_alloc | apply Kd.R_drewN | apply Kd.R_drew)); exact Kd.R_mono HO253.out (fun _ hk => hk.2)))
     (case aS => exact (keep_size (w := w) (g := g) (row := none) z97c))
     (case aL => have := LMc57.out; omega)
     intro v259 w74 ho hb hg hat
     rw [← Ny258.out] at ho
     have n0_ := Aside0.mk (Kd.R_after (ok := (fun _ => True)) z97b hg hat)
     have n1_ := Aside0.mk (IsS105.grown z97a hg (IsS105.own_ne HI0.out HO253.out (by decide)))
     have n2_ := Aside0.mk (below_weaken z97d HL.out hb)
     have n3_ := Aside0.mk (KeepBut.trans z97c (KeepBut.of_grown hg g) (Kd.R_base2 HO253.out))
     have n4_ := Aside0.mk ((show Kd.C (Kd.int .u8) w74 Ao66 y254.length y254 from (by rw [Ny254.out]; exact Kd.C_take (m := (t221 : Int).toNat) ((Kd.R_reads' (Kd.R_after (ok := (fun _ => True)) z97b hg hat)).2.2) KL70.out)))
     have n5_ := Aside0.mk ((show Kd.C (Kd.int .u8) w74 A71 y267.length y267 from z97h))
     have n6_ := Aside0.mk (ho)
     clear HO_7
     clear HI0
     clear HB
     clear HK
     clear HR257
     clear HR270
     clear HO253
     have HO_7 := n0_
     have HI0 := n1_
     have HB := n2_
     have HK := n3_
     have HR257 := n4_
     have HR270 := n5_
     have HO260 := n6_
     clear n0_ n1_ n2_ n3_ n4_ n5_ n6_
     clear ho hb hg hat
     refine hK.out _ _ trivial (fun hHeld => ?_)
     clear hK K
     refine norm_ (a' := ?_) ?_ ?_
     rotate_left
     {
     show Act.put _ (some 63) _ = _
     simp only [Act.put, List.setIfInBounds_toArray, List.set_cons_zero, List.set_cons_succ, i64_w, i32_w]
     rfl
     }
     refine one_ (i := 9) (N := some 68) #[Y, Y, Y, Y, Y, Y, Y, Y, Y, Y, X, X, X, Y, Y, Y, X, X] rfl rfl (one_of HT_.out (by kernel_rfl)) (by decide) (fun K hK => ?_)
     refine goes_ Try.func95 (by kernel_rfl) rfl #[.pointer (some ⟨g, 0, none⟩), .int .i64 (a2.size : Int)] (by rfl) rfl rfl z97f ?_
     with_reducible refine (spec_l1Below.calls g s0_0 t225 t226 (a2.size : Int) t261 t262 t263 w0 _ ?side1 ?side2 A58.out).mono ?_
     (case side1 => exact z97a)
     (case side2 => exact z97d)
     rintro e w75 ⟨rfl, hi, hb, hk⟩
     refine ⟨_, rfl, ?_⟩
     have n0_ := Aside0.mk (Kd.R_mono (Kd.R_keep (IsS105.apart (show IsS105 w0 _ g s0_0 t225 t226 from z97a) z97b (by decide)) hk (fun _ h => h.2)) (fun _ h => h.1))
     have n1_ := Aside0.mk (Kd.R_mono (Kd.R_keep (IsS105.apart (show IsS105 w0 _ g s0_0 t225 t226 from z97a) (by (with_reducible repeat (first | apply Kd.R_alloc | apply Kd.R_drewN | apply Kd.R_drew)); exact HO260.out) (by decide)) hk (fun _ h => h.2)) (fun _ h => h.1))
     have n2_ := Aside0.mk (KeepBut.trans z97c hk (.inl rfl))
     have n3_ := Aside0.mk (hb)
     have n4_ := Aside0.mk (hi)
     have n5_ := Aside0.mk ((show Kd.C (Kd.int .u8) w75 Ao66 y254.length y254 from (by rw [Ny254.out]; exact Kd.C_take (m := (t221 : Int).toNat) ((Kd.R_reads' (Kd.R_mono (Kd.R_keep (IsS105.apart (show IsS105 w0 _ g s0_0 t225 t226 from by repeat (first | (with_reducible first | exact HI0.out | apply IsS105.alloc | apply IsS105.drewN | apply IsS105.drew | apply IsS105.set_1 | apply IsS105.set_2) | exact HI0.out)) z97b (by decide)) hk (fun _ h => h.2)) (fun _ h => h.1))).2.2) KL70.out)))
     have n6_ := Aside0.mk ((show Kd.C (Kd.int .u8) w75 A71 y267.length y267 from (by rw [Ny267.out, KA71.out]; exact Kd.C_drop (m := (t221 : Int).toNat) (c := co66) ((Kd.R_reads' (Kd.R_mono (Kd.R_keep (IsS105.apart (show IsS105 w0 _ g s0_0 t225 t226 from by repeat (first | (with_reducible first | exact HI0.out | apply IsS105.alloc | apply IsS105.drewN | apply IsS105.drew | apply IsS105.set_1 | apply IsS105.set_2) | exact HI0.out)) z97b (by decide)) hk (fun _ h => h.2)) (fun _ h => h.1))).2.2) KL71.out ((Kd.R_reads' (Kd.R_mono (Kd.R_keep (IsS105.apart (show IsS105 w0 _ g s0_0 t225 t226 from by repeat (first | (with_reducible first | exact HI0.out | apply IsS105.alloc | apply IsS105.drewN | apply IsS105.drew | apply IsS105.set_1 | apply IsS105.set_2) | exact HI0.out)) z97b (by decide)) hk (fun _ h => h.2)) (fun _ h => h.1))).2.1))))
     clear HO_7
     clear HO260
     clear HK
     clear HB
     clear HI0
     clear HR257
     clear HR270
     have HO_7 := n0_
     have HO260 := n1_
     have HK := n2_
     have HB := n3_
     have HI0 := n4_
     have HR257 := n5_
     have HR270 := n6_
     clear n0_ n1_ n2_ n3_ n4_ n5_ n6_
     (try clear hb)
     (try clear hb2)
     (try clear hk)
     (try clear hi)
     have p61 : 0 ≤ (t261 : Int) := of_decide_eq_true z97g
     have q61 : t261 < (a2.size : Int) := of_decide_eq_true z97g
     have hx61 := bt_at a2 t261
     replace p61 := eq_true p61
     replace q61 := eq_true q61
     refine hK.out _ _ trivial (fun hHeld => ?_)
     clear hK K
     refine norm_ (a' := ?_) ?_ ?_
     rotate_left
     {
     show Act.put _ (some 68) _ = _
     simp only [Act.put, List.setIfInBounds_toArray, List.set_cons_zero, List.set_cons_succ, i64_w, i32_w]
     rfl
     }
     refine take_ (i := 10) (N := some 69) (v := _) (a' := _) #[Y, Y, Y, Y, Y, Y, Y, Y, Y, Y, Y, X, X, Y, Y, Y, X, X] rfl rfl (take_ofW HT_.out HW_.out (by kernel_rfl)) (fun _ _ _ h => h) (Or.inl ⟨by rfl, (by intro w' _; go_simp; with_reducible rfl)⟩) hHeld z97e ?_
     refine one_ (i := 11) (N := some 70) #[Y, Y, Y, Y, Y, Y, Y, Y, Y, Y, Y, Y, X, Y, Y, Y, X, X] rfl rfl (one_of HT_.out (by kernel_rfl)) (by decide) (fun K hK => ?_)
     refine value_ (w1 := ?_) (v := ?_) (by rfl) rfl ?_ ?_
     rotate_left 2
     {
     go_simp
     constructor
     {
     rfl
     }
     {
     rfl
     }
     }
     refine hK.out _ _ trivial (fun hHeld => ?_)
     clear hK K
     refine norm_ (a' := ?_) ?_ ?_
     rotate_left
     {
     show Act.put _ (some 70) _ = _
     simp only [Act.put, List.setIfInBounds_toArray, List.set_cons_zero, List.set_cons_succ, i64_w, i32_w]
     rfl
     }
     refine one_ (i := 12) (N := some 71) #[Y, Y, Y, Y, Y, Y, Y, Y, Y, Y, Y, Y, Y, Y, Y, Y, X, X] rfl rfl (one_of HT_.out (by kernel_rfl)) (by decide) (fun K hK => ?_)
     refine Kd.R_append_step (Kd.int .u8) w.heap.size (by rfl) (.tmp 63) (.tmp 70) 22 5 (.int .u8 0) 1 rfl Try.underlying22 info5 rfl (by decide) (by omega) v259 y258 (bt a2 t261) [.int .u8 (bt a2 t261)] (fun k_ => some k_ ≠ (.slice Ao66 x7_1.length co66 : Value).ownBlock) (fun _ => False) rfl rfl ?aP (fun _ hk => hk.elim) ?aF ?aO (Below.refl _ _) ?aS ?aL ?_
     (case aP => exact rfl)
     (case aF => exact (fun k_ hk => Kd.fresh' (Kd.R_lt z97b) k_ hk))
     (case aO => exact (by (with_reducible repeat (first | apply Kd.R_alloc | apply Kd.R_drewN | apply Kd.R_drew)); exact HO260.out))
     (case aS => exact (keep_size (w := w) (g := g) (row := none) z97c))
     (case aL => have := LMc62.out; omega)
     intro v265 w76 ho hb hg hat
     rw [← Ny264.out] at ho
     have n0_ := Aside0.mk (Kd.R_after (ok := (fun _ => True)) z97b hg hat)
     have n1_ := Aside0.mk (IsS105.grown z97a hg (IsS105.own_ne HI0.out HO260.out (by decide)))
     have n2_ := Aside0.mk (below_weaken z97d HL.out hb)
     have n3_ := Aside0.mk (KeepBut.trans z97c (KeepBut.of_grown hg g) (Kd.R_base2 HO260.out))
     have n4_ := Aside0.mk ((show Kd.C (Kd.int .u8) w76 Ao66 y254.length y254 from (by rw [Ny254.out]; exact Kd.C_take (m := (t221 : Int).toNat) ((Kd.R_reads' (Kd.R_after (ok := (fun _ => True)) z97b hg hat)).2.2) KL70.out)))
     have n5_ := Aside0.mk ((show Kd.C (Kd.int .u8) w76 A71 y267.length y267 from z97h))
     have n6_ := Aside0.mk (ho)
     clear HO_7
     clear HI0
     clear HB
     clear HK
     clear HR257
     clear HR270
     clear HO260
     have HO_7 := n0_
     have HI0 := n1_
     have HB := n2_
     have HK := n3_
     have HR257 := n4_
     have HR270 := n5_
     have HO266 := n6_
     clear n0_ n1_ n2_ n3_ n4_ n5_ n6_
     clear ho hb hg hat
     refine hK.out _ _ trivial (fun hHeld => ?_)
     clear hK K
     refine norm_ (a' := ?_) ?_ ?_
     rotate_left
     {
     show Act.put _ (some 71) _ = _
     simp only [Act.put, List.setIfInBounds_toArray, List.set_cons_zero, List.set_cons_succ, i64_w, i32_w]
     rfl
     }
     refine one_ (i := 16) (N := some 75) #[Y, Y, Y, Y, Y, Y, Y, Y, Y, Y, Y, Y, Y, Y, Y, Y, Y, X] rfl rfl (one_of HT_.out (by kernel_rfl)) (by decide) (fun K hK => ?_)
     refine Kd.R_append_rows_step (Kd.int .u8) w.heap.size (by rfl) (.tmp 71) (.tmp 74) 22 5 (.int .u8 0) 1 rfl Try.underlying22 info5 rfl (by decide) (by omega) v265 y264 y267 _ _ _ (fun k_ => some k_ ≠ (.slice Ao66 x7_1.length co66 : Value).ownBlock) (fun _ => False) rfl rfl ?aO ?aR (fun _ _ h => h) (fun _ h => h.elim) ?aF (Below.refl _ _) ?aS ?aL ?_
     (case aR => repeat (first | exact (by repeat (first | (with_reducible exact HR270.out) | (with_reducible refine Kd.C_alloc ?_ _) | (with_reducible refine Kd.C_drewN ?_ _) | (with_reducible refine Kd.C_drew ?_) | exact HR270.out)) | (with_reducible refine Kd.C_alloc ?_ _) | (with_reducible refine Kd.C_drewN ?_ _) | (with_reducible refine Kd.C_drew ?_)))
     (case aF => exact (fun k_ hk => Kd.fresh' (Kd.R_lt z97b) k_ hk))
     (case aO => exact (by (with_reducible repeat (first | apply Kd.R_alloc | apply Kd.R_drewN | apply Kd.R_drew)); exact HO266.out))
     (case aS => exact (keep_size (w := w) (g := g) (row := none) z97c))
     (case aL => have := LMc65.out; omega)
     intro v272 w77 ho hb hg hat
     rw [← Ny271.out] at ho
     have n0_ := Aside0.mk (Kd.R_after (ok := (fun _ => True)) z97b hg hat)
     have n1_ := Aside0.mk (IsS105.grown z97a hg (IsS105.own_ne HI0.out HO266.out (by decide)))
     have n2_ := Aside0.mk (below_weaken z97d HL.out hb)
     have n3_ := Aside0.mk (KeepBut.trans z97c (KeepBut.of_grown hg g) (Kd.R_base2 HO266.out))
     have n4_ := Aside0.mk ((show Kd.C (Kd.int .u8) w77 Ao66 y254.length y254 from (by rw [Ny254.out]; exact Kd.C_take (m := (t221 : Int).toNat) ((Kd.R_reads' (Kd.R_after (ok := (fun _ => True)) z97b hg hat)).2.2) KL70.out)))
     have n5_ := Aside0.mk ((show Kd.C (Kd.int .u8) w77 A71 y267.length y267 from z97h))
     have n6_ := Aside0.mk (ho)
     clear HO_7
     clear HI0
     clear HB
     clear HK
     clear HR257
     clear HR270
     clear HO266
     have HO_7 := n0_
     have HI0 := n1_
     have HB := n2_
     have HK := n3_
     have HR257 := n4_
     have HR270 := n5_
     have HO273 := n6_
     clear n0_ n1_ n2_ n3_ n4_ n5_ n6_
     clear ho hb hg hat
     refine hK.out _ _ trivial (fun hHeld => ?_)
     clear hK K
     refine norm_ (a' := ?_) ?_ ?_
     rotate_left
     {
     show Act.put _ (some 75) _ = _
     simp only [Act.put, List.setIfInBounds_toArray, List.set_cons_zero, List.set_cons_succ, i64_w, i32_w]
     rfl
     }
     refine pure_ (i := 17) (N := some 7) (v := _) (a' := _) #[Y, Y, Y, Y, Y, Y, Y, Y, Y, Y, Y, Y, Y, Y, Y, Y, Y, Y] rfl rfl (any_of HT_.out (by kernel_rfl)) (fun _ _ _ h => h) (Or.inl ⟨by rfl, (by intro w'; go_simp; with_reducible rfl)⟩) z97e ?_
     refine done_ (done_of HT_.out (by kernel_rfl)) ?_
     try go_wp2
     go_roundg kj8
     case measure => have := HK1.out; have := HJ8.out; omega
     case rel => exact ⟨(y271), (wrap64 (x8_1 - 1)), (t262), (t263), (by first | rfl | (simp; done) | (simp [*]; done)), H', ⟨by have := HK1.out; have := HJ8.out; omega⟩, ⟨by (with_reducible repeat (first | apply Kd.R_alloc | apply Kd.R_drewN | apply Kd.R_drew)); exact Kd.R_mono HO273.out (fun _ hk => trivial)⟩, ⟨by repeat (first | (with_reducible first | exact HI0.out | apply IsS105.alloc | apply IsS105.drewN | apply IsS105.drew | apply IsS105.set_1 | apply IsS105.set_2) | exact HI0.out)⟩, ⟨by repeat (first | (with_reducible first | exact HK.out | apply KeepBut.set_ | apply keep_drewN | apply keep_drew | apply keep_alloc) | exact HK.out)⟩, ⟨by repeat (first | (with_reducible first | exact HB.out | apply below_alloc | apply pw_below_drewN | apply below_drew1 | refine below_set ?_ (IsS105.ge HI0.out)) | exact HB.out)⟩⟩
     }
     {
     rw [if_neg c65] at H
     exact absurd H (by simp)
     }
     }
     {
     rw [if_neg c62] at H
     exact absurd H (by simp)
     }
     }
     {
     rw [if_neg c60] at H
     exact absurd H (by simp)
     }
     }
     {
     rw [if_neg c59] at H
     exact absurd H (by simp)
     }
     }
     {
     rw [if_neg c57] at H
     exact absurd H (by simp)
     }
     }
     {
     rw [if_neg c56] at H
     exact absurd H (by simp)
     }
     }
     {
     rw [if_neg c55] at H
     exact absurd H (by simp)
     }
     }
     {
     rw [if_neg c54] at H
     have c54b0 : (t224 == 3) = false := beq_eq_false_iff_ne.mpr c54
     have c54b1 : (t224 != 3) = true := bne_iff_ne.mpr c54
     have H' := Aside0.mk H
     clear H
     obtain ⟨Ao78, co78, eo78⟩ := Kd.R_slice HO_7.out
     subst eo78
     go_wp2_with (first | ((with_reducible refine gate_callee (f := 95) rfl ?_); refine goesL_ (some 26) rfl rfl Try.func95 (by kernel_rfl) rfl #[.pointer (some ⟨g, 0, none⟩), .int .i64 (x7_1.length : Int)] rfl z97f ?_; (with_reducible refine (spec_l1Below.calls g s0_0 x1001_1 x1002_1 (x7_1.length : Int) t221 t222 t223 w0 _ ?side1 ?side2 A13.out).mono ?_); (case side1 => exact z97a); (case side2 => exact z97d); rintro e w79 ⟨rfl, hi, hb, hk⟩; refine ⟨_, rfl, ?_⟩; have n0_ := Aside0.mk (Kd.R_mono (Kd.R_keep (IsS105.apart (show IsS105 w0 _ g s0_0 x1001_1 x1002_1 from z97a) z97b (by decide)) hk (fun _ h => h.2)) (fun _ h => h.1)); have n1_ := Aside0.mk (KeepBut.trans z97c hk (.inl rfl)); have n2_ := Aside0.mk (hb); have n3_ := Aside0.mk (hi); clear HO_7; clear HK; clear HB; clear HI0; have HO_7 := n0_; have HK := n1_; have HB := n2_; have HI0 := n3_; clear n0_ n1_ n2_ n3_; (try clear hb); (try clear hb2); (try clear hk); (try clear hi)) | ((with_reducible refine gate_callee (f := 95) rfl ?_); refine goesL_ (some 28) rfl rfl Try.func95 (by kernel_rfl) rfl #[.pointer (some ⟨g, 0, none⟩), .int .i64 4] rfl z97f ?_; (with_reducible refine (spec_l1Below.calls g s0_0 t222 t223 4 t224 t225 t226 w0 _ ?side1 ?side2 A14.out).mono ?_); (case side1 => exact z97a); (case side2 => exact z97d); rintro e w80 ⟨rfl, hi, hb, hk⟩; refine ⟨_, rfl, ?_⟩; have n0_ := Aside0.mk (Kd.R_mono (Kd.R_keep (IsS105.apart (show IsS105 w0 _ g s0_0 t222 t223 from z97a) z97b (by decide)) hk (fun _ h => h.2)) (fun _ h => h.1)); have n1_ := Aside0.mk (KeepBut.trans z97c hk (.inl rfl)); have n2_ := Aside0.mk (hb); have n3_ := Aside0.mk (hi); clear HO_7; clear HK; clear HB; clear HI0; have HO_7 := n0_; have HK := n1_; have HB := n2_; have HI0 := n3_; clear n0_ n1_ n2_ n3_; (try clear hb); (try clear hb2); (try clear hk); (try clear hi)))
     go_roundg kj8
     case measure => have := HK1.out; have := HJ8.out; omega
     case rel => exact ⟨(x7_1), (wrap64 (x8_1 - 1)), (t225), (t226), (by first | rfl | (simp; done) | (simp [*]; done)), H', ⟨by have := HK1.out; have := HJ8.out; omega⟩, ⟨by (with_reducible repeat (first | apply Kd.R_alloc | apply Kd.R_drewN | apply Kd.R_drew)); exact HO_7.out⟩, ⟨by repeat (first | (with_reducible first | exact HI0.out | apply IsS105.alloc | apply IsS105.drewN | apply IsS105.drew | apply IsS105.set_1 | apply IsS105.set_2) | exact HI0.out)⟩, ⟨by repeat (first | (with_reducible first | exact HK.out | apply KeepBut.set_ | apply keep_drewN | apply keep_drew | apply keep_alloc) | exact HK.out)⟩, ⟨by repeat (first | (with_reducible first | exact HB.out | apply below_alloc | apply pw_below_drewN | apply below_drew1 | refine below_set ?_ (IsS105.ge HI0.out)) | exact HB.out)⟩⟩
     }
     }
     }
     }
     }
     {
     replace c12 := Bool.eq_false_iff.mpr c12
     subst c12
     have H1 : (some (strOfNums x7_1, x1001_1, x1002_1)) = some (r1, r2, r3) := by rw [if_neg (show ¬ (false = true) by decide)] at H; exact H
     clear H
     have H := H1
     clear H1
     simp only [Option.some.injEq, Prod.mk.injEq] at H
     obtain ⟨rfl, rfl, rfl⟩ := H
     have hcv81 := own_string (P := Try.prog) Try.underlying22 Try.underlying5 Try.underlying9 (Kd.own_of_R HO_7.out)
     go_wp2
     go_ret
     exact ⟨by first | rfl | (simp [errW_none, errW_some] <;> rfl) | (simp [*, errW_none, errW_some] <;> rfl), by repeat (first | (with_reducible first | exact HI0.out | apply IsS105.alloc | apply IsS105.drewN | apply IsS105.drew | apply IsS105.set_1 | apply IsS105.set_2) | exact HI0.out), by repeat (first | (with_reducible first | exact HB.out | apply below_alloc | apply pw_below_drewN | apply below_drew1 | refine below_set ?_ (IsS105.ge HI0.out)) | exact HB.out), by repeat (first | (with_reducible first | exact HK.out | apply KeepBut.set_ | apply keep_drewN | apply keep_drew | apply keep_alloc) | exact HK.out)⟩
     }
 }
 {
 rw [if_neg c4] at H
 exact absurd H (by simp)
 
 }
end Go.Proofs.Ythkhfmomibfkjaa.PFnRows

-- by a program of this session (wip/print/run.py) for this claim
import Derived.Test.YtepcmdmclmfgkaaGreatDoorLibPu
import Derived.Test.YtepcmdmclmfgkaaGreatDoorPFnExactHalfwayx0
import Derived.Test.YtepcmdmclmfgkaaGreatDoorPFnExactHalfwayx2
import Derived.Test.YtepcmdmclmfgkaaGreatDoorPFnExactHalfwayx3
import Derived.Test.YtepcmdmclmfgkaaGreatDoorPFnExactHalfwayx5
import Derived.Test.YtepcmdmclmfgkaaGreatDoorPFnExactHalfwayx6
namespace Go.Proofs.YtepcmdmclmfgkaaGreatDoor.PFnExactHalfway
open Go.Proofs.YtepcmdmclmfgkaaGreatDoor.Lib Go.RowKit Go.Proofs.YtepcmdmclmfgkaaGreatDoorW.PrintWords Go.Proofs.YtepcmdmclmfgkaaGreatDoorW.PrintLast Go.Proofs.YtepcmdmclmfgkaaGreatDoorW.PrintMore
attribute [local go_sem] max2_int min2_int max_two min_two max_three min_three max_four min_four   -- for this text's walks alone
set_option linter.unusedVariables false
set_option linter.unusedSimpArgs false

theorem z14a {p_ : Prop} (h_ : p_ := by repeat (first | (with_reducible first | exact HB.out | apply below_alloc | apply pw_below_drewN | apply below_drew1 | refine below_set ?_ GE185.out | refine below_set ?_ GE186.out) | exact HB.out)) : p_ := h_
theorem z14b {p_ : Prop} (h_ : p_ := by simp only [Act.put, List.setIfInBounds_toArray, List.set_cons_zero, List.set_cons_succ, i64_w, i32_w]; rfl) : p_ := h_
theorem z14c {p_ : Prop} (h_ : p_ := by (with_reducible repeat (first | refine blk_drewN ?_ _ | refine blk_drew ?_ | refine blk_alloc ?_ _)); exact BK185.out) : p_ := h_
theorem z14d {p_ : Prop} (h_ : p_ := by repeat (first | (with_reducible first | exact HB.out | apply below_alloc | apply pw_below_drewN | apply below_drew1 | refine below_set ?_ GE185.out) | exact HB.out)) : p_ := h_
theorem z14e {p_ : Prop} (h_ : p_ := by (with_reducible repeat (first | refine blk_drewN ?_ _ | refine blk_drew ?_ | refine blk_alloc ?_ _)); exact BK186.out) : p_ := h_
theorem z14f {p_ : Prop} (h_ : p_ := by repeat (first | (with_reducible first | exact HB.out | apply below_alloc | apply pw_below_drewN | apply below_drew1) | exact HB.out)) : p_ := h_
theorem z14g {p_ : Prop} (h_ : p_ := by first | (with_reducible assumption) | assumption) : p_ := h_
mutual
def spec_Cut.l0 : Nat → List Bool → Int → List ByteArray → List (S58) → List ByteArray → Option (List ByteArray × (List (S58)))
 | 0, _, _, _, _, _ => none
 | k + 1, x1, x6, x186000, x186001, x195000 => if x6 < (x186001.length : Int) then (spec_Cut.j1 k x1 x6 (decide (x6 < (x1.length : Int))) x186000 x186001 x195000) else (spec_Cut.j1 k x1 x6 false x186000 x186001 x195000)
def spec_Cut.j1 : Nat → List Bool → Int → Bool → List ByteArray → List (S58) → List ByteArray → Option (List ByteArray × (List (S58)))
 | 0, _, _, _, _, _, _ => none
 | k + 1, x1, x6, x26, x186000, x186001, x195000 => if x26 = true then (if 0 ≤ x6 then (if x6 < (x1.length : Int) then (if rdOf false x1 x6 = true then (if x6 < (x186001.length : Int) then (if 0 ≤ ((rd_T58 x186001 x6).f0) then (if ((rd_T58 x186001 x6).f0) < (x195000.length : Int) then (spec_Cut.l0 k x1 (wrap64 (x6 + 1)) x186000 x186001 (x195000.set (((rd_T58 x186001 x6).f0) : Int).toNat ((rd_T58 x186001 x6).f1))) else (none)) else (none)) else (none)) else (spec_Cut.l0 k x1 (wrap64 (x6 + 1)) x186000 x186001 x195000)) else (none)) else (none)) else (some (x195000, ([] : List (S58))))
end
def spec_Cut.f (k : Nat) (l0_0 : List ByteArray) (l0_1 : List (S58)) (l1 : List Bool) : Option (List ByteArray × (List (S58))) := (spec_DeviceOk.f k l0_0 l0_1).bind fun t187 => (if t187 = true then ((some (([] : List ByteArray) : List ByteArray)).bind fun y188 => (if y188.length + l0_0.length < 8796093022208 then (spec_Cut.l0 k l1 0 l0_0 l0_1 (y188 ++ l0_0)) else (none))) else (some (([] : List ByteArray), ([] : List (S58)))))
def spec_Cut.T8 : Bool × List (List Nat × List Nat) := (true, [([], []), ([0], [0]), ([], []), ([2], [2]), ([], []), ([3, 4], [3, 4]), ([5], [5]), ([6], [6]), ([], []), ([8], [8]), ([], []), ([9, 10], [9, 10]), ([11], [11]), ([12], [12]), ([1, 7, 0, 1, 2, 3, 4, 5, 6, 7, 8, 9, 10, 11, 12, 13], [1, 7]), ([14, 13, 0, 1, 2, 3, 4, 5, 6, 7, 8, 9, 10, 11, 12, 13], [13, 14])])
def spec_Cut.B8 : List Nat := [0, 1, 0, 4, 0, 28, 60, 124, 0, 256, 0, 1792, 3840, 7936, 16383, 32767]
theorem spec_Cut.tab8 : rtab .any (opsOf Tryz.f14 8) = spec_Cut.T8 := by kernel_rfl
theorem spec_Cut.bits8 : waitsOk spec_Cut.T8.2 spec_Cut.B8 = true := by kernel_rfl
set_option maxHeartbeats 8000000 in
set_option maxRecDepth 100000 in
theorem spec_Cut.calls (k : Nat) (A0_0 : Option Addr) (c0_0 : Nat) (l0_0 : List ByteArray) (A0_1 : Option Addr) (c0_1 : Nat) (l0_1 : List (S58)) (A1 : Option Addr) (c1 : Nat) (l1 : List Bool) (r1 : List ByteArray) (r2 : List (S58)) (w : World) (hr0_0 : Kd.C Kd.string w A0_0 l0_0.length l0_0) (hc0_0 : l0_0.length ≤ c0_0) (hr0_1 : Kd.C k58 w A0_1 l0_1.length l0_1) (hc0_1 : l0_1.length ≤ c0_1) (hr1 : Kd.C Kd.bool w A1 l1.length l1) (hc1 : l1.length ≤ c1) (h : spec_Cut.f k l0_0 l0_1 l1 = some (r1, r2)) :
  Calls Tryz.prog 14 #[.agg #[.slice A0_0 l0_0.length c0_0, .slice A0_1 l0_1.length c0_1], .slice A1 l1.length c1] w fun e w' => ∃ v0_ v1_ : Value, e = .returned (.agg #[v0_, v1_]) ∧ Kd.R Kd.string 9 w' w.heap.size (fun _ => True) v0_ r1 ∧ Kd.R k58 58 w' w.heap.size (fun _ => True) v1_ r2 ∧ Below w.heap.size w w' := by
 have hu29 := Tryz.underlying29
 have HR0_0 := A_ hr0_0
 have HC0_0 := A_ hc0_0
 clear hr0_0 hc0_0
 have HR0_1 := A_ hr0_1
 have HC0_1 := A_ hc0_1
 clear hr0_1 hc0_1
 have HR1 := A_ hr1
 have HC1 := A_ hc1
 clear hr1 hc1
 have HB := A_ (Below.refl w.heap.size w)
 have H : ((spec_DeviceOk.f k l0_0 l0_1).bind fun t187 => (if t187 = true then ((some (([] : List ByteArray) : List ByteArray)).bind fun y188 => (if y188.length + l0_0.length < 8796093022208 then (spec_Cut.l0 k l1 0 l0_0 l0_1 (y188 ++ l0_0)) else (none))) else (some (([] : List ByteArray), ([] : List (S58)))))) = some (r1, r2) := h
 clear h
 replace H := Option.bind_eq_some_iff.mp H
 obtain ⟨t187, A30, H⟩ := H
 (try dsimp only at H)
 have A3 := A_ A30
 clear A30
 by_cases c4 : t187 = true
 {
 subst c4
 have H1 : ((some (([] : List ByteArray) : List ByteArray)).bind fun y188 => (if y188.length + l0_0.length < 8796093022208 then (spec_Cut.l0 k l1 0 l0_0 l0_1 (y188 ++ l0_0)) else (none))) = some (r1, r2) := by rw [if_pos rfl] at H; exact H
 clear H
 have H := H1
 clear H1
 obtain ⟨y188, hy188⟩ : ∃ y_ : List ByteArray, y_ = (([] : List ByteArray)) := ⟨_, rfl⟩
 replace H : (if y188.length + l0_0.length < 8796093022208 then (spec_Cut.l0 k l1 0 l0_0 l0_1 (y188 ++ l0_0)) else (none)) = some (r1, r2) := by first | (rw [hy188]; with_reducible exact H) | (have H2_ := (Option.bind_some _ _).symm.trans H; rw [hy188]; with_reducible exact H2_) | (have H2_ := (Option.bind_some _ _).symm.trans H; with_reducible exact H2_) | with_reducible exact H | (rw [hy188]; exact H) | exact H
 have Ny188 := A_ hy188
 clear hy188
 by_cases c5 : y188.length + l0_0.length < 8796093022208
 {
 rw [if_pos c5] at H
 have LMc5 := A_ c5
 clear c5
 obtain ⟨y191, hy191⟩ : ∃ y_ : List ByteArray, y_ = (y188 ++ l0_0) := ⟨_, rfl⟩
 replace H : (spec_Cut.l0 k l1 0 l0_0 l0_1 y191) = some (r1, r2) := by first | (rw [hy191]; with_reducible exact H) | (have H2_ := (Option.bind_some _ _).symm.trans H; rw [hy191]; with_reducible exact H2_) | (have H2_ := (Option.bind_some _ _).symm.trans H; with_reducible exact H2_) | with_reducible exact H | (rw [hy191]; exact H) | exact H
 have Ny191 := A_ hy191
 clear hy191
 have H' := A_ H
 clear H
 go_enter Tryz.func14, Tryz.ntmps14
 go_wp2_with (first | ((with_reducible refine gate_dst (N := 2) rfl ?_); (try (refine gate_guard (by rfl) ?_; dsimp only)); refine box_event ?hg (N := 2) ?hd (cs := #[.slice A0_0 l0_0.length c0_0, .slice A0_1 l0_1.length c0_1]) (t := 29) ?hr ?_; (case hd => rfl); (case hg => rfl); (case hr => first | (go_simp; done) | (go_simp; rfl)); intro gb185 hg w6 hbox hb; have n0_ := A_ (below_step z14f hb); have n1_ := A_ (hbox); have n2_ := A_ ((by rw [hg]; exact (below_size z14f) : w.heap.size ≤ gb185)); have n3_ := A_ ((by rw [hg]; exact (below_size z14f) : w.heap.size ≤ gb185)); clear HB; have HB := n0_; have BK185 := n1_; have GW185 := n2_; have GE185 := n3_; clear n0_ n1_ n2_ n3_; clear hb hbox hg) | ((with_reducible refine gate_dst (N := 4) rfl ?_); (try (refine gate_guard (by rfl) ?_; dsimp only)); refine box_event ?hg (N := 4) ?hd (cs := #[.slice none 0 0, .slice none 0 0]) (t := 29) ?hr ?_; (case hd => rfl); (case hg => rfl); (case hr => first | (go_simp; done) | (go_simp; rfl)); intro gb186 hg w7 hbox hb; have n0_ := A_ (blk_below (g := gb185) (o := .cells #[.slice A0_0 l0_0.length c0_0, .slice A0_1 l0_1.length c0_1] 29 (0, 0)) z14c hb); have n1_ := A_ (below_step z14d hb); have n2_ := A_ (hbox); have n3_ := A_ ((by rw [hg]; exact (below_size z14d) : w.heap.size ≤ gb186)); have n4_ := A_ ((by rw [hg]; exact (below_size z14d) : w.heap.size ≤ gb186)); have n5_ := A_ ((by rw [hg]; exact Nat.ne_of_lt (blk_lt (g := gb185) (o := .cells #[.slice A0_0 l0_0.length c0_0, .slice A0_1 l0_1.length c0_1] 29 (0, 0)) z14c) : gb185 ≠ gb186)); have n6_ := A_ ((by rw [hg]; exact Nat.ne_of_gt (blk_lt (g := gb185) (o := .cells #[.slice A0_0 l0_0.length c0_0, .slice A0_1 l0_1.length c0_1] 29 (0, 0)) z14c) : gb186 ≠ gb185)); clear BK185; clear HB; have BK185 := n0_; have HB := n1_; have BK186 := n2_; have GW186 := n3_; have GE186 := n4_; have NB185_186 := n5_; have NB186_185 := n6_; clear n0_ n1_ n2_ n3_ n4_ n5_ n6_; clear hb hbox hg; have hnb8 := NB185_186.out; have hnc8 := NB186_185.out; have hcz9_0 : w7.cell? ⟨gb185, 0, none⟩ = some (.slice A0_0 l0_0.length c0_0) := (blk_cell BK185.out 0).trans rfl; have hcz9_1 : w7.cell? ⟨gb185, 1, none⟩ = some (.slice A0_1 l0_1.length c0_1) := (blk_cell BK185.out 1).trans rfl; have hfz9_0 := blk_frozen BK185.out 0; have hfz9_1 := blk_frozen BK185.out 1) | ((with_reducible refine gate_callee (f := 28) rfl ?_); refine goesL_ (some 8) rfl rfl Tryz.func28 (by kernel_rfl) rfl #[.agg #[.slice A0_0 l0_0.length c0_0, .slice A0_1 l0_1.length c0_1]] rfl (by (try simp only [List.map_toArray, List.map_cons, List.map_nil]); first | done | rfl | (simp only [List.length_drop, List.length_take]; rfl)) ?_; (with_reducible refine (spec_DeviceOk.calls k _ _ l0_0 _ _ l0_1 true _ ?side1 ?side2 ?side3 ?side4 A3.out).mono ?_); (case side1 => exact (by repeat (first | exact (Kd.C_below HR0_0.out HB.out) | (with_reducible refine Kd.C_alloc ?_ _) | (with_reducible refine Kd.C_drewN ?_ _) | (with_reducible refine Kd.C_drew ?_)))); (case side2 => exact HC0_0.out); (case side3 => exact (by repeat (first | exact (Kd.C_below HR0_1.out HB.out) | (with_reducible refine Kd.C_alloc ?_ _) | (with_reducible refine Kd.C_drewN ?_ _) | (with_reducible refine Kd.C_drew ?_)))); (case side4 => exact HC0_1.out); rintro e w10 ⟨rfl, hb⟩; refine ⟨_, rfl, ?_⟩; replace BK185 := A_ (blk_below (g := gb185) (o := .cells #[.slice A0_0 l0_0.length c0_0, .slice A0_1 l0_1.length c0_1] 29 (0, 0)) z14c hb); replace BK186 := A_ (blk_below (g := gb186) (o := .cells #[.slice none 0 0, .slice none 0 0] 29 (0, 0)) z14e hb); replace HB := A_ (below_step z14a hb)) | ((with_reducible refine gate_dst (N := 11) rfl ?_); (try (refine gate_guard (by rfl) ?_; dsimp only)); refine Kd.R_lit Kd.string _ 9 ?hg (N := 11) ?hd (xs := ([] : List ByteArray)) (inner := []) (ok := fun _ => True) (okp := fun _ => True) ?hr ?hp (fun _ hk => hk) trivial (Below.refl _ _) (Nat.le_refl _) (by simp) ?_; (case hd => rfl); (case hg => rfl); (case hr => first | (go_simp; done) | (go_simp; rfl)); (case hp => exact (Reps.none _ _)); intro v189 w11 ho12 hb hg_ hnew_; clear hg_ hnew_; (first | rw [← Ny188.out] at ho12 | (simp only [Int.reduceToNat] at ho12; rw [← Ny188.out] at ho12)); have n0_ := A_ (Kd.R_lower ho12 (below_size z14a)); have n1_ := A_ (blk_below (g := gb185) (o := .cells #[.slice A0_0 l0_0.length c0_0, .slice A0_1 l0_1.length c0_1] 29 (0, 0)) z14c hb); have n2_ := A_ (blk_below (g := gb186) (o := .cells #[.slice none 0 0, .slice none 0 0] 29 (0, 0)) z14e hb); have n3_ := A_ (below_step z14a hb); clear BK185; clear BK186; clear HB; have HO190 := n0_; have BK185 := n1_; have BK186 := n2_; have HB := n3_; clear n0_ n1_ n2_ n3_; clear hb ho12; have hcz13_0 : w11.cell? ⟨gb185, 0, none⟩ = some (.slice A0_0 l0_0.length c0_0) := (blk_cell BK185.out 0).trans rfl; have hcz13_1 : w11.cell? ⟨gb185, 1, none⟩ = some (.slice A0_1 l0_1.length c0_1) := (blk_cell BK185.out 1).trans rfl; have hfz13_0 := blk_frozen BK185.out 0; have hfz13_1 := blk_frozen BK185.out 1) | ((with_reducible refine gate_builtin (b := .append) (xs := #[.tmp 11, .tmp 13]) rfl ?_); (try (refine gate_guard (by rfl) ?_; dsimp only)); at_builtin; refine Kd.R_append_rows Kd.string (w0 := w) w.heap.size rfl (.tmp 11) (.tmp 13) 22 9 (.string ⟨#[]⟩) 16 rfl Tryz.underlying22 info9 rfl (by decide) (by omega) v189 y188 l0_0 _ _ _ (fun _ => True) (fun _ => False) rfl rfl ?aO ?aR (fun _ _ h => h) (fun _ h => h.elim) ?aF ?aB ?aS ?aL ?_; (case aR => exact (by repeat (first | exact (Kd.C_below HR0_0.out HB.out) | (with_reducible refine Kd.C_alloc ?_ _) | (with_reducible refine Kd.C_drewN ?_ _) | (with_reducible refine Kd.C_drew ?_)))); (case aB => exact z14a); (case aF => exact (fun _ _ => trivial)); (case aO => exact (by (with_reducible repeat (first | apply Kd.R_alloc | apply Kd.R_drewN | apply Kd.R_drew)); exact HO190.out)); (case aS => exact (below_size z14a)); (case aL => have := LMc5.out; omega); intro v192 w14 ho hb hg hat; rw [← Ny191.out] at ho; have n0_ := A_ (blk_grown (g := gb185) (o := .cells #[.slice A0_0 l0_0.length c0_0, .slice A0_1 l0_1.length c0_1] 29 (0, 0)) z14c hg (Kd.R_ne HO190.out BK185.out (by decide))); have n1_ := A_ (blk_grown (g := gb186) (o := .cells #[.slice none 0 0, .slice none 0 0] 29 (0, 0)) z14e hg (Kd.R_ne HO190.out BK186.out (by decide))); have n2_ := A_ (hb); have n3_ := A_ (ho); clear BK185; clear BK186; clear HB; clear HO190; have BK185 := n0_; have BK186 := n1_; have HB := n2_; have HO193 := n3_; clear n0_ n1_ n2_ n3_; clear ho hb hg hat; obtain ⟨Ao15, co15, eo15⟩ := Kd.R_slice HO193.out; subst eo15) | ((with_reducible refine gate_dst (N := 5) rfl ?_); (try (refine gate_guard (by rfl) ?_; dsimp only)); refine box_event ?hg (N := 5) ?hd (cs := #[.slice none 0 0, .slice none 0 0]) (t := 29) ?hr ?_; (case hd => rfl); (case hg => rfl); (case hr => first | (go_simp; done) | (go_simp; rfl)); intro gb194 hg w16 hbox hb; have n0_ := A_ (Kd.R_below (by (with_reducible repeat (first | apply Kd.R_alloc | apply Kd.R_drewN | apply Kd.R_drew)); exact HO193.out) hb); have n1_ := A_ (blk_below (g := gb185) (o := .cells #[.slice A0_0 l0_0.length c0_0, .slice A0_1 l0_1.length c0_1] 29 (0, 0)) z14c hb); have n2_ := A_ (blk_below (g := gb186) (o := .cells #[.slice none 0 0, .slice none 0 0] 29 (0, 0)) z14e hb); have n3_ := A_ (below_step z14a hb); have n4_ := A_ (hbox); have n5_ := A_ ((by rw [hg]; exact (below_size z14a) : w.heap.size ≤ gb194)); have n6_ := A_ ((by rw [hg]; exact (below_size z14a) : w.heap.size ≤ gb194)); have n7_ := A_ ((by rw [hg]; exact Nat.ne_of_lt (blk_lt (g := gb185) (o := .cells #[.slice A0_0 l0_0.length c0_0, .slice A0_1 l0_1.length c0_1] 29 (0, 0)) z14c) : gb185 ≠ gb194)); have n8_ := A_ ((by rw [hg]; exact Nat.ne_of_gt (blk_lt (g := gb185) (o := .cells #[.slice A0_0 l0_0.length c0_0, .slice A0_1 l0_1.length c0_1] 29 (0, 0)) z14c) : gb194 ≠ gb185)); have n9_ := A_ ((by rw [hg]; exact Nat.ne_of_lt (blk_lt (g := gb186) (o := .cells #[.slice none 0 0, .slice none 0 0] 29 (0, 0)) z14e) : gb186 ≠ gb194)); have n10_ := A_ ((by rw [hg]; exact Nat.ne_of_gt (blk_lt (g := gb186) (o := .cells #[.slice none 0 0, .slice none 0 0] 29 (0, 0)) z14e) : gb194 ≠ gb186)); clear HO193; clear BK185; clear BK186; clear HB; have HO193 := n0_; have BK185 := n1_; have BK186 := n2_; have HB := n3_; have BK194 := n4_; have GW194 := n5_; have GE194 := n6_; have NB185_194 := n7_; have NB194_185 := n8_; have NB186_194 := n9_; have NB194_186 := n10_; clear n0_ n1_ n2_ n3_ n4_ n5_ n6_ n7_ n8_ n9_ n10_; clear hb hbox hg; have hnb17 := NB194_185.out; have hnc17 := NB185_194.out; have hnb18 := NB194_186.out; have hnc18 := NB186_194.out; have hcz19_0 : w16.cell? ⟨gb194, 0, none⟩ = some (.slice none 0 0) := (blk_cell BK194.out 0).trans rfl; have hcz19_1 : w16.cell? ⟨gb194, 1, none⟩ = some (.slice none 0 0) := (blk_cell BK194.out 1).trans rfl; have hfz19_0 := blk_frozen BK194.out 0; have hfz19_1 := blk_frozen BK194.out 1))
 go_loopg [6] k (fun kq v6 w' => ∃ (x6_1 : Int) (x195000_1 : List ByteArray) (u195000 : Value), v6 = .int .i64 x6_1 ∧ Aside0 (spec_Cut.l0 kq l1 x6_1 l0_0 l0_1 x195000_1 = some (r1, r2)) ∧ Aside0 (kq ≤ k) ∧ Aside0 (Kd.R Kd.string 9 w' w.heap.size (fun _ => True) u195000 x195000_1) ∧ Aside0 (w'.heap[gb185]? = some (.cells #[(.slice A0_0 l0_0.length c0_0), (.slice A0_1 l0_1.length c0_1)] 29 (0, 0))) ∧ Aside0 (w'.heap[gb186]? = some (.cells #[(.slice none 0 0), (.slice none 0 0)] 29 (0, 0))) ∧ Aside0 (w'.heap[gb194]? = some (.cells #[u195000, (.slice none 0 0)] 29 (0, 0))) ∧ Aside0 (Below w.heap.size w w'))
 case atStart => exact ⟨(0), (y191), (.slice Ao15 y191.length co15), (by first | rfl | (simp; done) | (simp [*]; done)), H', ⟨Nat.le_refl _⟩, ⟨by (with_reducible repeat (first | apply Kd.R_alloc | apply Kd.R_drewN | apply Kd.R_drew)); exact Kd.R_mono (Kd.R_far (p := ⟨gb194, 1, none⟩) (Kd.R_far (p := ⟨gb194, 0, none⟩) (Kd.R_types HO193.out BK194.out (by decide)) (fun _ hk => hk.2) (.slice Ao15 y191.length co15)) (fun _ hk => hk.2) (.slice none 0 0)) (fun _ hk => trivial)⟩, ⟨by (with_reducible repeat (first | refine blk_drewN ?_ _ | refine blk_drew ?_ | refine blk_alloc ?_ _)); refine blk_far ?_ NB185_194.out _; (with_reducible repeat (first | refine blk_drewN ?_ _ | refine blk_drew ?_ | refine blk_alloc ?_ _)); refine blk_far ?_ NB185_194.out _; (with_reducible repeat (first | refine blk_drewN ?_ _ | refine blk_drew ?_ | refine blk_alloc ?_ _)); exact BK185.out⟩, ⟨by (with_reducible repeat (first | refine blk_drewN ?_ _ | refine blk_drew ?_ | refine blk_alloc ?_ _)); refine blk_far ?_ NB186_194.out _; (with_reducible repeat (first | refine blk_drewN ?_ _ | refine blk_drew ?_ | refine blk_alloc ?_ _)); refine blk_far ?_ NB186_194.out _; (with_reducible repeat (first | refine blk_drewN ?_ _ | refine blk_drew ?_ | refine blk_alloc ?_ _)); exact BK186.out⟩, ⟨by (with_reducible repeat (first | refine blk_drewN ?_ _ | refine blk_drew ?_ | refine blk_alloc ?_ _)); refine blk_put (cs := #[.slice Ao15 y191.length co15, .slice none 0 0]) ?_ 1 _ rfl; (with_reducible repeat (first | refine blk_drewN ?_ _ | refine blk_drew ?_ | refine blk_alloc ?_ _)); refine blk_put (cs := #[.slice none 0 0, .slice none 0 0]) ?_ 0 _ rfl; (with_reducible repeat (first | refine blk_drewN ?_ _ | refine blk_drew ?_ | refine blk_alloc ?_ _)); exact BK194.out⟩, ⟨by repeat (first | (with_reducible first | exact HB.out | apply below_alloc | apply pw_below_drewN | apply below_drew1 | refine below_set ?_ GE185.out | refine below_set ?_ GE186.out | refine below_set ?_ GE194.out) | exact HB.out)⟩⟩
 case round =>
  clear H'
  try clear c1
  try clear c2
  try clear p2
  try clear c4
  try clear c5
  try clear c8
  try clear c14
  try clear c17
  try clear c18
  try clear hcz13_0
  try clear hcz13_1
  try clear hcz19_0
  try clear hcz19_1
  try clear hcz9_0
  try clear hcz9_1
  try clear hfz13_0
  try clear hfz13_1
  try clear hfz19_0
  try clear hfz19_1
  try clear hfz9_0
  try clear hfz9_1
  obtain ⟨x6_1, x195000_1, u195000, rfl, HA, HK1, HO_195000, BK185, BK186, BK194, HB⟩ := hrel
  cases gk with
  | zero => exact absurd HA.out (by simp [spec_Cut.l0])
  | succ k1 =>
   have H := HA.out
   clear HA
   simp only [spec_Cut.l0] at H
   have HC20 := A_ H
   clear H
   go_upto_region 5 with (fail)
   go_cut [26] (fun v26 wc => ∃ (kq : Nat) (x26_19 : Bool), v26 = .bool x26_19 ∧ Aside0 (spec_Cut.j1 kq l1 x6_1 x26_19 l0_0 l0_1 x195000_1 = some (r1, r2)) ∧ Aside0 (kq ≤ k1) ∧ Aside0 (Kd.R Kd.string 9 wc w.heap.size (fun _ => True) u195000 x195000_1) ∧ Aside0 (wc.heap[gb185]? = some (.cells #[(.slice A0_0 l0_0.length c0_0), (.slice A0_1 l0_1.length c0_1)] 29 (0, 0))) ∧ Aside0 (wc.heap[gb186]? = some (.cells #[(.slice none 0 0), (.slice none 0 0)] 29 (0, 0))) ∧ Aside0 (wc.heap[gb194]? = some (.cells #[u195000, (.slice none 0 0)] 29 (0, 0))) ∧ Aside0 (Below w.heap.size w wc))
   case first =>
    have H := HC20.out
    clear HC20
    by_cases c21 : x6_1 < (l0_1.length : Int)
    {
    rw [if_pos c21] at H
    have c21b0 : decide (x6_1 < (l0_1.length : Int)) = true := decide_eq_true c21
    clear c21
    (first | rw [c21b0] | (simp only [i64_w, i32_w]; rw [c21b0]) | skip)
    have H' := A_ H
    clear H
    have hnb22 := NB185_186.out
    have hnc22 := NB186_185.out
    have hnb23 := NB185_194.out
    have hnc23 := NB194_185.out
    have hcz24_0 : wr.cell? ⟨gb185, 0, none⟩ = some (.slice A0_0 l0_0.length c0_0) := (blk_cell BK185.out 0).trans rfl
    have hcz24_1 : wr.cell? ⟨gb185, 1, none⟩ = some (.slice A0_1 l0_1.length c0_1) := (blk_cell BK185.out 1).trans rfl
    have hfz24_0 := blk_frozen BK185.out 0
    have hfz24_1 := blk_frozen BK185.out 1
    go_wp2
    go_meet
    case rel => exact ⟨_, (decide (x6_1 < (l1.length : Int))), (by first | rfl | (simp; done) | (simp [*]; done)), H', ⟨by have := HK1.out; first | omega | exact Nat.le_refl _⟩, ⟨by (with_reducible repeat (first | apply Kd.R_alloc | apply Kd.R_drewN | apply Kd.R_drew)); exact HO_195000.out⟩, ⟨by (with_reducible repeat (first | refine blk_drewN ?_ _ | refine blk_drew ?_ | refine blk_alloc ?_ _)); exact BK185.out⟩, ⟨by (with_reducible repeat (first | refine blk_drewN ?_ _ | refine blk_drew ?_ | refine blk_alloc ?_ _)); exact BK186.out⟩, ⟨by (with_reducible repeat (first | refine blk_drewN ?_ _ | refine blk_drew ?_ | refine blk_alloc ?_ _)); exact BK194.out⟩, ⟨by repeat (first | (with_reducible first | exact HB.out | apply below_alloc | apply pw_below_drewN | apply below_drew1 | refine below_set ?_ GE185.out | refine below_set ?_ GE186.out | refine below_set ?_ GE194.out) | exact HB.out)⟩⟩
    }
    {
    rw [if_neg c21] at H
    have c21b0 : decide (x6_1 < (l0_1.length : Int)) = false := decide_eq_false c21
    clear c21
    (first | rw [c21b0] | (simp only [i64_w, i32_w]; rw [c21b0]) | skip)
    have H' := A_ H
    clear H
    have hnb25 := NB185_186.out
    have hnc25 := NB186_185.out
    have hnb26 := NB185_194.out
    have hnc26 := NB194_185.out
    have hcz27_0 : wr.cell? ⟨gb185, 0, none⟩ = some (.slice A0_0 l0_0.length c0_0) := (blk_cell BK185.out 0).trans rfl
    have hcz27_1 : wr.cell? ⟨gb185, 1, none⟩ = some (.slice A0_1 l0_1.length c0_1) := (blk_cell BK185.out 1).trans rfl
    have hfz27_0 := blk_frozen BK185.out 0
    have hfz27_1 := blk_frozen BK185.out 1
    go_wp2
    go_meet
    case rel => exact ⟨_, (false), (by first | rfl | (simp; done) | (simp [*]; done)), H', ⟨by have := HK1.out; first | omega | exact Nat.le_refl _⟩, ⟨by (with_reducible repeat (first | apply Kd.R_alloc | apply Kd.R_drewN | apply Kd.R_drew)); exact HO_195000.out⟩, ⟨by (with_reducible repeat (first | refine blk_drewN ?_ _ | refine blk_drew ?_ | refine blk_alloc ?_ _)); exact BK185.out⟩, ⟨by (with_reducible repeat (first | refine blk_drewN ?_ _ | refine blk_drew ?_ | refine blk_alloc ?_ _)); exact BK186.out⟩, ⟨by (with_reducible repeat (first | refine blk_drewN ?_ _ | refine blk_drew ?_ | refine blk_alloc ?_ _)); exact BK194.out⟩, ⟨by repeat (first | (with_reducible first | exact HB.out | apply below_alloc | apply pw_below_drewN | apply below_drew1 | refine below_set ?_ GE185.out | refine below_set ?_ GE186.out | refine below_set ?_ GE194.out) | exact HB.out)⟩⟩
    }
   case rest =>
    clear HC20
    try clear c1
    try clear c2
    try clear p2
    try clear c4
    try clear c5
    try clear c8
    try clear c14
    try clear c17
    try clear c18
    try clear c21
    try clear c21b0
    try clear c22
    try clear c23
    try clear c25
    try clear c26
    try clear hcz13_0
    try clear hcz13_1
    try clear hcz19_0
    try clear hcz19_1
    try clear hcz24_0
    try clear hcz24_1
    try clear hcz27_0
    try clear hcz27_1
    try clear hcz9_0
    try clear hcz9_1
    try clear hfz13_0
    try clear hfz13_1
    try clear hfz19_0
    try clear hfz19_1
    try clear hfz24_0
    try clear hfz24_1
    try clear hfz27_0
    try clear hfz27_1
    try clear hfz9_0
    try clear hfz9_1
    try clear p2
    obtain ⟨kq, x26_19, rfl, HA, HJ19, HO_195000, BK185, BK186, BK194, HB⟩ := hcut
    cases kq with
    | zero => exact absurd HA.out (by simp [spec_Cut.j1])
    | succ kj19 =>
     have H := HA.out
     clear HA
     simp only [spec_Cut.j1] at H
     by_cases c28 : x26_19 = true
     {
     subst c28
     have H1 : (if 0 ≤ x6_1 then (if x6_1 < (l1.length : Int) then (if rdOf false l1 x6_1 = true then (if x6_1 < (l0_1.length : Int) then (if 0 ≤ ((rd_T58 l0_1 x6_1).f0) then (if ((rd_T58 l0_1 x6_1).f0) < (x195000_1.length : Int) then (spec_Cut.l0 kj19 l1 (wrap64 (x6_1 + 1)) l0_0 l0_1 (x195000_1.set (((rd_T58 l0_1 x6_1).f0) : Int).toNat ((rd_T58 l0_1 x6_1).f1))) else (none)) else (none)) else (none)) else (spec_Cut.l0 kj19 l1 (wrap64 (x6_1 + 1)) l0_0 l0_1 x195000_1)) else (none)) else (none)) = some (r1, r2) := by rw [if_pos rfl] at H; exact H
     clear H
     have H := H1
     clear H1
     by_cases c29 : 0 ≤ x6_1
     {
     rw [if_pos c29] at H
     have c29b0 : decide (0 ≤ x6_1) = true := decide_eq_true c29
     clear c29
     by_cases c30 : x6_1 < (l1.length : Int)
     {
     rw [if_pos c30] at H
     have c30b0 : decide (x6_1 < (l1.length : Int)) = true := decide_eq_true c30
     clear c30
     obtain ⟨bq31, hbq31⟩ : ∃ b_ : Bool, b_ = (rdOf false l1 x6_1) := ⟨_, rfl⟩
     replace H : (if bq31 = true then (if x6_1 < (l0_1.length : Int) then (if 0 ≤ ((rd_T58 l0_1 x6_1).f0) then (if ((rd_T58 l0_1 x6_1).f0) < (x195000_1.length : Int) then (spec_Cut.l0 kj19 l1 (wrap64 (x6_1 + 1)) l0_0 l0_1 (x195000_1.set (((rd_T58 l0_1 x6_1).f0) : Int).toNat ((rd_T58 l0_1 x6_1).f1))) else (none)) else (none)) else (none)) else (spec_Cut.l0 kj19 l1 (wrap64 (x6_1 + 1)) l0_0 l0_1 x195000_1)) = some (r1, r2) := by rw [← hbq31] at H; exact H
     have Nbq31 := A_ hbq31
     clear hbq31
     by_cases c32 : bq31 = true
     {
     subst c32
     have H1 : (if x6_1 < (l0_1.length : Int) then (if 0 ≤ ((rd_T58 l0_1 x6_1).f0) then (if ((rd_T58 l0_1 x6_1).f0) < (x195000_1.length : Int) then (spec_Cut.l0 kj19 l1 (wrap64 (x6_1 + 1)) l0_0 l0_1 (x195000_1.set (((rd_T58 l0_1 x6_1).f0) : Int).toNat ((rd_T58 l0_1 x6_1).f1))) else (none)) else (none)) else (none)) = some (r1, r2) := by rw [if_pos rfl] at H; exact H
     clear H
     have H := H1
     clear H1
     by_cases c33 : x6_1 < (l0_1.length : Int)
     {
     rw [if_pos c33] at H
     have c33b0 : decide (x6_1 < (l0_1.length : Int)) = true := decide_eq_true c33
     clear c33
     by_cases c34 : 0 ≤ ((rd_T58 l0_1 x6_1).f0)
     {
     rw [if_pos c34] at H
     have c34b0 : decide (0 ≤ ((rd_T58 l0_1 x6_1).f0)) = true := decide_eq_true c34
     clear c34
     by_cases c35 : ((rd_T58 l0_1 x6_1).f0) < (x195000_1.length : Int)
     {
     rw [if_pos c35] at H
     have c35b0 : decide (((rd_T58 l0_1 x6_1).f0) < (x195000_1.length : Int)) = true := decide_eq_true c35
     clear c35
     obtain ⟨y198, hy198⟩ : ∃ y_ : List ByteArray, y_ = (x195000_1.set (((rd_T58 l0_1 x6_1).f0) : Int).toNat ((rd_T58 l0_1 x6_1).f1)) := ⟨_, rfl⟩
     replace H : (spec_Cut.l0 kj19 l1 (wrap64 (x6_1 + 1)) l0_0 l0_1 y198) = some (r1, r2) := by first | (rw [hy198]; with_reducible exact H) | (have H2_ := (Option.bind_some _ _).symm.trans H; rw [hy198]; with_reducible exact H2_) | (have H2_ := (Option.bind_some _ _).symm.trans H; with_reducible exact H2_) | with_reducible exact H | (rw [hy198]; exact H) | exact H
     have Ny198 := A_ hy198
     clear hy198
     have H' := A_ H
     clear H
     have p195 : 0 ≤ (x6_1 : Int) := of_decide_eq_true z14g
     have q195 : x6_1 < (l1.length : Int) := of_decide_eq_true z14g
     obtain ⟨ad195, e195, hx195_0⟩ := Kd.at_bool HR1.out x6_1 p195 q195
     (try rw [← Nbq31.out] at hx195_0)
     cases e195
     replace hx195_0 := (HB.out.cell (World.block_lt_of_cell? w _ hx195_0)).trans hx195_0
     replace p195 := eq_true p195
     replace q195 := eq_true q195
     try go_wp2
     replace HO_195000 := A_ (Kd.R_drew HO_195000.out)
     replace BK185 := A_ (blk_drew BK185.out)
     replace BK186 := A_ (blk_drew BK186.out)
     replace BK194 := A_ (blk_drew BK194.out)
     replace HB := A_ (below_drew1 HB.out)
     have p196 : 0 ≤ (x6_1 : Int) := of_decide_eq_true z14g
     have q196 : x6_1 < (l0_1.length : Int) := of_decide_eq_true z14g
     obtain ⟨ad196, e196, hx196_0, hx196_1⟩ := at_T58 HR0_1.out x6_1 p196 q196
     have hw196_1 := hx196_1
     have hw196_0 := hx196_0
     cases e196
     replace hx196_0 := (HB.out.cell (World.block_lt_of_cell? w _ hx196_0)).trans hx196_0
     replace hx196_1 := (HB.out.cell (World.block_lt_of_cell? w _ hx196_1)).trans hx196_1
     replace p196 := eq_true p196
     replace q196 := eq_true q196
     have p197 : 0 ≤ (x6_1 : Int) := of_decide_eq_true z14g
     have q197 : x6_1 < (l0_1.length : Int) := of_decide_eq_true z14g
     obtain ⟨ad197, e197, hx197_0, hx197_1⟩ := at_T58 HR0_1.out x6_1 p197 q197
     have hw197_1 := hx197_1
     have hw197_0 := hx197_0
     obtain rfl : ad196 = ad197 := (by injection e197)
     replace hx197_0 := (HB.out.cell (World.block_lt_of_cell? w _ hx197_0)).trans hx197_0
     replace hx197_1 := (HB.out.cell (World.block_lt_of_cell? w _ hx197_1)).trans hx197_1
     replace p197 := eq_true p197
     replace q197 := eq_true q197
     have p36 : 0 ≤ (((rd_T58 l0_1 x6_1).f0) : Int) := of_decide_eq_true z14g
     have q36 : (((rd_T58 l0_1 x6_1).f0) : Int) < ((x195000_1.length : Int) : Int) := of_decide_eq_true z14g
     obtain ⟨go36, co36, eo36, gb36, gl36, cl36, HG36⟩ := Kd.R_form HO_195000.out (by omega)
     (first | cases eo36 | (injection eo36 with ea_ en_ ec_; (first | subst ea_ | (injection ea_ with ea_; subst ea_)); subst ec_; clear en_))
     have GB36 := A_ gb36
     have GG36 := A_ HG36
     clear gb36 gl36 HG36
     obtain ⟨hx36_0, hf36_0⟩ := Kd.R_celln (⟨#[]⟩ : ByteArray) HO_195000.out (((rd_T58 l0_1 x6_1).f0) : Int) p36 q36
     replace p36 := eq_true p36
     replace q36 := eq_true q36
     have HP38 := Kd.R_putn HO_195000.out (((rd_T58 l0_1 x6_1).f0) : Int) ((rd_T58 l0_1 x6_1).f1)
     rw [← Ny198.out] at HP38
     have HQ38 := A_ HP38
     clear HP38
     refine start_ (n := 16) (S := fun w' => w'.cell? ⟨gb194, 0, none⟩ = some (.slice (some ⟨go36, 0, none⟩) x195000_1.length co36) ∧ w'.cell? ⟨gb194, 1, none⟩ = some (.slice none 0 0) ∧ w'.cell? ⟨gb185, 0, none⟩ = some (.slice A0_0 l0_0.length c0_0) ∧ w'.cell? ⟨gb185, 1, none⟩ = some (.slice (some ad196) l0_1.length c0_1) ∧ w'.cell? (ad196.add ((x6_1).toNat * 2)) = some (.int .i64 ((rd_T58 l0_1 x6_1).f0)) ∧ w'.cell? ⟨(ad196.add ((x6_1).toNat * 2)).block, (ad196.add ((x6_1).toNat * 2)).off + 1, none⟩ = some (.string ((rd_T58 l0_1 x6_1).f1)) ∧ w'.cell? (ad196.add ((x6_1).toNat * 2)) = some (.int .i64 ((rd_T58 l0_1 x6_1).f0)) ∧ w'.cell? ⟨(ad196.add ((x6_1).toNat * 2)).block, (ad196.add ((x6_1).toNat * 2)).off + 1, none⟩ = some (.string ((rd_T58 l0_1 x6_1).f1))) (ds := [15]) #[false, false, false, false, false, false, false, false, false, false, false, false, false, false, false, false] (by kernel_rfl) rfl rfl ⟨(blk_cell BK194.out 0).trans rfl, (blk_cell BK194.out 1).trans rfl, (blk_cell BK185.out 0).trans rfl, (blk_cell BK185.out 1).trans rfl, ((HB.out.cell (World.block_lt_of_cell? w _ hw196_0)).trans hw196_0), ((HB.out.cell (World.block_lt_of_cell? w _ hw196_1)).trans hw196_1), ((HB.out.cell (World.block_lt_of_cell? w _ hw197_0)).trans hw197_0), ((HB.out.cell (World.block_lt_of_cell? w _ hw197_1)).trans hw197_1)⟩ (fun hHeld => ?_); refine with_tabW spec_Cut.tab8 spec_Cut.bits8 (fun HT_ HW_ => ?_)
     generalize wc.drew = w37 at HO_195000 BK185 BK186 BK194 HB GG36 HQ38 hf36_0 hx196_0 hx196_1 hx197_0 hx197_1 hx36_0 hHeld ⊢
     refine pu_ 0 (some 33) #[true, false, false, false, false, false, false, false, false, false, false, false, false, false, false, false] ?_
     refine pu_ 2 (some 35) #[true, false, true, false, false, false, false, false, false, false, false, false, false, false, false, false] ?_
     refine pu_ 4 (some 37) #[true, false, true, false, true, false, false, false, false, false, false, false, false, false, false, false] ?_
     refine pu_ 8 (some 41) #[true, false, true, false, true, false, false, false, true, false, false, false, false, false, false, false] ?_
     refine pu_ 10 (some 43) #[true, false, true, false, true, false, false, false, true, false, true, false, false, false, false, false] ?_
     refine take_ (i := 1) (N := some 34) (v := _) (a' := _) #[true, true, true, false, true, false, false, false, true, false, true, false, false, false, false, false] rfl rfl (take_ofW HT_.out HW_.out (by kernel_rfl)) (fun _ _ _ h => h) (Or.inl ⟨by rfl, (by rintro w' ⟨s0, s1, s2, s3, s4, s5, s6, s7⟩; go_simp; with_reducible rfl)⟩) hHeld z14b ?_
     refine take_ (i := 3) (N := some 36) (v := _) (a' := _) #[true, true, true, true, true, false, false, false, true, false, true, false, false, false, false, false] rfl rfl (take_ofW HT_.out HW_.out (by kernel_rfl)) (fun _ _ _ h => h) (Or.inl ⟨by rfl, (by rintro w' ⟨s0, s1, s2, s3, s4, s5, s6, s7⟩; go_simp; with_reducible rfl)⟩) hHeld z14b ?_
     refine pu_ 5 (some 38) #[true, true, true, true, true, true, false, false, true, false, true, false, false, false, false, false] ?_
     refine pu_ 6 (some 39) #[true, true, true, true, true, true, true, false, true, false, true, false, false, false, false, false] ?_
     refine take_ (i := 7) (N := some 40) (v := _) (a' := _) #[true, true, true, true, true, true, true, true, true, false, true, false, false, false, false, false] rfl rfl (take_ofW HT_.out HW_.out (by kernel_rfl)) (fun _ _ _ h => h) (Or.inl ⟨by rfl, (by rintro w' ⟨s0, s1, s2, s3, s4, s5, s6, s7⟩; go_simp; with_reducible rfl)⟩) hHeld z14b ?_
     refine take_ (i := 9) (N := some 42) (v := _) (a' := _) #[true, true, true, true, true, true, true, true, true, true, true, false, false, false, false, false] rfl rfl (take_ofW HT_.out HW_.out (by kernel_rfl)) (fun _ _ _ h => h) (Or.inl ⟨by rfl, (by rintro w' ⟨s0, s1, s2, s3, s4, s5, s6, s7⟩; go_simp; with_reducible rfl)⟩) hHeld z14b ?_
     refine pu_ 11 (some 44) #[true, true, true, true, true, true, true, true, true, true, true, true, false, false, false, false] ?_
     refine pu_ 12 (some 45) #[true, true, true, true, true, true, true, true, true, true, true, true, true, false, false, false] ?_
     refine take_ (i := 13) (N := some 46) (v := _) (a' := _) #[true, true, true, true, true, true, true, true, true, true, true, true, true, true, false, false] rfl rfl (take_ofW HT_.out HW_.out (by kernel_rfl)) (fun _ _ _ h => h) (Or.inl ⟨by rfl, (by rintro w' ⟨s0, s1, s2, s3, s4, s5, s6, s7⟩; go_simp; with_reducible rfl)⟩) hHeld z14b ?_
     refine pu_ 14 (some 47) #[true, true, true, true, true, true, true, true, true, true, true, true, true, true, true, false] ?_
     refine last_ (i := 15) (N := none) #[true, true, true, true, true, true, true, true, true, true, true, true, true, true, true, true] rfl rfl (one_of HT_.out (by kernel_rfl)) (by decide) (fun K hK => ?_)
     refine skip_ (w1 := ?_) (by rfl) rfl ?_ ?_
     rotate_left
     {
     go_simp
     rfl
     }
     refine hK.out _ _ ?_
     clear hK K
     refine done_ (done_of HT_.out (by kernel_rfl)) ?_
     try go_wp2
     go_roundg kj19
     case measure => have := HK1.out; have := HJ19.out; omega
     case rel => exact ⟨(wrap64 (x6_1 + 1)), (y198), (.slice (some ⟨go36, 0, none⟩) x195000_1.length co36), (by first | rfl | (simp; done) | (simp [*]; done)), H', ⟨by have := HK1.out; have := HJ19.out; omega⟩, ⟨by (with_reducible repeat (first | apply Kd.R_alloc | apply Kd.R_drewN | apply Kd.R_drew)); exact HQ38.out⟩, ⟨by (with_reducible repeat (first | refine blk_drewN ?_ _ | refine blk_drew ?_ | refine blk_alloc ?_ _)); refine blk_far ?_ (by have h_ := Kd.R_ne HO_195000.out BK185.out (by decide); intro e_; exact h_ (by rw [e_]; rfl)) _; (with_reducible repeat (first | refine blk_drewN ?_ _ | refine blk_drew ?_ | refine blk_alloc ?_ _)); exact BK185.out⟩, ⟨by (with_reducible repeat (first | refine blk_drewN ?_ _ | refine blk_drew ?_ | refine blk_alloc ?_ _)); refine blk_far ?_ (by have h_ := Kd.R_ne HO_195000.out BK186.out (by decide); intro e_; exact h_ (by rw [e_]; rfl)) _; (with_reducible repeat (first | refine blk_drewN ?_ _ | refine blk_drew ?_ | refine blk_alloc ?_ _)); exact BK186.out⟩, ⟨by (with_reducible repeat (first | refine blk_drewN ?_ _ | refine blk_drew ?_ | refine blk_alloc ?_ _)); refine blk_far ?_ (by have h_ := Kd.R_ne HO_195000.out BK194.out (by decide); intro e_; exact h_ (by rw [e_]; rfl)) _; (with_reducible repeat (first | refine blk_drewN ?_ _ | refine blk_drew ?_ | refine blk_alloc ?_ _)); exact BK194.out⟩, ⟨by repeat (first | (with_reducible first | exact HB.out | apply below_alloc | apply pw_below_drewN | apply below_drew1 | refine below_set ?_ GB36.out | refine below_set ?_ GE185.out | refine below_set ?_ GE186.out | refine below_set ?_ GE194.out) | exact HB.out)⟩⟩
     }
     {
     rw [if_neg c35] at H
     exact absurd H (by simp)
     }
     }
     {
     rw [if_neg c34] at H
     exact absurd H (by simp)
     }
     }
     {
     rw [if_neg c33] at H
     exact absurd H (by simp)
     }
     }
     {
     replace c32 := Bool.eq_false_iff.mpr c32
     subst c32
     have H1 : (spec_Cut.l0 kj19 l1 (wrap64 (x6_1 + 1)) l0_0 l0_1 x195000_1) = some (r1, r2) := by rw [if_neg (show ¬ (false = true) by decide)] at H; exact H
     clear H
     have H := H1
     clear H1
     have H' := A_ H
     clear H
     have p195 : 0 ≤ (x6_1 : Int) := of_decide_eq_true z14g
     have q195 : x6_1 < (l1.length : Int) := of_decide_eq_true z14g
     obtain ⟨ad195, e195, hx195_0⟩ := Kd.at_bool HR1.out x6_1 p195 q195
     (try rw [← Nbq31.out] at hx195_0)
     cases e195
     replace hx195_0 := (HB.out.cell (World.block_lt_of_cell? w _ hx195_0)).trans hx195_0
     replace p195 := eq_true p195
     replace q195 := eq_true q195
     go_wp2
     go_roundg kj19
     case measure => have := HK1.out; have := HJ19.out; omega
     case rel => exact ⟨(wrap64 (x6_1 + 1)), (x195000_1), (u195000), (by first | rfl | (simp; done) | (simp [*]; done)), H', ⟨by have := HK1.out; have := HJ19.out; omega⟩, ⟨by (with_reducible repeat (first | apply Kd.R_alloc | apply Kd.R_drewN | apply Kd.R_drew)); exact HO_195000.out⟩, ⟨by (with_reducible repeat (first | refine blk_drewN ?_ _ | refine blk_drew ?_ | refine blk_alloc ?_ _)); exact BK185.out⟩, ⟨by (with_reducible repeat (first | refine blk_drewN ?_ _ | refine blk_drew ?_ | refine blk_alloc ?_ _)); exact BK186.out⟩, ⟨by (with_reducible repeat (first | refine blk_drewN ?_ _ | refine blk_drew ?_ | refine blk_alloc ?_ _)); exact BK194.out⟩, ⟨by repeat (first | (with_reducible first | exact HB.out | apply below_alloc | apply pw_below_drewN | apply below_drew1 | refine below_set ?_ GE185.out | refine below_set ?_ GE186.out | refine below_set ?_ GE194.out) | exact HB.out)⟩⟩
     }
     }
     {
     rw [if_neg c30] at H
     exact absurd H (by simp)
     }
     }
     {
     rw [if_neg c29] at H
     exact absurd H (by simp)
     }
     }
     {
     replace c28 := Bool.eq_false_iff.mpr c28
     subst c28
     have H1 : (some (x195000_1, ([] : List (S58)))) = some (r1, r2) := by rw [if_neg (show ¬ (false = true) by decide)] at H; exact H
     clear H
     have H := H1
     clear H1
     simp only [Option.some.injEq, Prod.mk.injEq] at H
     obtain ⟨rfl, rfl⟩ := H
     have hnb39 := NB194_185.out
     have hnc39 := NB185_194.out
     have hnb40 := NB194_186.out
     have hnc40 := NB186_194.out
     have hcz41_0 : wc.cell? ⟨gb194, 0, none⟩ = some (u195000) := (blk_cell BK194.out 0).trans rfl
     have hcz41_1 : wc.cell? ⟨gb194, 1, none⟩ = some (.slice none 0 0) := (blk_cell BK194.out 1).trans rfl
     have hfz41_0 := blk_frozen BK194.out 0
     have hfz41_1 := blk_frozen BK194.out 1
     obtain ⟨Ao42, co42, eo42⟩ := Kd.R_slice HO_195000.out
     subst eo42
     have hnb43 := NB186_185.out
     have hnc43 := NB185_186.out
     have hcz44_0 : wc.cell? ⟨gb186, 0, none⟩ = some (.slice none 0 0) := (blk_cell BK186.out 0).trans rfl
     have hcz44_1 : wc.cell? ⟨gb186, 1, none⟩ = some (.slice none 0 0) := (blk_cell BK186.out 1).trans rfl
     have hfz44_0 := blk_frozen BK186.out 0
     have hfz44_1 := blk_frozen BK186.out 1
     go_wp2
     refine bodyPost_ret (results_cell_row rfl _ _ gb186 29 #[.slice Ao42 x195000_1.length co42, .slice none 0 0] (0, 0) _ rfl (by (with_reducible repeat (first | refine blk_drewN ?_ _ | refine blk_drew ?_ | refine blk_alloc ?_ _)); refine blk_put (cs := #[.slice Ao42 x195000_1.length co42, .slice none 0 0]) ?_ 1 _ rfl; (with_reducible repeat (first | refine blk_drewN ?_ _ | refine blk_drew ?_ | refine blk_alloc ?_ _)); refine blk_put (cs := #[.slice none 0 0, .slice none 0 0]) ?_ 0 _ rfl; (with_reducible repeat (first | refine blk_drewN ?_ _ | refine blk_drew ?_ | refine blk_alloc ?_ _)); exact BK186.out) Tryz.underlying29 rfl (by kernel_rfl)) rfl ?_
     exact ⟨_, _, by first | rfl | (simp [errW_none, errW_some] <;> rfl) | (simp [*, errW_none, errW_some] <;> rfl), by (with_reducible repeat (first | apply Kd.R_alloc | apply Kd.R_drewN | apply Kd.R_drew)); exact Kd.R_mono (Kd.R_far (p := ⟨gb186, 1, none⟩) (Kd.R_far (p := ⟨gb186, 0, none⟩) (Kd.R_types HO_195000.out BK186.out (by decide)) (fun _ hk => hk.2) (.slice Ao42 x195000_1.length co42)) (fun _ hk => hk.2) (.slice none 0 0)) (fun _ hk => trivial), by first | exact Kd.R_nil _ _ _ _ _ | exact Kd.N_nil _ _ _ _ _ | exact Kd.V_nil _ _ _ _ _ | exact Kd.Q_nil _ _ _ _ _ | exact Kd.S_nil _ _ _ _ _, by repeat (first | (with_reducible first | exact HB.out | apply below_alloc | apply pw_below_drewN | apply below_drew1 | refine below_set ?_ GE185.out | refine below_set ?_ GE186.out | refine below_set ?_ GE194.out) | exact HB.out)⟩
     }
 }
 {
 rw [if_neg c5] at H
 exact absurd H (by simp)
 }
 }
 {
 replace c4 := Bool.eq_false_iff.mpr c4
 subst c4
 have H1 : (some (([] : List ByteArray), ([] : List (S58)))) = some (r1, r2) := by rw [if_neg (show ¬ (false = true) by decide)] at H; exact H
 clear H
 have H := H1
 clear H1
 simp only [Option.some.injEq, Prod.mk.injEq] at H
 obtain ⟨rfl, rfl⟩ := H
 go_enter Tryz.func14, Tryz.ntmps14
 go_wp2_with (first | ((with_reducible refine gate_dst (N := 2) rfl ?_); (try (refine gate_guard (by rfl) ?_; dsimp only)); refine box_event ?hg (N := 2) ?hd (cs := #[.slice A0_0 l0_0.length c0_0, .slice A0_1 l0_1.length c0_1]) (t := 29) ?hr ?_; (case hd => rfl); (case hg => rfl); (case hr => first | (go_simp; done) | (go_simp; rfl)); intro gb185 hg w45 hbox hb; have n0_ := A_ (below_step z14f hb); have n1_ := A_ (hbox); have n2_ := A_ ((by rw [hg]; exact (below_size z14f) : w.heap.size ≤ gb185)); have n3_ := A_ ((by rw [hg]; exact (below_size z14f) : w.heap.size ≤ gb185)); clear HB; have HB := n0_; have BK185 := n1_; have GW185 := n2_; have GE185 := n3_; clear n0_ n1_ n2_ n3_; clear hb hbox hg) | ((with_reducible refine gate_dst (N := 4) rfl ?_); (try (refine gate_guard (by rfl) ?_; dsimp only)); refine box_event ?hg (N := 4) ?hd (cs := #[.slice none 0 0, .slice none 0 0]) (t := 29) ?hr ?_; (case hd => rfl); (case hg => rfl); (case hr => first | (go_simp; done) | (go_simp; rfl)); intro gb186 hg w46 hbox hb; have n0_ := A_ (blk_below (g := gb185) (o := .cells #[.slice A0_0 l0_0.length c0_0, .slice A0_1 l0_1.length c0_1] 29 (0, 0)) z14c hb); have n1_ := A_ (below_step z14d hb); have n2_ := A_ (hbox); have n3_ := A_ ((by rw [hg]; exact (below_size z14d) : w.heap.size ≤ gb186)); have n4_ := A_ ((by rw [hg]; exact (below_size z14d) : w.heap.size ≤ gb186)); have n5_ := A_ ((by rw [hg]; exact Nat.ne_of_lt (blk_lt (g := gb185) (o := .cells #[.slice A0_0 l0_0.length c0_0, .slice A0_1 l0_1.length c0_1] 29 (0, 0)) z14c) : gb185 ≠ gb186)); have n6_ := A_ ((by rw [hg]; exact Nat.ne_of_gt (blk_lt (g := gb185) (o := .cells #[.slice A0_0 l0_0.length c0_0, .slice A0_1 l0_1.length c0_1] 29 (0, 0)) z14c) : gb186 ≠ gb185)); clear BK185; clear HB; have BK185 := n0_; have HB := n1_; have BK186 := n2_; have GW186 := n3_; have GE186 := n4_; have NB185_186 := n5_; have NB186_185 := n6_; clear n0_ n1_ n2_ n3_ n4_ n5_ n6_; clear hb hbox hg; have hnb47 := NB185_186.out; have hnc47 := NB186_185.out; have hcz48_0 : w46.cell? ⟨gb185, 0, none⟩ = some (.slice A0_0 l0_0.length c0_0) := (blk_cell BK185.out 0).trans rfl; have hcz48_1 : w46.cell? ⟨gb185, 1, none⟩ = some (.slice A0_1 l0_1.length c0_1) := (blk_cell BK185.out 1).trans rfl; have hfz48_0 := blk_frozen BK185.out 0; have hfz48_1 := blk_frozen BK185.out 1) | ((with_reducible refine gate_callee (f := 28) rfl ?_); refine goesL_ (some 8) rfl rfl Tryz.func28 (by kernel_rfl) rfl #[.agg #[.slice A0_0 l0_0.length c0_0, .slice A0_1 l0_1.length c0_1]] rfl (by (try simp only [List.map_toArray, List.map_cons, List.map_nil]); first | done | rfl | (simp only [List.length_drop, List.length_take]; rfl)) ?_; (with_reducible refine (spec_DeviceOk.calls k _ _ l0_0 _ _ l0_1 false _ ?side1 ?side2 ?side3 ?side4 A3.out).mono ?_); (case side1 => exact (by repeat (first | exact (Kd.C_below HR0_0.out HB.out) | (with_reducible refine Kd.C_alloc ?_ _) | (with_reducible refine Kd.C_drewN ?_ _) | (with_reducible refine Kd.C_drew ?_)))); (case side2 => exact HC0_0.out); (case side3 => exact (by repeat (first | exact (Kd.C_below HR0_1.out HB.out) | (with_reducible refine Kd.C_alloc ?_ _) | (with_reducible refine Kd.C_drewN ?_ _) | (with_reducible refine Kd.C_drew ?_)))); (case side4 => exact HC0_1.out); rintro e w49 ⟨rfl, hb⟩; refine ⟨_, rfl, ?_⟩; replace BK185 := A_ (blk_below (g := gb185) (o := .cells #[.slice A0_0 l0_0.length c0_0, .slice A0_1 l0_1.length c0_1] 29 (0, 0)) z14c hb); replace BK186 := A_ (blk_below (g := gb186) (o := .cells #[.slice none 0 0, .slice none 0 0] 29 (0, 0)) z14e hb); replace HB := A_ (below_step z14a hb); have hcz50_0 : w49.cell? ⟨gb186, 0, none⟩ = some (.slice none 0 0) := (blk_cell BK186.out 0).trans rfl; have hcz50_1 : w49.cell? ⟨gb186, 1, none⟩ = some (.slice none 0 0) := (blk_cell BK186.out 1).trans rfl; have hfz50_0 := blk_frozen BK186.out 0; have hfz50_1 := blk_frozen BK186.out 1))
 refine bodyPost_ret (results_cell_row rfl _ _ gb186 29 #[.slice none 0 0, .slice none 0 0] (0, 0) _ rfl (by (with_reducible repeat (first | refine blk_drewN ?_ _ | refine blk_drew ?_ | refine blk_alloc ?_ _)); refine blk_put (cs := #[.slice none 0 0, .slice none 0 0]) ?_ 1 _ rfl; (with_reducible repeat (first | refine blk_drewN ?_ _ | refine blk_drew ?_ | refine blk_alloc ?_ _)); refine blk_put (cs := #[.slice none 0 0, .slice none 0 0]) ?_ 0 _ rfl; (with_reducible repeat (first | refine blk_drewN ?_ _ | refine blk_drew ?_ | refine blk_alloc ?_ _)); exact BK186.out) Tryz.underlying29 rfl (by kernel_rfl)) rfl ?_
 exact ⟨_, _, by first | rfl | (simp [errW_none, errW_some] <;> rfl) | (simp [*, errW_none, errW_some] <;> rfl), by first | exact Kd.R_nil _ _ _ _ _ | exact Kd.N_nil _ _ _ _ _ | exact Kd.V_nil _ _ _ _ _ | exact Kd.Q_nil _ _ _ _ _ | exact Kd.S_nil _ _ _ _ _, by first | exact Kd.R_nil _ _ _ _ _ | exact Kd.N_nil _ _ _ _ _ | exact Kd.V_nil _ _ _ _ _ | exact Kd.Q_nil _ _ _ _ _ | exact Kd.S_nil _ _ _ _ _, by repeat (first | (with_reducible first | exact HB.out | apply below_alloc | apply pw_below_drewN | apply below_drew1 | refine below_set ?_ GE185.out | refine below_set ?_ GE186.out) | exact HB.out)⟩
 
 }
theorem z32a {p_ : Prop} (h_ : p_ := by repeat (first | (with_reducible first | exact HB.out | apply below_alloc | apply pw_below_drewN | apply below_drew1 | refine below_set ?_ GE199.out | refine below_set ?_ GE200.out) | exact HB.out)) : p_ := h_
theorem z32b {p_ : Prop} (h_ : p_ := by (with_reducible repeat (first | refine blk_drewN ?_ _ | refine blk_drew ?_ | refine blk_alloc ?_ _)); exact BK199.out) : p_ := h_
def spec_Barrier.l0 : Nat → List Bool → Int → List ByteArray → List (S58) → Option (List ByteArray × (List (S58)))
 | 0, _, _, _, _ => none
 | k + 1, x3, x4, x200000, x200001 => if x4 < (x200001.length : Int) then (if x3.length < 140737488355328 then (spec_Barrier.l0 k (x3 ++ [true]) (wrap64 (x4 + 1)) x200000 x200001) else (none)) else ((spec_Cut.f k x200000 x200001 x3).bind fun bt207 => (some (bt207.1, bt207.2)))
def spec_Barrier.f (k : Nat) (l0_0 : List ByteArray) (l0_1 : List (S58)) : Option (List ByteArray × (List (S58))) := spec_Barrier.l0 k (([] : List Bool)) 0 l0_0 l0_1
set_option maxHeartbeats 8000000 in
set_option maxRecDepth 100000 in
theorem spec_Barrier.calls (k : Nat) (A0_0 : Option Addr) (c0_0 : Nat) (l0_0 : List ByteArray) (A0_1 : Option Addr) (c0_1 : Nat) (l0_1 : List (S58)) (r1 : List ByteArray) (r2 : List (S58)) (w : World) (hr0_0 : Kd.C Kd.string w A0_0 l0_0.length l0_0) (hc0_0 : l0_0.length ≤ c0_0) (hr0_1 : Kd.C k58 w A0_1 l0_1.length l0_1) (hc0_1 : l0_1.length ≤ c0_1) (h : spec_Barrier.f k l0_0 l0_1 = some (r1, r2)) :
  Calls Tryz.prog 32 #[.agg #[.slice A0_0 l0_0.length c0_0, .slice A0_1 l0_1.length c0_1]] w fun e w' => ∃ v0_ v1_ : Value, e = .returned (.agg #[v0_, v1_]) ∧ Kd.R Kd.string 9 w' w.heap.size (fun _ => True) v0_ r1 ∧ Kd.R k58 58 w' w.heap.size (fun _ => True) v1_ r2 ∧ Below w.heap.size w w' := by
 have hu29 := Tryz.underlying29
 have HR0_0 := A_ hr0_0
 have HC0_0 := A_ hc0_0
 clear hr0_0 hc0_0
 have HR0_1 := A_ hr0_1
 have HC0_1 := A_ hc0_1
 clear hr0_1 hc0_1
 have HB := A_ (Below.refl w.heap.size w)
 have H : (spec_Barrier.l0 k (([] : List Bool)) 0 l0_0 l0_1) = some (r1, r2) := h
 clear h
 obtain ⟨y201, hy201⟩ : ∃ y_ : List Bool, y_ = (([] : List Bool)) := ⟨_, rfl⟩
 replace H : (spec_Barrier.l0 k y201 0 l0_0 l0_1) = some (r1, r2) := by first | (rw [hy201]; with_reducible exact H) | (have H2_ := (Option.bind_some _ _).symm.trans H; rw [hy201]; with_reducible exact H2_) | (have H2_ := (Option.bind_some _ _).symm.trans H; with_reducible exact H2_) | with_reducible exact H | (rw [hy201]; exact H) | exact H
 have Ny201 := A_ hy201
 clear hy201
 have H' := A_ H
 clear H
 go_enter Tryz.func32, Tryz.ntmps32
 go_wp2_with (first | ((with_reducible refine gate_dst (N := 1) rfl ?_); refine box_event ?hg (N := 1) ?hd (cs := #[.slice A0_0 l0_0.length c0_0, .slice A0_1 l0_1.length c0_1]) (t := 29) ?hr ?_; (case hd => rfl); (case hg => rfl); (case hr => first | (go_simp; done) | (go_simp; rfl)); intro gb199 hg w2 hbox hb; have n0_ := A_ (below_step (by repeat (first | (with_reducible first | exact HB.out | apply below_alloc | apply pw_below_drewN | apply below_drew1) | exact HB.out)) hb); have n1_ := A_ (hbox); have n2_ := A_ ((by rw [hg]; exact (below_size (by repeat (first | (with_reducible first | exact HB.out | apply below_alloc | apply pw_below_drewN | apply below_drew1) | exact HB.out))) : w.heap.size ≤ gb199)); have n3_ := A_ ((by rw [hg]; exact (below_size (by repeat (first | (with_reducible first | exact HB.out | apply below_alloc | apply pw_below_drewN | apply below_drew1) | exact HB.out))) : w.heap.size ≤ gb199)); clear HB; have HB := n0_; have BK199 := n1_; have GW199 := n2_; have GE199 := n3_; clear n0_ n1_ n2_ n3_; clear hb hbox hg) | ((with_reducible refine gate_dst (N := 2) rfl ?_); refine box_event ?hg (N := 2) ?hd (cs := #[.slice none 0 0, .slice none 0 0]) (t := 29) ?hr ?_; (case hd => rfl); (case hg => rfl); (case hr => first | (go_simp; done) | (go_simp; rfl)); intro gb200 hg w3 hbox hb; have n0_ := A_ (blk_below (g := gb199) (o := .cells #[.slice A0_0 l0_0.length c0_0, .slice A0_1 l0_1.length c0_1] 29 (0, 0)) z32b hb); have n1_ := A_ (below_step (by repeat (first | (with_reducible first | exact HB.out | apply below_alloc | apply pw_below_drewN | apply below_drew1 | refine below_set ?_ GE199.out) | exact HB.out)) hb); have n2_ := A_ (hbox); have n3_ := A_ ((by rw [hg]; exact (below_size (by repeat (first | (with_reducible first | exact HB.out | apply below_alloc | apply pw_below_drewN | apply below_drew1 | refine below_set ?_ GE199.out) | exact HB.out))) : w.heap.size ≤ gb200)); have n4_ := A_ ((by rw [hg]; exact (below_size (by repeat (first | (with_reducible first | exact HB.out | apply below_alloc | apply pw_below_drewN | apply below_drew1 | refine below_set ?_ GE199.out) | exact HB.out))) : w.heap.size ≤ gb200)); have n5_ := A_ ((by rw [hg]; exact Nat.ne_of_lt (blk_lt (g := gb199) (o := .cells #[.slice A0_0 l0_0.length c0_0, .slice A0_1 l0_1.length c0_1] 29 (0, 0)) z32b) : gb199 ≠ gb200)); have n6_ := A_ ((by rw [hg]; exact Nat.ne_of_gt (blk_lt (g := gb199) (o := .cells #[.slice A0_0 l0_0.length c0_0, .slice A0_1 l0_1.length c0_1] 29 (0, 0)) z32b) : gb200 ≠ gb199)); clear BK199; clear HB; have BK199 := n0_; have HB := n1_; have BK200 := n2_; have GW200 := n3_; have GE200 := n4_; have NB199_200 := n5_; have NB200_199 := n6_; clear n0_ n1_ n2_ n3_ n4_ n5_ n6_; clear hb hbox hg) | ((with_reducible refine gate_dst (N := 5) rfl ?_); refine Kd.R_lit Kd.bool _ 4 ?hg (N := 5) ?hd (xs := ([] : List Bool)) (inner := []) (ok := fun _ => True) (okp := fun _ => True) ?hr ?hp (fun _ hk => hk) trivial (Below.refl _ _) (Nat.le_refl _) (by simp) ?_; (case hd => rfl); (case hg => rfl); (case hr => first | (go_simp; done) | (go_simp; rfl)); (case hp => exact (Reps.none _ _)); intro v202 w4 ho5 hb hg_ hnew_; clear hg_ hnew_; (first | rw [← Ny201.out] at ho5 | (simp only [Int.reduceToNat] at ho5; rw [← Ny201.out] at ho5)); have n0_ := A_ (Kd.R_lower ho5 (below_size z32a)); have n1_ := A_ (blk_below (g := gb199) (o := .cells #[.slice A0_0 l0_0.length c0_0, .slice A0_1 l0_1.length c0_1] 29 (0, 0)) z32b hb); have n2_ := A_ (blk_below (g := gb200) (o := .cells #[.slice none 0 0, .slice none 0 0] 29 (0, 0)) (by (with_reducible repeat (first | refine blk_drewN ?_ _ | refine blk_drew ?_ | refine blk_alloc ?_ _)); exact BK200.out) hb); have n3_ := A_ (below_step z32a hb); clear BK199; clear BK200; clear HB; have HO203 := n0_; have BK199 := n1_; have BK200 := n2_; have HB := n3_; clear n0_ n1_ n2_ n3_; clear hb ho5))
 go_loopg [3, 4] k (fun kq v3 v4 w' => ∃ (x3_1 : List Bool) (x4_1 : Int), v4 = .int .i64 x4_1 ∧ Aside0 (spec_Barrier.l0 kq x3_1 x4_1 l0_0 l0_1 = some (r1, r2)) ∧ Aside0 (kq ≤ k) ∧ Aside0 (Kd.R Kd.bool 4 w' w.heap.size (fun _ => True) v3 x3_1) ∧ Aside0 (w'.heap[gb199]? = some (.cells #[(.slice A0_0 l0_0.length c0_0), (.slice A0_1 l0_1.length c0_1)] 29 (0, 0))) ∧ Aside0 (w'.heap[gb200]? = some (.cells #[(.slice none 0 0), (.slice none 0 0)] 29 (0, 0))) ∧ Aside0 (Below w.heap.size w w'))
 case atStart => exact ⟨(y201), (0), (by first | rfl | (simp; done) | (simp [*]; done)), H', ⟨Nat.le_refl _⟩, ⟨by (with_reducible repeat (first | apply Kd.R_alloc | apply Kd.R_drewN | apply Kd.R_drew)); exact HO203.out⟩, ⟨by (with_reducible repeat (first | refine blk_drewN ?_ _ | refine blk_drew ?_ | refine blk_alloc ?_ _)); exact BK199.out⟩, ⟨by (with_reducible repeat (first | refine blk_drewN ?_ _ | refine blk_drew ?_ | refine blk_alloc ?_ _)); exact BK200.out⟩, ⟨by repeat (first | (with_reducible first | exact HB.out | apply below_alloc | apply pw_below_drewN | apply below_drew1 | refine below_set ?_ GE199.out | refine below_set ?_ GE200.out) | exact HB.out)⟩⟩
 case round =>
  clear H'
  try clear p2
  try clear c3
  obtain ⟨x3_1, x4_1, rfl, HA, HK1, HO_3, BK199, BK200, HB⟩ := hrel
  cases gk with
  | zero => exact absurd HA.out (by simp [spec_Barrier.l0])
  | succ k1 =>
   have H := HA.out
   clear HA
   simp only [spec_Barrier.l0] at H
   by_cases c6 : x4_1 < (l0_1.length : Int)
   {
   rw [if_pos c6] at H
   have c6b0 : decide (x4_1 < (l0_1.length : Int)) = true := decide_eq_true c6
   clear c6
   by_cases c7 : x3_1.length < 140737488355328
   {
   rw [if_pos c7] at H
   have LMc7 := A_ c7
   clear c7
   obtain ⟨y204, hy204⟩ : ∃ y_ : List Bool, y_ = (x3_1 ++ [true]) := ⟨_, rfl⟩
   replace H : (spec_Barrier.l0 k1 y204 (wrap64 (x4_1 + 1)) l0_0 l0_1) = some (r1, r2) := by first | (rw [hy204]; with_reducible exact H) | (have H2_ := (Option.bind_some _ _).symm.trans H; rw [hy204]; with_reducible exact H2_) | (have H2_ := (Option.bind_some _ _).symm.trans H; with_reducible exact H2_) | with_reducible exact H | (rw [hy204]; exact H) | exact H
   have Ny204 := A_ hy204
   clear hy204
   have H' := A_ H
   clear H
   have hnb8 := NB199_200.out
   have hnc8 := NB200_199.out
   have hcz9_0 : wr.cell? ⟨gb199, 0, none⟩ = some (.slice A0_0 l0_0.length c0_0) := (blk_cell BK199.out 0).trans rfl
   have hcz9_1 : wr.cell? ⟨gb199, 1, none⟩ = some (.slice A0_1 l0_1.length c0_1) := (blk_cell BK199.out 1).trans rfl
   have hfz9_0 := blk_frozen BK199.out 0
   have hfz9_1 := blk_frozen BK199.out 1
   go_wp2_with (first | ((with_reducible refine gate_builtin (b := .append) (xs := #[.tmp 13, .tmp 14]) rfl ?_); at_builtin; refine Kd.R_append Kd.bool (w0 := w) w.heap.size rfl (.tmp 13) (.tmp 14) 40 4 (.bool false) 1 rfl Tryz.underlying40 info4 rfl (by decide) (by omega) u3 x3_1 true [.bool true] (fun _ => True) (fun _ => False) rfl rfl ?aP (fun _ hk => hk.elim) ?aF ?aO ?aB ?aS ?aL ?_; (case aP => exact rfl); (case aB => exact z32a); (case aF => exact (fun _ _ => trivial)); (case aO => exact (by (with_reducible repeat (first | apply Kd.R_alloc | apply Kd.R_drewN | apply Kd.R_drew)); exact HO_3.out)); (case aS => exact (below_size z32a)); (case aL => have := LMc7.out; omega); intro v205 w10 ho hb hg hat; rw [← Ny204.out] at ho; have n0_ := A_ (blk_grown (g := gb199) (o := .cells #[.slice A0_0 l0_0.length c0_0, .slice A0_1 l0_1.length c0_1] 29 (0, 0)) z32b hg (Kd.R_ne HO_3.out BK199.out (by decide))); have n1_ := A_ (blk_grown (g := gb200) (o := .cells #[.slice none 0 0, .slice none 0 0] 29 (0, 0)) (by (with_reducible repeat (first | refine blk_drewN ?_ _ | refine blk_drew ?_ | refine blk_alloc ?_ _)); exact BK200.out) hg (Kd.R_ne HO_3.out BK200.out (by decide))); have n2_ := A_ (hb); have n3_ := A_ (ho); clear BK199; clear BK200; clear HB; clear HO_3; have BK199 := n0_; have BK200 := n1_; have HB := n2_; have HO206 := n3_; clear n0_ n1_ n2_ n3_; clear ho hb hg hat))
   go_roundg k1
   case measure => have := HK1.out; omega
   case rel => exact ⟨(y204), (wrap64 (x4_1 + 1)), (by first | rfl | (simp; done) | (simp [*]; done)), H', ⟨by have := HK1.out; omega⟩, ⟨by (with_reducible repeat (first | apply Kd.R_alloc | apply Kd.R_drewN | apply Kd.R_drew)); exact HO206.out⟩, ⟨by (with_reducible repeat (first | refine blk_drewN ?_ _ | refine blk_drew ?_ | refine blk_alloc ?_ _)); exact BK199.out⟩, ⟨by (with_reducible repeat (first | refine blk_drewN ?_ _ | refine blk_drew ?_ | refine blk_alloc ?_ _)); exact BK200.out⟩, ⟨by repeat (first | (with_reducible first | exact HB.out | apply below_alloc | apply pw_below_drewN | apply below_drew1 | refine below_set ?_ GE199.out | refine below_set ?_ GE200.out) | exact HB.out)⟩⟩
   }
   {
   rw [if_neg c7] at H
   exact absurd H (by simp)
   }
   }
   {
   rw [if_neg c6] at H
   have c6b0 : decide (x4_1 < (l0_1.length : Int)) = false := decide_eq_false c6
   clear c6
   replace H := Option.bind_eq_some_iff.mp H
   obtain ⟨⟨t207, t210⟩, A110, H⟩ := H
   (try dsimp only at H)
   have A11 := A_ A110
   clear A110
   simp only [Option.some.injEq, Prod.mk.injEq] at H
   obtain ⟨rfl, rfl⟩ := H
   have hnb12 := NB199_200.out
   have hnc12 := NB200_199.out
   have hcz13_0 : wr.cell? ⟨gb199, 0, none⟩ = some (.slice A0_0 l0_0.length c0_0) := (blk_cell BK199.out 0).trans rfl
   have hcz13_1 : wr.cell? ⟨gb199, 1, none⟩ = some (.slice A0_1 l0_1.length c0_1) := (blk_cell BK199.out 1).trans rfl
   have hfz13_0 := blk_frozen BK199.out 0
   have hfz13_1 := blk_frozen BK199.out 1
   obtain ⟨Ao14, co14, eo14⟩ := Kd.R_slice HO_3.out
   subst eo14
   go_wp2_with (first | ((with_reducible refine gate_callee (f := 14) rfl ?_); refine goesL_ (some 18) rfl rfl Tryz.func14 (by kernel_rfl) rfl #[.agg #[.slice A0_0 l0_0.length c0_0, .slice A0_1 l0_1.length c0_1], .slice Ao14 x3_1.length co14] rfl (by (try simp only [List.map_toArray, List.map_cons, List.map_nil]); first | done | rfl | (simp only [List.length_drop, List.length_take]; rfl)) ?_; (with_reducible refine (spec_Cut.calls k1 _ _ l0_0 _ _ l0_1 _ _ x3_1 t207 t210 _ ?side1 ?side2 ?side3 ?side4 ?side5 ?side6 A11.out).mono ?_); (case side1 => exact (by repeat (first | exact (Kd.C_below HR0_0.out HB.out) | (with_reducible refine Kd.C_alloc ?_ _) | (with_reducible refine Kd.C_drewN ?_ _) | (with_reducible refine Kd.C_drew ?_)))); (case side2 => exact HC0_0.out); (case side3 => exact (by repeat (first | exact (Kd.C_below HR0_1.out HB.out) | (with_reducible refine Kd.C_alloc ?_ _) | (with_reducible refine Kd.C_drewN ?_ _) | (with_reducible refine Kd.C_drew ?_)))); (case side4 => exact HC0_1.out); (case side5 => exact (by repeat (first | exact (Kd.R_reads' HO_3.out).2.2 | (with_reducible refine Kd.C_alloc ?_ _) | (with_reducible refine Kd.C_drewN ?_ _) | (with_reducible refine Kd.C_drew ?_)))); (case side6 => exact (Kd.R_reads' HO_3.out).2.1); rintro e w15 ⟨v208, v211, rfl, ho0, ho1, hb⟩; refine ⟨_, rfl, ?_⟩; have n0_ := A_ (Kd.R_below (by (with_reducible repeat (first | apply Kd.R_alloc | apply Kd.R_drewN | apply Kd.R_drew)); exact HO_3.out) hb); have n1_ := A_ (Kd.R_lower ho0 (below_size z32a)); have n2_ := A_ (Kd.R_lower ho1 (below_size z32a)); have n3_ := A_ (blk_below (g := gb199) (o := .cells #[.slice A0_0 l0_0.length c0_0, .slice A0_1 l0_1.length c0_1] 29 (0, 0)) z32b hb); have n4_ := A_ (blk_below (g := gb200) (o := .cells #[.slice none 0 0, .slice none 0 0] 29 (0, 0)) (by (with_reducible repeat (first | refine blk_drewN ?_ _ | refine blk_drew ?_ | refine blk_alloc ?_ _)); exact BK200.out) hb); have n5_ := A_ (below_step z32a hb); clear HO_3; clear BK199; clear BK200; clear HB; have HO_3 := n0_; have HO209 := n1_; have HO212 := n2_; have BK199 := n3_; have BK200 := n4_; have HB := n5_; clear n0_ n1_ n2_ n3_ n4_ n5_; (try clear ho1); obtain ⟨Ao16, co16, eo16⟩ := Kd.R_slice HO209.out; subst eo16; have hcz17_0 : w15.cell? ⟨gb200, 0, none⟩ = some (.slice none 0 0) := (blk_cell BK200.out 0).trans rfl; have hcz17_1 : w15.cell? ⟨gb200, 1, none⟩ = some (.slice none 0 0) := (blk_cell BK200.out 1).trans rfl; have hfz17_0 := blk_frozen BK200.out 0; have hfz17_1 := blk_frozen BK200.out 1; obtain ⟨Ao18, co18, eo18⟩ := Kd.R_slice HO212.out; subst eo18))
   refine bodyPost_ret (results_cell_row rfl _ _ gb200 29 #[.slice Ao16 t207.length co16, .slice Ao18 t210.length co18] (0, 0) _ rfl (by (with_reducible repeat (first | refine blk_drewN ?_ _ | refine blk_drew ?_ | refine blk_alloc ?_ _)); refine blk_put (cs := #[.slice Ao16 t207.length co16, .slice none 0 0]) ?_ 1 _ rfl; (with_reducible repeat (first | refine blk_drewN ?_ _ | refine blk_drew ?_ | refine blk_alloc ?_ _)); refine blk_put (cs := #[.slice none 0 0, .slice none 0 0]) ?_ 0 _ rfl; (with_reducible repeat (first | refine blk_drewN ?_ _ | refine blk_drew ?_ | refine blk_alloc ?_ _)); exact BK200.out) Tryz.underlying29 rfl (by kernel_rfl)) rfl ?_
   exact ⟨_, _, by first | rfl | (simp [errW_none, errW_some] <;> rfl) | (simp [*, errW_none, errW_some] <;> rfl), by (with_reducible repeat (first | apply Kd.R_alloc | apply Kd.R_drewN | apply Kd.R_drew)); exact Kd.R_mono (Kd.R_far (p := ⟨gb200, 1, none⟩) (Kd.R_far (p := ⟨gb200, 0, none⟩) (Kd.R_types HO209.out BK200.out (by decide)) (fun _ hk => hk.2) (.slice Ao16 t207.length co16)) (fun _ hk => hk.2) (.slice Ao18 t210.length co18)) (fun _ hk => trivial), by (with_reducible repeat (first | apply Kd.R_alloc | apply Kd.R_drewN | apply Kd.R_drew)); exact Kd.R_mono (Kd.R_far (p := ⟨gb200, 1, none⟩) (Kd.R_far (p := ⟨gb200, 0, none⟩) (Kd.R_types HO212.out BK200.out (by decide)) (fun _ hk => hk.2) (.slice Ao16 t207.length co16)) (fun _ hk => hk.2) (.slice Ao18 t210.length co18)) (fun _ hk => trivial), by repeat (first | (with_reducible first | exact HB.out | apply below_alloc | apply pw_below_drewN | apply below_drew1 | refine below_set ?_ GE199.out | refine below_set ?_ GE200.out) | exact HB.out)⟩
   
   }
theorem z13a {p_ : Prop} (h_ : p_ := by repeat (first | (with_reducible first | exact HB.out | apply below_alloc | apply pw_below_drewN | apply below_drew1 | refine below_set ?_ GE213.out | refine below_set ?_ GE214.out) | exact HB.out)) : p_ := h_
theorem z13b {p_ : Prop} (h_ : p_ := by (with_reducible repeat (first | refine blk_drewN ?_ _ | refine blk_drew ?_ | refine blk_alloc ?_ _)); exact BK213.out) : p_ := h_
theorem z13c {p_ : Prop} (h_ : p_ := by (try simp only [List.map_toArray, List.map_cons, List.map_nil]); first | done | rfl | (simp only [List.length_drop, List.length_take]; rfl)) : p_ := h_
theorem z13d {p_ : Prop} (h_ : p_ := by (with_reducible repeat (first | refine blk_drewN ?_ _ | refine blk_drew ?_ | refine blk_alloc ?_ _)); exact BK214.out) : p_ := h_
theorem z13e {p_ : Prop} (h_ : p_ := by repeat (first | exact (Kd.C_below HR0_0.out HB.out) | (with_reducible refine Kd.C_alloc ?_ _) | (with_reducible refine Kd.C_drewN ?_ _) | (with_reducible refine Kd.C_drew ?_))) : p_ := h_
theorem z13f {p_ : Prop} (h_ : p_ := by repeat (first | exact (Kd.C_below HR0_1.out HB.out) | (with_reducible refine Kd.C_alloc ?_ _) | (with_reducible refine Kd.C_drewN ?_ _) | (with_reducible refine Kd.C_drew ?_))) : p_ := h_
theorem z13g {p_ : Prop} (h_ : p_ := by (with_reducible repeat (first | refine blk_drewN ?_ _ | refine blk_drew ?_ | refine blk_alloc ?_ _)); refine blk_put (cs := #[.slice none 0 0, .slice none 0 0]) ?_ 1 _ rfl; (with_reducible repeat (first | refine blk_drewN ?_ _ | refine blk_drew ?_ | refine blk_alloc ?_ _)); refine blk_put (cs := #[.slice none 0 0, .slice none 0 0]) ?_ 0 _ rfl; (with_reducible repeat (first | refine blk_drewN ?_ _ | refine blk_drew ?_ | refine blk_alloc ?_ _)); exact BK214.out) : p_ := h_
def spec_l9Laid.j0 : Nat → ByteArray → Bool → List ByteArray → List (S58) → Option (List ByteArray × (List (S58)) × Bool)
 | 0, _, _, _, _ => none
 | k + 1, x1, x19, x214000, x214001 => if x19 = true then (some (([] : List ByteArray), ([] : List (S58)), false)) else ((spec_l9Root.f k x214000 x214001).bind fun bt216 => ((spec_Slot.f k (wrap64 (bt216.2.1 + 1)) x1).bind fun t219 => (if t219.toList = ([] : List UInt8) then (some (([] : List ByteArray), ([] : List (S58)), false)) else (if bt216.1 = 0 then ((spec_Barrier.f k x214000 x214001).bind fun bt220 => ((spec_Lay.f k bt220.1 bt220.2 1 t219).bind fun bt226 => (some (bt226.1, bt226.2.1, bt226.2.2)))) else ((spec_Barrier.f k x214000 x214001).bind fun bt233 => ((spec_Lay.f k bt233.1 bt233.2 0 t219).bind fun bt239 => (some (bt239.1, bt239.2.1, bt239.2.2))))))))
def spec_l9Laid.f (k : Nat) (l0_0 : List ByteArray) (l0_1 : List (S58)) (a1 : ByteArray) : Option (List ByteArray × (List (S58)) × Bool) := (spec_DeviceOk.f k l0_0 l0_1).bind fun t215 => (if t215 = true then (spec_l9Laid.j0 k a1 (decide ((l0_0.length : Int) < 2)) l0_0 l0_1) else (spec_l9Laid.j0 k a1 true l0_0 l0_1))
set_option maxHeartbeats 8000000 in
set_option maxRecDepth 100000 in
theorem spec_l9Laid.calls (k : Nat) (A0_0 : Option Addr) (c0_0 : Nat) (l0_0 : List ByteArray) (A0_1 : Option Addr) (c0_1 : Nat) (l0_1 : List (S58)) (a1 : ByteArray) (r1 : List ByteArray) (r2 : List (S58)) (r3 : Bool) (w : World) (hr0_0 : Kd.C Kd.string w A0_0 l0_0.length l0_0) (hc0_0 : l0_0.length ≤ c0_0) (hr0_1 : Kd.C k58 w A0_1 l0_1.length l0_1) (hc0_1 : l0_1.length ≤ c0_1) (h : spec_l9Laid.f k l0_0 l0_1 a1 = some (r1, r2, r3)) :
  Calls Tryz.prog 13 #[.agg #[.slice A0_0 l0_0.length c0_0, .slice A0_1 l0_1.length c0_1], .string a1] w fun e w' => ∃ v0_ v1_ : Value, e = .returned (.tuple #[.agg #[v0_, v1_], .bool r3]) ∧ Kd.R Kd.string 9 w' w.heap.size (fun _ => True) v0_ r1 ∧ Kd.R k58 58 w' w.heap.size (fun _ => True) v1_ r2 ∧ Below w.heap.size w w' := by
 have hu29 := Tryz.underlying29
 have HR0_0 := A_ hr0_0
 have HC0_0 := A_ hc0_0
 clear hr0_0 hc0_0
 have HR0_1 := A_ hr0_1
 have HC0_1 := A_ hc0_1
 clear hr0_1 hc0_1
 have HB := A_ (Below.refl w.heap.size w)
 have H : ((spec_DeviceOk.f k l0_0 l0_1).bind fun t215 => (if t215 = true then (spec_l9Laid.j0 k a1 (decide ((l0_0.length : Int) < 2)) l0_0 l0_1) else (spec_l9Laid.j0 k a1 true l0_0 l0_1))) = some (r1, r2, r3) := h
 clear h
 have HC3 := A_ H
 clear H
 go_enter Tryz.func13, Tryz.ntmps13
 go_upto_region 1 with (first | ((with_reducible refine gate_dst (N := 2) rfl ?_); (try (refine gate_guard (by rfl) ?_; dsimp only)); refine box_event ?hg (N := 2) ?hd (cs := #[.slice A0_0 l0_0.length c0_0, .slice A0_1 l0_1.length c0_1]) (t := 29) ?hr ?_; (case hd => rfl); (case hg => rfl); (case hr => first | (go_simp; done) | (go_simp; rfl)); intro gb213 hg w4 hbox hb; have n0_ := A_ (below_step (by repeat (first | (with_reducible first | exact HB.out | apply below_alloc | apply pw_below_drewN | apply below_drew1) | exact HB.out)) hb); have n1_ := A_ (hbox); have n2_ := A_ ((by rw [hg]; exact (below_size (by repeat (first | (with_reducible first | exact HB.out | apply below_alloc | apply pw_below_drewN | apply below_drew1) | exact HB.out))) : w.heap.size ≤ gb213)); have n3_ := A_ ((by rw [hg]; exact (below_size (by repeat (first | (with_reducible first | exact HB.out | apply below_alloc | apply pw_below_drewN | apply below_drew1) | exact HB.out))) : w.heap.size ≤ gb213)); clear HB; have HB := n0_; have BK213 := n1_; have GW213 := n2_; have GE213 := n3_; clear n0_ n1_ n2_ n3_; clear hb hbox hg) | ((with_reducible refine gate_dst (N := 4) rfl ?_); (try (refine gate_guard (by rfl) ?_; dsimp only)); refine box_event ?hg (N := 4) ?hd (cs := #[.slice none 0 0, .slice none 0 0]) (t := 29) ?hr ?_; (case hd => rfl); (case hg => rfl); (case hr => first | (go_simp; done) | (go_simp; rfl)); intro gb214 hg w5 hbox hb; have n0_ := A_ (blk_below (g := gb213) (o := .cells #[.slice A0_0 l0_0.length c0_0, .slice A0_1 l0_1.length c0_1] 29 (0, 0)) z13b hb); have n1_ := A_ (below_step (by repeat (first | (with_reducible first | exact HB.out | apply below_alloc | apply pw_below_drewN | apply below_drew1 | refine below_set ?_ GE213.out) | exact HB.out)) hb); have n2_ := A_ (hbox); have n3_ := A_ ((by rw [hg]; exact (below_size (by repeat (first | (with_reducible first | exact HB.out | apply below_alloc | apply pw_below_drewN | apply below_drew1 | refine below_set ?_ GE213.out) | exact HB.out))) : w.heap.size ≤ gb214)); have n4_ := A_ ((by rw [hg]; exact (below_size (by repeat (first | (with_reducible first | exact HB.out | apply below_alloc | apply pw_below_drewN | apply below_drew1 | refine below_set ?_ GE213.out) | exact HB.out))) : w.heap.size ≤ gb214)); have n5_ := A_ ((by rw [hg]; exact Nat.ne_of_lt (blk_lt (g := gb213) (o := .cells #[.slice A0_0 l0_0.length c0_0, .slice A0_1 l0_1.length c0_1] 29 (0, 0)) z13b) : gb213 ≠ gb214)); have n6_ := A_ ((by rw [hg]; exact Nat.ne_of_gt (blk_lt (g := gb213) (o := .cells #[.slice A0_0 l0_0.length c0_0, .slice A0_1 l0_1.length c0_1] 29 (0, 0)) z13b) : gb214 ≠ gb213)); clear BK213; clear HB; have BK213 := n0_; have HB := n1_; have BK214 := n2_; have GW214 := n3_; have GE214 := n4_; have NB213_214 := n5_; have NB214_213 := n6_; clear n0_ n1_ n2_ n3_ n4_ n5_ n6_; clear hb hbox hg))
 (try simp only [Act.put, List.setIfInBounds_toArray, List.set_cons_zero, List.set_cons_succ])
 go_cut [19] (fun v19 wc => ∃ (kq : Nat) (x19_2 : Bool), v19 = .bool x19_2 ∧ Aside0 (spec_l9Laid.j0 kq a1 x19_2 l0_0 l0_1 = some (r1, r2, r3)) ∧ Aside0 (kq ≤ k) ∧ Aside0 (wc.heap[gb213]? = some (.cells #[(.slice A0_0 l0_0.length c0_0), (.slice A0_1 l0_1.length c0_1)] 29 (0, 0))) ∧ Aside0 (wc.heap[gb214]? = some (.cells #[(.slice none 0 0), (.slice none 0 0)] 29 (0, 0))) ∧ Aside0 (Below w.heap.size w wc))
 case first =>
  have H := HC3.out
  clear HC3
  replace H := Option.bind_eq_some_iff.mp H
  obtain ⟨t215, A60, H⟩ := H
  (try dsimp only at H)
  have A6 := A_ A60
  clear A60
  by_cases c7 : t215 = true
  {
  subst c7
  have H1 : (spec_l9Laid.j0 k a1 (decide ((l0_0.length : Int) < 2)) l0_0 l0_1) = some (r1, r2, r3) := by rw [if_pos rfl] at H; exact H
  clear H
  have H := H1
  clear H1
  have H' := A_ H
  clear H
  have hnb8 := NB213_214.out
  have hnc8 := NB214_213.out
  have hcz9_0 : w5.cell? ⟨gb213, 0, none⟩ = some (.slice A0_0 l0_0.length c0_0) := (blk_cell BK213.out 0).trans rfl
  have hcz9_1 : w5.cell? ⟨gb213, 1, none⟩ = some (.slice A0_1 l0_1.length c0_1) := (blk_cell BK213.out 1).trans rfl
  have hfz9_0 := blk_frozen BK213.out 0
  have hfz9_1 := blk_frozen BK213.out 1
  go_wp2_with (first | ((with_reducible refine gate_callee (f := 28) rfl ?_); refine goesL_ (some 12) rfl rfl Tryz.func28 (by kernel_rfl) rfl #[.agg #[.slice A0_0 l0_0.length c0_0, .slice A0_1 l0_1.length c0_1]] rfl z13c ?_; (with_reducible refine (spec_DeviceOk.calls k _ _ l0_0 _ _ l0_1 true _ ?side1 ?side2 ?side3 ?side4 A6.out).mono ?_); (case side1 => exact z13e); (case side2 => exact HC0_0.out); (case side3 => exact z13f); (case side4 => exact HC0_1.out); rintro e w10 ⟨rfl, hb⟩; refine ⟨_, rfl, ?_⟩; replace BK213 := A_ (blk_below (g := gb213) (o := .cells #[.slice A0_0 l0_0.length c0_0, .slice A0_1 l0_1.length c0_1] 29 (0, 0)) z13b hb); replace BK214 := A_ (blk_below (g := gb214) (o := .cells #[.slice none 0 0, .slice none 0 0] 29 (0, 0)) z13d hb); replace HB := A_ (below_step z13a hb); have hcz11_0 : w10.cell? ⟨gb213, 0, none⟩ = some (.slice A0_0 l0_0.length c0_0) := (blk_cell BK213.out 0).trans rfl; have hcz11_1 : w10.cell? ⟨gb213, 1, none⟩ = some (.slice A0_1 l0_1.length c0_1) := (blk_cell BK213.out 1).trans rfl; have hfz11_0 := blk_frozen BK213.out 0; have hfz11_1 := blk_frozen BK213.out 1))
  go_meet
  case rel => exact ⟨_, (decide ((l0_0.length : Int) < 2)), (by first | rfl | (simp; done) | (simp [*]; done)), H', ⟨by first | omega | exact Nat.le_refl _⟩, ⟨by (with_reducible repeat (first | refine blk_drewN ?_ _ | refine blk_drew ?_ | refine blk_alloc ?_ _)); exact BK213.out⟩, ⟨by (with_reducible repeat (first | refine blk_drewN ?_ _ | refine blk_drew ?_ | refine blk_alloc ?_ _)); exact BK214.out⟩, ⟨by repeat (first | (with_reducible first | exact HB.out | apply below_alloc | apply pw_below_drewN | apply below_drew1 | refine below_set ?_ GE213.out | refine below_set ?_ GE214.out) | exact HB.out)⟩⟩
  }
  {
  replace c7 := Bool.eq_false_iff.mpr c7
  subst c7
  have H1 : (spec_l9Laid.j0 k a1 true l0_0 l0_1) = some (r1, r2, r3) := by rw [if_neg (show ¬ (false = true) by decide)] at H; exact H
  clear H
  have H := H1
  clear H1
  have H' := A_ H
  clear H
  have hnb12 := NB213_214.out
  have hnc12 := NB214_213.out
  have hcz13_0 : w5.cell? ⟨gb213, 0, none⟩ = some (.slice A0_0 l0_0.length c0_0) := (blk_cell BK213.out 0).trans rfl
  have hcz13_1 : w5.cell? ⟨gb213, 1, none⟩ = some (.slice A0_1 l0_1.length c0_1) := (blk_cell BK213.out 1).trans rfl
  have hfz13_0 := blk_frozen BK213.out 0
  have hfz13_1 := blk_frozen BK213.out 1
  go_wp2_with (first | ((with_reducible refine gate_callee (f := 28) rfl ?_); refine goesL_ (some 12) rfl rfl Tryz.func28 (by kernel_rfl) rfl #[.agg #[.slice A0_0 l0_0.length c0_0, .slice A0_1 l0_1.length c0_1]] rfl z13c ?_; (with_reducible refine (spec_DeviceOk.calls k _ _ l0_0 _ _ l0_1 false _ ?side1 ?side2 ?side3 ?side4 A6.out).mono ?_); (case side1 => exact z13e); (case side2 => exact HC0_0.out); (case side3 => exact z13f); (case side4 => exact HC0_1.out); rintro e w14 ⟨rfl, hb⟩; refine ⟨_, rfl, ?_⟩; replace BK213 := A_ (blk_below (g := gb213) (o := .cells #[.slice A0_0 l0_0.length c0_0, .slice A0_1 l0_1.length c0_1] 29 (0, 0)) z13b hb); replace BK214 := A_ (blk_below (g := gb214) (o := .cells #[.slice none 0 0, .slice none 0 0] 29 (0, 0)) z13d hb); replace HB := A_ (below_step z13a hb)))
  go_meet
  case rel => exact ⟨_, (true), (by first | rfl | (simp; done) | (simp [*]; done)), H', ⟨by first | omega | exact Nat.le_refl _⟩, ⟨by (with_reducible repeat (first | refine blk_drewN ?_ _ | refine blk_drew ?_ | refine blk_alloc ?_ _)); exact BK213.out⟩, ⟨by (with_reducible repeat (first | refine blk_drewN ?_ _ | refine blk_drew ?_ | refine blk_alloc ?_ _)); exact BK214.out⟩, ⟨by repeat (first | (with_reducible first | exact HB.out | apply below_alloc | apply pw_below_drewN | apply below_drew1 | refine below_set ?_ GE213.out | refine below_set ?_ GE214.out) | exact HB.out)⟩⟩
  }
 case rest =>
  clear HC3
  try clear c1
  try clear c2
  try clear p2
  try clear c7
  try clear c8
  try clear c12
  try clear c13
  try clear hcz11_0
  try clear hcz11_1
  try clear hcz13_0
  try clear hcz13_1
  try clear hcz9_0
  try clear hcz9_1
  try clear hfz11_0
  try clear hfz11_1
  try clear hfz13_0
  try clear hfz13_1
  try clear hfz9_0
  try clear hfz9_1
  obtain ⟨kq, x19_2, rfl, HA, HJ2, BK213, BK214, HB⟩ := hcut
  cases kq with
  | zero => exact absurd HA.out (by simp [spec_l9Laid.j0])
  | succ kj2 =>
   have H := HA.out
   clear HA
   simp only [spec_l9Laid.j0] at H
   by_cases c15 : x19_2 = true
   {
   subst c15
   have H1 : (some (([] : List ByteArray), ([] : List (S58)), false)) = some (r1, r2, r3) := by rw [if_pos rfl] at H; exact H
   clear H
   have H := H1
   clear H1
   simp only [Option.some.injEq, Prod.mk.injEq] at H
   obtain ⟨rfl, rfl, rfl⟩ := H
   have hnb16 := NB214_213.out
   have hnc16 := NB213_214.out
   have hcz17_0 : wc.cell? ⟨gb214, 0, none⟩ = some (.slice none 0 0) := (blk_cell BK214.out 0).trans rfl
   have hcz17_1 : wc.cell? ⟨gb214, 1, none⟩ = some (.slice none 0 0) := (blk_cell BK214.out 1).trans rfl
   have hfz17_0 := blk_frozen BK214.out 0
   have hfz17_1 := blk_frozen BK214.out 1
   go_wp2
   refine bodyPost_ret (results_ct rfl _ _ gb214 29 #[.slice none 0 0, .slice none 0 0] (0, 0) _ rfl z13g Tryz.underlying29 rfl (by kernel_rfl)) rfl ?_
   exact ⟨_, _, by first | rfl | (simp [errW_none, errW_some] <;> rfl) | (simp [*, errW_none, errW_some] <;> rfl), by first | exact Kd.R_nil _ _ _ _ _ | exact Kd.N_nil _ _ _ _ _ | exact Kd.V_nil _ _ _ _ _ | exact Kd.Q_nil _ _ _ _ _ | exact Kd.S_nil _ _ _ _ _, by first | exact Kd.R_nil _ _ _ _ _ | exact Kd.N_nil _ _ _ _ _ | exact Kd.V_nil _ _ _ _ _ | exact Kd.Q_nil _ _ _ _ _ | exact Kd.S_nil _ _ _ _ _, by repeat (first | (with_reducible first | exact HB.out | apply below_alloc | apply pw_below_drewN | apply below_drew1 | refine below_set ?_ GE213.out | refine below_set ?_ GE214.out) | exact HB.out)⟩
   }
   {
   replace c15 := Bool.eq_false_iff.mpr c15
   subst c15
   have H1 : ((spec_l9Root.f kj2 l0_0 l0_1).bind fun bt216 => ((spec_Slot.f kj2 (wrap64 (bt216.2.1 + 1)) a1).bind fun t219 => (if t219.toList = ([] : List UInt8) then (some (([] : List ByteArray), ([] : List (S58)), false)) else (if bt216.1 = 0 then ((spec_Barrier.f kj2 l0_0 l0_1).bind fun bt220 => ((spec_Lay.f kj2 bt220.1 bt220.2 1 t219).bind fun bt226 => (some (bt226.1, bt226.2.1, bt226.2.2)))) else ((spec_Barrier.f kj2 l0_0 l0_1).bind fun bt233 => ((spec_Lay.f kj2 bt233.1 bt233.2 0 t219).bind fun bt239 => (some (bt239.1, bt239.2.1, bt239.2.2)))))))) = some (r1, r2, r3) := by rw [if_neg (show ¬ (false = true) by decide)] at H; exact H
   clear H
   have H := H1
   clear H1
   replace H := Option.bind_eq_some_iff.mp H
   obtain ⟨⟨t216, t217, t218⟩, A180, H⟩ := H
   (try dsimp only at H)
   have A18 := A_ A180
   clear A180
   replace H := Option.bind_eq_some_iff.mp H
   obtain ⟨t219, A190, H⟩ := H
   (try dsimp only at H)
   have A19 := A_ A190
   clear A190
   by_cases c20 : t219.toList = ([] : List UInt8)
   {
   rw [if_pos c20] at H
   have c20b0 : (t219.toList == ([] : List UInt8)) = true := beq_iff_eq.mpr c20
   have c20b1 : (t219.toList != ([] : List UInt8)) = false := bne_eq_false_iff_eq.mpr c20
   clear c20
   simp only [Option.some.injEq, Prod.mk.injEq] at H
   obtain ⟨rfl, rfl, rfl⟩ := H
   have hnb21 := NB213_214.out
   have hnc21 := NB214_213.out
   have hcz22_0 : wc.cell? ⟨gb213, 0, none⟩ = some (.slice A0_0 l0_0.length c0_0) := (blk_cell BK213.out 0).trans rfl
   have hcz22_1 : wc.cell? ⟨gb213, 1, none⟩ = some (.slice A0_1 l0_1.length c0_1) := (blk_cell BK213.out 1).trans rfl
   have hfz22_0 := blk_frozen BK213.out 0
   have hfz22_1 := blk_frozen BK213.out 1
   go_wp2_with (first | ((with_reducible refine gate_callee (f := 29) rfl ?_); refine goesL_ (some 23) rfl rfl Tryz.func29 (by kernel_rfl) rfl #[.agg #[.slice A0_0 l0_0.length c0_0, .slice A0_1 l0_1.length c0_1]] rfl z13c ?_; (with_reducible refine (spec_l9Root.calls kj2 _ _ l0_0 _ _ l0_1 t216 t217 t218 _ ?side1 ?side2 ?side3 ?side4 A18.out).mono ?_); (case side1 => exact z13e); (case side2 => exact HC0_0.out); (case side3 => exact z13f); (case side4 => exact HC0_1.out); rintro e w23 ⟨rfl, hb⟩; refine ⟨_, rfl, ?_⟩; replace BK213 := A_ (blk_below (g := gb213) (o := .cells #[.slice A0_0 l0_0.length c0_0, .slice A0_1 l0_1.length c0_1] 29 (0, 0)) z13b hb); replace BK214 := A_ (blk_below (g := gb214) (o := .cells #[.slice none 0 0, .slice none 0 0] 29 (0, 0)) z13d hb); replace HB := A_ (below_step z13a hb)) | ((with_reducible refine gate_callee (f := 30) rfl ?_); refine goesL_ (some 30) rfl rfl Tryz.func30 (by kernel_rfl) rfl #[.int .i64 (wrap64 (t217 + 1)), .string a1] rfl z13c ?_; (with_reducible refine (spec_Slot.calls kj2 (wrap64 (t217 + 1)) a1 t219 _ A19.out).mono ?_); rintro e w24 ⟨rfl, hb⟩; refine ⟨_, rfl, ?_⟩; replace BK213 := A_ (blk_below (g := gb213) (o := .cells #[.slice A0_0 l0_0.length c0_0, .slice A0_1 l0_1.length c0_1] 29 (0, 0)) z13b hb); replace BK214 := A_ (blk_below (g := gb214) (o := .cells #[.slice none 0 0, .slice none 0 0] 29 (0, 0)) z13d hb); replace HB := A_ (below_step z13a hb); have hcz25_0 : w24.cell? ⟨gb214, 0, none⟩ = some (.slice none 0 0) := (blk_cell BK214.out 0).trans rfl; have hcz25_1 : w24.cell? ⟨gb214, 1, none⟩ = some (.slice none 0 0) := (blk_cell BK214.out 1).trans rfl; have hfz25_0 := blk_frozen BK214.out 0; have hfz25_1 := blk_frozen BK214.out 1))
   refine bodyPost_ret (results_ct rfl _ _ gb214 29 #[.slice none 0 0, .slice none 0 0] (0, 0) _ rfl z13g Tryz.underlying29 rfl (by kernel_rfl)) rfl ?_
   exact ⟨_, _, by first | rfl | (simp [errW_none, errW_some] <;> rfl) | (simp [*, errW_none, errW_some] <;> rfl), by first | exact Kd.R_nil _ _ _ _ _ | exact Kd.N_nil _ _ _ _ _ | exact Kd.V_nil _ _ _ _ _ | exact Kd.Q_nil _ _ _ _ _ | exact Kd.S_nil _ _ _ _ _, by first | exact Kd.R_nil _ _ _ _ _ | exact Kd.N_nil _ _ _ _ _ | exact Kd.V_nil _ _ _ _ _ | exact Kd.Q_nil _ _ _ _ _ | exact Kd.S_nil _ _ _ _ _, by repeat (first | (with_reducible first | exact HB.out | apply below_alloc | apply pw_below_drewN | apply below_drew1 | refine below_set ?_ GE213.out | refine below_set ?_ GE214.out) | exact HB.out)⟩
   }
   {
   rw [if_neg c20] at H
   have c20b0 : (t219.toList == ([] : List UInt8)) = false := beq_eq_false_iff_ne.mpr c20
   have c20b1 : (t219.toList != ([] : List UInt8)) = true := bne_iff_ne.mpr c20
   by_cases c26 : t216 = 0
   {
   rw [if_pos c26] at H
   have c26b0 : (t216 == 0) = true := beq_iff_eq.mpr c26
   have c26b1 : (t216 != 0) = false := bne_eq_false_iff_eq.mpr c26
   clear c26
   replace H := Option.bind_eq_some_iff.mp H
   obtain ⟨⟨t220, t223⟩, A270, H⟩ := H
   (try dsimp only at H)
   have A27 := A_ A270
   clear A270
   replace H := Option.bind_eq_some_iff.mp H
   obtain ⟨⟨t226, t229, t232⟩, A280, H⟩ := H
   (try dsimp only at H)
   have A28 := A_ A280
   clear A280
   simp only [Option.some.injEq, Prod.mk.injEq] at H
   obtain ⟨rfl, rfl, rfl⟩ := H
   have hnb29 := NB213_214.out
   have hnc29 := NB214_213.out
   have hcz30_0 : wc.cell? ⟨gb213, 0, none⟩ = some (.slice A0_0 l0_0.length c0_0) := (blk_cell BK213.out 0).trans rfl
   have hcz30_1 : wc.cell? ⟨gb213, 1, none⟩ = some (.slice A0_1 l0_1.length c0_1) := (blk_cell BK213.out 1).trans rfl
   have hfz30_0 := blk_frozen BK213.out 0
   have hfz30_1 := blk_frozen BK213.out 1
   go_wp2_with (first | ((with_reducible refine gate_callee (f := 29) rfl ?_); refine goesL_ (some 23) rfl rfl Tryz.func29 (by kernel_rfl) rfl #[.agg #[.slice A0_0 l0_0.length c0_0, .slice A0_1 l0_1.length c0_1]] rfl z13c ?_; (with_reducible refine (spec_l9Root.calls kj2 _ _ l0_0 _ _ l0_1 t216 t217 t218 _ ?side1 ?side2 ?side3 ?side4 A18.out).mono ?_); (case side1 => exact z13e); (case side2 => exact HC0_0.out); (case side3 => exact z13f); (case side4 => exact HC0_1.out); rintro e w31 ⟨rfl, hb⟩; refine ⟨_, rfl, ?_⟩; replace BK213 := A_ (blk_below (g := gb213) (o := .cells #[.slice A0_0 l0_0.length c0_0, .slice A0_1 l0_1.length c0_1] 29 (0, 0)) z13b hb); replace BK214 := A_ (blk_below (g := gb214) (o := .cells #[.slice none 0 0, .slice none 0 0] 29 (0, 0)) z13d hb); replace HB := A_ (below_step z13a hb)) | ((with_reducible refine gate_callee (f := 30) rfl ?_); refine goesL_ (some 30) rfl rfl Tryz.func30 (by kernel_rfl) rfl #[.int .i64 (wrap64 (t217 + 1)), .string a1] rfl z13c ?_; (with_reducible refine (spec_Slot.calls kj2 (wrap64 (t217 + 1)) a1 t219 _ A19.out).mono ?_); rintro e w32 ⟨rfl, hb⟩; refine ⟨_, rfl, ?_⟩; replace BK213 := A_ (blk_below (g := gb213) (o := .cells #[.slice A0_0 l0_0.length c0_0, .slice A0_1 l0_1.length c0_1] 29 (0, 0)) z13b hb); replace BK214 := A_ (blk_below (g := gb214) (o := .cells #[.slice none 0 0, .slice none 0 0] 29 (0, 0)) z13d hb); replace HB := A_ (below_step z13a hb); have hcz33_0 : w32.cell? ⟨gb213, 0, none⟩ = some (.slice A0_0 l0_0.length c0_0) := (blk_cell BK213.out 0).trans rfl; have hcz33_1 : w32.cell? ⟨gb213, 1, none⟩ = some (.slice A0_1 l0_1.length c0_1) := (blk_cell BK213.out 1).trans rfl; have hfz33_0 := blk_frozen BK213.out 0; have hfz33_1 := blk_frozen BK213.out 1) | ((with_reducible refine gate_callee (f := 32) rfl ?_); refine goesL_ (some 37) rfl rfl Tryz.func32 (by kernel_rfl) rfl #[.agg #[.slice A0_0 l0_0.length c0_0, .slice A0_1 l0_1.length c0_1]] rfl z13c ?_; (with_reducible refine (spec_Barrier.calls kj2 _ _ l0_0 _ _ l0_1 t220 t223 _ ?side1 ?side2 ?side3 ?side4 A27.out).mono ?_); (case side1 => exact z13e); (case side2 => exact HC0_0.out); (case side3 => exact z13f); (case side4 => exact HC0_1.out); rintro e w34 ⟨v221, v224, rfl, ho0, ho1, hb⟩; refine ⟨_, rfl, ?_⟩; have n0_ := A_ (Kd.R_lower ho0 (below_size z13a)); have n1_ := A_ (Kd.R_lower ho1 (below_size z13a)); have n2_ := A_ (blk_below (g := gb213) (o := .cells #[.slice A0_0 l0_0.length c0_0, .slice A0_1 l0_1.length c0_1] 29 (0, 0)) z13b hb); have n3_ := A_ (blk_below (g := gb214) (o := .cells #[.slice none 0 0, .slice none 0 0] 29 (0, 0)) z13d hb); have n4_ := A_ (below_step z13a hb); clear BK213; clear BK214; clear HB; have HO222 := n0_; have HO225 := n1_; have BK213 := n2_; have BK214 := n3_; have HB := n4_; clear n0_ n1_ n2_ n3_ n4_; (try clear ho1); obtain ⟨Ao35, co35, eo35⟩ := Kd.R_slice HO222.out; subst eo35; obtain ⟨Ao36, co36, eo36⟩ := Kd.R_slice HO225.out; subst eo36) | ((with_reducible refine gate_callee (f := 31) rfl ?_); refine goesL_ (some 40) rfl rfl Tryz.func31 (by kernel_rfl) rfl #[.agg #[.slice Ao35 t220.length co35, .slice Ao36 t223.length co36], .int .i64 1, .string t219] rfl z13c ?_; (with_reducible refine (spec_Lay.calls kj2 _ _ t220 _ _ t223 1 t219 t226 t229 t232 _ ?side1 ?side2 ?side3 ?side4 A28.out).mono ?_); (case side1 => exact (by repeat (first | exact (Kd.R_reads' HO222.out).2.2 | (with_reducible refine Kd.C_alloc ?_ _) | (with_reducible refine Kd.C_drewN ?_ _) | (with_reducible refine Kd.C_drew ?_)))); (case side2 => exact (Kd.R_reads' HO222.out).2.1); (case side3 => exact (by repeat (first | exact (Kd.R_reads' HO225.out).2.2 | (with_reducible refine Kd.C_alloc ?_ _) | (with_reducible refine Kd.C_drewN ?_ _) | (with_reducible refine Kd.C_drew ?_)))); (case side4 => exact (Kd.R_reads' HO225.out).2.1); rintro e w37 ⟨v227, v230, rfl, ho0, ho1, hb⟩; refine ⟨_, rfl, ?_⟩; have n0_ := A_ (Kd.R_elder' (by (with_reducible repeat (first | apply Kd.R_alloc | apply Kd.R_drewN | apply Kd.R_drew)); exact HO222.out) (Kd.R_base ho0) hb); have n1_ := A_ (Kd.R_elder' (by (with_reducible repeat (first | apply Kd.R_alloc | apply Kd.R_drewN | apply Kd.R_drew)); exact HO225.out) (Kd.R_base ho1) hb); have n2_ := A_ (Kd.R_lower (Kd.R_new' ho0 (Kd.R_lt (by (with_reducible repeat (first | apply Kd.R_alloc | apply Kd.R_drewN | apply Kd.R_drew)); exact HO222.out))) (below_size z13a)); have n3_ := A_ (Kd.R_lower (Kd.R_new' ho1 (Kd.R_lt (by (with_reducible repeat (first | apply Kd.R_alloc | apply Kd.R_drewN | apply Kd.R_drew)); exact HO225.out))) (below_size z13a)); have n4_ := A_ (blk_below (g := gb213) (o := .cells #[.slice A0_0 l0_0.length c0_0, .slice A0_1 l0_1.length c0_1] 29 (0, 0)) z13b hb); have n5_ := A_ (blk_below (g := gb214) (o := .cells #[.slice none 0 0, .slice none 0 0] 29 (0, 0)) z13d hb); have n6_ := A_ (below_step z13a hb); clear HO222; clear HO225; clear BK213; clear BK214; clear HB; have HO222 := n0_; have HO225 := n1_; have HO228 := n2_; have HO231 := n3_; have BK213 := n4_; have BK214 := n5_; have HB := n6_; clear n0_ n1_ n2_ n3_ n4_ n5_ n6_; (try clear ho1); obtain ⟨Ao38, co38, eo38⟩ := Kd.R_slice HO228.out; subst eo38; have hcz39_0 : w37.cell? ⟨gb214, 0, none⟩ = some (.slice none 0 0) := (blk_cell BK214.out 0).trans rfl; have hcz39_1 : w37.cell? ⟨gb214, 1, none⟩ = some (.slice none 0 0) := (blk_cell BK214.out 1).trans rfl; have hfz39_0 := blk_frozen BK214.out 0; have hfz39_1 := blk_frozen BK214.out 1; obtain ⟨Ao40, co40, eo40⟩ := Kd.R_slice HO231.out; subst eo40))
   refine bodyPost_ret (results_ct rfl _ _ gb214 29 #[.slice Ao38 t226.length co38, .slice Ao40 t229.length co40] (0, 0) _ rfl (by (with_reducible repeat (first | refine blk_drewN ?_ _ | refine blk_drew ?_ | refine blk_alloc ?_ _)); refine blk_put (cs := #[.slice Ao38 t226.length co38, .slice none 0 0]) ?_ 1 _ rfl; (with_reducible repeat (first | refine blk_drewN ?_ _ | refine blk_drew ?_ | refine blk_alloc ?_ _)); refine blk_put (cs := #[.slice none 0 0, .slice none 0 0]) ?_ 0 _ rfl; (with_reducible repeat (first | refine blk_drewN ?_ _ | refine blk_drew ?_ | refine blk_alloc ?_ _)); exact BK214.out) Tryz.underlying29 rfl (by kernel_rfl)) rfl ?_
   exact ⟨_, _, by first | rfl | (simp [errW_none, errW_some] <;> rfl) | (simp [*, errW_none, errW_some] <;> rfl), by (with_reducible repeat (first | apply Kd.R_alloc | apply Kd.R_drewN | apply Kd.R_drew)); exact Kd.R_mono (Kd.R_far (p := ⟨gb214, 1, none⟩) (Kd.R_far (p := ⟨gb214, 0, none⟩) (Kd.R_types HO228.out BK214.out (by decide)) (fun _ hk => hk.2) (.slice Ao38 t226.length co38)) (fun _ hk => hk.2) (.slice Ao40 t229.length co40)) (fun _ hk => trivial), by (with_reducible repeat (first | apply Kd.R_alloc | apply Kd.R_drewN | apply Kd.R_drew)); exact Kd.R_mono (Kd.R_far (p := ⟨gb214, 1, none⟩) (Kd.R_far (p := ⟨gb214, 0, none⟩) (Kd.R_types HO231.out BK214.out (by decide)) (fun _ hk => hk.2) (.slice Ao38 t226.length co38)) (fun _ hk => hk.2) (.slice Ao40 t229.length co40)) (fun _ hk => trivial), by repeat (first | (with_reducible first | exact HB.out | apply below_alloc | apply pw_below_drewN | apply below_drew1 | refine below_set ?_ GE213.out | refine below_set ?_ GE214.out) | exact HB.out)⟩
   }
   {
   rw [if_neg c26] at H
   have c26b0 : (t216 == 0) = false := beq_eq_false_iff_ne.mpr c26
   have c26b1 : (t216 != 0) = true := bne_iff_ne.mpr c26
   replace H := Option.bind_eq_some_iff.mp H
   obtain ⟨⟨t233, t236⟩, A410, H⟩ := H
   (try dsimp only at H)
   have A41 := A_ A410
   clear A410
   replace H := Option.bind_eq_some_iff.mp H
   obtain ⟨⟨t239, t242, t245⟩, A420, H⟩ := H
   (try dsimp only at H)
   have A42 := A_ A420
   clear A420
   simp only [Option.some.injEq, Prod.mk.injEq] at H
   obtain ⟨rfl, rfl, rfl⟩ := H
   have hnb43 := NB213_214.out
   have hnc43 := NB214_213.out
   have hcz44_0 : wc.cell? ⟨gb213, 0, none⟩ = some (.slice A0_0 l0_0.length c0_0) := (blk_cell BK213.out 0).trans rfl
   have hcz44_1 : wc.cell? ⟨gb213, 1, none⟩ = some (.slice A0_1 l0_1.length c0_1) := (blk_cell BK213.out 1).trans rfl
   have hfz44_0 := blk_frozen BK213.out 0
   have hfz44_1 := blk_frozen BK213.out 1
   go_wp2_with (first | ((with_reducible refine gate_callee (f := 29) rfl ?_); refine goesL_ (some 23) rfl rfl Tryz.func29 (by kernel_rfl) rfl #[.agg #[.slice A0_0 l0_0.length c0_0, .slice A0_1 l0_1.length c0_1]] rfl z13c ?_; (with_reducible refine (spec_l9Root.calls kj2 _ _ l0_0 _ _ l0_1 t216 t217 t218 _ ?side1 ?side2 ?side3 ?side4 A18.out).mono ?_); (case side1 => exact z13e); (case side2 => exact HC0_0.out); (case side3 => exact z13f); (case side4 => exact HC0_1.out); rintro e w45 ⟨rfl, hb⟩; refine ⟨_, rfl, ?_⟩; replace BK213 := A_ (blk_below (g := gb213) (o := .cells #[.slice A0_0 l0_0.length c0_0, .slice A0_1 l0_1.length c0_1] 29 (0, 0)) z13b hb); replace BK214 := A_ (blk_below (g := gb214) (o := .cells #[.slice none 0 0, .slice none 0 0] 29 (0, 0)) z13d hb); replace HB := A_ (below_step z13a hb)) | ((with_reducible refine gate_callee (f := 30) rfl ?_); refine goesL_ (some 30) rfl rfl Tryz.func30 (by kernel_rfl) rfl #[.int .i64 (wrap64 (t217 + 1)), .string a1] rfl z13c ?_; (with_reducible refine (spec_Slot.calls kj2 (wrap64 (t217 + 1)) a1 t219 _ A19.out).mono ?_); rintro e w46 ⟨rfl, hb⟩; refine ⟨_, rfl, ?_⟩; replace BK213 := A_ (blk_below (g := gb213) (o := .cells #[.slice A0_0 l0_0.length c0_0, .slice A0_1 l0_1.length c0_1] 29 (0, 0)) z13b hb); replace BK214 := A_ (blk_below (g := gb214) (o := .cells #[.slice none 0 0, .slice none 0 0] 29 (0, 0)) z13d hb); replace HB := A_ (below_step z13a hb); have hcz47_0 : w46.cell? ⟨gb213, 0, none⟩ = some (.slice A0_0 l0_0.length c0_0) := (blk_cell BK213.out 0).trans rfl; have hcz47_1 : w46.cell? ⟨gb213, 1, none⟩ = some (.slice A0_1 l0_1.length c0_1) := (blk_cell BK213.out 1).trans rfl; have hfz47_0 := blk_frozen BK213.out 0; have hfz47_1 := blk_frozen BK213.out 1) | ((with_reducible refine gate_callee (f := 32) rfl ?_); refine goesL_ (some 37) rfl rfl Tryz.func32 (by kernel_rfl) rfl #[.agg #[.slice A0_0 l0_0.length c0_0, .slice A0_1 l0_1.length c0_1]] rfl z13c ?_; (with_reducible refine (spec_Barrier.calls kj2 _ _ l0_0 _ _ l0_1 t233 t236 _ ?side1 ?side2 ?side3 ?side4 A41.out).mono ?_); (case side1 => exact z13e); (case side2 => exact HC0_0.out); (case side3 => exact z13f); (case side4 => exact HC0_1.out); rintro e w48 ⟨v234, v237, rfl, ho0, ho1, hb⟩; refine ⟨_, rfl, ?_⟩; have n0_ := A_ (Kd.R_lower ho0 (below_size z13a)); have n1_ := A_ (Kd.R_lower ho1 (below_size z13a)); have n2_ := A_ (blk_below (g := gb213) (o := .cells #[.slice A0_0 l0_0.length c0_0, .slice A0_1 l0_1.length c0_1] 29 (0, 0)) z13b hb); have n3_ := A_ (blk_below (g := gb214) (o := .cells #[.slice none 0 0, .slice none 0 0] 29 (0, 0)) z13d hb); have n4_ := A_ (below_step z13a hb); clear BK213; clear BK214; clear HB; have HO235 := n0_; have HO238 := n1_; have BK213 := n2_; have BK214 := n3_; have HB := n4_; clear n0_ n1_ n2_ n3_ n4_; (try clear ho1); obtain ⟨Ao49, co49, eo49⟩ := Kd.R_slice HO235.out; subst eo49; obtain ⟨Ao50, co50, eo50⟩ := Kd.R_slice HO238.out; subst eo50) | ((with_reducible refine gate_callee (f := 31) rfl ?_); refine goesL_ (some 40) rfl rfl Tryz.func31 (by kernel_rfl) rfl #[.agg #[.slice Ao49 t233.length co49, .slice Ao50 t236.length co50], .int .i64 0, .string t219] rfl z13c ?_; (with_reducible refine (spec_Lay.calls kj2 _ _ t233 _ _ t236 0 t219 t239 t242 t245 _ ?side1 ?side2 ?side3 ?side4 A42.out).mono ?_); (case side1 => exact (by repeat (first | exact (Kd.R_reads' HO235.out).2.2 | (with_reducible refine Kd.C_alloc ?_ _) | (with_reducible refine Kd.C_drewN ?_ _) | (with_reducible refine Kd.C_drew ?_)))); (case side2 => exact (Kd.R_reads' HO235.out).2.1); (case side3 => exact (by repeat (first | exact (Kd.R_reads' HO238.out).2.2 | (with_reducible refine Kd.C_alloc ?_ _) | (with_reducible refine Kd.C_drewN ?_ _) | (with_reducible refine Kd.C_drew ?_)))); (case side4 => exact (Kd.R_reads' HO238.out).2.1); rintro e w51 ⟨v240, v243, rfl, ho0, ho1, hb⟩; refine ⟨_, rfl, ?_⟩; have n0_ := A_ (Kd.R_elder' (by (with_reducible repeat (first | apply Kd.R_alloc | apply Kd.R_drewN | apply Kd.R_drew)); exact HO235.out) (Kd.R_base ho0) hb); have n1_ := A_ (Kd.R_elder' (by (with_reducible repeat (first | apply Kd.R_alloc | apply Kd.R_drewN | apply Kd.R_drew)); exact HO238.out) (Kd.R_base ho1) hb); have n2_ := A_ (Kd.R_lower (Kd.R_new' ho0 (Kd.R_lt (by (with_reducible repeat (first | apply Kd.R_alloc | apply Kd.R_drewN | apply Kd.R_drew)); exact HO235.out))) (below_size z13a)); have n3_ := A_ (Kd.R_lower (Kd.R_new' ho1 (Kd.R_lt (by (with_reducible repeat (first | apply Kd.R_alloc | apply Kd.R_drewN | apply Kd.R_drew)); exact HO238.out))) (below_size z13a)); have n4_ := A_ (blk_below (g := gb213) (o := .cells #[.slice A0_0 l0_0.length c0_0, .slice A0_1 l0_1.length c0_1] 29 (0, 0)) z13b hb); have n5_ := A_ (blk_below (g := gb214) (o := .cells #[.slice none 0 0, .slice none 0 0] 29 (0, 0)) z13d hb); have n6_ := A_ (below_step z13a hb); clear HO235; clear HO238; clear BK213; clear BK214; clear HB; have HO235 := n0_; have HO238 := n1_; have HO241 := n2_; have HO244 := n3_; have BK213 := n4_; have BK214 := n5_; have HB := n6_; clear n0_ n1_ n2_ n3_ n4_ n5_ n6_; (try clear ho1); obtain ⟨Ao52, co52, eo52⟩ := Kd.R_slice HO241.out; subst eo52; have hcz53_0 : w51.cell? ⟨gb214, 0, none⟩ = some (.slice none 0 0) := (blk_cell BK214.out 0).trans rfl; have hcz53_1 : w51.cell? ⟨gb214, 1, none⟩ = some (.slice none 0 0) := (blk_cell BK214.out 1).trans rfl; have hfz53_0 := blk_frozen BK214.out 0; have hfz53_1 := blk_frozen BK214.out 1; obtain ⟨Ao54, co54, eo54⟩ := Kd.R_slice HO244.out; subst eo54))
   refine bodyPost_ret (results_ct rfl _ _ gb214 29 #[.slice Ao52 t239.length co52, .slice Ao54 t242.length co54] (0, 0) _ rfl (by (with_reducible repeat (first | refine blk_drewN ?_ _ | refine blk_drew ?_ | refine blk_alloc ?_ _)); refine blk_put (cs := #[.slice Ao52 t239.length co52, .slice none 0 0]) ?_ 1 _ rfl; (with_reducible repeat (first | refine blk_drewN ?_ _ | refine blk_drew ?_ | refine blk_alloc ?_ _)); refine blk_put (cs := #[.slice none 0 0, .slice none 0 0]) ?_ 0 _ rfl; (with_reducible repeat (first | refine blk_drewN ?_ _ | refine blk_drew ?_ | refine blk_alloc ?_ _)); exact BK214.out) Tryz.underlying29 rfl (by kernel_rfl)) rfl ?_
   exact ⟨_, _, by first | rfl | (simp [errW_none, errW_some] <;> rfl) | (simp [*, errW_none, errW_some] <;> rfl), by (with_reducible repeat (first | apply Kd.R_alloc | apply Kd.R_drewN | apply Kd.R_drew)); exact Kd.R_mono (Kd.R_far (p := ⟨gb214, 1, none⟩) (Kd.R_far (p := ⟨gb214, 0, none⟩) (Kd.R_types HO241.out BK214.out (by decide)) (fun _ hk => hk.2) (.slice Ao52 t239.length co52)) (fun _ hk => hk.2) (.slice Ao54 t242.length co54)) (fun _ hk => trivial), by (with_reducible repeat (first | apply Kd.R_alloc | apply Kd.R_drewN | apply Kd.R_drew)); exact Kd.R_mono (Kd.R_far (p := ⟨gb214, 1, none⟩) (Kd.R_far (p := ⟨gb214, 0, none⟩) (Kd.R_types HO244.out BK214.out (by decide)) (fun _ hk => hk.2) (.slice Ao52 t239.length co52)) (fun _ hk => hk.2) (.slice Ao54 t242.length co54)) (fun _ hk => trivial), by repeat (first | (with_reducible first | exact HB.out | apply below_alloc | apply pw_below_drewN | apply below_drew1 | refine below_set ?_ GE213.out | refine below_set ?_ GE214.out) | exact HB.out)⟩
   
   }
   }
   }
end Go.Proofs.YtepcmdmclmfgkaaGreatDoor.PFnExactHalfway

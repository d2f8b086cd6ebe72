-- by a program of this session (wip/print/run.py) for this claim
import Derived.Test.YtaiggfjkikfcbaaLibPu
import Derived.Test.YtaiggfjkikfcbaaPFnExactEntriesx0
import Derived.Test.YtaiggfjkikfcbaaPFnExactEntriesx5
import Derived.Test.YtaiggfjkikfcbaaPFnExactEntriesx8
namespace Go.Proofs.Ytaiggfjkikfcbaa.PFnExactEntries
open Go.Proofs.Ytaiggfjkikfcbaa.Lib Go.RowKit Go.Proofs.YtaiggfjkikfcbaaW.PrintWords Go.Proofs.YtaiggfjkikfcbaaW.PrintLast Go.Proofs.YtaiggfjkikfcbaaW.PrintMore
attribute [local go_sem] max2_int min2_int max_two min_two max_three min_three max_four min_four   -- for this text's walks alone
set_option linter.unusedVariables false
set_option linter.unusedSimpArgs false

theorem z83a {p_ : Prop} (h_ : p_ := by repeat (first | (with_reducible first | exact HB.out | apply below_alloc | apply pw_below_drewN | apply below_drew1 | refine below_set ?_ GE262.out) | exact HB.out)) : p_ := h_
theorem z83c {p_ : Prop} (h_ : p_ := by (with_reducible repeat (first | refine blk_drewN ?_ _ | refine blk_drew ?_ | refine blk_alloc ?_ _)); exact BK262.out) : p_ := h_
theorem z83d {p_ : Prop} (h_ : p_ := by (with_reducible repeat (first | apply Kd.R_alloc | apply Kd.R_drewN | apply Kd.R_drew)); exact HO269.out) : p_ := h_
theorem z83e {p_ : Prop} (h_ : p_ := by (with_reducible repeat (first | apply Kd.R_alloc | apply Kd.R_drewN | apply Kd.R_drew)); exact HO273.out) : p_ := h_
theorem z83h {p_ : Prop} (h_ : p_ := by repeat (first | exact (Kd.R_reads' HO269.out).2.2 | (with_reducible refine Kd.C_alloc ?_ _) | (with_reducible refine Kd.C_drewN ?_ _) | (with_reducible refine Kd.C_drew ?_))) : p_ := h_
mutual
def spec_l5All.j0 : Nat → List (S31) → Bool → ByteArray → ByteArray → List Int → List ByteArray → Option ((List (S31)) × Bool)
 | 0, _, _, _, _, _, _ => none
 | k + 1, x4, x18, x263000, x263001, x263002, x263003 => if x18 = true then (some (x4, false)) else (spec_l5All.l0 k x4 0 x263000 x263001 x263002 x263003)
def spec_l5All.l0 : Nat → List (S31) → Int → ByteArray → ByteArray → List Int → List ByteArray → Option ((List (S31)) × Bool)
 | 0, _, _, _, _, _, _ => none
 | k + 1, x4, x5, x263000, x263001, x263002, x263003 => if x5 < (x263003.length : Int) then (if 0 ≤ x5 then (if ((rdOf ByteArray.empty x263003 x5).size : Int) ≤ 140737488351232 then ((spec_Unpacked.f k (bytesOf (rdOf ByteArray.empty x263003 x5))).bind fun bt270 => (if bt270.2 = true then (if (bt270.1.length : Int) < 1 then (some ((([] : List (S31))), false)) else (if (bt270.1.length : Int) > 8 then (some ((([] : List (S31))), false)) else (if x4.length + bt270.1.length < 2932031007402 then (spec_l5All.l0 k (x4 ++ bt270.1) (wrap64 (x5 + 1)) x263000 x263001 x263002 x263003) else (none)))) else (some ((([] : List (S31))), false)))) else (none)) else (none)) else ((spec_EntriesOk.f k x4).bind fun t286 => (some (x4, t286)))
end
def spec_l5All.f (k : Nat) (a0_0 : ByteArray) (a0_1 : ByteArray) (l0_2 : List Int) (l0_3 : List ByteArray) : Option ((List (S31)) × Bool) := (some (([] : List (S31)) : List (S31))).bind fun y263 => (if (l0_3.length : Int) < 1 then (spec_l5All.j0 k y263 true a0_0 a0_1 l0_2 l0_3) else (spec_l5All.j0 k y263 (decide ((l0_3.length : Int) > 40)) a0_0 a0_1 l0_2 l0_3))
set_option maxHeartbeats 8000000 in
set_option maxRecDepth 100000 in
theorem spec_l5All.calls (k : Nat) (a0_0 : ByteArray) (a0_1 : ByteArray) (A0_2 : Option Addr) (c0_2 : Nat) (l0_2 : List Int) (A0_3 : Option Addr) (c0_3 : Nat) (l0_3 : List ByteArray) (r1 : List (S31)) (r2 : Bool) (w : World) (hr0_2 : Kd.C (Kd.int .i64) w A0_2 l0_2.length l0_2) (hc0_2 : l0_2.length ≤ c0_2) (hr0_3 : Kd.C Kd.string w A0_3 l0_3.length l0_3) (hc0_3 : l0_3.length ≤ c0_3) (h : spec_l5All.f k a0_0 a0_1 l0_2 l0_3 = some (r1, r2)) :
  Calls Try.prog 83 #[.agg #[.string a0_0, .string a0_1, .slice A0_2 l0_2.length c0_2, .slice A0_3 l0_3.length c0_3]] w fun e w' => ∃ v0_ : Value, e = .returned (.tuple #[v0_, .bool r2]) ∧ Kd.R k31 31 w' w.heap.size (fun _ => True) v0_ r1 ∧ Below w.heap.size w w' := by
 have hu57 := Try.underlying57
 have HR0_2 := A_ hr0_2
 have HC0_2 := A_ hc0_2
 clear hr0_2 hc0_2
 have HR0_3 := A_ hr0_3
 have HC0_3 := A_ hc0_3
 clear hr0_3 hc0_3
 have HB := A_ (Below.refl w.heap.size w)
 have H : ((some (([] : List (S31)) : List (S31))).bind fun y263 => (if (l0_3.length : Int) < 1 then (spec_l5All.j0 k y263 true a0_0 a0_1 l0_2 l0_3) else (spec_l5All.j0 k y263 (decide ((l0_3.length : Int) > 40)) a0_0 a0_1 l0_2 l0_3))) = some (r1, r2) := h
 clear h
 obtain ⟨y263, hy263⟩ : ∃ y_ : List (S31), y_ = (([] : List (S31))) := ⟨_, rfl⟩
 replace H : (if (l0_3.length : Int) < 1 then (spec_l5All.j0 k y263 true a0_0 a0_1 l0_2 l0_3) else (spec_l5All.j0 k y263 (decide ((l0_3.length : Int) > 40)) a0_0 a0_1 l0_2 l0_3)) = some (r1, r2) := by first | (rw [hy263]; with_reducible exact H) | (have H2_ := (Option.bind_some _ _).symm.trans H; rw [hy263]; with_reducible exact H2_) | (have H2_ := (Option.bind_some _ _).symm.trans H; with_reducible exact H2_) | with_reducible exact H | (rw [hy263]; exact H) | exact H
 have Ny263 := A_ hy263
 clear hy263
 have HC2 := A_ H
 clear H
 go_enter Try.func83, Try.ntmps83
 go_upto_region 2 with (first | ((with_reducible refine gate_dst (N := 1) rfl ?_); (try (refine gate_guard (by rfl) ?_; dsimp only)); refine box_event ?hg (N := 1) ?hd (cs := #[.string a0_0, .string a0_1, .slice A0_2 l0_2.length c0_2, .slice A0_3 l0_3.length c0_3]) (t := 57) ?hr ?_; (case hd => rfl); (case hg => rfl); (case hr => first | (go_simp; done) | (go_simp; rfl)); intro gb262 hg w3 hbox hb; have n0_ := A_ (below_step zg0 hb); have n1_ := A_ (hbox); have n2_ := A_ ((by rw [hg]; exact (below_size zg0) : w.heap.size ≤ gb262)); have n3_ := A_ ((by rw [hg]; exact (below_size zg0) : w.heap.size ≤ gb262)); clear HB; have HB := n0_; have BK262 := n1_; have GW262 := n2_; have GE262 := n3_; clear n0_ n1_ n2_ n3_; clear hb hbox hg) | ((with_reducible refine gate_dst (N := 8) rfl ?_); (try (refine gate_guard (by rfl) ?_; dsimp only)); refine Kd.R_lit k31 _ 31 ?hg (N := 8) ?hd (xs := ([] : List (S31))) (inner := []) (ok := fun _ => True) (okp := fun _ => True) ?hr ?hp (fun _ hk => hk) trivial (Below.refl _ _) (Nat.le_refl _) (by simp) ?_; (case hd => rfl); (case hg => rfl); (case hr => first | (go_simp; done) | (go_simp; rfl)); (case hp => exact (Reps.none _ _)); intro v264 w4 ho5 hb hg_ hnew_; clear hg_ hnew_; (first | rw [← Ny263.out] at ho5 | (simp only [Int.reduceToNat] at ho5; rw [← Ny263.out] at ho5)); have n0_ := A_ (Kd.R_lower ho5 (below_size z83a)); have n1_ := A_ (blk_below (g := gb262) (o := .cells #[.string a0_0, .string a0_1, .slice A0_2 l0_2.length c0_2, .slice A0_3 l0_3.length c0_3] 57 (0, 0)) z83c hb); have n2_ := A_ (below_step z83a hb); clear BK262; clear HB; have HO265 := n0_; have BK262 := n1_; have HB := n2_; clear n0_ n1_ n2_; clear hb ho5))
 (try simp only [Act.put, List.setIfInBounds_toArray, List.set_cons_zero, List.set_cons_succ])
 go_cut [18] (fun v18 wc => ∃ (kq : Nat) (x18_1 : Bool), v18 = .bool x18_1 ∧ Aside0 (spec_l5All.j0 kq y263 x18_1 a0_0 a0_1 l0_2 l0_3 = some (r1, r2)) ∧ Aside0 (kq ≤ k) ∧ Aside0 (Kd.R k31 31 wc w.heap.size (fun _ => True) v264 y263) ∧ Aside0 (wc.heap[gb262]? = some (.cells #[.string a0_0, .string a0_1, (.slice A0_2 l0_2.length c0_2), (.slice A0_3 l0_3.length c0_3)] 57 (0, 0))) ∧ Aside0 (Below w.heap.size w wc))
 case first =>
  have H := HC2.out
  clear HC2
  by_cases c6 : (l0_3.length : Int) < 1
  {
  rw [if_pos c6] at H
  have c6b0 : decide ((l0_3.length : Int) < 1) = true := decide_eq_true c6
  have c6b1 : decide (l0_3.length < 1) = true := decide_eq_true (by omega)
  clear c6
  (first | rw [c6b0] | (simp only [i64_w, i32_w]; rw [c6b0]) | skip)
  have H' := A_ H
  clear H
  obtain ⟨hcz7_0, hcz7_1, hcz7_2, hcz7_3, hfz7_0, hfz7_1, hfz7_2, hfz7_3⟩ := bz4 BK262.out
  go_wp2
  go_meet
  case rel => exact ⟨_, (true), (zs), H', ⟨by first | omega | exact Nat.le_refl _⟩, ⟨by (with_reducible repeat (first | apply Kd.R_alloc | apply Kd.R_drewN | apply Kd.R_drew)); exact HO265.out⟩, ⟨by (with_reducible repeat (first | refine blk_drewN ?_ _ | refine blk_drew ?_ | refine blk_alloc ?_ _)); exact BK262.out⟩, ⟨z83a⟩⟩
  }
  {
  rw [if_neg c6] at H
  have c6b0 : decide ((l0_3.length : Int) < 1) = false := decide_eq_false c6
  have c6b1 : decide (l0_3.length < 1) = false := decide_eq_false (by omega)
  clear c6
  (first | rw [c6b0] | (simp only [i64_w, i32_w]; rw [c6b0]) | skip)
  have H' := A_ H
  clear H
  obtain ⟨hcz8_0, hcz8_1, hcz8_2, hcz8_3, hfz8_0, hfz8_1, hfz8_2, hfz8_3⟩ := bz4 BK262.out
  go_wp2
  go_meet
  case rel => exact ⟨_, (decide ((l0_3.length : Int) > 40)), (zs), H', ⟨by first | omega | exact Nat.le_refl _⟩, ⟨by (with_reducible repeat (first | apply Kd.R_alloc | apply Kd.R_drewN | apply Kd.R_drew)); exact HO265.out⟩, ⟨by (with_reducible repeat (first | refine blk_drewN ?_ _ | refine blk_drew ?_ | refine blk_alloc ?_ _)); exact BK262.out⟩, ⟨z83a⟩⟩
  }
 case rest =>
  clear HC2
  try clear p2
  try clear c6
  try clear c6b0
  try clear c6b1
  try clear c8
  try clear hcz7_0
  try clear hcz7_1
  try clear hcz7_2
  try clear hcz7_3
  try clear hcz8_0
  try clear hcz8_1
  try clear hcz8_2
  try clear hcz8_3
  try clear hfz7_0
  try clear hfz7_1
  try clear hfz7_2
  try clear hfz7_3
  try clear hfz8_0
  try clear hfz8_1
  try clear hfz8_2
  try clear hfz8_3
  obtain ⟨kq, x18_1, rfl, HA, HJ1, HO_4, BK262, HB⟩ := hcut
  cases kq with
  | zero => exact absurd HA.out (by simp [spec_l5All.j0])
  | succ kj1 =>
   have H := HA.out
   clear HA
   simp only [spec_l5All.j0] at H
   by_cases c9 : x18_1 = true
   {
   subst c9
   rw [if_pos rfl] at H
   simp only [Option.some.injEq, Prod.mk.injEq] at H
   obtain ⟨rfl, rfl⟩ := H
   go_wp2
   go_ret2
   exact ⟨_, zr, by (with_reducible repeat (first | apply Kd.R_alloc | apply Kd.R_drewN | apply Kd.R_drew)); exact HO_4.out, z83a⟩
   }
   {
   replace c9 := Bool.eq_false_iff.mpr c9
   subst c9
   rw [if_neg Bool.false_ne_true] at H
   have H' := A_ H
   clear H
   go_wp2
   go_loopg [4, 5] kj1 (fun kq v4 v5 w' => ∃ (x4_2 : List (S31)) (x5_2 : Int), v5 = .int .i64 x5_2 ∧ Aside0 (spec_l5All.l0 kq x4_2 x5_2 a0_0 a0_1 l0_2 l0_3 = some (r1, r2)) ∧ Aside0 (kq ≤ kj1) ∧ Aside0 (Kd.R k31 31 w' w.heap.size (fun _ => True) v4 x4_2) ∧ Aside0 (w'.heap[gb262]? = some (.cells #[.string a0_0, .string a0_1, (.slice A0_2 l0_2.length c0_2), (.slice A0_3 l0_3.length c0_3)] 57 (0, 0))) ∧ Aside0 (Below w.heap.size w w'))
   case atStart => exact ⟨(y263), (0), (zs), H', ⟨Nat.le_refl _⟩, ⟨by (with_reducible repeat (first | apply Kd.R_alloc | apply Kd.R_drewN | apply Kd.R_drew)); exact HO_4.out⟩, ⟨by (with_reducible repeat (first | refine blk_drewN ?_ _ | refine blk_drew ?_ | refine blk_alloc ?_ _)); exact BK262.out⟩, ⟨z83a⟩⟩
   case round =>
    clear H'
    try clear p2
    try clear c6
    try clear c6b0
    try clear c6b1
    try clear c8
    try clear c9
    try clear hcz7_0
    try clear hcz7_1
    try clear hcz7_2
    try clear hcz7_3
    try clear hcz8_0
    try clear hcz8_1
    try clear hcz8_2
    try clear hcz8_3
    try clear hfz7_0
    try clear hfz7_1
    try clear hfz7_2
    try clear hfz7_3
    try clear hfz8_0
    try clear hfz8_1
    try clear hfz8_2
    try clear hfz8_3
    try clear p2
    obtain ⟨x4_2, x5_2, rfl, HA, HK2, HO_4, BK262, HB⟩ := hrel
    cases gk with
    | zero => exact absurd HA.out (by simp [spec_l5All.l0])
    | succ k2 =>
     have H := HA.out
     clear HA
     simp only [spec_l5All.l0] at H
     by_cases c10 : x5_2 < (l0_3.length : Int)
     {
     rw [if_pos c10] at H
     have c10b0 : decide (x5_2 < (l0_3.length : Int)) = true := decide_eq_true c10
     clear c10
     by_cases c11 : 0 ≤ x5_2
     {
     rw [if_pos c11] at H
     have c11b0 : decide (0 ≤ x5_2) = true := decide_eq_true c11
     clear c11
     by_cases c12 : ((rdOf ByteArray.empty l0_3 x5_2).size : Int) ≤ 140737488351232
     {
     rw [if_pos c12] at H
     have c12b0 := eq_true c12
     have c12b1 : decide (((rdOf ByteArray.empty l0_3 x5_2).size : Int) ≤ 140737488351232) = true := decide_eq_true c12
     clear c12
     obtain ⟨y267, hy267⟩ : ∃ y_ : List Int, y_ = (bytesOf (rdOf ByteArray.empty l0_3 x5_2)) := ⟨_, rfl⟩
     replace H : ((spec_Unpacked.f k2 y267).bind fun bt270 => (if bt270.2 = true then (if (bt270.1.length : Int) < 1 then (some ((([] : List (S31))), false)) else (if (bt270.1.length : Int) > 8 then (some ((([] : List (S31))), false)) else (if x4_2.length + bt270.1.length < 2932031007402 then (spec_l5All.l0 k2 (x4_2 ++ bt270.1) (wrap64 (x5_2 + 1)) a0_0 a0_1 l0_2 l0_3) else (none)))) else (some ((([] : List (S31))), false)))) = some (r1, r2) := by first | (rw [hy267]; with_reducible exact H) | (have H2_ := (Option.bind_some _ _).symm.trans H; rw [hy267]; with_reducible exact H2_) | (have H2_ := (Option.bind_some _ _).symm.trans H; with_reducible exact H2_) | with_reducible exact H | (rw [hy267]; exact H) | exact H
     have Ny267 := A_ hy267
     clear hy267
     replace H := Option.bind_eq_some_iff.mp H
     obtain ⟨⟨t270, t271⟩, A130, H⟩ := H
     (try dsimp only at H)
     have A13 := A_ A130
     clear A130
     by_cases c14 : t271 = true
     {
     subst c14
     rw [if_pos rfl] at H
     by_cases c15 : (t270.length : Int) < 1
     {
     rw [if_pos c15] at H
     have c15b0 : decide ((t270.length : Int) < 1) = true := decide_eq_true c15
     have c15b1 : decide (t270.length < 1) = true := decide_eq_true (by omega)
     clear c15
     obtain ⟨y274, hy274⟩ : ∃ y_ : List (S31), y_ = (([] : List (S31))) := ⟨_, rfl⟩
     replace H : (some (y274, false)) = some (r1, r2) := by first | (rw [hy274]; with_reducible exact H) | (have H2_ := (Option.bind_some _ _).symm.trans H; rw [hy274]; with_reducible exact H2_) | (have H2_ := (Option.bind_some _ _).symm.trans H; with_reducible exact H2_) | with_reducible exact H | (rw [hy274]; exact H) | exact H
     have Ny274 := A_ hy274
     clear hy274
     simp only [Option.some.injEq, Prod.mk.injEq] at H
     obtain ⟨rfl, rfl⟩ := H
     obtain ⟨hcz16_0, hcz16_1, hcz16_2, hcz16_3, hfz16_0, hfz16_1, hfz16_2, hfz16_3⟩ := bz4 BK262.out
     have p266 : 0 ≤ (x5_2 : Int) := of_decide_eq_true zg2
     have q266 : x5_2 < (l0_3.length : Int) := of_decide_eq_true zg2
     obtain ⟨ad266, e266, hx266_0⟩ := Kd.at_string HR0_3.out x5_2 p266 q266
     cases e266
     replace hx266_0 := bq HB.out hx266_0
     replace p266 := eq_true p266
     replace q266 := eq_true q266
     go_wp2_with (first | ((with_reducible refine gate_dst (N := 33) rfl ?_); (try (refine gate_guard (by rfl) ?_; dsimp only)); refine Go.Proofs.Ytaiggfjkikfcbaa.Lib.R_conv _ 5 rfl (N := 33) rfl 9 36 (.tmp 32) rfl Try.underlying9 Try.underlying36 Try.underlying5 (rdOf ByteArray.empty l0_3 x5_2) rfl (ok := fun _ => True) (okp := fun _ => True) (fun _ hk => hk) trivial (of_decide_eq_true zg2) (Below.refl _ _) (Nat.le_refl _) ?_; intro v268 w17 ho18 hb hg_ hnew_; clear hg_ hnew_; (first | rw [← Ny267.out] at ho18 | (simp only [Int.reduceToNat] at ho18; rw [← Ny267.out] at ho18)); have n0_ := A_ (Kd.R_below zg10 hb); have n1_ := A_ (Kd.R_lower ho18 (below_size z83a)); have n2_ := A_ (blk_below (g := gb262) (o := .cells #[.string a0_0, .string a0_1, .slice A0_2 l0_2.length c0_2, .slice (some ad266) l0_3.length c0_3] 57 (0, 0)) z83c hb); have n3_ := A_ (below_step z83a hb); clear HO_4; clear BK262; clear HB; have HO_4 := n0_; have HO269 := n1_; have BK262 := n2_; have HB := n3_; clear n0_ n1_ n2_ n3_; clear hb ho18; obtain ⟨Ao19, co19, eo19⟩ := Kd.R_slice HO269.out; subst eo19) | ((with_reducible refine gate_callee (f := 116) rfl ?_); refine goesL_ (some 34) rfl rfl Try.func116 (by kernel_rfl) rfl #[.slice Ao19 y267.length co19] rfl zg7 ?_; (with_reducible refine (spec_Unpacked.calls k2 _ _ y267 t270 true _ ?side1 ?side2 A13.out).mono ?_); (case side1 => exact z83h); (case side2 => exact (Kd.R_reads' HO269.out).2.1); rintro e w20 ⟨v272, rfl, ho0, hb⟩; refine ⟨_, rfl, ?_⟩; have n0_ := A_ (Kd.R_elder' zg10 (Kd.R_base ho0) hb); have n1_ := A_ (Kd.R_below z83d hb); have n2_ := A_ (Kd.R_lower (Kd.R_new' ho0 (Kd.R_lt zg10)) (below_size z83a)); have n3_ := A_ (blk_below (g := gb262) (o := .cells #[.string a0_0, .string a0_1, .slice A0_2 l0_2.length c0_2, .slice (some ad266) l0_3.length c0_3] 57 (0, 0)) z83c hb); have n4_ := A_ (below_step z83a hb); clear HO_4; clear HO269; clear BK262; clear HB; have HO_4 := n0_; have HO269 := n1_; have HO273 := n2_; have BK262 := n3_; have HB := n4_; clear n0_ n1_ n2_ n3_ n4_; obtain ⟨Ao21, co21, eo21⟩ := Kd.R_slice HO273.out; subst eo21) | ((with_reducible refine gate_dst (N := 49) rfl ?_); (try (refine gate_guard (by rfl) ?_; dsimp only)); refine Kd.R_lit k31 _ 31 ?hg (N := 49) ?hd (xs := ([] : List (S31))) (inner := []) (ok := fun _ => True) (okp := fun _ => True) ?hr ?hp (fun _ hk => hk) trivial (Below.refl _ _) (Nat.le_refl _) (by simp) ?_; (case hd => rfl); (case hg => rfl); (case hr => first | (go_simp; done) | (go_simp; rfl)); (case hp => exact (Reps.none _ _)); intro v275 w22 ho23 hb hg_ hnew_; clear hg_ hnew_; (first | rw [← Ny274.out] at ho23 | (simp only [Int.reduceToNat] at ho23; rw [← Ny274.out] at ho23)); have n0_ := A_ (Kd.R_elder' zg10 (Kd.R_base ho23) hb); have n1_ := A_ (Kd.R_below z83d hb); have n2_ := A_ (Kd.R_elder' z83e (Kd.R_base ho23) hb); have n3_ := A_ (Kd.R_lower (Kd.R_new' (Kd.R_new' ho23 (Kd.R_lt zg10)) (Kd.R_lt z83e)) (below_size z83a)); have n4_ := A_ (blk_below (g := gb262) (o := .cells #[.string a0_0, .string a0_1, .slice A0_2 l0_2.length c0_2, .slice (some ad266) l0_3.length c0_3] 57 (0, 0)) z83c hb); have n5_ := A_ (below_step z83a hb); clear HO_4; clear HO269; clear HO273; clear BK262; clear HB; have HO_4 := n0_; have HO269 := n1_; have HO273 := n2_; have HO276 := n3_; have BK262 := n4_; have HB := n5_; clear n0_ n1_ n2_ n3_ n4_ n5_; clear hb ho23))
     go_ret2
     exact ⟨_, zr, by (with_reducible repeat (first | apply Kd.R_alloc | apply Kd.R_drewN | apply Kd.R_drew)); exact Kd.R_mono HO276.out (fun _ hk => trivial), z83a⟩
     }
     {
     rw [if_neg c15] at H
     have c15b0 : decide ((t270.length : Int) < 1) = false := decide_eq_false c15
     have c15b1 : decide (t270.length < 1) = false := decide_eq_false (by omega)
     clear c15
     by_cases c24 : (t270.length : Int) > 8
     {
     rw [if_pos c24] at H
     have c24b0 : decide (8 < (t270.length : Int)) = true := decide_eq_true c24
     have c24b1 : decide (8 < t270.length) = true := decide_eq_true (by omega)
     clear c24
     obtain ⟨y277, hy277⟩ : ∃ y_ : List (S31), y_ = (([] : List (S31))) := ⟨_, rfl⟩
     replace H : (some (y277, false)) = some (r1, r2) := by first | (rw [hy277]; with_reducible exact H) | (have H2_ := (Option.bind_some _ _).symm.trans H; rw [hy277]; with_reducible exact H2_) | (have H2_ := (Option.bind_some _ _).symm.trans H; with_reducible exact H2_) | with_reducible exact H | (rw [hy277]; exact H) | exact H
     have Ny277 := A_ hy277
     clear hy277
     simp only [Option.some.injEq, Prod.mk.injEq] at H
     obtain ⟨rfl, rfl⟩ := H
     obtain ⟨hcz25_0, hcz25_1, hcz25_2, hcz25_3, hfz25_0, hfz25_1, hfz25_2, hfz25_3⟩ := bz4 BK262.out
     have p266 : 0 ≤ (x5_2 : Int) := of_decide_eq_true zg2
     have q266 : x5_2 < (l0_3.length : Int) := of_decide_eq_true zg2
     obtain ⟨ad266, e266, hx266_0⟩ := Kd.at_string HR0_3.out x5_2 p266 q266
     cases e266
     replace hx266_0 := bq HB.out hx266_0
     replace p266 := eq_true p266
     replace q266 := eq_true q266
     go_wp2_with (first | ((with_reducible refine gate_dst (N := 33) rfl ?_); (try (refine gate_guard (by rfl) ?_; dsimp only)); refine Go.Proofs.Ytaiggfjkikfcbaa.Lib.R_conv _ 5 rfl (N := 33) rfl 9 36 (.tmp 32) rfl Try.underlying9 Try.underlying36 Try.underlying5 (rdOf ByteArray.empty l0_3 x5_2) rfl (ok := fun _ => True) (okp := fun _ => True) (fun _ hk => hk) trivial (of_decide_eq_true zg2) (Below.refl _ _) (Nat.le_refl _) ?_; intro v268 w26 ho27 hb hg_ hnew_; clear hg_ hnew_; (first | rw [← Ny267.out] at ho27 | (simp only [Int.reduceToNat] at ho27; rw [← Ny267.out] at ho27)); have n0_ := A_ (Kd.R_below zg10 hb); have n1_ := A_ (Kd.R_lower ho27 (below_size z83a)); have n2_ := A_ (blk_below (g := gb262) (o := .cells #[.string a0_0, .string a0_1, .slice A0_2 l0_2.length c0_2, .slice (some ad266) l0_3.length c0_3] 57 (0, 0)) z83c hb); have n3_ := A_ (below_step z83a hb); clear HO_4; clear BK262; clear HB; have HO_4 := n0_; have HO269 := n1_; have BK262 := n2_; have HB := n3_; clear n0_ n1_ n2_ n3_; clear hb ho27; obtain ⟨Ao28, co28, eo28⟩ := Kd.R_slice HO269.out; subst eo28) | ((with_reducible refine gate_callee (f := 116) rfl ?_); refine goesL_ (some 34) rfl rfl Try.func116 (by kernel_rfl) rfl #[.slice Ao28 y267.length co28] rfl zg7 ?_; (with_reducible refine (spec_Unpacked.calls k2 _ _ y267 t270 true _ ?side1 ?side2 A13.out).mono ?_); (case side1 => exact z83h); (case side2 => exact (Kd.R_reads' HO269.out).2.1); rintro e w29 ⟨v272, rfl, ho0, hb⟩; refine ⟨_, rfl, ?_⟩; have n0_ := A_ (Kd.R_elder' zg10 (Kd.R_base ho0) hb); have n1_ := A_ (Kd.R_below z83d hb); have n2_ := A_ (Kd.R_lower (Kd.R_new' ho0 (Kd.R_lt zg10)) (below_size z83a)); have n3_ := A_ (blk_below (g := gb262) (o := .cells #[.string a0_0, .string a0_1, .slice A0_2 l0_2.length c0_2, .slice (some ad266) l0_3.length c0_3] 57 (0, 0)) z83c hb); have n4_ := A_ (below_step z83a hb); clear HO_4; clear HO269; clear BK262; clear HB; have HO_4 := n0_; have HO269 := n1_; have HO273 := n2_; have BK262 := n3_; have HB := n4_; clear n0_ n1_ n2_ n3_ n4_; obtain ⟨Ao30, co30, eo30⟩ := Kd.R_slice HO273.out; subst eo30) | ((with_reducible refine gate_dst (N := 49) rfl ?_); (try (refine gate_guard (by rfl) ?_; dsimp only)); refine Kd.R_lit k31 _ 31 ?hg (N := 49) ?hd (xs := ([] : List (S31))) (inner := []) (ok := fun _ => True) (okp := fun _ => True) ?hr ?hp (fun _ hk => hk) trivial (Below.refl _ _) (Nat.le_refl _) (by simp) ?_; (case hd => rfl); (case hg => rfl); (case hr => first | (go_simp; done) | (go_simp; rfl)); (case hp => exact (Reps.none _ _)); intro v278 w31 ho32 hb hg_ hnew_; clear hg_ hnew_; (first | rw [← Ny277.out] at ho32 | (simp only [Int.reduceToNat] at ho32; rw [← Ny277.out] at ho32)); have n0_ := A_ (Kd.R_elder' zg10 (Kd.R_base ho32) hb); have n1_ := A_ (Kd.R_below z83d hb); have n2_ := A_ (Kd.R_elder' z83e (Kd.R_base ho32) hb); have n3_ := A_ (Kd.R_lower (Kd.R_new' (Kd.R_new' ho32 (Kd.R_lt zg10)) (Kd.R_lt z83e)) (below_size z83a)); have n4_ := A_ (blk_below (g := gb262) (o := .cells #[.string a0_0, .string a0_1, .slice A0_2 l0_2.length c0_2, .slice (some ad266) l0_3.length c0_3] 57 (0, 0)) z83c hb); have n5_ := A_ (below_step z83a hb); clear HO_4; clear HO269; clear HO273; clear BK262; clear HB; have HO_4 := n0_; have HO269 := n1_; have HO273 := n2_; have HO279 := n3_; have BK262 := n4_; have HB := n5_; clear n0_ n1_ n2_ n3_ n4_ n5_; clear hb ho32))
     go_ret2
     exact ⟨_, zr, by (with_reducible repeat (first | apply Kd.R_alloc | apply Kd.R_drewN | apply Kd.R_drew)); exact Kd.R_mono HO279.out (fun _ hk => trivial), z83a⟩
     }
     {
     rw [if_neg c24] at H
     have c24b0 : decide (8 < (t270.length : Int)) = false := decide_eq_false c24
     have c24b1 : decide (8 < t270.length) = false := decide_eq_false (by omega)
     clear c24
     by_cases c33 : x4_2.length + t270.length < 2932031007402
     {
     rw [if_pos c33] at H
     have LMc33 := A_ c33
     clear c33
     obtain ⟨y280, hy280⟩ : ∃ y_ : List (S31), y_ = (x4_2 ++ t270) := ⟨_, rfl⟩
     replace H : (spec_l5All.l0 k2 y280 (wrap64 (x5_2 + 1)) a0_0 a0_1 l0_2 l0_3) = some (r1, r2) := by first | (rw [hy280]; with_reducible exact H) | (have H2_ := (Option.bind_some _ _).symm.trans H; rw [hy280]; with_reducible exact H2_) | (have H2_ := (Option.bind_some _ _).symm.trans H; with_reducible exact H2_) | with_reducible exact H | (rw [hy280]; exact H) | exact H
     have Ny280 := A_ hy280
     clear hy280
     have H' := A_ H
     clear H
     obtain ⟨hcz34_0, hcz34_1, hcz34_2, hcz34_3, hfz34_0, hfz34_1, hfz34_2, hfz34_3⟩ := bz4 BK262.out
     have p266 : 0 ≤ (x5_2 : Int) := of_decide_eq_true zg2
     have q266 : x5_2 < (l0_3.length : Int) := of_decide_eq_true zg2
     obtain ⟨ad266, e266, hx266_0⟩ := Kd.at_string HR0_3.out x5_2 p266 q266
     cases e266
     replace hx266_0 := bq HB.out hx266_0
     replace p266 := eq_true p266
     replace q266 := eq_true q266
     go_wp2_with (first | ((with_reducible refine gate_dst (N := 33) rfl ?_); (try (refine gate_guard (by rfl) ?_; dsimp only)); refine Go.Proofs.Ytaiggfjkikfcbaa.Lib.R_conv _ 5 rfl (N := 33) rfl 9 36 (.tmp 32) rfl Try.underlying9 Try.underlying36 Try.underlying5 (rdOf ByteArray.empty l0_3 x5_2) rfl (ok := fun _ => True) (okp := fun _ => True) (fun _ hk => hk) trivial (of_decide_eq_true zg2) (Below.refl _ _) (Nat.le_refl _) ?_; intro v268 w35 ho36 hb hg_ hnew_; clear hg_ hnew_; (first | rw [← Ny267.out] at ho36 | (simp only [Int.reduceToNat] at ho36; rw [← Ny267.out] at ho36)); have n0_ := A_ (Kd.R_below zg10 hb); have n1_ := A_ (Kd.R_lower ho36 (below_size z83a)); have n2_ := A_ (blk_below (g := gb262) (o := .cells #[.string a0_0, .string a0_1, .slice A0_2 l0_2.length c0_2, .slice (some ad266) l0_3.length c0_3] 57 (0, 0)) z83c hb); have n3_ := A_ (below_step z83a hb); clear HO_4; clear BK262; clear HB; have HO_4 := n0_; have HO269 := n1_; have BK262 := n2_; have HB := n3_; clear n0_ n1_ n2_ n3_; clear hb ho36; obtain ⟨Ao37, co37, eo37⟩ := Kd.R_slice HO269.out; subst eo37) | ((with_reducible refine gate_callee (f := 116) rfl ?_); refine goesL_ (some 34) rfl rfl Try.func116 (by kernel_rfl) rfl #[.slice Ao37 y267.length co37] rfl zg7 ?_; (with_reducible refine (spec_Unpacked.calls k2 _ _ y267 t270 true _ ?side1 ?side2 A13.out).mono ?_); (case side1 => exact z83h); (case side2 => exact (Kd.R_reads' HO269.out).2.1); rintro e w38 ⟨v272, rfl, ho0, hb⟩; refine ⟨_, rfl, ?_⟩; have n0_ := A_ (Kd.R_elder' zg10 (Kd.R_base ho0) hb); have n1_ := A_ (Kd.R_below z83d hb); have n2_ := A_ (Kd.R_lower (Kd.R_new' ho0 (Kd.R_lt zg10)) (below_size z83a)); have n3_ := A_ (blk_below (g := gb262) (o := .cells #[.string a0_0, .string a0_1, .slice A0_2 l0_2.length c0_2, .slice (some ad266) l0_3.length c0_3] 57 (0, 0)) z83c hb); have n4_ := A_ (below_step z83a hb); clear HO_4; clear HO269; clear BK262; clear HB; have HO_4 := n0_; have HO269 := n1_; have HO273 := n2_; have BK262 := n3_; have HB := n4_; clear n0_ n1_ n2_ n3_ n4_; obtain ⟨Ao39, co39, eo39⟩ := Kd.R_slice HO273.out; subst eo39) | ((with_reducible refine gate_builtin (b := .append) (xs := #[.tmp 50, .tmp 51]) rfl ?_); (try (refine gate_guard (by rfl) ?_; dsimp only)); at_builtin; refine Kd.R_append_rows k31 (w0 := w) w.heap.size rfl (.tmp 50) (.tmp 51) 27 31 (.agg #[(.string ⟨#[]⟩), (.string ⟨#[]⟩), (.int .i64 0), (.bool false)]) 48 rfl Try.underlying27 info31 rfl (by decide) (by omega) u4 x4_2 t270 _ _ _ (fun k_ => some k_ ≠ (.slice Ao39 t270.length co39 : Value).ownBlock) (fun _ => False) rfl rfl ?aO ?aR (fun _ _ h => h) (fun _ h => h.elim) ?aF ?aB ?aS ?aL ?_; (case aR => exact (by repeat (first | exact (Kd.R_reads' HO273.out).2.2 | (with_reducible refine Kd.C_alloc ?_ _) | (with_reducible refine Kd.C_drewN ?_ _) | (with_reducible refine Kd.C_drew ?_)))); (case aB => exact z83a); (case aF => exact (fun k_ hk => Kd.fresh' (Kd.R_lt z83e) k_ hk)); (case aO => exact (by (with_reducible repeat (first | apply Kd.R_alloc | apply Kd.R_drewN | apply Kd.R_drew)); exact Kd.R_mono HO_4.out (fun _ hk => hk.2))); (case aS => exact (below_size z83a)); (case aL => have := LMc33.out; omega); intro v281 w40 ho hb hg hat; rw [← Ny280.out] at ho; have n0_ := A_ (blk_grown (g := gb262) (o := .cells #[.string a0_0, .string a0_1, .slice A0_2 l0_2.length c0_2, .slice (some ad266) l0_3.length c0_3] 57 (0, 0)) z83c hg (Kd.R_ne HO_4.out BK262.out (by decide))); have n1_ := A_ (Kd.R_over' z83d (Kd.R_typed zg10) (by decide) hg); have n2_ := A_ (Kd.R_after (ok := (fun _ => True)) z83e hg hat); have n3_ := A_ (hb); have n4_ := A_ (ho); clear BK262; clear HO269; clear HO273; clear HB; clear HO_4; have BK262 := n0_; have HO269 := n1_; have HO273 := n2_; have HB := n3_; have HO282 := n4_; clear n0_ n1_ n2_ n3_ n4_; clear ho hb hg hat))
     go_roundg k2
     case measure => have := HJ1.out; have := HK2.out; omega
     case rel => exact ⟨(y280), (wrap64 (x5_2 + 1)), (zs), H', ⟨by have := HJ1.out; have := HK2.out; omega⟩, ⟨by (with_reducible repeat (first | apply Kd.R_alloc | apply Kd.R_drewN | apply Kd.R_drew)); exact Kd.R_mono HO282.out (fun _ hk => trivial)⟩, ⟨by (with_reducible repeat (first | refine blk_drewN ?_ _ | refine blk_drew ?_ | refine blk_alloc ?_ _)); exact BK262.out⟩, ⟨z83a⟩⟩
     }
     {
     rw [if_neg c33] at H
     exact absurd H (by simp)
     }
     }
     }
     }
     {
     replace c14 := Bool.eq_false_iff.mpr c14
     subst c14
     rw [if_neg Bool.false_ne_true] at H
     obtain ⟨y283, hy283⟩ : ∃ y_ : List (S31), y_ = (([] : List (S31))) := ⟨_, rfl⟩
     replace H : (some (y283, false)) = some (r1, r2) := by first | (rw [hy283]; with_reducible exact H) | (have H2_ := (Option.bind_some _ _).symm.trans H; rw [hy283]; with_reducible exact H2_) | (have H2_ := (Option.bind_some _ _).symm.trans H; with_reducible exact H2_) | with_reducible exact H | (rw [hy283]; exact H) | exact H
     have Ny283 := A_ hy283
     clear hy283
     simp only [Option.some.injEq, Prod.mk.injEq] at H
     obtain ⟨rfl, rfl⟩ := H
     obtain ⟨hcz41_0, hcz41_1, hcz41_2, hcz41_3, hfz41_0, hfz41_1, hfz41_2, hfz41_3⟩ := bz4 BK262.out
     have p266 : 0 ≤ (x5_2 : Int) := of_decide_eq_true zg2
     have q266 : x5_2 < (l0_3.length : Int) := of_decide_eq_true zg2
     obtain ⟨ad266, e266, hx266_0⟩ := Kd.at_string HR0_3.out x5_2 p266 q266
     cases e266
     replace hx266_0 := bq HB.out hx266_0
     replace p266 := eq_true p266
     replace q266 := eq_true q266
     go_wp2_with (first | ((with_reducible refine gate_dst (N := 33) rfl ?_); (try (refine gate_guard (by rfl) ?_; dsimp only)); refine Go.Proofs.Ytaiggfjkikfcbaa.Lib.R_conv _ 5 rfl (N := 33) rfl 9 36 (.tmp 32) rfl Try.underlying9 Try.underlying36 Try.underlying5 (rdOf ByteArray.empty l0_3 x5_2) rfl (ok := fun _ => True) (okp := fun _ => True) (fun _ hk => hk) trivial (of_decide_eq_true zg2) (Below.refl _ _) (Nat.le_refl _) ?_; intro v268 w42 ho43 hb hg_ hnew_; clear hg_ hnew_; (first | rw [← Ny267.out] at ho43 | (simp only [Int.reduceToNat] at ho43; rw [← Ny267.out] at ho43)); have n0_ := A_ (Kd.R_below zg10 hb); have n1_ := A_ (Kd.R_lower ho43 (below_size z83a)); have n2_ := A_ (blk_below (g := gb262) (o := .cells #[.string a0_0, .string a0_1, .slice A0_2 l0_2.length c0_2, .slice (some ad266) l0_3.length c0_3] 57 (0, 0)) z83c hb); have n3_ := A_ (below_step z83a hb); clear HO_4; clear BK262; clear HB; have HO_4 := n0_; have HO269 := n1_; have BK262 := n2_; have HB := n3_; clear n0_ n1_ n2_ n3_; clear hb ho43; obtain ⟨Ao44, co44, eo44⟩ := Kd.R_slice HO269.out; subst eo44) | ((with_reducible refine gate_callee (f := 116) rfl ?_); refine goesL_ (some 34) rfl rfl Try.func116 (by kernel_rfl) rfl #[.slice Ao44 y267.length co44] rfl zg7 ?_; (with_reducible refine (spec_Unpacked.calls k2 _ _ y267 t270 false _ ?side1 ?side2 A13.out).mono ?_); (case side1 => exact z83h); (case side2 => exact (Kd.R_reads' HO269.out).2.1); rintro e w45 ⟨v272, rfl, ho0, hb⟩; refine ⟨_, rfl, ?_⟩; have n0_ := A_ (Kd.R_elder' zg10 (Kd.R_base ho0) hb); have n1_ := A_ (Kd.R_below z83d hb); have n2_ := A_ (Kd.R_lower (Kd.R_new' ho0 (Kd.R_lt zg10)) (below_size z83a)); have n3_ := A_ (blk_below (g := gb262) (o := .cells #[.string a0_0, .string a0_1, .slice A0_2 l0_2.length c0_2, .slice (some ad266) l0_3.length c0_3] 57 (0, 0)) z83c hb); have n4_ := A_ (below_step z83a hb); clear HO_4; clear HO269; clear BK262; clear HB; have HO_4 := n0_; have HO269 := n1_; have HO273 := n2_; have BK262 := n3_; have HB := n4_; clear n0_ n1_ n2_ n3_ n4_) | ((with_reducible refine gate_dst (N := 49) rfl ?_); (try (refine gate_guard (by rfl) ?_; dsimp only)); refine Kd.R_lit k31 _ 31 ?hg (N := 49) ?hd (xs := ([] : List (S31))) (inner := []) (ok := fun _ => True) (okp := fun _ => True) ?hr ?hp (fun _ hk => hk) trivial (Below.refl _ _) (Nat.le_refl _) (by simp) ?_; (case hd => rfl); (case hg => rfl); (case hr => first | (go_simp; done) | (go_simp; rfl)); (case hp => exact (Reps.none _ _)); intro v284 w46 ho47 hb hg_ hnew_; clear hg_ hnew_; (first | rw [← Ny283.out] at ho47 | (simp only [Int.reduceToNat] at ho47; rw [← Ny283.out] at ho47)); have n0_ := A_ (Kd.R_elder' zg10 (Kd.R_base ho47) hb); have n1_ := A_ (Kd.R_below z83d hb); have n2_ := A_ (Kd.R_elder' z83e (Kd.R_base ho47) hb); have n3_ := A_ (Kd.R_lower (Kd.R_new' (Kd.R_new' ho47 (Kd.R_lt zg10)) (Kd.R_lt z83e)) (below_size z83a)); have n4_ := A_ (blk_below (g := gb262) (o := .cells #[.string a0_0, .string a0_1, .slice A0_2 l0_2.length c0_2, .slice (some ad266) l0_3.length c0_3] 57 (0, 0)) z83c hb); have n5_ := A_ (below_step z83a hb); clear HO_4; clear HO269; clear HO273; clear BK262; clear HB; have HO_4 := n0_; have HO269 := n1_; have HO273 := n2_; have HO285 := n3_; have BK262 := n4_; have HB := n5_; clear n0_ n1_ n2_ n3_ n4_ n5_; clear hb ho47))
     go_ret2
     exact ⟨_, zr, by (with_reducible repeat (first | apply Kd.R_alloc | apply Kd.R_drewN | apply Kd.R_drew)); exact Kd.R_mono HO285.out (fun _ hk => trivial), z83a⟩
     }
     }
     {
     rw [if_neg c12] at H
     exact absurd H (by simp)
     }
     }
     {
     rw [if_neg c11] at H
     exact absurd H (by simp)
     }
     }
     {
     rw [if_neg c10] at H
     have c10b0 : decide (x5_2 < (l0_3.length : Int)) = false := decide_eq_false c10
     clear c10
     replace H := Option.bind_eq_some_iff.mp H
     obtain ⟨t286, A480, H⟩ := H
     (try dsimp only at H)
     have A48 := A_ A480
     clear A480
     simp only [Option.some.injEq, Prod.mk.injEq] at H
     obtain ⟨rfl, rfl⟩ := H
     obtain ⟨hcz49_0, hcz49_1, hcz49_2, hcz49_3, hfz49_0, hfz49_1, hfz49_2, hfz49_3⟩ := bz4 BK262.out
     obtain ⟨Ao50, co50, eo50⟩ := Kd.R_slice HO_4.out
     subst eo50
     go_wp2_with (first | ((with_reducible refine gate_callee (f := 27) rfl ?_); refine goesL_ (some 55) rfl rfl Try.func27 (by kernel_rfl) rfl #[.slice Ao50 x4_2.length co50] rfl zg7 ?_; (with_reducible refine (spec_EntriesOk.calls k2 _ _ x4_2 t286 _ ?side1 ?side2 A48.out).mono ?_); (case side1 => exact zg11); (case side2 => exact (Kd.R_reads' HO_4.out).2.1); rintro e w51 ⟨rfl, hb⟩; refine ⟨_, rfl, ?_⟩; replace HO_4 := A_ (Kd.R_below zg10 hb); replace BK262 := A_ (blk_below (g := gb262) (o := .cells #[.string a0_0, .string a0_1, .slice A0_2 l0_2.length c0_2, .slice A0_3 l0_3.length c0_3] 57 (0, 0)) z83c hb); replace HB := A_ (below_step z83a hb)))
     go_ret2
     exact ⟨_, zr, by (with_reducible repeat (first | apply Kd.R_alloc | apply Kd.R_drewN | apply Kd.R_drew)); exact HO_4.out, z83a⟩
     
     }
   }
def spec_l5Same.l0 : Nat → List Int → List Int → Int → Option (Bool)
 | 0, _, _, _ => none
 | k + 1, x0, x1, x5 => if x5 < (x0.length : Int) then (if 0 ≤ x5 then (if x5 < (x1.length : Int) then (if (rd x0 x5) = (rd x1 x5) then (spec_l5Same.l0 k x0 x1 (wrap64 (x5 + 1))) else (some false)) else (none)) else (none)) else (some true)
def spec_l5Same.f (k : Nat) (l0 : List Int) (l1 : List Int) : Option (Bool) := if (l0.length : Int) = (l1.length : Int) then (spec_l5Same.l0 k l0 l1 0) else (some false)
set_option maxHeartbeats 8000000 in
set_option maxRecDepth 100000 in
theorem spec_l5Same.calls (k : Nat) (A0 : Option Addr) (c0 : Nat) (l0 : List Int) (A1 : Option Addr) (c1 : Nat) (l1 : List Int) (r : Bool) (w : World) (hr0 : Kd.C (Kd.int .i64) w A0 l0.length l0) (hc0 : l0.length ≤ c0) (hr1 : Kd.C (Kd.int .i64) w A1 l1.length l1) (hc1 : l1.length ≤ c1) (h : spec_l5Same.f k l0 l1 = some r) :
  Calls Try.prog 84 #[.slice A0 l0.length c0, .slice A1 l1.length c1] w fun e w' => e = .returned (.bool r) ∧ Drawn0 w w' := by
 have HR0 := A_ hr0
 have HC0 := A_ hc0
 clear hr0 hc0
 have HR1 := A_ hr1
 have HC1 := A_ hc1
 clear hr1 hc1
 have H : (if (l0.length : Int) = (l1.length : Int) then (spec_l5Same.l0 k l0 l1 0) else (some false)) = some r := h
 clear h
 by_cases c3 : (l0.length : Int) = (l1.length : Int)
 {
 rw [if_pos c3] at H
 have c3b0 : ((l0.length : Int) == (l1.length : Int)) = true := beq_iff_eq.mpr c3
 have c3b1 : ((l0.length : Int) != (l1.length : Int)) = false := bne_eq_false_iff_eq.mpr c3
 have c3b2 : (l0.length == l1.length) = true := by first | simpa using c3 | (simp at c3 ⊢; omega)
 clear c3
 have H' := A_ H
 clear H
 go_enter Try.func84, Try.ntmps84
 go_wp2
 repeat (go_quiet (fail); try go_wp2)
 go_loopg [5] k (fun kq v5 w' => ∃ (x5_1 : Int), v5 = .int .i64 x5_1 ∧ Aside0 (spec_l5Same.l0 kq l0 l1 x5_1 = some r) ∧ Aside0 (kq ≤ k) ∧ Drawn0 w w')
 case atStart => exact ⟨(0), (zs), H', ⟨Nat.le_refl _⟩, by repeat (first | exact Drawn0.refl _ | apply Drawn0.step)⟩
 case round =>
  clear H'
  try clear c1
  try clear p2
  try clear c3
  try clear c3b0
  try clear c3b1
  try clear c3b2
  obtain ⟨x5_1, rfl, HA, HK1, ⟨m1, rfl⟩⟩ := hrel
  cases gk with
  | zero => exact absurd HA.out (by simp [spec_l5Same.l0])
  | succ k1 =>
   have H := HA.out
   clear HA
   simp only [spec_l5Same.l0] at H
   by_cases c4 : x5_1 < (l0.length : Int)
   {
   rw [if_pos c4] at H
   have c4b0 : decide (x5_1 < (l0.length : Int)) = true := decide_eq_true c4
   clear c4
   by_cases c5 : 0 ≤ x5_1
   {
   rw [if_pos c5] at H
   have c5b0 : decide (0 ≤ x5_1) = true := decide_eq_true c5
   clear c5
   by_cases c6 : x5_1 < (l1.length : Int)
   {
   rw [if_pos c6] at H
   have c6b0 : decide (x5_1 < (l1.length : Int)) = true := decide_eq_true c6
   clear c6
   by_cases c7 : (rd l0 x5_1) = (rd l1 x5_1)
   {
   rw [if_pos c7] at H
   have c7b0 : ((rd l0 x5_1) == (rd l1 x5_1)) = true := beq_iff_eq.mpr c7
   have c7b1 : ((rd l0 x5_1) != (rd l1 x5_1)) = false := bne_eq_false_iff_eq.mpr c7
   clear c7
   have H' := A_ H
   clear H
   have p287 : 0 ≤ (x5_1 : Int) := of_decide_eq_true zg2
   have q287 : x5_1 < (l0.length : Int) := of_decide_eq_true zg2
   obtain ⟨ad287, e287, hx287_0⟩ := Kd.at_int HR0.out x5_1 p287 q287
   cases e287
   replace p287 := eq_true p287
   replace q287 := eq_true q287
   have p288 : 0 ≤ (x5_1 : Int) := of_decide_eq_true zg2
   have q288 : x5_1 < (l1.length : Int) := of_decide_eq_true zg2
   obtain ⟨ad288, e288, hx288_0⟩ := Kd.at_int HR1.out x5_1 p288 q288
   cases e288
   replace p288 := eq_true p288
   replace q288 := eq_true q288
   go_wp2
   repeat (go_quiet (fail); try go_wp2)
   go_roundg k1
   case measure => have := HK1.out; omega
   case rel => exact ⟨(wrap64 (x5_1 + 1)), (zs), H', ⟨by have := HK1.out; omega⟩, by repeat (first | exact Drawn0.refl _ | apply Drawn0.step)⟩
   }
   {
   rw [if_neg c7] at H
   have c7b0 : ((rd l0 x5_1) == (rd l1 x5_1)) = false := beq_eq_false_iff_ne.mpr c7
   have c7b1 : ((rd l0 x5_1) != (rd l1 x5_1)) = true := bne_iff_ne.mpr c7
   obtain rfl := Option.some.inj H
   have p287 : 0 ≤ (x5_1 : Int) := of_decide_eq_true zg2
   have q287 : x5_1 < (l0.length : Int) := of_decide_eq_true zg2
   obtain ⟨ad287, e287, hx287_0⟩ := Kd.at_int HR0.out x5_1 p287 q287
   cases e287
   replace p287 := eq_true p287
   replace q287 := eq_true q287
   have p288 : 0 ≤ (x5_1 : Int) := of_decide_eq_true zg2
   have q288 : x5_1 < (l1.length : Int) := of_decide_eq_true zg2
   obtain ⟨ad288, e288, hx288_0⟩ := Kd.at_int HR1.out x5_1 p288 q288
   cases e288
   replace p288 := eq_true p288
   replace q288 := eq_true q288
   go_wp2
   repeat (go_quiet (fail); try go_wp2)
   go_ret
   exact ⟨zs, by repeat (first | exact Drawn0.refl _ | apply Drawn0.step)⟩
   }
   }
   {
   rw [if_neg c6] at H
   exact absurd H (by simp)
   }
   }
   {
   rw [if_neg c5] at H
   exact absurd H (by simp)
   }
   }
   {
   rw [if_neg c4] at H
   have c4b0 : decide (x5_1 < (l0.length : Int)) = false := decide_eq_false c4
   clear c4
   obtain rfl := Option.some.inj H
   go_wp2
   repeat (go_quiet (fail); try go_wp2)
   go_ret
   exact ⟨zs, by repeat (first | exact Drawn0.refl _ | apply Drawn0.step)⟩
   }
 }
 {
 rw [if_neg c3] at H
 have c3b0 : ((l0.length : Int) == (l1.length : Int)) = false := beq_eq_false_iff_ne.mpr c3
 have c3b1 : ((l0.length : Int) != (l1.length : Int)) = true := bne_iff_ne.mpr c3
 have c3b2 : (l0.length == l1.length) = false := by first | simpa using c3 | (simp at c3 ⊢; omega)
 obtain rfl := Option.some.inj H
 go_enter Try.func84, Try.ntmps84
 go_wp2
 repeat (go_quiet (fail); try go_wp2)
 go_ret
 exact ⟨zs, by repeat (first | exact Drawn0.refl _ | apply Drawn0.step)⟩
 
 }
end Go.Proofs.Ytaiggfjkikfcbaa.PFnExactEntries

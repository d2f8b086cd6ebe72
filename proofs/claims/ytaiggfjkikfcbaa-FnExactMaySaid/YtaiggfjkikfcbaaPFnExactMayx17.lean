-- by a program of this session (wip/print/run.py) for this claim
import Derived.Test.YtaiggfjkikfcbaaLibPu
import Derived.Test.YtaiggfjkikfcbaaPFnExactMayx0
import Derived.Test.YtaiggfjkikfcbaaPFnExactMayx7
import Derived.Test.YtaiggfjkikfcbaaPFnExactMayx10
import Derived.Test.YtaiggfjkikfcbaaPFnExactMayx11
import Derived.Test.YtaiggfjkikfcbaaPFnExactMayx12
import Derived.Test.YtaiggfjkikfcbaaPFnExactMayx14
import Derived.Test.YtaiggfjkikfcbaaPFnExactMayx16
namespace Go.Proofs.Ytaiggfjkikfcbaa.PFnExactMay
open Go.Proofs.Ytaiggfjkikfcbaa.Lib Go.RowKit Go.Proofs.YtaiggfjkikfcbaaW.PrintWords Go.Proofs.YtaiggfjkikfcbaaW.PrintLast Go.Proofs.YtaiggfjkikfcbaaW.PrintMore
attribute [local go_sem] max2_int min2_int max_two min_two max_three min_three max_four min_four   -- for this text's walks alone
set_option linter.unusedVariables false
set_option linter.unusedSimpArgs false

theorem z88a {p_ : Prop} (h_ : p_ := by repeat (first | (with_reducible first | exact HB.out | apply below_alloc | apply pw_below_drewN | apply below_drew1 | refine below_set ?_ GE481.out) | exact HB.out)) : p_ := h_
theorem z88b {p_ : Prop} (h_ : p_ := by (with_reducible repeat (first | refine blk_drewN ?_ _ | refine blk_drew ?_ | refine blk_alloc ?_ _)); exact BK481.out) : p_ := h_
theorem z88c {p_ : Prop} (h_ : p_ := by (with_reducible repeat (first | apply Kd.R_alloc | apply Kd.R_drewN | apply Kd.R_drew)); exact HO_4.out) : p_ := h_
theorem z88d {p_ : Prop} (h_ : p_ := by (try simp only [List.map_toArray, List.map_cons, List.map_nil]); first | done | rfl | (simp only [List.length_drop, List.length_take]; rfl)) : p_ := h_
theorem z88e {p_ : Prop} (h_ : p_ := by repeat (first | exact (Kd.R_reads' HO_4.out).2.2 | (with_reducible refine Kd.C_alloc ?_ _) | (with_reducible refine Kd.C_drewN ?_ _) | (with_reducible refine Kd.C_drew ?_))) : p_ := h_
theorem z88f {p_ : Prop} (h_ : p_ := by repeat (first | (with_reducible first | exact HB.out | apply below_alloc | apply pw_below_drewN | apply below_drew1) | exact HB.out)) : p_ := h_
theorem z88g {p_ : Prop} (h_ : p_ := by first | (with_reducible assumption) | assumption) : p_ := h_
def impl_entries.l0 : Nat → List (S31) → List ByteArray → Int → Int → ByteArray → ByteArray → List Int → List ByteArray → Option ((List (S31)) × Bool)
 | 0, _, _, _, _, _, _, _, _ => none
 | k + 1, x4, x17, x18, x19, x482000, x482001, x482002, x482003 => if x19 < x18 then (if 0 ≤ x19 then (if x19 < (x17.length : Int) then (if ((rdOf ByteArray.empty x17 x19).size : Int) ≤ 140737488351232 then ((impl_Unpacked.f k (bytesOf (rdOf ByteArray.empty x17 x19))).bind fun bt490 => (if bt490.2 = true then ((impl_within.f (bt490.1.length : Int) 1 8).bind fun t494 => (if t494 = true then (if x4.length + bt490.1.length < 2932031007402 then (impl_entries.l0 k (x4 ++ bt490.1) x17 x18 (wrap64 (x19 + 1)) x482000 x482001 x482002 x482003) else (none)) else (some (([] : List (S31)), false)))) else (some (([] : List (S31)), false)))) else (none)) else (none)) else (none)) else ((impl_EntriesOk.f k x4).bind fun t498 => (if t498 = true then ((impl_built.f k x4).bind fun bt499 => (if x482000.toList = bt499.1.toList then (if x482001.toList = bt499.2.1.toList then ((slices_Equal_int64.f k x482002 bt499.2.2.1).bind fun t508 => (some (x4, t508))) else (some (x4, false))) else (some (x4, false)))) else (some (([] : List (S31)), false))))
def impl_entries.f (k : Nat) (a0_0 : ByteArray) (a0_1 : ByteArray) (l0_2 : List Int) (l0_3 : List ByteArray) : Option ((List (S31)) × Bool) := (impl_within.f (l0_3.length : Int) 1 40).bind fun t482 => (if t482 = true then (impl_entries.l0 k (([] : List (S31))) l0_3 (l0_3.length : Int) 0 a0_0 a0_1 l0_2 l0_3) else (some (([] : List (S31)), false)))
set_option maxHeartbeats 8000000 in
set_option maxRecDepth 100000 in
theorem impl_entries.calls (k : Nat) (a0_0 : ByteArray) (a0_1 : ByteArray) (A0_2 : Option Addr) (c0_2 : Nat) (l0_2 : List Int) (A0_3 : Option Addr) (c0_3 : Nat) (l0_3 : List ByteArray) (r1 : List (S31)) (r2 : Bool) (w : World) (hr0_2 : Kd.C (Kd.int .i64) w A0_2 l0_2.length l0_2) (hc0_2 : l0_2.length ≤ c0_2) (hr0_3 : Kd.C Kd.string w A0_3 l0_3.length l0_3) (hc0_3 : l0_3.length ≤ c0_3) (h : impl_entries.f k a0_0 a0_1 l0_2 l0_3 = some (r1, r2)) :
  Calls Try.prog 88 #[.agg #[.string a0_0, .string a0_1, .slice A0_2 l0_2.length c0_2, .slice A0_3 l0_3.length c0_3]] w fun e w' => ∃ v0_ : Value, e = .returned (.tuple #[v0_, .bool r2]) ∧ Kd.R k31 31 w' w.heap.size (fun _ => True) v0_ r1 ∧ Below w.heap.size w w' := by
 have hu57 := Try.underlying57
 have HR0_2 := A_ hr0_2
 have HC0_2 := A_ hc0_2
 clear hr0_2 hc0_2
 have HR0_3 := A_ hr0_3
 have HC0_3 := A_ hc0_3
 clear hr0_3 hc0_3
 have HB := A_ (Below.refl w.heap.size w)
 have H : ((impl_within.f (l0_3.length : Int) 1 40).bind fun t482 => (if t482 = true then (impl_entries.l0 k (([] : List (S31))) l0_3 (l0_3.length : Int) 0 a0_0 a0_1 l0_2 l0_3) else (some (([] : List (S31)), false)))) = some (r1, r2) := h
 clear h
 replace H := Option.bind_eq_some_iff.mp H
 obtain ⟨t482, A20, H⟩ := H
 (try dsimp only at H)
 have A2 := A_ A20
 clear A20
 by_cases c3 : t482 = true
 {
 subst c3
 rw [if_pos rfl] at H
 obtain ⟨y483, hy483⟩ : ∃ y_ : List (S31), y_ = (([] : List (S31))) := ⟨_, rfl⟩
 replace H : (impl_entries.l0 k y483 l0_3 (l0_3.length : Int) 0 a0_0 a0_1 l0_2 l0_3) = some (r1, r2) := by first | (rw [hy483]; with_reducible exact H) | (have H2_ := (Option.bind_some _ _).symm.trans H; rw [hy483]; with_reducible exact H2_) | (have H2_ := (Option.bind_some _ _).symm.trans H; with_reducible exact H2_) | with_reducible exact H | (rw [hy483]; exact H) | exact H
 have Ny483 := A_ hy483
 clear hy483
 have H' := A_ H
 clear H
 go_enter Try.func88, Try.ntmps88
 go_wp2_with (first | ((with_reducible refine gate_dst (N := 1) rfl ?_); (try (refine gate_guard (by rfl) ?_; dsimp only)); refine box_event ?hg (N := 1) ?hd (cs := #[.string a0_0, .string a0_1, .slice A0_2 l0_2.length c0_2, .slice A0_3 l0_3.length c0_3]) (t := 57) ?hr ?_; (case hd => rfl); (case hg => rfl); (case hr => first | (go_simp; done) | (go_simp; rfl)); intro gb481 hg w4 hbox hb; have n0_ := A_ (below_step z88f hb); have n1_ := A_ (hbox); have n2_ := A_ ((by rw [hg]; exact (below_size z88f) : w.heap.size ≤ gb481)); have n3_ := A_ ((by rw [hg]; exact (below_size z88f) : w.heap.size ≤ gb481)); clear HB; have HB := n0_; have BK481 := n1_; have GW481 := n2_; have GE481 := n3_; clear n0_ n1_ n2_ n3_; clear hb hbox hg; have hcz5_0 : w4.cell? ⟨gb481, 0, none⟩ = some (.string a0_0) := (blk_cell BK481.out 0).trans rfl; have hcz5_1 : w4.cell? ⟨gb481, 1, none⟩ = some (.string a0_1) := (blk_cell BK481.out 1).trans rfl; have hcz5_2 : w4.cell? ⟨gb481, 2, none⟩ = some (.slice A0_2 l0_2.length c0_2) := (blk_cell BK481.out 2).trans rfl; have hcz5_3 : w4.cell? ⟨gb481, 3, none⟩ = some (.slice A0_3 l0_3.length c0_3) := (blk_cell BK481.out 3).trans rfl; have hfz5_0 := blk_frozen BK481.out 0; have hfz5_1 := blk_frozen BK481.out 1; have hfz5_2 := blk_frozen BK481.out 2; have hfz5_3 := blk_frozen BK481.out 3) | ((with_reducible refine gate_callee (f := 96) rfl ?_); refine goesL_ (some 13) rfl rfl Try.func96 (by kernel_rfl) rfl #[.int .i64 (l0_3.length : Int), .int .i64 1, .int .i64 40] rfl z88d ?_; (with_reducible refine (impl_within.calls (l0_3.length : Int) 1 40 true _ A2.out).mono ?_); rintro e w' ⟨rfl, ⟨nd, rfl⟩⟩; refine ⟨_, rfl, ?_⟩) | ((with_reducible refine gate_dst (N := 15) rfl ?_); (try (refine gate_guard (by rfl) ?_; dsimp only)); refine Kd.R_lit k31 _ 31 ?hg (N := 15) ?hd (xs := ([] : List (S31))) (inner := []) (ok := fun _ => True) (okp := fun _ => True) ?hr ?hp (fun _ hk => hk) trivial (Below.refl _ _) (Nat.le_refl _) (by simp) ?_; (case hd => rfl); (case hg => rfl); (case hr => first | (go_simp; done) | (go_simp; rfl)); (case hp => exact (Reps.none _ _)); intro v484 w6 ho7 hb hg_ hnew_; clear hg_ hnew_; (first | rw [← Ny483.out] at ho7 | (simp only [Int.reduceToNat] at ho7; rw [← Ny483.out] at ho7)); have n0_ := A_ (Kd.R_lower ho7 (below_size z88a)); have n1_ := A_ (blk_below (g := gb481) (o := .cells #[.string a0_0, .string a0_1, .slice A0_2 l0_2.length c0_2, .slice A0_3 l0_3.length c0_3] 57 (0, 0)) z88b hb); have n2_ := A_ (below_step z88a hb); clear BK481; clear HB; have HO485 := n0_; have BK481 := n1_; have HB := n2_; clear n0_ n1_ n2_; clear hb ho7; have hcz8_0 : w6.cell? ⟨gb481, 0, none⟩ = some (.string a0_0) := (blk_cell BK481.out 0).trans rfl; have hcz8_1 : w6.cell? ⟨gb481, 1, none⟩ = some (.string a0_1) := (blk_cell BK481.out 1).trans rfl; have hcz8_2 : w6.cell? ⟨gb481, 2, none⟩ = some (.slice A0_2 l0_2.length c0_2) := (blk_cell BK481.out 2).trans rfl; have hcz8_3 : w6.cell? ⟨gb481, 3, none⟩ = some (.slice A0_3 l0_3.length c0_3) := (blk_cell BK481.out 3).trans rfl; have hfz8_0 := blk_frozen BK481.out 0; have hfz8_1 := blk_frozen BK481.out 1; have hfz8_2 := blk_frozen BK481.out 2; have hfz8_3 := blk_frozen BK481.out 3))
 go_loopg [4, 19] k (fun kq v4 v19 w' => ∃ (x4_1 : List (S31)) (x19_1 : Int), v19 = .int .i64 x19_1 ∧ Aside0 (impl_entries.l0 kq x4_1 l0_3 (l0_3.length : Int) x19_1 a0_0 a0_1 l0_2 l0_3 = some (r1, r2)) ∧ Aside0 (kq ≤ k) ∧ Aside0 (Kd.R k31 31 w' w.heap.size (fun _ => True) v4 x4_1) ∧ Aside0 (w'.heap[gb481]? = some (.cells #[.string a0_0, .string a0_1, (.slice A0_2 l0_2.length c0_2), (.slice A0_3 l0_3.length c0_3)] 57 (0, 0))) ∧ Aside0 (Below w.heap.size w w'))
 case atStart => exact ⟨(y483), (0), (by first | rfl | (simp; done) | (simp [*]; done)), H', ⟨Nat.le_refl _⟩, ⟨by (with_reducible repeat (first | apply Kd.R_alloc | apply Kd.R_drewN | apply Kd.R_drew)); exact HO485.out⟩, ⟨by (with_reducible repeat (first | refine blk_drewN ?_ _ | refine blk_drew ?_ | refine blk_alloc ?_ _)); exact BK481.out⟩, ⟨by repeat (first | (with_reducible first | exact HB.out | apply below_alloc | apply pw_below_drewN | apply below_drew1 | refine below_set ?_ GE481.out) | exact HB.out)⟩⟩
 case round =>
  clear H'
  try clear p2
  try clear c3
  try clear c8
  try clear hcz5_0
  try clear hcz5_1
  try clear hcz5_2
  try clear hcz5_3
  try clear hcz8_0
  try clear hcz8_1
  try clear hcz8_2
  try clear hcz8_3
  try clear hfz5_0
  try clear hfz5_1
  try clear hfz5_2
  try clear hfz5_3
  try clear hfz8_0
  try clear hfz8_1
  try clear hfz8_2
  try clear hfz8_3
  obtain ⟨x4_1, x19_1, rfl, HA, HK1, HO_4, BK481, HB⟩ := hrel
  cases gk with
  | zero => exact absurd HA.out (by simp [impl_entries.l0])
  | succ k1 =>
   have H := HA.out
   clear HA
   simp only [impl_entries.l0] at H
   by_cases c9 : x19_1 < (l0_3.length : Int)
   {
   rw [if_pos c9] at H
   have c9b0 : decide (x19_1 < (l0_3.length : Int)) = true := decide_eq_true c9
   clear c9
   by_cases c10 : 0 ≤ x19_1
   {
   rw [if_pos c10] at H
   have c10b0 : decide (0 ≤ x19_1) = true := decide_eq_true c10
   clear c10
   by_cases c11 : x19_1 < (l0_3.length : Int)
   {
   rw [if_pos c11] at H
   have c11b0 : decide (x19_1 < (l0_3.length : Int)) = true := decide_eq_true c11
   clear c11
   by_cases c12 : ((rdOf ByteArray.empty l0_3 x19_1).size : Int) ≤ 140737488351232
   {
   rw [if_pos c12] at H
   have c12b0 := eq_true c12
   have c12b1 : decide (((rdOf ByteArray.empty l0_3 x19_1).size : Int) ≤ 140737488351232) = true := decide_eq_true c12
   clear c12
   obtain ⟨y487, hy487⟩ : ∃ y_ : List Int, y_ = (bytesOf (rdOf ByteArray.empty l0_3 x19_1)) := ⟨_, rfl⟩
   replace H : ((impl_Unpacked.f k1 y487).bind fun bt490 => (if bt490.2 = true then ((impl_within.f (bt490.1.length : Int) 1 8).bind fun t494 => (if t494 = true then (if x4_1.length + bt490.1.length < 2932031007402 then (impl_entries.l0 k1 (x4_1 ++ bt490.1) l0_3 (l0_3.length : Int) (wrap64 (x19_1 + 1)) a0_0 a0_1 l0_2 l0_3) else (none)) else (some (([] : List (S31)), false)))) else (some (([] : List (S31)), false)))) = some (r1, r2) := by first | (rw [hy487]; with_reducible exact H) | (have H2_ := (Option.bind_some _ _).symm.trans H; rw [hy487]; with_reducible exact H2_) | (have H2_ := (Option.bind_some _ _).symm.trans H; with_reducible exact H2_) | with_reducible exact H | (rw [hy487]; exact H) | exact H
   have Ny487 := A_ hy487
   clear hy487
   replace H := Option.bind_eq_some_iff.mp H
   obtain ⟨⟨t490, t491⟩, A130, H⟩ := H
   (try dsimp only at H)
   have A13 := A_ A130
   clear A130
   by_cases c14 : t491 = true
   {
   subst c14
   rw [if_pos rfl] at H
   replace H := Option.bind_eq_some_iff.mp H
   obtain ⟨t494, A150, H⟩ := H
   (try dsimp only at H)
   have A15 := A_ A150
   clear A150
   by_cases c16 : t494 = true
   {
   subst c16
   rw [if_pos rfl] at H
   by_cases c17 : x4_1.length + t490.length < 2932031007402
   {
   rw [if_pos c17] at H
   have LMc17 := A_ c17
   clear c17
   obtain ⟨y495, hy495⟩ : ∃ y_ : List (S31), y_ = (x4_1 ++ t490) := ⟨_, rfl⟩
   replace H : (impl_entries.l0 k1 y495 l0_3 (l0_3.length : Int) (wrap64 (x19_1 + 1)) a0_0 a0_1 l0_2 l0_3) = some (r1, r2) := by first | (rw [hy495]; with_reducible exact H) | (have H2_ := (Option.bind_some _ _).symm.trans H; rw [hy495]; with_reducible exact H2_) | (have H2_ := (Option.bind_some _ _).symm.trans H; with_reducible exact H2_) | with_reducible exact H | (rw [hy495]; exact H) | exact H
   have Ny495 := A_ hy495
   clear hy495
   have H' := A_ H
   clear H
   have p486 : 0 ≤ (x19_1 : Int) := of_decide_eq_true z88g
   have q486 : x19_1 < (l0_3.length : Int) := of_decide_eq_true z88g
   obtain ⟨ad486, e486, hx486_0⟩ := Kd.at_string HR0_3.out x19_1 p486 q486
   cases e486
   replace hx486_0 := (HB.out.cell (World.block_lt_of_cell? w _ hx486_0)).trans hx486_0
   replace p486 := eq_true p486
   replace q486 := eq_true q486
   go_wp2_with (first | ((with_reducible refine gate_dst (N := 25) rfl ?_); (try (refine gate_guard (by rfl) ?_; dsimp only)); refine Go.Proofs.Ytaiggfjkikfcbaa.Lib.R_conv _ 5 rfl (N := 25) rfl 9 36 (.tmp 24) rfl Try.underlying9 Try.underlying36 Try.underlying5 (rdOf ByteArray.empty l0_3 x19_1) rfl (ok := fun _ => True) (okp := fun _ => True) (fun _ hk => hk) trivial (of_decide_eq_true z88g) (Below.refl _ _) (Nat.le_refl _) ?_; intro v488 w18 ho19 hb hg_ hnew_; clear hg_ hnew_; (first | rw [← Ny487.out] at ho19 | (simp only [Int.reduceToNat] at ho19; rw [← Ny487.out] at ho19)); have n0_ := A_ (Kd.R_below z88c hb); have n1_ := A_ (Kd.R_lower ho19 (below_size z88a)); have n2_ := A_ (blk_below (g := gb481) (o := .cells #[.string a0_0, .string a0_1, .slice A0_2 l0_2.length c0_2, .slice (some ad486) l0_3.length c0_3] 57 (0, 0)) z88b hb); have n3_ := A_ (below_step z88a hb); clear HO_4; clear BK481; clear HB; have HO_4 := n0_; have HO489 := n1_; have BK481 := n2_; have HB := n3_; clear n0_ n1_ n2_ n3_; clear hb ho19; obtain ⟨Ao20, co20, eo20⟩ := Kd.R_slice HO489.out; subst eo20) | ((with_reducible refine gate_callee (f := 118) rfl ?_); refine goesL_ (some 26) rfl rfl Try.func118 (by kernel_rfl) rfl #[.slice Ao20 y487.length co20] rfl z88d ?_; (with_reducible refine (impl_Unpacked.calls k1 _ _ y487 t490 true _ ?side1 ?side2 A13.out).mono ?_); (case side1 => exact (by repeat (first | exact (Kd.R_reads' HO489.out).2.2 | (with_reducible refine Kd.C_alloc ?_ _) | (with_reducible refine Kd.C_drewN ?_ _) | (with_reducible refine Kd.C_drew ?_)))); (case side2 => exact (Kd.R_reads' HO489.out).2.1); rintro e w21 ⟨v492, rfl, ho0, hb⟩; refine ⟨_, rfl, ?_⟩; have n0_ := A_ (Kd.R_elder' z88c (Kd.R_base ho0) hb); have n1_ := A_ (Kd.R_below (by (with_reducible repeat (first | apply Kd.R_alloc | apply Kd.R_drewN | apply Kd.R_drew)); exact HO489.out) hb); have n2_ := A_ (Kd.R_lower (Kd.R_new' ho0 (Kd.R_lt z88c)) (below_size z88a)); have n3_ := A_ (blk_below (g := gb481) (o := .cells #[.string a0_0, .string a0_1, .slice A0_2 l0_2.length c0_2, .slice (some ad486) l0_3.length c0_3] 57 (0, 0)) z88b hb); have n4_ := A_ (below_step z88a hb); clear HO_4; clear HO489; clear BK481; clear HB; have HO_4 := n0_; have HO489 := n1_; have HO493 := n2_; have BK481 := n3_; have HB := n4_; clear n0_ n1_ n2_ n3_ n4_; obtain ⟨Ao22, co22, eo22⟩ := Kd.R_slice HO493.out; subst eo22) | (go_at_call 96; (with_reducible refine (impl_within.calls (t490.length : Int) 1 8 true _ A15.out).mono ?_); rintro e w' ⟨rfl, ⟨nd, rfl⟩⟩) | ((with_reducible refine gate_builtin (b := .append) (xs := #[.tmp 37, .tmp 38]) rfl ?_); (try (refine gate_guard (by rfl) ?_; dsimp only)); at_builtin; refine Kd.R_append_rows k31 (w0 := w) w.heap.size rfl (.tmp 37) (.tmp 38) 27 31 (.agg #[(.string ⟨#[]⟩), (.string ⟨#[]⟩), (.int .i64 0), (.bool false)]) 48 rfl Try.underlying27 info31 rfl (by decide) (by omega) u4 x4_1 t490 _ _ _ (fun k_ => some k_ ≠ (.slice Ao22 t490.length co22 : Value).ownBlock) (fun _ => False) rfl rfl ?aO ?aR (fun _ _ h => h) (fun _ h => h.elim) ?aF ?aB ?aS ?aL ?_; (case aR => exact (by repeat (first | exact (Kd.R_reads' HO493.out).2.2 | (with_reducible refine Kd.C_alloc ?_ _) | (with_reducible refine Kd.C_drewN ?_ _) | (with_reducible refine Kd.C_drew ?_)))); (case aB => exact z88a); (case aF => exact (fun k_ hk => Kd.fresh' (Kd.R_lt (by (with_reducible repeat (first | apply Kd.R_alloc | apply Kd.R_drewN | apply Kd.R_drew)); exact HO493.out)) k_ hk)); (case aO => exact (by (with_reducible repeat (first | apply Kd.R_alloc | apply Kd.R_drewN | apply Kd.R_drew)); exact Kd.R_mono HO_4.out (fun _ hk => hk.2))); (case aS => exact (below_size z88a)); (case aL => have := LMc17.out; omega); intro v496 w23 ho hb hg hat; rw [← Ny495.out] at ho; have n0_ := A_ (blk_grown (g := gb481) (o := .cells #[.string a0_0, .string a0_1, .slice A0_2 l0_2.length c0_2, .slice (some ad486) l0_3.length c0_3] 57 (0, 0)) z88b hg (Kd.R_ne HO_4.out BK481.out (by decide))); have n1_ := A_ (Kd.R_over' (by (with_reducible repeat (first | apply Kd.R_alloc | apply Kd.R_drewN | apply Kd.R_drew)); exact HO489.out) (Kd.R_typed z88c) (by decide) hg); have n2_ := A_ (Kd.R_after (ok := (fun _ => True)) (by (with_reducible repeat (first | apply Kd.R_alloc | apply Kd.R_drewN | apply Kd.R_drew)); exact HO493.out) hg hat); have n3_ := A_ (hb); have n4_ := A_ (ho); clear BK481; clear HO489; clear HO493; clear HB; clear HO_4; have BK481 := n0_; have HO489 := n1_; have HO493 := n2_; have HB := n3_; have HO497 := n4_; clear n0_ n1_ n2_ n3_ n4_; clear ho hb hg hat))
   go_roundg k1
   case measure => have := HK1.out; omega
   case rel => exact ⟨(y495), (wrap64 (x19_1 + 1)), (by first | rfl | (simp; done) | (simp [*]; done)), H', ⟨by have := HK1.out; omega⟩, ⟨by (with_reducible repeat (first | apply Kd.R_alloc | apply Kd.R_drewN | apply Kd.R_drew)); exact Kd.R_mono HO497.out (fun _ hk => trivial)⟩, ⟨by (with_reducible repeat (first | refine blk_drewN ?_ _ | refine blk_drew ?_ | refine blk_alloc ?_ _)); exact BK481.out⟩, ⟨by repeat (first | (with_reducible first | exact HB.out | apply below_alloc | apply pw_below_drewN | apply below_drew1 | refine below_set ?_ GE481.out) | exact HB.out)⟩⟩
   }
   {
   rw [if_neg c17] at H
   exact absurd H (by simp)
   }
   }
   {
   replace c16 := Bool.eq_false_iff.mpr c16
   subst c16
   rw [if_neg Bool.false_ne_true] at H
   simp only [Option.some.injEq, Prod.mk.injEq] at H
   obtain ⟨rfl, rfl⟩ := H
   have p486 : 0 ≤ (x19_1 : Int) := of_decide_eq_true z88g
   have q486 : x19_1 < (l0_3.length : Int) := of_decide_eq_true z88g
   obtain ⟨ad486, e486, hx486_0⟩ := Kd.at_string HR0_3.out x19_1 p486 q486
   cases e486
   replace hx486_0 := (HB.out.cell (World.block_lt_of_cell? w _ hx486_0)).trans hx486_0
   replace p486 := eq_true p486
   replace q486 := eq_true q486
   go_wp2_with (first | ((with_reducible refine gate_dst (N := 25) rfl ?_); (try (refine gate_guard (by rfl) ?_; dsimp only)); refine Go.Proofs.Ytaiggfjkikfcbaa.Lib.R_conv _ 5 rfl (N := 25) rfl 9 36 (.tmp 24) rfl Try.underlying9 Try.underlying36 Try.underlying5 (rdOf ByteArray.empty l0_3 x19_1) rfl (ok := fun _ => True) (okp := fun _ => True) (fun _ hk => hk) trivial (of_decide_eq_true z88g) (Below.refl _ _) (Nat.le_refl _) ?_; intro v488 w24 ho25 hb hg_ hnew_; clear hg_ hnew_; (first | rw [← Ny487.out] at ho25 | (simp only [Int.reduceToNat] at ho25; rw [← Ny487.out] at ho25)); have n0_ := A_ (Kd.R_below z88c hb); have n1_ := A_ (Kd.R_lower ho25 (below_size z88a)); have n2_ := A_ (blk_below (g := gb481) (o := .cells #[.string a0_0, .string a0_1, .slice A0_2 l0_2.length c0_2, .slice (some ad486) l0_3.length c0_3] 57 (0, 0)) z88b hb); have n3_ := A_ (below_step z88a hb); clear HO_4; clear BK481; clear HB; have HO_4 := n0_; have HO489 := n1_; have BK481 := n2_; have HB := n3_; clear n0_ n1_ n2_ n3_; clear hb ho25; obtain ⟨Ao26, co26, eo26⟩ := Kd.R_slice HO489.out; subst eo26) | ((with_reducible refine gate_callee (f := 118) rfl ?_); refine goesL_ (some 26) rfl rfl Try.func118 (by kernel_rfl) rfl #[.slice Ao26 y487.length co26] rfl z88d ?_; (with_reducible refine (impl_Unpacked.calls k1 _ _ y487 t490 true _ ?side1 ?side2 A13.out).mono ?_); (case side1 => exact (by repeat (first | exact (Kd.R_reads' HO489.out).2.2 | (with_reducible refine Kd.C_alloc ?_ _) | (with_reducible refine Kd.C_drewN ?_ _) | (with_reducible refine Kd.C_drew ?_)))); (case side2 => exact (Kd.R_reads' HO489.out).2.1); rintro e w27 ⟨v492, rfl, ho0, hb⟩; refine ⟨_, rfl, ?_⟩; have n0_ := A_ (Kd.R_elder' z88c (Kd.R_base ho0) hb); have n1_ := A_ (Kd.R_below (by (with_reducible repeat (first | apply Kd.R_alloc | apply Kd.R_drewN | apply Kd.R_drew)); exact HO489.out) hb); have n2_ := A_ (Kd.R_lower (Kd.R_new' ho0 (Kd.R_lt z88c)) (below_size z88a)); have n3_ := A_ (blk_below (g := gb481) (o := .cells #[.string a0_0, .string a0_1, .slice A0_2 l0_2.length c0_2, .slice (some ad486) l0_3.length c0_3] 57 (0, 0)) z88b hb); have n4_ := A_ (below_step z88a hb); clear HO_4; clear HO489; clear BK481; clear HB; have HO_4 := n0_; have HO489 := n1_; have HO493 := n2_; have BK481 := n3_; have HB := n4_; clear n0_ n1_ n2_ n3_ n4_; obtain ⟨Ao28, co28, eo28⟩ := Kd.R_slice HO493.out; subst eo28) | (go_at_call 96; (with_reducible refine (impl_within.calls (t490.length : Int) 1 8 false _ A15.out).mono ?_); rintro e w' ⟨rfl, ⟨nd, rfl⟩⟩))
   go_ret2
   exact ⟨_, by first | rfl | (simp [errW_none, errW_some] <;> rfl) | (simp [*, errW_none, errW_some] <;> rfl), by first | exact Kd.R_nil _ _ _ _ _ | exact Kd.N_nil _ _ _ _ _ | exact Kd.V_nil _ _ _ _ _ | exact Kd.Q_nil _ _ _ _ _ | exact Kd.S_nil _ _ _ _ _, by repeat (first | (with_reducible first | exact HB.out | apply below_alloc | apply pw_below_drewN | apply below_drew1 | refine below_set ?_ GE481.out) | exact HB.out)⟩
   }
   }
   {
   replace c14 := Bool.eq_false_iff.mpr c14
   subst c14
   rw [if_neg Bool.false_ne_true] at H
   simp only [Option.some.injEq, Prod.mk.injEq] at H
   obtain ⟨rfl, rfl⟩ := H
   have p486 : 0 ≤ (x19_1 : Int) := of_decide_eq_true z88g
   have q486 : x19_1 < (l0_3.length : Int) := of_decide_eq_true z88g
   obtain ⟨ad486, e486, hx486_0⟩ := Kd.at_string HR0_3.out x19_1 p486 q486
   cases e486
   replace hx486_0 := (HB.out.cell (World.block_lt_of_cell? w _ hx486_0)).trans hx486_0
   replace p486 := eq_true p486
   replace q486 := eq_true q486
   go_wp2_with (first | ((with_reducible refine gate_dst (N := 25) rfl ?_); (try (refine gate_guard (by rfl) ?_; dsimp only)); refine Go.Proofs.Ytaiggfjkikfcbaa.Lib.R_conv _ 5 rfl (N := 25) rfl 9 36 (.tmp 24) rfl Try.underlying9 Try.underlying36 Try.underlying5 (rdOf ByteArray.empty l0_3 x19_1) rfl (ok := fun _ => True) (okp := fun _ => True) (fun _ hk => hk) trivial (of_decide_eq_true z88g) (Below.refl _ _) (Nat.le_refl _) ?_; intro v488 w29 ho30 hb hg_ hnew_; clear hg_ hnew_; (first | rw [← Ny487.out] at ho30 | (simp only [Int.reduceToNat] at ho30; rw [← Ny487.out] at ho30)); have n0_ := A_ (Kd.R_below z88c hb); have n1_ := A_ (Kd.R_lower ho30 (below_size z88a)); have n2_ := A_ (blk_below (g := gb481) (o := .cells #[.string a0_0, .string a0_1, .slice A0_2 l0_2.length c0_2, .slice (some ad486) l0_3.length c0_3] 57 (0, 0)) z88b hb); have n3_ := A_ (below_step z88a hb); clear HO_4; clear BK481; clear HB; have HO_4 := n0_; have HO489 := n1_; have BK481 := n2_; have HB := n3_; clear n0_ n1_ n2_ n3_; clear hb ho30; obtain ⟨Ao31, co31, eo31⟩ := Kd.R_slice HO489.out; subst eo31) | ((with_reducible refine gate_callee (f := 118) rfl ?_); refine goesL_ (some 26) rfl rfl Try.func118 (by kernel_rfl) rfl #[.slice Ao31 y487.length co31] rfl z88d ?_; (with_reducible refine (impl_Unpacked.calls k1 _ _ y487 t490 false _ ?side1 ?side2 A13.out).mono ?_); (case side1 => exact (by repeat (first | exact (Kd.R_reads' HO489.out).2.2 | (with_reducible refine Kd.C_alloc ?_ _) | (with_reducible refine Kd.C_drewN ?_ _) | (with_reducible refine Kd.C_drew ?_)))); (case side2 => exact (Kd.R_reads' HO489.out).2.1); rintro e w32 ⟨v492, rfl, ho0, hb⟩; refine ⟨_, rfl, ?_⟩; have n0_ := A_ (Kd.R_elder' z88c (Kd.R_base ho0) hb); have n1_ := A_ (Kd.R_below (by (with_reducible repeat (first | apply Kd.R_alloc | apply Kd.R_drewN | apply Kd.R_drew)); exact HO489.out) hb); have n2_ := A_ (Kd.R_lower (Kd.R_new' ho0 (Kd.R_lt z88c)) (below_size z88a)); have n3_ := A_ (blk_below (g := gb481) (o := .cells #[.string a0_0, .string a0_1, .slice A0_2 l0_2.length c0_2, .slice (some ad486) l0_3.length c0_3] 57 (0, 0)) z88b hb); have n4_ := A_ (below_step z88a hb); clear HO_4; clear HO489; clear BK481; clear HB; have HO_4 := n0_; have HO489 := n1_; have HO493 := n2_; have BK481 := n3_; have HB := n4_; clear n0_ n1_ n2_ n3_ n4_))
   go_ret2
   exact ⟨_, by first | rfl | (simp [errW_none, errW_some] <;> rfl) | (simp [*, errW_none, errW_some] <;> rfl), by first | exact Kd.R_nil _ _ _ _ _ | exact Kd.N_nil _ _ _ _ _ | exact Kd.V_nil _ _ _ _ _ | exact Kd.Q_nil _ _ _ _ _ | exact Kd.S_nil _ _ _ _ _, by repeat (first | (with_reducible first | exact HB.out | apply below_alloc | apply pw_below_drewN | apply below_drew1 | refine below_set ?_ GE481.out) | exact HB.out)⟩
   }
   }
   {
   rw [if_neg c12] at H
   exact absurd H (by simp)
   }
   }
   {
   rw [if_neg c11] at H
   exact absurd H (by simp)
   }
   }
   {
   rw [if_neg c10] at H
   exact absurd H (by simp)
   }
   }
   {
   rw [if_neg c9] at H
   have c9b0 : decide (x19_1 < (l0_3.length : Int)) = false := decide_eq_false c9
   clear c9
   replace H := Option.bind_eq_some_iff.mp H
   obtain ⟨t498, A330, H⟩ := H
   (try dsimp only at H)
   have A33 := A_ A330
   clear A330
   by_cases c34 : t498 = true
   {
   subst c34
   rw [if_pos rfl] at H
   replace H := Option.bind_eq_some_iff.mp H
   obtain ⟨⟨t499, t500, t501, t504⟩, A350, H⟩ := H
   (try dsimp only at H)
   have A35 := A_ A350
   clear A350
   by_cases c36 : a0_0.toList = t499.toList
   {
   rw [if_pos c36] at H
   have c36b0 : (a0_0.toList == t499.toList) = true := beq_iff_eq.mpr c36
   have c36b1 : (a0_0.toList != t499.toList) = false := bne_eq_false_iff_eq.mpr c36
   clear c36
   by_cases c37 : a0_1.toList = t500.toList
   {
   rw [if_pos c37] at H
   have c37b0 : (a0_1.toList == t500.toList) = true := beq_iff_eq.mpr c37
   have c37b1 : (a0_1.toList != t500.toList) = false := bne_eq_false_iff_eq.mpr c37
   clear c37
   replace H := Option.bind_eq_some_iff.mp H
   obtain ⟨t508, A380, H⟩ := H
   (try dsimp only at H)
   have A38 := A_ A380
   clear A380
   simp only [Option.some.injEq, Prod.mk.injEq] at H
   obtain ⟨rfl, rfl⟩ := H
   obtain ⟨Ao39, co39, eo39⟩ := Kd.R_slice HO_4.out
   subst eo39
   go_wp2_with (first | ((with_reducible refine gate_callee (f := 26) rfl ?_); refine goesL_ (some 42) rfl rfl Try.func26 (by kernel_rfl) rfl #[.slice Ao39 x4_1.length co39] rfl z88d ?_; (with_reducible refine (impl_EntriesOk.calls k1 _ _ x4_1 true _ ?side1 ?side2 A33.out).mono ?_); (case side1 => exact z88e); (case side2 => exact (Kd.R_reads' HO_4.out).2.1); rintro e w40 ⟨rfl, hb⟩; refine ⟨_, rfl, ?_⟩; replace HO_4 := A_ (Kd.R_below z88c hb); replace BK481 := A_ (blk_below (g := gb481) (o := .cells #[.string a0_0, .string a0_1, .slice A0_2 l0_2.length c0_2, .slice A0_3 l0_3.length c0_3] 57 (0, 0)) z88b hb); replace HB := A_ (below_step z88a hb)) | ((with_reducible refine gate_callee (f := 74) rfl ?_); refine goesL_ (some 45) rfl rfl Try.func74 (by kernel_rfl) rfl #[.slice Ao39 x4_1.length co39] rfl z88d ?_; (with_reducible refine (impl_built.calls k1 _ _ x4_1 t499 t500 t501 t504 _ ?side1 ?side2 A35.out).mono ?_); (case side1 => exact z88e); (case side2 => exact (Kd.R_reads' HO_4.out).2.1); rintro e w41 ⟨v502, v505, rfl, ho0, ho1, hb⟩; refine ⟨_, rfl, ?_⟩; have n0_ := A_ (Kd.R_below z88c hb); have n1_ := A_ (Kd.R_lower ho0 (below_size z88a)); have n2_ := A_ (Kd.R_lower ho1 (below_size z88a)); have n3_ := A_ (blk_below (g := gb481) (o := .cells #[.string a0_0, .string a0_1, .slice A0_2 l0_2.length c0_2, .slice A0_3 l0_3.length c0_3] 57 (0, 0)) z88b hb); have n4_ := A_ (below_step z88a hb); clear HO_4; clear BK481; clear HB; have HO_4 := n0_; have HO503 := n1_; have HO506 := n2_; have BK481 := n3_; have HB := n4_; clear n0_ n1_ n2_ n3_ n4_; (try clear ho1)) | ((with_reducible refine gate_dst (N := 9) rfl ?_); (try (refine gate_guard (by rfl) ?_; dsimp only)); refine box_event ?hg (N := 9) ?hd (cs := #[.string (⟨#[]⟩ : ByteArray), .string (⟨#[]⟩ : ByteArray), .slice none 0 0, .slice none 0 0]) (t := 57) ?hr ?_; (case hd => rfl); (case hg => rfl); (case hr => first | (go_simp; done) | (go_simp; rfl)); intro gb507 hg w42 hbox hb; have n0_ := A_ (Kd.R_below z88c hb); have n1_ := A_ (Kd.R_below (by (with_reducible repeat (first | apply Kd.R_alloc | apply Kd.R_drewN | apply Kd.R_drew)); exact HO503.out) hb); have n2_ := A_ (Kd.R_below (by (with_reducible repeat (first | apply Kd.R_alloc | apply Kd.R_drewN | apply Kd.R_drew)); exact HO506.out) hb); have n3_ := A_ (blk_below (g := gb481) (o := .cells #[.string a0_0, .string a0_1, .slice A0_2 l0_2.length c0_2, .slice A0_3 l0_3.length c0_3] 57 (0, 0)) z88b hb); have n4_ := A_ (below_step z88a hb); have n5_ := A_ (hbox); have n6_ := A_ ((by rw [hg]; exact (below_size z88a) : w.heap.size ≤ gb507)); have n7_ := A_ ((by rw [hg]; exact (below_size z88a) : w.heap.size ≤ gb507)); have n8_ := A_ ((by rw [hg]; exact Nat.ne_of_lt (blk_lt (g := gb481) (o := .cells #[.string a0_0, .string a0_1, .slice A0_2 l0_2.length c0_2, .slice A0_3 l0_3.length c0_3] 57 (0, 0)) z88b) : gb481 ≠ gb507)); have n9_ := A_ ((by rw [hg]; exact Nat.ne_of_gt (blk_lt (g := gb481) (o := .cells #[.string a0_0, .string a0_1, .slice A0_2 l0_2.length c0_2, .slice A0_3 l0_3.length c0_3] 57 (0, 0)) z88b) : gb507 ≠ gb481)); clear HO_4; clear HO503; clear HO506; clear BK481; clear HB; have HO_4 := n0_; have HO503 := n1_; have HO506 := n2_; have BK481 := n3_; have HB := n4_; have BK507 := n5_; have GW507 := n6_; have GE507 := n7_; have NB481_507 := n8_; have NB507_481 := n9_; clear n0_ n1_ n2_ n3_ n4_ n5_ n6_ n7_ n8_ n9_; clear hb hbox hg; have hnb43 := NB507_481.out; have hnc43 := NB481_507.out; have hcz44_0 : w42.cell? ⟨gb507, 0, none⟩ = some (.string (⟨#[]⟩ : ByteArray)) := (blk_cell BK507.out 0).trans rfl; have hcz44_1 : w42.cell? ⟨gb507, 1, none⟩ = some (.string (⟨#[]⟩ : ByteArray)) := (blk_cell BK507.out 1).trans rfl; have hcz44_2 : w42.cell? ⟨gb507, 2, none⟩ = some (.slice none 0 0) := (blk_cell BK507.out 2).trans rfl; have hcz44_3 : w42.cell? ⟨gb507, 3, none⟩ = some (.slice none 0 0) := (blk_cell BK507.out 3).trans rfl; have hfz44_0 := blk_frozen BK507.out 0; have hfz44_1 := blk_frozen BK507.out 1; have hfz44_2 := blk_frozen BK507.out 2; have hfz44_3 := blk_frozen BK507.out 3; obtain ⟨Ao45, co45, eo45⟩ := Kd.R_slice HO503.out; subst eo45; obtain ⟨Ao46, co46, eo46⟩ := Kd.R_slice HO506.out; subst eo46; have hcz47_0 : w42.cell? ⟨gb481, 0, none⟩ = some (.string a0_0) := (blk_cell BK481.out 0).trans rfl; have hcz47_1 : w42.cell? ⟨gb481, 1, none⟩ = some (.string a0_1) := (blk_cell BK481.out 1).trans rfl; have hcz47_2 : w42.cell? ⟨gb481, 2, none⟩ = some (.slice A0_2 l0_2.length c0_2) := (blk_cell BK481.out 2).trans rfl; have hcz47_3 : w42.cell? ⟨gb481, 3, none⟩ = some (.slice A0_3 l0_3.length c0_3) := (blk_cell BK481.out 3).trans rfl; have hfz47_0 := blk_frozen BK481.out 0; have hfz47_1 := blk_frozen BK481.out 1; have hfz47_2 := blk_frozen BK481.out 2; have hfz47_3 := blk_frozen BK481.out 3) | (go_at_call 119; (with_reducible refine (slices_Equal_int64.calls k1 _ _ l0_2 _ _ t501 t508 _ ?side1 ?side2 ?side3 ?side4 A38.out).mono ?_); (case side1 => exact Kd.C_below HR0_2.out (by repeat (first | (with_reducible first | exact HB.out | apply below_alloc | apply pw_below_drewN | apply below_drew1 | refine below_set ?_ GE481.out | refine below_set ?_ GE507.out) | exact HB.out))); (case side2 => exact HC0_2.out); (case side3 => refine (Kd.R_reads' (e := 2) (base := w.heap.size) (ok := fun k_ => True) (n := t501.length) (c := co45) ?_).2.2; exact (by (with_reducible repeat (first | apply Kd.R_alloc | apply Kd.R_drewN | apply Kd.R_drew)); exact (Kd.R_mono (Kd.R_far (p := ⟨gb507, 3, none⟩) (Kd.R_far (p := ⟨gb507, 2, none⟩) (Kd.R_far (p := ⟨gb507, 1, none⟩) (Kd.R_far (p := ⟨gb507, 0, none⟩) (Kd.R_types HO503.out BK507.out (by decide)) (fun _ hk => hk.2) (.string t499)) (fun _ hk => hk.2) (.string t500)) (fun _ hk => hk.2) (.slice Ao45 t501.length co45)) (fun _ hk => hk.2) (.slice Ao46 t504.length co46)) (fun _ h_ => h_.1)))); (case side4 => exact (Kd.R_reads' HO503.out).2.1); rintro e w' ⟨rfl, ⟨nd, rfl⟩⟩))
   go_ret2
   exact ⟨_, by first | rfl | (simp [errW_none, errW_some] <;> rfl) | (simp [*, errW_none, errW_some] <;> rfl), by (with_reducible repeat (first | apply Kd.R_alloc | apply Kd.R_drewN | apply Kd.R_drew)); exact Kd.R_mono (Kd.R_far (p := ⟨gb507, 3, none⟩) (Kd.R_far (p := ⟨gb507, 2, none⟩) (Kd.R_far (p := ⟨gb507, 1, none⟩) (Kd.R_far (p := ⟨gb507, 0, none⟩) (Kd.R_types HO_4.out BK507.out (by decide)) (fun _ hk => hk.2) (.string t499)) (fun _ hk => hk.2) (.string t500)) (fun _ hk => hk.2) (.slice Ao45 t501.length co45)) (fun _ hk => hk.2) (.slice Ao46 t504.length co46)) (fun _ hk => trivial), by repeat (first | (with_reducible first | exact HB.out | apply below_alloc | apply pw_below_drewN | apply below_drew1 | refine below_set ?_ GE481.out | refine below_set ?_ GE507.out) | exact HB.out)⟩
   }
   {
   rw [if_neg c37] at H
   have c37b0 : (a0_1.toList == t500.toList) = false := beq_eq_false_iff_ne.mpr c37
   have c37b1 : (a0_1.toList != t500.toList) = true := bne_iff_ne.mpr c37
   simp only [Option.some.injEq, Prod.mk.injEq] at H
   obtain ⟨rfl, rfl⟩ := H
   obtain ⟨Ao48, co48, eo48⟩ := Kd.R_slice HO_4.out
   subst eo48
   go_wp2_with (first | ((with_reducible refine gate_callee (f := 26) rfl ?_); refine goesL_ (some 42) rfl rfl Try.func26 (by kernel_rfl) rfl #[.slice Ao48 x4_1.length co48] rfl z88d ?_; (with_reducible refine (impl_EntriesOk.calls k1 _ _ x4_1 true _ ?side1 ?side2 A33.out).mono ?_); (case side1 => exact z88e); (case side2 => exact (Kd.R_reads' HO_4.out).2.1); rintro e w49 ⟨rfl, hb⟩; refine ⟨_, rfl, ?_⟩; replace HO_4 := A_ (Kd.R_below z88c hb); replace BK481 := A_ (blk_below (g := gb481) (o := .cells #[.string a0_0, .string a0_1, .slice A0_2 l0_2.length c0_2, .slice A0_3 l0_3.length c0_3] 57 (0, 0)) z88b hb); replace HB := A_ (below_step z88a hb)) | ((with_reducible refine gate_callee (f := 74) rfl ?_); refine goesL_ (some 45) rfl rfl Try.func74 (by kernel_rfl) rfl #[.slice Ao48 x4_1.length co48] rfl z88d ?_; (with_reducible refine (impl_built.calls k1 _ _ x4_1 t499 t500 t501 t504 _ ?side1 ?side2 A35.out).mono ?_); (case side1 => exact z88e); (case side2 => exact (Kd.R_reads' HO_4.out).2.1); rintro e w50 ⟨v502, v505, rfl, ho0, ho1, hb⟩; refine ⟨_, rfl, ?_⟩; have n0_ := A_ (Kd.R_below z88c hb); have n1_ := A_ (Kd.R_lower ho0 (below_size z88a)); have n2_ := A_ (Kd.R_lower ho1 (below_size z88a)); have n3_ := A_ (blk_below (g := gb481) (o := .cells #[.string a0_0, .string a0_1, .slice A0_2 l0_2.length c0_2, .slice A0_3 l0_3.length c0_3] 57 (0, 0)) z88b hb); have n4_ := A_ (below_step z88a hb); clear HO_4; clear BK481; clear HB; have HO_4 := n0_; have HO503 := n1_; have HO506 := n2_; have BK481 := n3_; have HB := n4_; clear n0_ n1_ n2_ n3_ n4_; (try clear ho1)) | ((with_reducible refine gate_dst (N := 9) rfl ?_); (try (refine gate_guard (by rfl) ?_; dsimp only)); refine box_event ?hg (N := 9) ?hd (cs := #[.string (⟨#[]⟩ : ByteArray), .string (⟨#[]⟩ : ByteArray), .slice none 0 0, .slice none 0 0]) (t := 57) ?hr ?_; (case hd => rfl); (case hg => rfl); (case hr => first | (go_simp; done) | (go_simp; rfl)); intro gb507 hg w51 hbox hb; have n0_ := A_ (Kd.R_below z88c hb); have n1_ := A_ (Kd.R_below (by (with_reducible repeat (first | apply Kd.R_alloc | apply Kd.R_drewN | apply Kd.R_drew)); exact HO503.out) hb); have n2_ := A_ (Kd.R_below (by (with_reducible repeat (first | apply Kd.R_alloc | apply Kd.R_drewN | apply Kd.R_drew)); exact HO506.out) hb); have n3_ := A_ (blk_below (g := gb481) (o := .cells #[.string a0_0, .string a0_1, .slice A0_2 l0_2.length c0_2, .slice A0_3 l0_3.length c0_3] 57 (0, 0)) z88b hb); have n4_ := A_ (below_step z88a hb); have n5_ := A_ (hbox); have n6_ := A_ ((by rw [hg]; exact (below_size z88a) : w.heap.size ≤ gb507)); have n7_ := A_ ((by rw [hg]; exact (below_size z88a) : w.heap.size ≤ gb507)); have n8_ := A_ ((by rw [hg]; exact Nat.ne_of_lt (blk_lt (g := gb481) (o := .cells #[.string a0_0, .string a0_1, .slice A0_2 l0_2.length c0_2, .slice A0_3 l0_3.length c0_3] 57 (0, 0)) z88b) : gb481 ≠ gb507)); have n9_ := A_ ((by rw [hg]; exact Nat.ne_of_gt (blk_lt (g := gb481) (o := .cells #[.string a0_0, .string a0_1, .slice A0_2 l0_2.length c0_2, .slice A0_3 l0_3.length c0_3] 57 (0, 0)) z88b) : gb507 ≠ gb481)); clear HO_4; clear HO503; clear HO506; clear BK481; clear HB; have HO_4 := n0_; have HO503 := n1_; have HO506 := n2_; have BK481 := n3_; have HB := n4_; have BK507 := n5_; have GW507 := n6_; have GE507 := n7_; have NB481_507 := n8_; have NB507_481 := n9_; clear n0_ n1_ n2_ n3_ n4_ n5_ n6_ n7_ n8_ n9_; clear hb hbox hg; have hnb52 := NB507_481.out; have hnc52 := NB481_507.out; have hcz53_0 : w51.cell? ⟨gb507, 0, none⟩ = some (.string (⟨#[]⟩ : ByteArray)) := (blk_cell BK507.out 0).trans rfl; have hcz53_1 : w51.cell? ⟨gb507, 1, none⟩ = some (.string (⟨#[]⟩ : ByteArray)) := (blk_cell BK507.out 1).trans rfl; have hcz53_2 : w51.cell? ⟨gb507, 2, none⟩ = some (.slice none 0 0) := (blk_cell BK507.out 2).trans rfl; have hcz53_3 : w51.cell? ⟨gb507, 3, none⟩ = some (.slice none 0 0) := (blk_cell BK507.out 3).trans rfl; have hfz53_0 := blk_frozen BK507.out 0; have hfz53_1 := blk_frozen BK507.out 1; have hfz53_2 := blk_frozen BK507.out 2; have hfz53_3 := blk_frozen BK507.out 3; obtain ⟨Ao54, co54, eo54⟩ := Kd.R_slice HO503.out; subst eo54; obtain ⟨Ao55, co55, eo55⟩ := Kd.R_slice HO506.out; subst eo55; have hcz56_0 : w51.cell? ⟨gb481, 0, none⟩ = some (.string a0_0) := (blk_cell BK481.out 0).trans rfl; have hcz56_1 : w51.cell? ⟨gb481, 1, none⟩ = some (.string a0_1) := (blk_cell BK481.out 1).trans rfl; have hcz56_2 : w51.cell? ⟨gb481, 2, none⟩ = some (.slice A0_2 l0_2.length c0_2) := (blk_cell BK481.out 2).trans rfl; have hcz56_3 : w51.cell? ⟨gb481, 3, none⟩ = some (.slice A0_3 l0_3.length c0_3) := (blk_cell BK481.out 3).trans rfl; have hfz56_0 := blk_frozen BK481.out 0; have hfz56_1 := blk_frozen BK481.out 1; have hfz56_2 := blk_frozen BK481.out 2; have hfz56_3 := blk_frozen BK481.out 3))
   go_ret2
   exact ⟨_, by first | rfl | (simp [errW_none, errW_some] <;> rfl) | (simp [*, errW_none, errW_some] <;> rfl), by (with_reducible repeat (first | apply Kd.R_alloc | apply Kd.R_drewN | apply Kd.R_drew)); exact Kd.R_mono (Kd.R_far (p := ⟨gb507, 3, none⟩) (Kd.R_far (p := ⟨gb507, 2, none⟩) (Kd.R_far (p := ⟨gb507, 1, none⟩) (Kd.R_far (p := ⟨gb507, 0, none⟩) (Kd.R_types HO_4.out BK507.out (by decide)) (fun _ hk => hk.2) (.string t499)) (fun _ hk => hk.2) (.string t500)) (fun _ hk => hk.2) (.slice Ao54 t501.length co54)) (fun _ hk => hk.2) (.slice Ao55 t504.length co55)) (fun _ hk => trivial), by repeat (first | (with_reducible first | exact HB.out | apply below_alloc | apply pw_below_drewN | apply below_drew1 | refine below_set ?_ GE481.out | refine below_set ?_ GE507.out) | exact HB.out)⟩
   }
   }
   {
   rw [if_neg c36] at H
   have c36b0 : (a0_0.toList == t499.toList) = false := beq_eq_false_iff_ne.mpr c36
   have c36b1 : (a0_0.toList != t499.toList) = true := bne_iff_ne.mpr c36
   simp only [Option.some.injEq, Prod.mk.injEq] at H
   obtain ⟨rfl, rfl⟩ := H
   obtain ⟨Ao57, co57, eo57⟩ := Kd.R_slice HO_4.out
   subst eo57
   go_wp2_with (first | ((with_reducible refine gate_callee (f := 26) rfl ?_); refine goesL_ (some 42) rfl rfl Try.func26 (by kernel_rfl) rfl #[.slice Ao57 x4_1.length co57] rfl z88d ?_; (with_reducible refine (impl_EntriesOk.calls k1 _ _ x4_1 true _ ?side1 ?side2 A33.out).mono ?_); (case side1 => exact z88e); (case side2 => exact (Kd.R_reads' HO_4.out).2.1); rintro e w58 ⟨rfl, hb⟩; refine ⟨_, rfl, ?_⟩; replace HO_4 := A_ (Kd.R_below z88c hb); replace BK481 := A_ (blk_below (g := gb481) (o := .cells #[.string a0_0, .string a0_1, .slice A0_2 l0_2.length c0_2, .slice A0_3 l0_3.length c0_3] 57 (0, 0)) z88b hb); replace HB := A_ (below_step z88a hb)) | ((with_reducible refine gate_callee (f := 74) rfl ?_); refine goesL_ (some 45) rfl rfl Try.func74 (by kernel_rfl) rfl #[.slice Ao57 x4_1.length co57] rfl z88d ?_; (with_reducible refine (impl_built.calls k1 _ _ x4_1 t499 t500 t501 t504 _ ?side1 ?side2 A35.out).mono ?_); (case side1 => exact z88e); (case side2 => exact (Kd.R_reads' HO_4.out).2.1); rintro e w59 ⟨v502, v505, rfl, ho0, ho1, hb⟩; refine ⟨_, rfl, ?_⟩; have n0_ := A_ (Kd.R_below z88c hb); have n1_ := A_ (Kd.R_lower ho0 (below_size z88a)); have n2_ := A_ (Kd.R_lower ho1 (below_size z88a)); have n3_ := A_ (blk_below (g := gb481) (o := .cells #[.string a0_0, .string a0_1, .slice A0_2 l0_2.length c0_2, .slice A0_3 l0_3.length c0_3] 57 (0, 0)) z88b hb); have n4_ := A_ (below_step z88a hb); clear HO_4; clear BK481; clear HB; have HO_4 := n0_; have HO503 := n1_; have HO506 := n2_; have BK481 := n3_; have HB := n4_; clear n0_ n1_ n2_ n3_ n4_; (try clear ho1)) | ((with_reducible refine gate_dst (N := 9) rfl ?_); (try (refine gate_guard (by rfl) ?_; dsimp only)); refine box_event ?hg (N := 9) ?hd (cs := #[.string (⟨#[]⟩ : ByteArray), .string (⟨#[]⟩ : ByteArray), .slice none 0 0, .slice none 0 0]) (t := 57) ?hr ?_; (case hd => rfl); (case hg => rfl); (case hr => first | (go_simp; done) | (go_simp; rfl)); intro gb507 hg w60 hbox hb; have n0_ := A_ (Kd.R_below z88c hb); have n1_ := A_ (Kd.R_below (by (with_reducible repeat (first | apply Kd.R_alloc | apply Kd.R_drewN | apply Kd.R_drew)); exact HO503.out) hb); have n2_ := A_ (Kd.R_below (by (with_reducible repeat (first | apply Kd.R_alloc | apply Kd.R_drewN | apply Kd.R_drew)); exact HO506.out) hb); have n3_ := A_ (blk_below (g := gb481) (o := .cells #[.string a0_0, .string a0_1, .slice A0_2 l0_2.length c0_2, .slice A0_3 l0_3.length c0_3] 57 (0, 0)) z88b hb); have n4_ := A_ (below_step z88a hb); have n5_ := A_ (hbox); have n6_ := A_ ((by rw [hg]; exact (below_size z88a) : w.heap.size ≤ gb507)); have n7_ := A_ ((by rw [hg]; exact (below_size z88a) : w.heap.size ≤ gb507)); have n8_ := A_ ((by rw [hg]; exact Nat.ne_of_lt (blk_lt (g := gb481) (o := .cells #[.string a0_0, .string a0_1, .slice A0_2 l0_2.length c0_2, .slice A0_3 l0_3.length c0_3] 57 (0, 0)) z88b) : gb481 ≠ gb507)); have n9_ := A_ ((by rw [hg]; exact Nat.ne_of_gt (blk_lt (g := gb481) (o := .cells #[.string a0_0, .string a0_1, .slice A0_2 l0_2.length c0_2, .slice A0_3 l0_3.length c0_3] 57 (0, 0)) z88b) : gb507 ≠ gb481)); clear HO_4; clear HO503; clear HO506; clear BK481; clear HB; have HO_4 := n0_; have HO503 := n1_; have HO506 := n2_; have BK481 := n3_; have HB := n4_; have BK507 := n5_; have GW507 := n6_; have GE507 := n7_; have NB481_507 := n8_; have NB507_481 := n9_; clear n0_ n1_ n2_ n3_ n4_ n5_ n6_ n7_ n8_ n9_; clear hb hbox hg; have hnb61 := NB507_481.out; have hnc61 := NB481_507.out; have hcz62_0 : w60.cell? ⟨gb507, 0, none⟩ = some (.string (⟨#[]⟩ : ByteArray)) := (blk_cell BK507.out 0).trans rfl; have hcz62_1 : w60.cell? ⟨gb507, 1, none⟩ = some (.string (⟨#[]⟩ : ByteArray)) := (blk_cell BK507.out 1).trans rfl; have hcz62_2 : w60.cell? ⟨gb507, 2, none⟩ = some (.slice none 0 0) := (blk_cell BK507.out 2).trans rfl; have hcz62_3 : w60.cell? ⟨gb507, 3, none⟩ = some (.slice none 0 0) := (blk_cell BK507.out 3).trans rfl; have hfz62_0 := blk_frozen BK507.out 0; have hfz62_1 := blk_frozen BK507.out 1; have hfz62_2 := blk_frozen BK507.out 2; have hfz62_3 := blk_frozen BK507.out 3; obtain ⟨Ao63, co63, eo63⟩ := Kd.R_slice HO503.out; subst eo63; obtain ⟨Ao64, co64, eo64⟩ := Kd.R_slice HO506.out; subst eo64; have hcz65_0 : w60.cell? ⟨gb481, 0, none⟩ = some (.string a0_0) := (blk_cell BK481.out 0).trans rfl; have hcz65_1 : w60.cell? ⟨gb481, 1, none⟩ = some (.string a0_1) := (blk_cell BK481.out 1).trans rfl; have hcz65_2 : w60.cell? ⟨gb481, 2, none⟩ = some (.slice A0_2 l0_2.length c0_2) := (blk_cell BK481.out 2).trans rfl; have hcz65_3 : w60.cell? ⟨gb481, 3, none⟩ = some (.slice A0_3 l0_3.length c0_3) := (blk_cell BK481.out 3).trans rfl; have hfz65_0 := blk_frozen BK481.out 0; have hfz65_1 := blk_frozen BK481.out 1; have hfz65_2 := blk_frozen BK481.out 2; have hfz65_3 := blk_frozen BK481.out 3))
   go_ret2
   exact ⟨_, by first | rfl | (simp [errW_none, errW_some] <;> rfl) | (simp [*, errW_none, errW_some] <;> rfl), by (with_reducible repeat (first | apply Kd.R_alloc | apply Kd.R_drewN | apply Kd.R_drew)); exact Kd.R_mono (Kd.R_far (p := ⟨gb507, 3, none⟩) (Kd.R_far (p := ⟨gb507, 2, none⟩) (Kd.R_far (p := ⟨gb507, 1, none⟩) (Kd.R_far (p := ⟨gb507, 0, none⟩) (Kd.R_types HO_4.out BK507.out (by decide)) (fun _ hk => hk.2) (.string t499)) (fun _ hk => hk.2) (.string t500)) (fun _ hk => hk.2) (.slice Ao63 t501.length co63)) (fun _ hk => hk.2) (.slice Ao64 t504.length co64)) (fun _ hk => trivial), by repeat (first | (with_reducible first | exact HB.out | apply below_alloc | apply pw_below_drewN | apply below_drew1 | refine below_set ?_ GE481.out | refine below_set ?_ GE507.out) | exact HB.out)⟩
   }
   }
   {
   replace c34 := Bool.eq_false_iff.mpr c34
   subst c34
   rw [if_neg Bool.false_ne_true] at H
   simp only [Option.some.injEq, Prod.mk.injEq] at H
   obtain ⟨rfl, rfl⟩ := H
   obtain ⟨Ao66, co66, eo66⟩ := Kd.R_slice HO_4.out
   subst eo66
   go_wp2_with (first | ((with_reducible refine gate_callee (f := 26) rfl ?_); refine goesL_ (some 42) rfl rfl Try.func26 (by kernel_rfl) rfl #[.slice Ao66 x4_1.length co66] rfl z88d ?_; (with_reducible refine (impl_EntriesOk.calls k1 _ _ x4_1 false _ ?side1 ?side2 A33.out).mono ?_); (case side1 => exact z88e); (case side2 => exact (Kd.R_reads' HO_4.out).2.1); rintro e w67 ⟨rfl, hb⟩; refine ⟨_, rfl, ?_⟩; replace HO_4 := A_ (Kd.R_below z88c hb); replace BK481 := A_ (blk_below (g := gb481) (o := .cells #[.string a0_0, .string a0_1, .slice A0_2 l0_2.length c0_2, .slice A0_3 l0_3.length c0_3] 57 (0, 0)) z88b hb); replace HB := A_ (below_step z88a hb)))
   go_ret2
   exact ⟨_, by first | rfl | (simp [errW_none, errW_some] <;> rfl) | (simp [*, errW_none, errW_some] <;> rfl), by first | exact Kd.R_nil _ _ _ _ _ | exact Kd.N_nil _ _ _ _ _ | exact Kd.V_nil _ _ _ _ _ | exact Kd.Q_nil _ _ _ _ _ | exact Kd.S_nil _ _ _ _ _, by repeat (first | (with_reducible first | exact HB.out | apply below_alloc | apply pw_below_drewN | apply below_drew1 | refine below_set ?_ GE481.out) | exact HB.out)⟩
   }
   }
 }
 {
 replace c3 := Bool.eq_false_iff.mpr c3
 subst c3
 rw [if_neg Bool.false_ne_true] at H
 simp only [Option.some.injEq, Prod.mk.injEq] at H
 obtain ⟨rfl, rfl⟩ := H
 go_enter Try.func88, Try.ntmps88
 go_wp2_with (first | ((with_reducible refine gate_dst (N := 1) rfl ?_); (try (refine gate_guard (by rfl) ?_; dsimp only)); refine box_event ?hg (N := 1) ?hd (cs := #[.string a0_0, .string a0_1, .slice A0_2 l0_2.length c0_2, .slice A0_3 l0_3.length c0_3]) (t := 57) ?hr ?_; (case hd => rfl); (case hg => rfl); (case hr => first | (go_simp; done) | (go_simp; rfl)); intro gb481 hg w68 hbox hb; have n0_ := A_ (below_step z88f hb); have n1_ := A_ (hbox); have n2_ := A_ ((by rw [hg]; exact (below_size z88f) : w.heap.size ≤ gb481)); have n3_ := A_ ((by rw [hg]; exact (below_size z88f) : w.heap.size ≤ gb481)); clear HB; have HB := n0_; have BK481 := n1_; have GW481 := n2_; have GE481 := n3_; clear n0_ n1_ n2_ n3_; clear hb hbox hg; have hcz69_0 : w68.cell? ⟨gb481, 0, none⟩ = some (.string a0_0) := (blk_cell BK481.out 0).trans rfl; have hcz69_1 : w68.cell? ⟨gb481, 1, none⟩ = some (.string a0_1) := (blk_cell BK481.out 1).trans rfl; have hcz69_2 : w68.cell? ⟨gb481, 2, none⟩ = some (.slice A0_2 l0_2.length c0_2) := (blk_cell BK481.out 2).trans rfl; have hcz69_3 : w68.cell? ⟨gb481, 3, none⟩ = some (.slice A0_3 l0_3.length c0_3) := (blk_cell BK481.out 3).trans rfl; have hfz69_0 := blk_frozen BK481.out 0; have hfz69_1 := blk_frozen BK481.out 1; have hfz69_2 := blk_frozen BK481.out 2; have hfz69_3 := blk_frozen BK481.out 3) | ((with_reducible refine gate_callee (f := 96) rfl ?_); refine goesL_ (some 13) rfl rfl Try.func96 (by kernel_rfl) rfl #[.int .i64 (l0_3.length : Int), .int .i64 1, .int .i64 40] rfl z88d ?_; (with_reducible refine (impl_within.calls (l0_3.length : Int) 1 40 false _ A2.out).mono ?_); rintro e w' ⟨rfl, ⟨nd, rfl⟩⟩; refine ⟨_, rfl, ?_⟩))
 go_ret2
 exact ⟨_, by first | rfl | (simp [errW_none, errW_some] <;> rfl) | (simp [*, errW_none, errW_some] <;> rfl), by first | exact Kd.R_nil _ _ _ _ _ | exact Kd.N_nil _ _ _ _ _ | exact Kd.V_nil _ _ _ _ _ | exact Kd.Q_nil _ _ _ _ _ | exact Kd.S_nil _ _ _ _ _, by repeat (first | (with_reducible first | exact HB.out | apply below_alloc | apply pw_below_drewN | apply below_drew1 | refine below_set ?_ GE481.out) | exact HB.out)⟩
 
 }
def impl_TableOk.f (k : Nat) (a0_0 : ByteArray) (a0_1 : ByteArray) (l0_2 : List Int) (l0_3 : List ByteArray) : Option (Bool) := (impl_entries.f k a0_0 a0_1 l0_2 l0_3).bind fun bt510 => (some bt510.2)
set_option maxHeartbeats 8000000 in
set_option maxRecDepth 100000 in
theorem impl_TableOk.calls (k : Nat) (a0_0 : ByteArray) (a0_1 : ByteArray) (A0_2 : Option Addr) (c0_2 : Nat) (l0_2 : List Int) (A0_3 : Option Addr) (c0_3 : Nat) (l0_3 : List ByteArray) (r : Bool) (w : World) (hr0_2 : Kd.C (Kd.int .i64) w A0_2 l0_2.length l0_2) (hc0_2 : l0_2.length ≤ c0_2) (hr0_3 : Kd.C Kd.string w A0_3 l0_3.length l0_3) (hc0_3 : l0_3.length ≤ c0_3) (h : impl_TableOk.f k a0_0 a0_1 l0_2 l0_3 = some r) :
  Calls Try.prog 44 #[.agg #[.string a0_0, .string a0_1, .slice A0_2 l0_2.length c0_2, .slice A0_3 l0_3.length c0_3]] w fun e w' => e = .returned (.bool r) ∧ Below w.heap.size w w' := by
 have hu57 := Try.underlying57
 have HR0_2 := A_ hr0_2
 have HC0_2 := A_ hc0_2
 clear hr0_2 hc0_2
 have HR0_3 := A_ hr0_3
 have HC0_3 := A_ hc0_3
 clear hr0_3 hc0_3
 have HB := A_ (Below.refl w.heap.size w)
 have H : ((impl_entries.f k a0_0 a0_1 l0_2 l0_3).bind fun bt510 => (some bt510.2)) = some r := h
 clear h
 replace H := Option.bind_eq_some_iff.mp H
 obtain ⟨⟨t510, t513⟩, A20, H⟩ := H
 (try dsimp only at H)
 have A2 := A_ A20
 clear A20
 obtain rfl := Option.some.inj H
 go_enter Try.func44, Try.ntmps44
 go_wp2_with (first | ((with_reducible refine gate_dst (N := 1) rfl ?_); refine box_event ?hg (N := 1) ?hd (cs := #[.string a0_0, .string a0_1, .slice A0_2 l0_2.length c0_2, .slice A0_3 l0_3.length c0_3]) (t := 57) ?hr ?_; (case hd => rfl); (case hg => rfl); (case hr => first | (go_simp; done) | (go_simp; rfl)); intro gb509 hg w3 hbox hb; have n0_ := A_ (below_step (by repeat (first | (with_reducible first | exact HB.out | apply below_alloc | apply pw_below_drewN | apply below_drew1) | exact HB.out)) hb); have n1_ := A_ (hbox); have n2_ := A_ ((by rw [hg]; exact (below_size (by repeat (first | (with_reducible first | exact HB.out | apply below_alloc | apply pw_below_drewN | apply below_drew1) | exact HB.out))) : w.heap.size ≤ gb509)); have n3_ := A_ ((by rw [hg]; exact (below_size (by repeat (first | (with_reducible first | exact HB.out | apply below_alloc | apply pw_below_drewN | apply below_drew1) | exact HB.out))) : w.heap.size ≤ gb509)); clear HB; have HB := n0_; have BK509 := n1_; have GW509 := n2_; have GE509 := n3_; clear n0_ n1_ n2_ n3_; clear hb hbox hg; have hcz4_0 : w3.cell? ⟨gb509, 0, none⟩ = some (.string a0_0) := (blk_cell BK509.out 0).trans rfl; have hcz4_1 : w3.cell? ⟨gb509, 1, none⟩ = some (.string a0_1) := (blk_cell BK509.out 1).trans rfl; have hcz4_2 : w3.cell? ⟨gb509, 2, none⟩ = some (.slice A0_2 l0_2.length c0_2) := (blk_cell BK509.out 2).trans rfl; have hcz4_3 : w3.cell? ⟨gb509, 3, none⟩ = some (.slice A0_3 l0_3.length c0_3) := (blk_cell BK509.out 3).trans rfl; have hfz4_0 := blk_frozen BK509.out 0; have hfz4_1 := blk_frozen BK509.out 1; have hfz4_2 := blk_frozen BK509.out 2; have hfz4_3 := blk_frozen BK509.out 3) | ((with_reducible refine gate_callee (f := 88) rfl ?_); refine goesL_ (some 7) rfl rfl Try.func88 (by kernel_rfl) rfl #[.agg #[.string a0_0, .string a0_1, .slice A0_2 l0_2.length c0_2, .slice A0_3 l0_3.length c0_3]] rfl (by (try simp only [List.map_toArray, List.map_cons, List.map_nil]); first | done | rfl | (simp only [List.length_drop, List.length_take]; rfl)) ?_; (with_reducible refine (impl_entries.calls k a0_0 a0_1 _ _ l0_2 _ _ l0_3 t510 t513 _ ?side1 ?side2 ?side3 ?side4 A2.out).mono ?_); (case side1 => exact (by repeat (first | exact (Kd.C_below HR0_2.out HB.out) | (with_reducible refine Kd.C_alloc ?_ _) | (with_reducible refine Kd.C_drewN ?_ _) | (with_reducible refine Kd.C_drew ?_)))); (case side2 => exact HC0_2.out); (case side3 => exact (by repeat (first | exact (Kd.C_below HR0_3.out HB.out) | (with_reducible refine Kd.C_alloc ?_ _) | (with_reducible refine Kd.C_drewN ?_ _) | (with_reducible refine Kd.C_drew ?_)))); (case side4 => exact HC0_3.out); rintro e w5 ⟨v511, rfl, ho0, hb⟩; refine ⟨_, rfl, ?_⟩; have n0_ := A_ (Kd.R_lower ho0 (below_size (by repeat (first | (with_reducible first | exact HB.out | apply below_alloc | apply pw_below_drewN | apply below_drew1 | refine below_set ?_ GE509.out) | exact HB.out)))); have n1_ := A_ (blk_below (g := gb509) (o := .cells #[.string a0_0, .string a0_1, .slice A0_2 l0_2.length c0_2, .slice A0_3 l0_3.length c0_3] 57 (0, 0)) (by (with_reducible repeat (first | refine blk_drewN ?_ _ | refine blk_drew ?_ | refine blk_alloc ?_ _)); exact BK509.out) hb); have n2_ := A_ (below_step (by repeat (first | (with_reducible first | exact HB.out | apply below_alloc | apply pw_below_drewN | apply below_drew1 | refine below_set ?_ GE509.out) | exact HB.out)) hb); clear BK509; clear HB; have HO512 := n0_; have BK509 := n1_; have HB := n2_; clear n0_ n1_ n2_))
 go_ret
 exact ⟨by first | rfl | (simp [errW_none, errW_some] <;> rfl) | (simp [*, errW_none, errW_some] <;> rfl), by repeat (first | (with_reducible first | exact HB.out | apply below_alloc | apply pw_below_drewN | apply below_drew1 | refine below_set ?_ GE509.out) | exact HB.out)⟩

-- NOT PRINTED: function 121 (slices_IndexFunc_int64)

-- NOT PRINTED: function 91 (slices_ContainsFunc_int64)

def slices_Index_int64.l0 : Nat → List Int → Int → Int → Int → Option (Int)
 | 0, _, _, _, _ => none
 | k + 1, x0, x1, x7, x8 => if x8 < x7 then (if 0 ≤ x8 then (if x8 < (x0.length : Int) then (if x1 = (rd x0 x8) then (some x8) else (slices_Index_int64.l0 k x0 x1 x7 (wrap64 (x8 + 1)))) else (none)) else (none)) else (some (-1))
def slices_Index_int64.f (k : Nat) (l0 : List Int) (a1 : Int) : Option (Int) := slices_Index_int64.l0 k l0 a1 (l0.length : Int) 0
set_option maxHeartbeats 8000000 in
set_option maxRecDepth 100000 in
theorem slices_Index_int64.calls (k : Nat) (A0 : Option Addr) (c0 : Nat) (l0 : List Int) (a1 : Int) (r : Int) (w : World) (hr0 : Kd.C (Kd.int .i64) w A0 l0.length l0) (hc0 : l0.length ≤ c0) (h : slices_Index_int64.f k l0 a1 = some r) :
  Calls Try.prog 123 #[.slice A0 l0.length c0, .int .i64 a1] w fun e w' => e = .returned (.int .i64 r) ∧ Drawn0 w w' := by
 have HR0 := A_ hr0
 have HC0 := A_ hc0
 clear hr0 hc0
 have H : (slices_Index_int64.l0 k l0 a1 (l0.length : Int) 0) = some r := h
 clear h
 have H' := A_ H
 clear H
 go_enter Try.func123, Try.ntmps123
 go_wp2
 go_loopg [8] k (fun kq v8 w' => ∃ (x8_1 : Int), v8 = .int .i64 x8_1 ∧ Aside0 (slices_Index_int64.l0 kq l0 a1 (l0.length : Int) x8_1 = some r) ∧ Aside0 (kq ≤ k) ∧ Drawn0 w w')
 case atStart => exact ⟨(0), (by first | rfl | (simp; done) | (simp [*]; done)), H', ⟨Nat.le_refl _⟩, by repeat (first | exact Drawn0.refl _ | apply Drawn0.step)⟩
 case round =>
  clear H'
  try clear c1
  try clear p2
  obtain ⟨x8_1, rfl, HA, HK1, ⟨m1, rfl⟩⟩ := hrel
  cases gk with
  | zero => exact absurd HA.out (by simp [slices_Index_int64.l0])
  | succ k1 =>
   have H := HA.out
   clear HA
   simp only [slices_Index_int64.l0] at H
   by_cases c3 : x8_1 < (l0.length : Int)
   {
   rw [if_pos c3] at H
   have c3b0 : decide (x8_1 < (l0.length : Int)) = true := decide_eq_true c3
   clear c3
   by_cases c4 : 0 ≤ x8_1
   {
   rw [if_pos c4] at H
   have c4b0 : decide (0 ≤ x8_1) = true := decide_eq_true c4
   clear c4
   by_cases c5 : x8_1 < (l0.length : Int)
   {
   rw [if_pos c5] at H
   have c5b0 : decide (x8_1 < (l0.length : Int)) = true := decide_eq_true c5
   clear c5
   by_cases c6 : a1 = (rd l0 x8_1)
   {
   rw [if_pos c6] at H
   have c6b0 : (a1 == (rd l0 x8_1)) = true := beq_iff_eq.mpr c6
   have c6b1 : (a1 != (rd l0 x8_1)) = false := bne_eq_false_iff_eq.mpr c6
   clear c6
   obtain rfl := Option.some.inj H
   have p514 : 0 ≤ (x8_1 : Int) := of_decide_eq_true (by first | (with_reducible assumption) | assumption)
   have q514 : x8_1 < (l0.length : Int) := of_decide_eq_true (by first | (with_reducible assumption) | assumption)
   obtain ⟨ad514, e514, hx514_0⟩ := Kd.at_int HR0.out x8_1 p514 q514
   cases e514
   replace p514 := eq_true p514
   replace q514 := eq_true q514
   go_wp2
   go_ret
   exact ⟨by first | rfl | (simp; done) | (simp [*]; done), by repeat (first | exact Drawn0.refl _ | apply Drawn0.step)⟩
   }
   {
   rw [if_neg c6] at H
   have c6b0 : (a1 == (rd l0 x8_1)) = false := beq_eq_false_iff_ne.mpr c6
   have c6b1 : (a1 != (rd l0 x8_1)) = true := bne_iff_ne.mpr c6
   have H' := A_ H
   clear H
   have p514 : 0 ≤ (x8_1 : Int) := of_decide_eq_true (by first | (with_reducible assumption) | assumption)
   have q514 : x8_1 < (l0.length : Int) := of_decide_eq_true (by first | (with_reducible assumption) | assumption)
   obtain ⟨ad514, e514, hx514_0⟩ := Kd.at_int HR0.out x8_1 p514 q514
   cases e514
   replace p514 := eq_true p514
   replace q514 := eq_true q514
   go_wp2
   go_roundg k1
   case measure => have := HK1.out; omega
   case rel => exact ⟨(wrap64 (x8_1 + 1)), (by first | rfl | (simp; done) | (simp [*]; done)), H', ⟨by have := HK1.out; omega⟩, by repeat (first | exact Drawn0.refl _ | apply Drawn0.step)⟩
   }
   }
   {
   rw [if_neg c5] at H
   exact absurd H (by simp)
   }
   }
   {
   rw [if_neg c4] at H
   exact absurd H (by simp)
   }
   }
   {
   rw [if_neg c3] at H
   have c3b0 : decide (x8_1 < (l0.length : Int)) = false := decide_eq_false c3
   clear c3
   obtain rfl := Option.some.inj H
   go_wp2
   go_ret
   exact ⟨by first | rfl | (simp; done) | (simp [*]; done), by repeat (first | exact Drawn0.refl _ | apply Drawn0.step)⟩
   
   }
def slices_Contains_int64.f (k : Nat) (l0 : List Int) (a1 : Int) : Option (Bool) := (slices_Index_int64.f k l0 a1).bind fun t515 => (some (decide (t515 ≥ 0)))
set_option maxHeartbeats 8000000 in
set_option maxRecDepth 100000 in
theorem slices_Contains_int64.calls (k : Nat) (A0 : Option Addr) (c0 : Nat) (l0 : List Int) (a1 : Int) (r : Bool) (w : World) (hr0 : Kd.C (Kd.int .i64) w A0 l0.length l0) (hc0 : l0.length ≤ c0) (h : slices_Contains_int64.f k l0 a1 = some r) :
  Calls Try.prog 94 #[.slice A0 l0.length c0, .int .i64 a1] w fun e w' => e = .returned (.bool r) ∧ Drawn0 w w' := by
 have HR0 := A_ hr0
 have HC0 := A_ hc0
 clear hr0 hc0
 have H : ((slices_Index_int64.f k l0 a1).bind fun t515 => (some (decide (t515 ≥ 0)))) = some r := h
 clear h
 replace H := Option.bind_eq_some_iff.mp H
 obtain ⟨t515, A30, H⟩ := H
 (try dsimp only at H)
 have A3 := A_ A30
 clear A30
 obtain rfl := Option.some.inj H
 go_enter Try.func94, Try.ntmps94
 go_wp2_with (first | ((with_reducible refine gate_callee (f := 123) rfl ?_); refine goesL_ (some 7) rfl rfl Try.func123 (by kernel_rfl) rfl #[.slice A0 l0.length c0, .int .i64 a1] rfl (by (try simp only [List.map_toArray, List.map_cons, List.map_nil]); first | done | rfl | (simp only [List.length_drop, List.length_take]; rfl)) ?_; (with_reducible refine (slices_Index_int64.calls k _ _ l0 a1 t515 _ ?side1 ?side2 A3.out).mono ?_); (case side1 => exact (by repeat (first | exact HR0.out | (with_reducible refine Kd.C_alloc ?_ _) | (with_reducible refine Kd.C_drewN ?_ _) | (with_reducible refine Kd.C_drew ?_)))); (case side2 => exact HC0.out); rintro e w' ⟨rfl, ⟨nd, rfl⟩⟩; refine ⟨_, rfl, ?_⟩))
 go_ret
 exact ⟨by first | rfl | (simp; done) | (simp [*]; done), by repeat (first | exact Drawn0.refl _ | apply Drawn0.step)⟩

-- NOT PRINTED: function 93 (impl_May_1)

set_option maxHeartbeats 8000000 in
set_option maxRecDepth 100000 in
theorem idx_int (g : Nat) (lb : Array Value) (eg : ∀ args w, (callFunc g args).run Try.prog w = .ok (.enter g args) w) (p : Int → Bool) (A0 : Option Addr) (c0 : Nat) (l : List Int) (w : World) (hr : Kd.C (Kd.int .i64) w A0 l.length l)
    (hp : ∀ (W : World) (x : Int), Below w.heap.size w W → Calls Try.prog g (#[.int .i64 x] ++ lb) W fun e w' => e = .returned (.bool (p x)) ∧ Below w.heap.size w w') :
    Calls Try.prog 121 #[.slice A0 l.length c0, .func (.func g) #[] lb] w fun e w' => e = .returned (.int .i64 (Lib.hit p l 0)) ∧ Below w.heap.size w w' := by
  have hbig : l.length ≤ 9223372036854775807 := hr.2.1
  have HP := A_ hp
  have HR := A_ hr
  clear hp hr
  go_enter Try.func121, Try.ntmps121
  go_wp2
  go_loopg [8] l.length (fun gg s8 wr => ∃ kk : Nat, kk ≤ l.length ∧ l.length - kk ≤ gg ∧ s8 = .int .i64 kk ∧ Aside0 (Below w.heap.size w wr) ∧ Aside0 (Lib.hit p (l.drop kk) kk = Lib.hit p l 0))
  case atStart => exact ⟨0, Nat.zero_le _, by omega, rfl, ⟨Below.refl _ w⟩, ⟨by simp⟩⟩
  case round =>
    obtain ⟨kk, hkk, hg, rfl, BW, A⟩ := hrel
    by_cases hlt : kk < l.length
    · have hltz : (kk : Int) < (l.length : Int) := by omega
      obtain ⟨ad, e, hx⟩ := Kd.at_int (Kd.C_below HR.out BW.out) kk (by omega) hltz
      cases e
      simp only [Int.toNat_natCast] at hx
      have hcall := HP.out wr (rd l kk) BW.out
      have HD := A_ (Lib.hit_drop p 0 l kk hlt)
      have HY : Aside0 (rd l kk = l.getD kk 0) := ⟨rfl⟩
      generalize rd l kk = y at hx hcall HY
      cases hq : p y with
      | true =>
        rw [hq] at hcall
        have HQ := A_ hq
        clear hq
        go_wp2_with (go_at_fn g; refine hcall.mono ?_; rintro e w' ⟨rfl, hb'⟩)
        go_ret
        refine ⟨?_, hb'⟩
        rw [← A.out, HD.out, if_pos (by rw [← HY.out]; exact HQ.out)]
        rfl
      | false =>
        rw [hq] at hcall
        have HQ := A_ hq
        clear hq
        go_wp2_with (go_at_fn g; refine hcall.mono ?_; rintro e w' ⟨rfl, hb'⟩)
        go_roundg (l.length - (kk + 1))
        case measure => omega
        case rel => exact ⟨kk + 1, by omega, by omega, by go_num, ⟨hb'⟩, ⟨by rw [← A.out, HD.out, if_neg (by rw [← HY.out, HQ.out]; decide)]; norm_cast⟩⟩
    · have hltz : ¬ (kk : Int) < (l.length : Int) := by omega
      obtain rfl : kk = l.length := by omega
      go_wp2
      go_ret
      refine ⟨?_, BW.out⟩
      rw [← A.out, Lib.hit_end p l _ (Nat.le_refl _)]
      rfl
theorem has_int (g : Nat) (lb : Array Value) (eg : ∀ args w, (callFunc g args).run Try.prog w = .ok (.enter g args) w) (p : Int → Bool) (A0 : Option Addr) (c0 : Nat) (l : List Int) (w : World) (hr : Kd.C (Kd.int .i64) w A0 l.length l)
    (hp : ∀ (W : World) (x : Int), Below w.heap.size w W → Calls Try.prog g (#[.int .i64 x] ++ lb) W fun e w' => e = .returned (.bool (p x)) ∧ Below w.heap.size w w') :
    Calls Try.prog 91 #[.slice A0 l.length c0, .func (.func g) #[] lb] w fun e w' => e = .returned (.bool (l.any p)) ∧ Below w.heap.size w w' := by
  have HP := A_ hp
  have HR := A_ hr
  clear hp hr
  go_enter Try.func91, Try.ntmps91
  go_wp2_with (first | (go_at_call 121; refine (idx_int g lb eg p A0 c0 l _ HR.out HP.out).mono ?_; rintro e w' ⟨rfl, hb'⟩))
  go_ret
  refine ⟨?_, hb'⟩
  rw [← Lib.hit_any p l 0 (Int.le_refl 0)]
  rfl
/-- Is a number among the bits. -/
def mayHas (l : List Int) (n : Int) : Bool := l.any (fun b => decide (n = b))
theorem any_drop (p : Int → Bool) (l : List Int) (n : Nat) (h : n < l.length) : (l.drop n).any p = (p (l.getD n 0) || (l.drop (n + 1)).any p) := by
  rw [List.drop_eq_getElem_cons h, List.any_cons, List.getD_eq_getElem?_getD, List.getElem?_eq_getElem h]
  rfl
theorem idx_may (l : List Int) (x : Int) (hl : l.length ≤ 9223372036854775807) : ∀ (d n k : Nat), l.length - n ≤ d → n ≤ l.length → d < k → ∃ r, slices_Index_int64.l0 k l x (l.length : Int) (n : Int) = some r ∧ decide (r ≥ 0) = (l.drop n).any (fun b => decide (x = b))
  | d, n, 0, _, _, hk => by omega
  | 0, n, k + 1, h, hn, hk => by
    refine ⟨-1, ?_, ?_⟩
    · rw [slices_Index_int64.l0, if_neg (by omega)]
    · rw [List.drop_eq_nil_of_le (by omega)]; rfl
  | d + 1, n, k + 1, h, hn, hk => by
    by_cases hlt : n < l.length
    · rw [slices_Index_int64.l0, if_pos (by omega), if_pos (by omega), if_pos (by omega), any_drop _ l n hlt]
      have e : rd l (n : Int) = l.getD n 0 := rfl
      by_cases hx : x = rd l (n : Int)
      · refine ⟨n, if_pos hx, ?_⟩
        rw [← e, ← hx, decide_eq_true (rfl : x = x)]
        exact decide_eq_true (by omega)
      · obtain ⟨r, h1, h2⟩ := idx_may l x hl d (n + 1) k (by omega) (by omega) (by omega)
        refine ⟨r, ?_, ?_⟩
        · rw [if_neg hx, show wrap64 ((n : Int) + 1) = ((n + 1 : Nat) : Int) by unfold wrap64; omega]
          exact h1
        · rw [h2, ← e, decide_eq_false hx]; rfl
    · refine ⟨-1, ?_, ?_⟩
      · rw [slices_Index_int64.l0, if_neg (by omega)]
      · rw [List.drop_eq_nil_of_le (by omega)]; rfl
theorem contains_may (l : List Int) (x : Int) (hl : l.length ≤ 9223372036854775807) : slices_Contains_int64.f (l.length + 1) l x = some (mayHas l x) := by
  obtain ⟨r, h1, h2⟩ := idx_may l x hl l.length 0 (l.length + 1) (by omega) (by omega) (by omega)
  rw [slices_Contains_int64.f, slices_Index_int64.f]
  rw [show ((0 : Nat) : Int) = 0 from rfl] at h1
  rw [h1, Option.bind_some, h2, List.drop_zero]
  rfl
theorem any_as {g : Nat} {xs : Array Value} {w : World} {b c : Bool} {R : World → Prop} (h : b = c) (H : Calls Try.prog g xs w fun e w' => e = .returned (.bool b) ∧ R w') : Calls Try.prog g xs w fun e w' => e = .returned (.bool c) ∧ R w' := h ▸ H
set_option maxHeartbeats 8000000 in
set_option maxRecDepth 100000 in
theorem may_lit (g : Nat) (s0 s1 : ByteArray) (A2 : Option Addr) (c2 : Nat) (l2 : List Int) (A3 : Option Addr) (n3 c3 : Nat) (W : World) (hc : W.heap[g]? = some (.cells #[.string s0, .string s1, .slice A2 l2.length c2, .slice A3 n3 c3] 57 (0, 0))) (hr : Kd.C (Kd.int .i64) W A2 l2.length l2) (h2 : l2.length ≤ c2) (hl : l2.length ≤ 9223372036854775807) (n : Int) :
    Calls Try.prog 93 (#[.int .i64 n] ++ #[.pointer (some ⟨g, 0, none⟩)]) W fun e w' => e = .returned (.bool (!mayHas l2 n)) ∧ Below W.heap.size W w' := by
  have hu := Try.underlying57
  have hcz : W.cell? ⟨g, 2, none⟩ = some (.slice A2 l2.length c2) := (blk_cell hc 2).trans rfl
  have hfz := blk_frozen hc 2
  have HR := A_ hr
  have H2 := A_ h2
  have HN := A_ (contains_may l2 n hl)
  clear hr h2 hc hl
  go_enter Try.func93, Try.ntmps93
  go_wp2_with (first | (go_at_call 94; refine (slices_Contains_int64.calls (l2.length + 1) A2 c2 l2 n (mayHas l2 n) _ ?side1 H2.out HN.out).mono ?_; (case side1 => exact (by repeat (first | exact HR.out | (with_reducible refine Kd.C_alloc ?_ _) | (with_reducible refine Kd.C_drewN ?_ _) | (with_reducible refine Kd.C_drew ?_)))); rintro e w' ⟨rfl, ⟨nd, rfl⟩⟩))
  go_ret
  exact ⟨rfl, by repeat (first | exact Below.refl _ _ | apply below_alloc | apply pw_below_drewN | apply below_drew1)⟩
theorem z51a {p_ : Prop} (h_ : p_ := by repeat (first | (with_reducible first | exact HB.out | apply below_alloc | apply pw_below_drewN | apply below_drew1 | refine below_set ?_ GE516.out) | exact HB.out)) : p_ := h_
theorem z51b {p_ : Prop} (h_ : p_ := by (try simp only [List.map_toArray, List.map_cons, List.map_nil]); first | done | rfl | (simp only [List.length_drop, List.length_take]; rfl)) : p_ := h_
theorem z51c {p_ : Prop} (h_ : p_ := by repeat (first | exact (Kd.C_below HR0_2.out HB.out) | (with_reducible refine Kd.C_alloc ?_ _) | (with_reducible refine Kd.C_drewN ?_ _) | (with_reducible refine Kd.C_drew ?_))) : p_ := h_
def impl_May.j0 : Nat → ByteArray → Bool → ByteArray → ByteArray → List Int → List ByteArray → Option (Bool)
 | 0, _, _, _, _, _, _ => none
 | k + 1, x1, x19, x517000, x517001, x517002, x517003 => if x19 = true then (some false) else ((impl_marks.f k x1).bind fun t518 => ((some (t518.any (fun n_ => !mayHas x517002 n_))).bind fun t521 => (some (!t521))))
def impl_May.f (k : Nat) (a0_0 : ByteArray) (a0_1 : ByteArray) (l0_2 : List Int) (l0_3 : List ByteArray) (a1 : ByteArray) : Option (Bool) := (impl_TableOk.f k a0_0 a0_1 l0_2 l0_3).bind fun t517 => (if t517 = true then (if (Op.bytesLess a1.toList a0_0.toList) = true then (impl_May.j0 k a1 true a0_0 a0_1 l0_2 l0_3) else (impl_May.j0 k a1 (Op.bytesLess a0_1.toList a1.toList) a0_0 a0_1 l0_2 l0_3)) else (impl_May.j0 k a1 true a0_0 a0_1 l0_2 l0_3))
set_option maxHeartbeats 8000000 in
set_option maxRecDepth 100000 in
theorem impl_May.calls (k : Nat) (a0_0 : ByteArray) (a0_1 : ByteArray) (A0_2 : Option Addr) (c0_2 : Nat) (l0_2 : List Int) (A0_3 : Option Addr) (c0_3 : Nat) (l0_3 : List ByteArray) (a1 : ByteArray) (r : Bool) (w : World) (hr0_2 : Kd.C (Kd.int .i64) w A0_2 l0_2.length l0_2) (hc0_2 : l0_2.length ≤ c0_2) (hr0_3 : Kd.C Kd.string w A0_3 l0_3.length l0_3) (hc0_3 : l0_3.length ≤ c0_3) (h : impl_May.f k a0_0 a0_1 l0_2 l0_3 a1 = some r) :
  Calls Try.prog 51 #[.agg #[.string a0_0, .string a0_1, .slice A0_2 l0_2.length c0_2, .slice A0_3 l0_3.length c0_3], .string a1] w fun e w' => e = .returned (.bool r) ∧ Below w.heap.size w w' := by
 have hu57 := Try.underlying57
 have HR0_2 := A_ hr0_2
 have HC0_2 := A_ hc0_2
 clear hr0_2 hc0_2
 have HR0_3 := A_ hr0_3
 have HC0_3 := A_ hc0_3
 clear hr0_3 hc0_3
 have HB := A_ (Below.refl w.heap.size w)
 have H : ((impl_TableOk.f k a0_0 a0_1 l0_2 l0_3).bind fun t517 => (if t517 = true then (if (Op.bytesLess a1.toList a0_0.toList) = true then (impl_May.j0 k a1 true a0_0 a0_1 l0_2 l0_3) else (impl_May.j0 k a1 (Op.bytesLess a0_1.toList a1.toList) a0_0 a0_1 l0_2 l0_3)) else (impl_May.j0 k a1 true a0_0 a0_1 l0_2 l0_3))) = some r := h
 clear h
 have HC3 := A_ H
 clear H
 go_enter Try.func51, Try.ntmps51
 go_upto_region 1 with (first | ((with_reducible refine gate_dst (N := 2) rfl ?_); refine box_event ?hg (N := 2) ?hd (cs := #[.string a0_0, .string a0_1, .slice A0_2 l0_2.length c0_2, .slice A0_3 l0_3.length c0_3]) (t := 57) ?hr ?_; (case hd => rfl); (case hg => rfl); (case hr => first | (go_simp; done) | (go_simp; rfl)); intro gb516 hg w4 hbox hb; have n0_ := A_ (below_step (by repeat (first | (with_reducible first | exact HB.out | apply below_alloc | apply pw_below_drewN | apply below_drew1) | exact HB.out)) hb); have n1_ := A_ (hbox); have n2_ := A_ ((by rw [hg]; exact (below_size (by repeat (first | (with_reducible first | exact HB.out | apply below_alloc | apply pw_below_drewN | apply below_drew1) | exact HB.out))) : w.heap.size ≤ gb516)); have n3_ := A_ ((by rw [hg]; exact (below_size (by repeat (first | (with_reducible first | exact HB.out | apply below_alloc | apply pw_below_drewN | apply below_drew1) | exact HB.out))) : w.heap.size ≤ gb516)); clear HB; have HB := n0_; have BK516 := n1_; have GW516 := n2_; have GE516 := n3_; clear n0_ n1_ n2_ n3_; clear hb hbox hg))
 (try simp only [Act.put, List.setIfInBounds_toArray, List.set_cons_zero, List.set_cons_succ])
 go_cut [19] (fun v19 wc => ∃ (kq : Nat) (x19_2 : Bool), v19 = .bool x19_2 ∧ Aside0 (impl_May.j0 kq a1 x19_2 a0_0 a0_1 l0_2 l0_3 = some r) ∧ Aside0 (kq ≤ k) ∧ Aside0 (wc.heap[gb516]? = some (.cells #[.string a0_0, .string a0_1, (.slice A0_2 l0_2.length c0_2), (.slice A0_3 l0_3.length c0_3)] 57 (0, 0))) ∧ Aside0 (Below w.heap.size w wc))
 case first =>
  have H := HC3.out
  clear HC3
  replace H := Option.bind_eq_some_iff.mp H
  obtain ⟨t517, A50, H⟩ := H
  (try dsimp only at H)
  have A5 := A_ A50
  clear A50
  by_cases c6 : t517 = true
  {
  subst c6
  rw [if_pos rfl] at H
  by_cases c7 : (Op.bytesLess a1.toList a0_0.toList) = true
  {
  rw [if_pos c7] at H
  have c7b0 : (Op.bytesLess a1.toList a0_0.toList) = true := c7
  clear c7
  (first | rw [c7b0] | (simp only [i64_w, i32_w]; rw [c7b0]) | skip)
  have H' := A_ H
  clear H
  have hcz8_0 : w4.cell? ⟨gb516, 0, none⟩ = some (.string a0_0) := (blk_cell BK516.out 0).trans rfl
  have hcz8_1 : w4.cell? ⟨gb516, 1, none⟩ = some (.string a0_1) := (blk_cell BK516.out 1).trans rfl
  have hcz8_2 : w4.cell? ⟨gb516, 2, none⟩ = some (.slice A0_2 l0_2.length c0_2) := (blk_cell BK516.out 2).trans rfl
  have hcz8_3 : w4.cell? ⟨gb516, 3, none⟩ = some (.slice A0_3 l0_3.length c0_3) := (blk_cell BK516.out 3).trans rfl
  have hfz8_0 := blk_frozen BK516.out 0
  have hfz8_1 := blk_frozen BK516.out 1
  have hfz8_2 := blk_frozen BK516.out 2
  have hfz8_3 := blk_frozen BK516.out 3
  go_wp2_with (first | ((with_reducible refine gate_callee (f := 44) rfl ?_); refine goesL_ (some 6) rfl rfl Try.func44 (by kernel_rfl) rfl #[.agg #[.string a0_0, .string a0_1, .slice A0_2 l0_2.length c0_2, .slice A0_3 l0_3.length c0_3]] rfl z51b ?_; (with_reducible refine (impl_TableOk.calls k a0_0 a0_1 _ _ l0_2 _ _ l0_3 true _ ?side1 ?side2 ?side3 ?side4 A5.out).mono ?_); (case side1 => exact z51c); (case side2 => exact HC0_2.out); (case side3 => exact (by repeat (first | exact (Kd.C_below HR0_3.out HB.out) | (with_reducible refine Kd.C_alloc ?_ _) | (with_reducible refine Kd.C_drewN ?_ _) | (with_reducible refine Kd.C_drew ?_)))); (case side4 => exact HC0_3.out); rintro e w9 ⟨rfl, hb⟩; refine ⟨_, rfl, ?_⟩; replace BK516 := A_ (blk_below (g := gb516) (o := .cells #[.string a0_0, .string a0_1, .slice A0_2 l0_2.length c0_2, .slice A0_3 l0_3.length c0_3] 57 (0, 0)) (by (with_reducible repeat (first | refine blk_drewN ?_ _ | refine blk_drew ?_ | refine blk_alloc ?_ _)); exact BK516.out) hb); replace HB := A_ (below_step z51a hb); have hcz10_0 : w9.cell? ⟨gb516, 0, none⟩ = some (.string a0_0) := (blk_cell BK516.out 0).trans rfl; have hcz10_1 : w9.cell? ⟨gb516, 1, none⟩ = some (.string a0_1) := (blk_cell BK516.out 1).trans rfl; have hcz10_2 : w9.cell? ⟨gb516, 2, none⟩ = some (.slice A0_2 l0_2.length c0_2) := (blk_cell BK516.out 2).trans rfl; have hcz10_3 : w9.cell? ⟨gb516, 3, none⟩ = some (.slice A0_3 l0_3.length c0_3) := (blk_cell BK516.out 3).trans rfl; have hfz10_0 := blk_frozen BK516.out 0; have hfz10_1 := blk_frozen BK516.out 1; have hfz10_2 := blk_frozen BK516.out 2; have hfz10_3 := blk_frozen BK516.out 3))
  go_meet
  case rel => exact ⟨_, (true), (by first | rfl | (simp; done) | (simp [*]; done)), H', ⟨by first | omega | exact Nat.le_refl _⟩, ⟨by (with_reducible repeat (first | refine blk_drewN ?_ _ | refine blk_drew ?_ | refine blk_alloc ?_ _)); exact BK516.out⟩, ⟨by repeat (first | (with_reducible first | exact HB.out | apply below_alloc | apply pw_below_drewN | apply below_drew1 | refine below_set ?_ GE516.out) | exact HB.out)⟩⟩
  }
  {
  rw [if_neg c7] at H
  have c7b0 : (Op.bytesLess a1.toList a0_0.toList) = false := by simpa using c7
  clear c7
  (first | rw [c7b0] | (simp only [i64_w, i32_w]; rw [c7b0]) | skip)
  have H' := A_ H
  clear H
  have hcz11_0 : w4.cell? ⟨gb516, 0, none⟩ = some (.string a0_0) := (blk_cell BK516.out 0).trans rfl
  have hcz11_1 : w4.cell? ⟨gb516, 1, none⟩ = some (.string a0_1) := (blk_cell BK516.out 1).trans rfl
  have hcz11_2 : w4.cell? ⟨gb516, 2, none⟩ = some (.slice A0_2 l0_2.length c0_2) := (blk_cell BK516.out 2).trans rfl
  have hcz11_3 : w4.cell? ⟨gb516, 3, none⟩ = some (.slice A0_3 l0_3.length c0_3) := (blk_cell BK516.out 3).trans rfl
  have hfz11_0 := blk_frozen BK516.out 0
  have hfz11_1 := blk_frozen BK516.out 1
  have hfz11_2 := blk_frozen BK516.out 2
  have hfz11_3 := blk_frozen BK516.out 3
  go_wp2_with (first | ((with_reducible refine gate_callee (f := 44) rfl ?_); refine goesL_ (some 6) rfl rfl Try.func44 (by kernel_rfl) rfl #[.agg #[.string a0_0, .string a0_1, .slice A0_2 l0_2.length c0_2, .slice A0_3 l0_3.length c0_3]] rfl z51b ?_; (with_reducible refine (impl_TableOk.calls k a0_0 a0_1 _ _ l0_2 _ _ l0_3 true _ ?side1 ?side2 ?side3 ?side4 A5.out).mono ?_); (case side1 => exact z51c); (case side2 => exact HC0_2.out); (case side3 => exact (by repeat (first | exact (Kd.C_below HR0_3.out HB.out) | (with_reducible refine Kd.C_alloc ?_ _) | (with_reducible refine Kd.C_drewN ?_ _) | (with_reducible refine Kd.C_drew ?_)))); (case side4 => exact HC0_3.out); rintro e w12 ⟨rfl, hb⟩; refine ⟨_, rfl, ?_⟩; replace BK516 := A_ (blk_below (g := gb516) (o := .cells #[.string a0_0, .string a0_1, .slice A0_2 l0_2.length c0_2, .slice A0_3 l0_3.length c0_3] 57 (0, 0)) (by (with_reducible repeat (first | refine blk_drewN ?_ _ | refine blk_drew ?_ | refine blk_alloc ?_ _)); exact BK516.out) hb); replace HB := A_ (below_step z51a hb); have hcz13_0 : w12.cell? ⟨gb516, 0, none⟩ = some (.string a0_0) := (blk_cell BK516.out 0).trans rfl; have hcz13_1 : w12.cell? ⟨gb516, 1, none⟩ = some (.string a0_1) := (blk_cell BK516.out 1).trans rfl; have hcz13_2 : w12.cell? ⟨gb516, 2, none⟩ = some (.slice A0_2 l0_2.length c0_2) := (blk_cell BK516.out 2).trans rfl; have hcz13_3 : w12.cell? ⟨gb516, 3, none⟩ = some (.slice A0_3 l0_3.length c0_3) := (blk_cell BK516.out 3).trans rfl; have hfz13_0 := blk_frozen BK516.out 0; have hfz13_1 := blk_frozen BK516.out 1; have hfz13_2 := blk_frozen BK516.out 2; have hfz13_3 := blk_frozen BK516.out 3))
  go_meet
  case rel => exact ⟨_, ((Op.bytesLess a0_1.toList a1.toList)), (by first | rfl | (simp; done) | (simp [*]; done)), H', ⟨by first | omega | exact Nat.le_refl _⟩, ⟨by (with_reducible repeat (first | refine blk_drewN ?_ _ | refine blk_drew ?_ | refine blk_alloc ?_ _)); exact BK516.out⟩, ⟨by repeat (first | (with_reducible first | exact HB.out | apply below_alloc | apply pw_below_drewN | apply below_drew1 | refine below_set ?_ GE516.out) | exact HB.out)⟩⟩
  }
  }
  {
  replace c6 := Bool.eq_false_iff.mpr c6
  subst c6
  rw [if_neg Bool.false_ne_true] at H
  have H' := A_ H
  clear H
  have hcz14_0 : w4.cell? ⟨gb516, 0, none⟩ = some (.string a0_0) := (blk_cell BK516.out 0).trans rfl
  have hcz14_1 : w4.cell? ⟨gb516, 1, none⟩ = some (.string a0_1) := (blk_cell BK516.out 1).trans rfl
  have hcz14_2 : w4.cell? ⟨gb516, 2, none⟩ = some (.slice A0_2 l0_2.length c0_2) := (blk_cell BK516.out 2).trans rfl
  have hcz14_3 : w4.cell? ⟨gb516, 3, none⟩ = some (.slice A0_3 l0_3.length c0_3) := (blk_cell BK516.out 3).trans rfl
  have hfz14_0 := blk_frozen BK516.out 0
  have hfz14_1 := blk_frozen BK516.out 1
  have hfz14_2 := blk_frozen BK516.out 2
  have hfz14_3 := blk_frozen BK516.out 3
  go_wp2_with (first | ((with_reducible refine gate_callee (f := 44) rfl ?_); refine goesL_ (some 6) rfl rfl Try.func44 (by kernel_rfl) rfl #[.agg #[.string a0_0, .string a0_1, .slice A0_2 l0_2.length c0_2, .slice A0_3 l0_3.length c0_3]] rfl z51b ?_; (with_reducible refine (impl_TableOk.calls k a0_0 a0_1 _ _ l0_2 _ _ l0_3 false _ ?side1 ?side2 ?side3 ?side4 A5.out).mono ?_); (case side1 => exact z51c); (case side2 => exact HC0_2.out); (case side3 => exact (by repeat (first | exact (Kd.C_below HR0_3.out HB.out) | (with_reducible refine Kd.C_alloc ?_ _) | (with_reducible refine Kd.C_drewN ?_ _) | (with_reducible refine Kd.C_drew ?_)))); (case side4 => exact HC0_3.out); rintro e w15 ⟨rfl, hb⟩; refine ⟨_, rfl, ?_⟩; replace BK516 := A_ (blk_below (g := gb516) (o := .cells #[.string a0_0, .string a0_1, .slice A0_2 l0_2.length c0_2, .slice A0_3 l0_3.length c0_3] 57 (0, 0)) (by (with_reducible repeat (first | refine blk_drewN ?_ _ | refine blk_drew ?_ | refine blk_alloc ?_ _)); exact BK516.out) hb); replace HB := A_ (below_step z51a hb)))
  go_meet
  case rel => exact ⟨_, (true), (by first | rfl | (simp; done) | (simp [*]; done)), H', ⟨by first | omega | exact Nat.le_refl _⟩, ⟨by (with_reducible repeat (first | refine blk_drewN ?_ _ | refine blk_drew ?_ | refine blk_alloc ?_ _)); exact BK516.out⟩, ⟨by repeat (first | (with_reducible first | exact HB.out | apply below_alloc | apply pw_below_drewN | apply below_drew1 | refine below_set ?_ GE516.out) | exact HB.out)⟩⟩
  }
 case rest =>
  clear HC3
  try clear p2
  try clear c4
  try clear c5
  try clear c6
  try clear c7
  try clear c7b0
  try clear hcz10_0
  try clear hcz10_1
  try clear hcz10_2
  try clear hcz10_3
  try clear hcz11_0
  try clear hcz11_1
  try clear hcz11_2
  try clear hcz11_3
  try clear hcz13_0
  try clear hcz13_1
  try clear hcz13_2
  try clear hcz13_3
  try clear hcz14_0
  try clear hcz14_1
  try clear hcz14_2
  try clear hcz14_3
  try clear hcz8_0
  try clear hcz8_1
  try clear hcz8_2
  try clear hcz8_3
  try clear hfz10_0
  try clear hfz10_1
  try clear hfz10_2
  try clear hfz10_3
  try clear hfz11_0
  try clear hfz11_1
  try clear hfz11_2
  try clear hfz11_3
  try clear hfz13_0
  try clear hfz13_1
  try clear hfz13_2
  try clear hfz13_3
  try clear hfz14_0
  try clear hfz14_1
  try clear hfz14_2
  try clear hfz14_3
  try clear hfz8_0
  try clear hfz8_1
  try clear hfz8_2
  try clear hfz8_3
  obtain ⟨kq, x19_2, rfl, HA, HJ2, BK516, HB⟩ := hcut
  cases kq with
  | zero => exact absurd HA.out (by simp [impl_May.j0])
  | succ kj2 =>
   have H := HA.out
   clear HA
   simp only [impl_May.j0] at H
   by_cases c16 : x19_2 = true
   {
   subst c16
   rw [if_pos rfl] at H
   obtain rfl := Option.some.inj H
   go_wp2
   go_ret
   exact ⟨by first | rfl | (simp [errW_none, errW_some] <;> rfl) | (simp [*, errW_none, errW_some] <;> rfl), by repeat (first | (with_reducible first | exact HB.out | apply below_alloc | apply pw_below_drewN | apply below_drew1 | refine below_set ?_ GE516.out) | exact HB.out)⟩
   }
   {
   replace c16 := Bool.eq_false_iff.mpr c16
   subst c16
   rw [if_neg Bool.false_ne_true] at H
   replace H := Option.bind_eq_some_iff.mp H
   obtain ⟨t518, A170, H⟩ := H
   (try dsimp only at H)
   have A17 := A_ A170
   clear A170
   replace H := Option.bind_eq_some_iff.mp H
   obtain ⟨t521, A180, H⟩ := H
   (try dsimp only at H)
   have A18 := A_ A180
   clear A180
   obtain rfl := Option.some.inj H
   go_wp2_with (first | ((with_reducible refine gate_callee (f := 92) rfl ?_); refine goesL_ (some 21) rfl rfl Try.func92 (by kernel_rfl) rfl #[.string a1] rfl z51b ?_; (with_reducible refine (impl_marks.calls kj2 a1 t518 _ A17.out).mono ?_); rintro e w19 ⟨v519, rfl, ho0, hb⟩; refine ⟨_, rfl, ?_⟩; have n0_ := A_ (Kd.R_lower ho0 (below_size z51a)); have n1_ := A_ (blk_below (g := gb516) (o := .cells #[.string a0_0, .string a0_1, .slice A0_2 l0_2.length c0_2, .slice A0_3 l0_3.length c0_3] 57 (0, 0)) (by (with_reducible repeat (first | refine blk_drewN ?_ _ | refine blk_drew ?_ | refine blk_alloc ?_ _)); exact BK516.out) hb); have n2_ := A_ (below_step z51a hb); clear BK516; clear HB; have HO520 := n0_; have BK516 := n1_; have HB := n2_; clear n0_ n1_ n2_; have hcz20_0 : w19.cell? ⟨gb516, 0, none⟩ = some (.string a0_0) := (blk_cell BK516.out 0).trans rfl; have hcz20_1 : w19.cell? ⟨gb516, 1, none⟩ = some (.string a0_1) := (blk_cell BK516.out 1).trans rfl; have hcz20_2 : w19.cell? ⟨gb516, 2, none⟩ = some (.slice A0_2 l0_2.length c0_2) := (blk_cell BK516.out 2).trans rfl; have hcz20_3 : w19.cell? ⟨gb516, 3, none⟩ = some (.slice A0_3 l0_3.length c0_3) := (blk_cell BK516.out 3).trans rfl; have hfz20_0 := blk_frozen BK516.out 0; have hfz20_1 := blk_frozen BK516.out 1; have hfz20_2 := blk_frozen BK516.out 2; have hfz20_3 := blk_frozen BK516.out 3; obtain ⟨Ao21, co21, eo21⟩ := Kd.R_slice HO520.out; subst eo21) | (go_at_call 91; refine (any_as (Option.some.inj A18.out) (has_int 93 #[.pointer (some ⟨gb516, 0, none⟩)] (enters_of Try.func93 (by kernel_rfl) rfl) (fun n_ => !mayHas l0_2 n_) Ao21 co21 t518 _ ?side1 ?side5)).mono ?_; (case side1 => exact (by repeat (first | exact (Kd.R_reads' HO520.out).2.2 | (with_reducible refine Kd.C_alloc ?_ _) | (with_reducible refine Kd.C_drewN ?_ _) | (with_reducible refine Kd.C_drew ?_)))); (case side5 => intro W_ x_ hW_; exact (may_lit gb516 _ _ _ _ l0_2 _ _ _ W_ (blk_below (by (with_reducible repeat (first | refine blk_drewN ?_ _ | refine blk_drew ?_ | refine blk_alloc ?_ _)); exact BK516.out) hW_) (Kd.C_below HR0_2.out (below_step z51a hW_)) HC0_2.out (HR0_2.out.2.1) x_).mono (by rintro e w' ⟨rfl, h_⟩; exact ⟨rfl, below_step hW_ h_⟩)); rintro e w' ⟨rfl, hb⟩; replace HB := A_ (below_step z51a hb)))
   go_ret
   exact ⟨by first | rfl | (simp [errW_none, errW_some] <;> rfl) | (simp [*, errW_none, errW_some] <;> rfl), by repeat (first | (with_reducible first | exact HB.out | apply below_alloc | apply pw_below_drewN | apply below_drew1 | refine below_set ?_ GE516.out) | exact HB.out)⟩
   
   }
end Go.Proofs.Ytaiggfjkikfcbaa.PFnExactMay

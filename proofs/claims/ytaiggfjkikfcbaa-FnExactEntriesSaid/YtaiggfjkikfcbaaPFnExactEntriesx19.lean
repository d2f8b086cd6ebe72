-- by a program of this session (wip/print/run.py) for this claim
import Derived.Test.YtaiggfjkikfcbaaLibPu
import Derived.Test.YtaiggfjkikfcbaaPFnExactEntriesx0
import Derived.Test.YtaiggfjkikfcbaaPFnExactEntriesx11
import Derived.Test.YtaiggfjkikfcbaaPFnExactEntriesx13
import Derived.Test.YtaiggfjkikfcbaaPFnExactEntriesx16
import Derived.Test.YtaiggfjkikfcbaaPFnExactEntriesx18
namespace Go.Proofs.Ytaiggfjkikfcbaa.PFnExactEntries
open Go.Proofs.Ytaiggfjkikfcbaa.Lib Go.RowKit Go.Proofs.YtaiggfjkikfcbaaW.PrintWords Go.Proofs.YtaiggfjkikfcbaaW.PrintLast Go.Proofs.YtaiggfjkikfcbaaW.PrintMore
attribute [local go_sem] max2_int min2_int max_two min_two max_three min_three max_four min_four   -- for this text's walks alone
set_option linter.unusedVariables false
set_option linter.unusedSimpArgs false

theorem z88a {p_ : Prop} (h_ : p_ := by repeat (first | (with_reducible first | exact HB.out | apply below_alloc | apply pw_below_drewN | apply below_drew1 | refine below_set ?_ GE510.out) | exact HB.out)) : p_ := h_
theorem z88b {p_ : Prop} (h_ : p_ := by (with_reducible repeat (first | refine blk_drewN ?_ _ | refine blk_drew ?_ | refine blk_alloc ?_ _)); exact BK510.out) : p_ := h_
def impl_entries.l0 : Nat → List (S31) → List ByteArray → Int → Int → ByteArray → ByteArray → List Int → List ByteArray → Option ((List (S31)) × Bool)
 | 0, _, _, _, _, _, _, _, _ => none
 | k + 1, x4, x17, x18, x19, x511000, x511001, x511002, x511003 => if x19 < x18 then (if 0 ≤ x19 then (if x19 < (x17.length : Int) then (if ((rdOf ByteArray.empty x17 x19).size : Int) ≤ 140737488351232 then ((impl_Unpacked.f k (bytesOf (rdOf ByteArray.empty x17 x19))).bind fun bt519 => (if bt519.2 = true then ((impl_within.f (bt519.1.length : Int) 1 8).bind fun t523 => (if t523 = true then (if x4.length + bt519.1.length < 2932031007402 then (impl_entries.l0 k (x4 ++ bt519.1) x17 x18 (wrap64 (x19 + 1)) x511000 x511001 x511002 x511003) else (none)) else (some (([] : List (S31)), false)))) else (some (([] : List (S31)), false)))) else (none)) else (none)) else (none)) else ((impl_EntriesOk.f k x4).bind fun t527 => (if t527 = true then ((impl_built.f k x4).bind fun bt528 => (if x511000.toList = bt528.1.toList then (if x511001.toList = bt528.2.1.toList then ((slices_Equal_int64.f k x511002 bt528.2.2.1).bind fun t537 => (some (x4, t537))) else (some (x4, false))) else (some (x4, false)))) else (some (([] : List (S31)), false))))
def impl_entries.f (k : Nat) (a0_0 : ByteArray) (a0_1 : ByteArray) (l0_2 : List Int) (l0_3 : List ByteArray) : Option ((List (S31)) × Bool) := (impl_within.f (l0_3.length : Int) 1 40).bind fun t511 => (if t511 = true then (impl_entries.l0 k (([] : List (S31))) l0_3 (l0_3.length : Int) 0 a0_0 a0_1 l0_2 l0_3) else (some (([] : List (S31)), false)))
set_option maxHeartbeats 8000000 in
set_option maxRecDepth 100000 in
theorem impl_entries.calls (k : Nat) (a0_0 : ByteArray) (a0_1 : ByteArray) (A0_2 : Option Addr) (c0_2 : Nat) (l0_2 : List Int) (A0_3 : Option Addr) (c0_3 : Nat) (l0_3 : List ByteArray) (r1 : List (S31)) (r2 : Bool) (w : World) (hr0_2 : Kd.C (Kd.int .i64) w A0_2 l0_2.length l0_2) (hc0_2 : l0_2.length ≤ c0_2) (hr0_3 : Kd.C Kd.string w A0_3 l0_3.length l0_3) (hc0_3 : l0_3.length ≤ c0_3) (h : impl_entries.f k a0_0 a0_1 l0_2 l0_3 = some (r1, r2)) :
  Calls Try.prog 88 #[.agg #[.string a0_0, .string a0_1, .slice A0_2 l0_2.length c0_2, .slice A0_3 l0_3.length c0_3]] w fun e w' => ∃ v0_ : Value, e = .returned (.tuple #[v0_, .bool r2]) ∧ Kd.R k31 31 w' w.heap.size (fun _ => True) v0_ r1 ∧ Below w.heap.size w w' := by
 have hu57 := Try.underlying57
 have HR0_2 := A_ hr0_2
 have HC0_2 := A_ hc0_2
 clear hr0_2 hc0_2
 have HR0_3 := A_ hr0_3
 have HC0_3 := A_ hc0_3
 clear hr0_3 hc0_3
 have HB := A_ (Below.refl w.heap.size w)
 have H : ((impl_within.f (l0_3.length : Int) 1 40).bind fun t511 => (if t511 = true then (impl_entries.l0 k (([] : List (S31))) l0_3 (l0_3.length : Int) 0 a0_0 a0_1 l0_2 l0_3) else (some (([] : List (S31)), false)))) = some (r1, r2) := h
 clear h
 replace H := Option.bind_eq_some_iff.mp H
 obtain ⟨t511, A20, H⟩ := H
 (try dsimp only at H)
 have A2 := A_ A20
 clear A20
 by_cases c3 : t511 = true
 {
 subst c3
 rw [if_pos rfl] at H
 obtain ⟨y512, hy512⟩ : ∃ y_ : List (S31), y_ = (([] : List (S31))) := ⟨_, rfl⟩
 replace H : (impl_entries.l0 k y512 l0_3 (l0_3.length : Int) 0 a0_0 a0_1 l0_2 l0_3) = some (r1, r2) := by first | (rw [hy512]; with_reducible exact H) | (have H2_ := (Option.bind_some _ _).symm.trans H; rw [hy512]; with_reducible exact H2_) | (have H2_ := (Option.bind_some _ _).symm.trans H; with_reducible exact H2_) | with_reducible exact H | (rw [hy512]; exact H) | exact H
 have Ny512 := A_ hy512
 clear hy512
 have H' := A_ H
 clear H
 go_enter Try.func88, Try.ntmps88
 go_wp2_with (first | ((with_reducible refine gate_dst (N := 1) rfl ?_); (try (refine gate_guard (by rfl) ?_; dsimp only)); refine box_event ?hg (N := 1) ?hd (cs := #[.string a0_0, .string a0_1, .slice A0_2 l0_2.length c0_2, .slice A0_3 l0_3.length c0_3]) (t := 57) ?hr ?_; (case hd => rfl); (case hg => rfl); (case hr => first | (go_simp; done) | (go_simp; rfl)); intro gb510 hg w4 hbox hb; have n0_ := A_ (below_step zg0 hb); have n1_ := A_ (hbox); have n2_ := A_ ((by rw [hg]; exact (below_size zg0) : w.heap.size ≤ gb510)); have n3_ := A_ ((by rw [hg]; exact (below_size zg0) : w.heap.size ≤ gb510)); clear HB; have HB := n0_; have BK510 := n1_; have GW510 := n2_; have GE510 := n3_; clear n0_ n1_ n2_ n3_; clear hb hbox hg; obtain ⟨hcz5_0, hcz5_1, hcz5_2, hcz5_3, hfz5_0, hfz5_1, hfz5_2, hfz5_3⟩ := bz4 BK510.out) | ((with_reducible refine gate_callee (f := 96) rfl ?_); refine goesL_ (some 13) rfl rfl Try.func96 (by kernel_rfl) rfl #[.int .i64 (l0_3.length : Int), .int .i64 1, .int .i64 40] rfl zg7 ?_; (with_reducible refine (impl_within.calls (l0_3.length : Int) 1 40 true _ A2.out).mono ?_); rintro e w' ⟨rfl, ⟨nd, rfl⟩⟩; refine ⟨_, rfl, ?_⟩) | ((with_reducible refine gate_dst (N := 15) rfl ?_); (try (refine gate_guard (by rfl) ?_; dsimp only)); refine Kd.R_lit k31 _ 31 ?hg (N := 15) ?hd (xs := ([] : List (S31))) (inner := []) (ok := fun _ => True) (okp := fun _ => True) ?hr ?hp (fun _ hk => hk) trivial (Below.refl _ _) (Nat.le_refl _) (by simp) ?_; (case hd => rfl); (case hg => rfl); (case hr => first | (go_simp; done) | (go_simp; rfl)); (case hp => exact (Reps.none _ _)); intro v513 w6 ho7 hb hg_ hnew_; clear hg_ hnew_; (first | rw [← Ny512.out] at ho7 | (simp only [Int.reduceToNat] at ho7; rw [← Ny512.out] at ho7)); have n0_ := A_ (Kd.R_lower ho7 (below_size z88a)); have n1_ := A_ (blk_below (g := gb510) (o := .cells #[.string a0_0, .string a0_1, .slice A0_2 l0_2.length c0_2, .slice A0_3 l0_3.length c0_3] 57 (0, 0)) z88b hb); have n2_ := A_ (below_step z88a hb); clear BK510; clear HB; have HO514 := n0_; have BK510 := n1_; have HB := n2_; clear n0_ n1_ n2_; clear hb ho7; obtain ⟨hcz8_0, hcz8_1, hcz8_2, hcz8_3, hfz8_0, hfz8_1, hfz8_2, hfz8_3⟩ := bz4 BK510.out))
 go_loopg [4, 19] k (fun kq v4 v19 w' => ∃ (x4_1 : List (S31)) (x19_1 : Int), v19 = .int .i64 x19_1 ∧ Aside0 (impl_entries.l0 kq x4_1 l0_3 (l0_3.length : Int) x19_1 a0_0 a0_1 l0_2 l0_3 = some (r1, r2)) ∧ Aside0 (kq ≤ k) ∧ Aside0 (Kd.R k31 31 w' w.heap.size (fun _ => True) v4 x4_1) ∧ Aside0 (w'.heap[gb510]? = some (.cells #[.string a0_0, .string a0_1, (.slice A0_2 l0_2.length c0_2), (.slice A0_3 l0_3.length c0_3)] 57 (0, 0))) ∧ Aside0 (Below w.heap.size w w'))
 case atStart => exact ⟨(y512), (0), (zs), H', ⟨Nat.le_refl _⟩, ⟨by (with_reducible repeat (first | apply Kd.R_alloc | apply Kd.R_drewN | apply Kd.R_drew)); exact HO514.out⟩, ⟨by (with_reducible repeat (first | refine blk_drewN ?_ _ | refine blk_drew ?_ | refine blk_alloc ?_ _)); exact BK510.out⟩, ⟨z88a⟩⟩
 case round =>
  clear H'
  try clear p2
  try clear c3
  try clear c8
  try clear hcz5_0
  try clear hcz5_1
  try clear hcz5_2
  try clear hcz5_3
  try clear hcz8_0
  try clear hcz8_1
  try clear hcz8_2
  try clear hcz8_3
  try clear hfz5_0
  try clear hfz5_1
  try clear hfz5_2
  try clear hfz5_3
  try clear hfz8_0
  try clear hfz8_1
  try clear hfz8_2
  try clear hfz8_3
  obtain ⟨x4_1, x19_1, rfl, HA, HK1, HO_4, BK510, HB⟩ := hrel
  cases gk with
  | zero => exact absurd HA.out (by simp [impl_entries.l0])
  | succ k1 =>
   have H := HA.out
   clear HA
   simp only [impl_entries.l0] at H
   by_cases c9 : x19_1 < (l0_3.length : Int)
   {
   rw [if_pos c9] at H
   have c9b0 : decide (x19_1 < (l0_3.length : Int)) = true := decide_eq_true c9
   clear c9
   by_cases c10 : 0 ≤ x19_1
   {
   rw [if_pos c10] at H
   have c10b0 : decide (0 ≤ x19_1) = true := decide_eq_true c10
   clear c10
   by_cases c11 : x19_1 < (l0_3.length : Int)
   {
   rw [if_pos c11] at H
   have c11b0 : decide (x19_1 < (l0_3.length : Int)) = true := decide_eq_true c11
   clear c11
   by_cases c12 : ((rdOf ByteArray.empty l0_3 x19_1).size : Int) ≤ 140737488351232
   {
   rw [if_pos c12] at H
   have c12b0 := eq_true c12
   have c12b1 : decide (((rdOf ByteArray.empty l0_3 x19_1).size : Int) ≤ 140737488351232) = true := decide_eq_true c12
   clear c12
   obtain ⟨y516, hy516⟩ : ∃ y_ : List Int, y_ = (bytesOf (rdOf ByteArray.empty l0_3 x19_1)) := ⟨_, rfl⟩
   replace H : ((impl_Unpacked.f k1 y516).bind fun bt519 => (if bt519.2 = true then ((impl_within.f (bt519.1.length : Int) 1 8).bind fun t523 => (if t523 = true then (if x4_1.length + bt519.1.length < 2932031007402 then (impl_entries.l0 k1 (x4_1 ++ bt519.1) l0_3 (l0_3.length : Int) (wrap64 (x19_1 + 1)) a0_0 a0_1 l0_2 l0_3) else (none)) else (some (([] : List (S31)), false)))) else (some (([] : List (S31)), false)))) = some (r1, r2) := by first | (rw [hy516]; with_reducible exact H) | (have H2_ := (Option.bind_some _ _).symm.trans H; rw [hy516]; with_reducible exact H2_) | (have H2_ := (Option.bind_some _ _).symm.trans H; with_reducible exact H2_) | with_reducible exact H | (rw [hy516]; exact H) | exact H
   have Ny516 := A_ hy516
   clear hy516
   replace H := Option.bind_eq_some_iff.mp H
   obtain ⟨⟨t519, t520⟩, A130, H⟩ := H
   (try dsimp only at H)
   have A13 := A_ A130
   clear A130
   by_cases c14 : t520 = true
   {
   subst c14
   rw [if_pos rfl] at H
   replace H := Option.bind_eq_some_iff.mp H
   obtain ⟨t523, A150, H⟩ := H
   (try dsimp only at H)
   have A15 := A_ A150
   clear A150
   by_cases c16 : t523 = true
   {
   subst c16
   rw [if_pos rfl] at H
   by_cases c17 : x4_1.length + t519.length < 2932031007402
   {
   rw [if_pos c17] at H
   have LMc17 := A_ c17
   clear c17
   obtain ⟨y524, hy524⟩ : ∃ y_ : List (S31), y_ = (x4_1 ++ t519) := ⟨_, rfl⟩
   replace H : (impl_entries.l0 k1 y524 l0_3 (l0_3.length : Int) (wrap64 (x19_1 + 1)) a0_0 a0_1 l0_2 l0_3) = some (r1, r2) := by first | (rw [hy524]; with_reducible exact H) | (have H2_ := (Option.bind_some _ _).symm.trans H; rw [hy524]; with_reducible exact H2_) | (have H2_ := (Option.bind_some _ _).symm.trans H; with_reducible exact H2_) | with_reducible exact H | (rw [hy524]; exact H) | exact H
   have Ny524 := A_ hy524
   clear hy524
   have H' := A_ H
   clear H
   have p515 : 0 ≤ (x19_1 : Int) := of_decide_eq_true zg2
   have q515 : x19_1 < (l0_3.length : Int) := of_decide_eq_true zg2
   obtain ⟨ad515, e515, hx515_0⟩ := Kd.at_string HR0_3.out x19_1 p515 q515
   cases e515
   replace hx515_0 := bq HB.out hx515_0
   replace p515 := eq_true p515
   replace q515 := eq_true q515
   go_wp2_with (first | ((with_reducible refine gate_dst (N := 25) rfl ?_); (try (refine gate_guard (by rfl) ?_; dsimp only)); refine Go.Proofs.Ytaiggfjkikfcbaa.Lib.R_conv _ 5 rfl (N := 25) rfl 9 36 (.tmp 24) rfl Try.underlying9 Try.underlying36 Try.underlying5 (rdOf ByteArray.empty l0_3 x19_1) rfl (ok := fun _ => True) (okp := fun _ => True) (fun _ hk => hk) trivial (of_decide_eq_true zg2) (Below.refl _ _) (Nat.le_refl _) ?_; intro v517 w18 ho19 hb hg_ hnew_; clear hg_ hnew_; (first | rw [← Ny516.out] at ho19 | (simp only [Int.reduceToNat] at ho19; rw [← Ny516.out] at ho19)); have n0_ := A_ (Kd.R_below zg10 hb); have n1_ := A_ (Kd.R_lower ho19 (below_size z88a)); have n2_ := A_ (blk_below (g := gb510) (o := .cells #[.string a0_0, .string a0_1, .slice A0_2 l0_2.length c0_2, .slice (some ad515) l0_3.length c0_3] 57 (0, 0)) z88b hb); have n3_ := A_ (below_step z88a hb); clear HO_4; clear BK510; clear HB; have HO_4 := n0_; have HO518 := n1_; have BK510 := n2_; have HB := n3_; clear n0_ n1_ n2_ n3_; clear hb ho19; obtain ⟨Ao20, co20, eo20⟩ := Kd.R_slice HO518.out; subst eo20) | ((with_reducible refine gate_callee (f := 118) rfl ?_); refine goesL_ (some 26) rfl rfl Try.func118 (by kernel_rfl) rfl #[.slice Ao20 y516.length co20] rfl zg7 ?_; (with_reducible refine (impl_Unpacked.calls k1 _ _ y516 t519 true _ ?side1 ?side2 A13.out).mono ?_); (case side1 => exact (by repeat (first | exact (Kd.R_reads' HO518.out).2.2 | (with_reducible refine Kd.C_alloc ?_ _) | (with_reducible refine Kd.C_drewN ?_ _) | (with_reducible refine Kd.C_drew ?_)))); (case side2 => exact (Kd.R_reads' HO518.out).2.1); rintro e w21 ⟨v521, rfl, ho0, hb⟩; refine ⟨_, rfl, ?_⟩; have n0_ := A_ (Kd.R_elder' zg10 (Kd.R_base ho0) hb); have n1_ := A_ (Kd.R_below (by (with_reducible repeat (first | apply Kd.R_alloc | apply Kd.R_drewN | apply Kd.R_drew)); exact HO518.out) hb); have n2_ := A_ (Kd.R_lower (Kd.R_new' ho0 (Kd.R_lt zg10)) (below_size z88a)); have n3_ := A_ (blk_below (g := gb510) (o := .cells #[.string a0_0, .string a0_1, .slice A0_2 l0_2.length c0_2, .slice (some ad515) l0_3.length c0_3] 57 (0, 0)) z88b hb); have n4_ := A_ (below_step z88a hb); clear HO_4; clear HO518; clear BK510; clear HB; have HO_4 := n0_; have HO518 := n1_; have HO522 := n2_; have BK510 := n3_; have HB := n4_; clear n0_ n1_ n2_ n3_ n4_; obtain ⟨Ao22, co22, eo22⟩ := Kd.R_slice HO522.out; subst eo22) | (go_at_call 96; (with_reducible refine (impl_within.calls (t519.length : Int) 1 8 true _ A15.out).mono ?_); rintro e w' ⟨rfl, ⟨nd, rfl⟩⟩) | ((with_reducible refine gate_builtin (b := .append) (xs := #[.tmp 37, .tmp 38]) rfl ?_); (try (refine gate_guard (by rfl) ?_; dsimp only)); at_builtin; refine Kd.R_append_rows k31 (w0 := w) w.heap.size rfl (.tmp 37) (.tmp 38) 27 31 (.agg #[(.string ⟨#[]⟩), (.string ⟨#[]⟩), (.int .i64 0), (.bool false)]) 48 rfl Try.underlying27 info31 rfl (by decide) (by omega) u4 x4_1 t519 _ _ _ (fun k_ => some k_ ≠ (.slice Ao22 t519.length co22 : Value).ownBlock) (fun _ => False) rfl rfl ?aO ?aR (fun _ _ h => h) (fun _ h => h.elim) ?aF ?aB ?aS ?aL ?_; (case aR => exact (by repeat (first | exact (Kd.R_reads' HO522.out).2.2 | (with_reducible refine Kd.C_alloc ?_ _) | (with_reducible refine Kd.C_drewN ?_ _) | (with_reducible refine Kd.C_drew ?_)))); (case aB => exact z88a); (case aF => exact (fun k_ hk => Kd.fresh' (Kd.R_lt (by (with_reducible repeat (first | apply Kd.R_alloc | apply Kd.R_drewN | apply Kd.R_drew)); exact HO522.out)) k_ hk)); (case aO => exact (by (with_reducible repeat (first | apply Kd.R_alloc | apply Kd.R_drewN | apply Kd.R_drew)); exact Kd.R_mono HO_4.out (fun _ hk => hk.2))); (case aS => exact (below_size z88a)); (case aL => have := LMc17.out; omega); intro v525 w23 ho hb hg hat; rw [← Ny524.out] at ho; have n0_ := A_ (blk_grown (g := gb510) (o := .cells #[.string a0_0, .string a0_1, .slice A0_2 l0_2.length c0_2, .slice (some ad515) l0_3.length c0_3] 57 (0, 0)) z88b hg (Kd.R_ne HO_4.out BK510.out (by decide))); have n1_ := A_ (Kd.R_over' (by (with_reducible repeat (first | apply Kd.R_alloc | apply Kd.R_drewN | apply Kd.R_drew)); exact HO518.out) (Kd.R_typed zg10) (by decide) hg); have n2_ := A_ (Kd.R_after (ok := (fun _ => True)) (by (with_reducible repeat (first | apply Kd.R_alloc | apply Kd.R_drewN | apply Kd.R_drew)); exact HO522.out) hg hat); have n3_ := A_ (hb); have n4_ := A_ (ho); clear BK510; clear HO518; clear HO522; clear HB; clear HO_4; have BK510 := n0_; have HO518 := n1_; have HO522 := n2_; have HB := n3_; have HO526 := n4_; clear n0_ n1_ n2_ n3_ n4_; clear ho hb hg hat))
   go_roundg k1
   case measure => have := HK1.out; omega
   case rel => exact ⟨(y524), (wrap64 (x19_1 + 1)), (zs), H', ⟨by have := HK1.out; omega⟩, ⟨by (with_reducible repeat (first | apply Kd.R_alloc | apply Kd.R_drewN | apply Kd.R_drew)); exact Kd.R_mono HO526.out (fun _ hk => trivial)⟩, ⟨by (with_reducible repeat (first | refine blk_drewN ?_ _ | refine blk_drew ?_ | refine blk_alloc ?_ _)); exact BK510.out⟩, ⟨z88a⟩⟩
   }
   {
   rw [if_neg c17] at H
   exact absurd H (by simp)
   }
   }
   {
   replace c16 := Bool.eq_false_iff.mpr c16
   subst c16
   rw [if_neg Bool.false_ne_true] at H
   simp only [Option.some.injEq, Prod.mk.injEq] at H
   obtain ⟨rfl, rfl⟩ := H
   have p515 : 0 ≤ (x19_1 : Int) := of_decide_eq_true zg2
   have q515 : x19_1 < (l0_3.length : Int) := of_decide_eq_true zg2
   obtain ⟨ad515, e515, hx515_0⟩ := Kd.at_string HR0_3.out x19_1 p515 q515
   cases e515
   replace hx515_0 := bq HB.out hx515_0
   replace p515 := eq_true p515
   replace q515 := eq_true q515
   go_wp2_with (first | ((with_reducible refine gate_dst (N := 25) rfl ?_); (try (refine gate_guard (by rfl) ?_; dsimp only)); refine Go.Proofs.Ytaiggfjkikfcbaa.Lib.R_conv _ 5 rfl (N := 25) rfl 9 36 (.tmp 24) rfl Try.underlying9 Try.underlying36 Try.underlying5 (rdOf ByteArray.empty l0_3 x19_1) rfl (ok := fun _ => True) (okp := fun _ => True) (fun _ hk => hk) trivial (of_decide_eq_true zg2) (Below.refl _ _) (Nat.le_refl _) ?_; intro v517 w24 ho25 hb hg_ hnew_; clear hg_ hnew_; (first | rw [← Ny516.out] at ho25 | (simp only [Int.reduceToNat] at ho25; rw [← Ny516.out] at ho25)); have n0_ := A_ (Kd.R_below zg10 hb); have n1_ := A_ (Kd.R_lower ho25 (below_size z88a)); have n2_ := A_ (blk_below (g := gb510) (o := .cells #[.string a0_0, .string a0_1, .slice A0_2 l0_2.length c0_2, .slice (some ad515) l0_3.length c0_3] 57 (0, 0)) z88b hb); have n3_ := A_ (below_step z88a hb); clear HO_4; clear BK510; clear HB; have HO_4 := n0_; have HO518 := n1_; have BK510 := n2_; have HB := n3_; clear n0_ n1_ n2_ n3_; clear hb ho25; obtain ⟨Ao26, co26, eo26⟩ := Kd.R_slice HO518.out; subst eo26) | ((with_reducible refine gate_callee (f := 118) rfl ?_); refine goesL_ (some 26) rfl rfl Try.func118 (by kernel_rfl) rfl #[.slice Ao26 y516.length co26] rfl zg7 ?_; (with_reducible refine (impl_Unpacked.calls k1 _ _ y516 t519 true _ ?side1 ?side2 A13.out).mono ?_); (case side1 => exact (by repeat (first | exact (Kd.R_reads' HO518.out).2.2 | (with_reducible refine Kd.C_alloc ?_ _) | (with_reducible refine Kd.C_drewN ?_ _) | (with_reducible refine Kd.C_drew ?_)))); (case side2 => exact (Kd.R_reads' HO518.out).2.1); rintro e w27 ⟨v521, rfl, ho0, hb⟩; refine ⟨_, rfl, ?_⟩; have n0_ := A_ (Kd.R_elder' zg10 (Kd.R_base ho0) hb); have n1_ := A_ (Kd.R_below (by (with_reducible repeat (first | apply Kd.R_alloc | apply Kd.R_drewN | apply Kd.R_drew)); exact HO518.out) hb); have n2_ := A_ (Kd.R_lower (Kd.R_new' ho0 (Kd.R_lt zg10)) (below_size z88a)); have n3_ := A_ (blk_below (g := gb510) (o := .cells #[.string a0_0, .string a0_1, .slice A0_2 l0_2.length c0_2, .slice (some ad515) l0_3.length c0_3] 57 (0, 0)) z88b hb); have n4_ := A_ (below_step z88a hb); clear HO_4; clear HO518; clear BK510; clear HB; have HO_4 := n0_; have HO518 := n1_; have HO522 := n2_; have BK510 := n3_; have HB := n4_; clear n0_ n1_ n2_ n3_ n4_; obtain ⟨Ao28, co28, eo28⟩ := Kd.R_slice HO522.out; subst eo28) | (go_at_call 96; (with_reducible refine (impl_within.calls (t519.length : Int) 1 8 false _ A15.out).mono ?_); rintro e w' ⟨rfl, ⟨nd, rfl⟩⟩))
   go_ret2
   exact ⟨_, zr, by first | exact Kd.R_nil _ _ _ _ _ | exact Kd.N_nil _ _ _ _ _ | exact Kd.V_nil _ _ _ _ _ | exact Kd.Q_nil _ _ _ _ _ | exact Kd.S_nil _ _ _ _ _, z88a⟩
   }
   }
   {
   replace c14 := Bool.eq_false_iff.mpr c14
   subst c14
   rw [if_neg Bool.false_ne_true] at H
   simp only [Option.some.injEq, Prod.mk.injEq] at H
   obtain ⟨rfl, rfl⟩ := H
   have p515 : 0 ≤ (x19_1 : Int) := of_decide_eq_true zg2
   have q515 : x19_1 < (l0_3.length : Int) := of_decide_eq_true zg2
   obtain ⟨ad515, e515, hx515_0⟩ := Kd.at_string HR0_3.out x19_1 p515 q515
   cases e515
   replace hx515_0 := bq HB.out hx515_0
   replace p515 := eq_true p515
   replace q515 := eq_true q515
   go_wp2_with (first | ((with_reducible refine gate_dst (N := 25) rfl ?_); (try (refine gate_guard (by rfl) ?_; dsimp only)); refine Go.Proofs.Ytaiggfjkikfcbaa.Lib.R_conv _ 5 rfl (N := 25) rfl 9 36 (.tmp 24) rfl Try.underlying9 Try.underlying36 Try.underlying5 (rdOf ByteArray.empty l0_3 x19_1) rfl (ok := fun _ => True) (okp := fun _ => True) (fun _ hk => hk) trivial (of_decide_eq_true zg2) (Below.refl _ _) (Nat.le_refl _) ?_; intro v517 w29 ho30 hb hg_ hnew_; clear hg_ hnew_; (first | rw [← Ny516.out] at ho30 | (simp only [Int.reduceToNat] at ho30; rw [← Ny516.out] at ho30)); have n0_ := A_ (Kd.R_below zg10 hb); have n1_ := A_ (Kd.R_lower ho30 (below_size z88a)); have n2_ := A_ (blk_below (g := gb510) (o := .cells #[.string a0_0, .string a0_1, .slice A0_2 l0_2.length c0_2, .slice (some ad515) l0_3.length c0_3] 57 (0, 0)) z88b hb); have n3_ := A_ (below_step z88a hb); clear HO_4; clear BK510; clear HB; have HO_4 := n0_; have HO518 := n1_; have BK510 := n2_; have HB := n3_; clear n0_ n1_ n2_ n3_; clear hb ho30; obtain ⟨Ao31, co31, eo31⟩ := Kd.R_slice HO518.out; subst eo31) | ((with_reducible refine gate_callee (f := 118) rfl ?_); refine goesL_ (some 26) rfl rfl Try.func118 (by kernel_rfl) rfl #[.slice Ao31 y516.length co31] rfl zg7 ?_; (with_reducible refine (impl_Unpacked.calls k1 _ _ y516 t519 false _ ?side1 ?side2 A13.out).mono ?_); (case side1 => exact (by repeat (first | exact (Kd.R_reads' HO518.out).2.2 | (with_reducible refine Kd.C_alloc ?_ _) | (with_reducible refine Kd.C_drewN ?_ _) | (with_reducible refine Kd.C_drew ?_)))); (case side2 => exact (Kd.R_reads' HO518.out).2.1); rintro e w32 ⟨v521, rfl, ho0, hb⟩; refine ⟨_, rfl, ?_⟩; have n0_ := A_ (Kd.R_elder' zg10 (Kd.R_base ho0) hb); have n1_ := A_ (Kd.R_below (by (with_reducible repeat (first | apply Kd.R_alloc | apply Kd.R_drewN | apply Kd.R_drew)); exact HO518.out) hb); have n2_ := A_ (Kd.R_lower (Kd.R_new' ho0 (Kd.R_lt zg10)) (below_size z88a)); have n3_ := A_ (blk_below (g := gb510) (o := .cells #[.string a0_0, .string a0_1, .slice A0_2 l0_2.length c0_2, .slice (some ad515) l0_3.length c0_3] 57 (0, 0)) z88b hb); have n4_ := A_ (below_step z88a hb); clear HO_4; clear HO518; clear BK510; clear HB; have HO_4 := n0_; have HO518 := n1_; have HO522 := n2_; have BK510 := n3_; have HB := n4_; clear n0_ n1_ n2_ n3_ n4_))
   go_ret2
   exact ⟨_, zr, by first | exact Kd.R_nil _ _ _ _ _ | exact Kd.N_nil _ _ _ _ _ | exact Kd.V_nil _ _ _ _ _ | exact Kd.Q_nil _ _ _ _ _ | exact Kd.S_nil _ _ _ _ _, z88a⟩
   }
   }
   {
   rw [if_neg c12] at H
   exact absurd H (by simp)
   }
   }
   {
   rw [if_neg c11] at H
   exact absurd H (by simp)
   }
   }
   {
   rw [if_neg c10] at H
   exact absurd H (by simp)
   }
   }
   {
   rw [if_neg c9] at H
   have c9b0 : decide (x19_1 < (l0_3.length : Int)) = false := decide_eq_false c9
   clear c9
   replace H := Option.bind_eq_some_iff.mp H
   obtain ⟨t527, A330, H⟩ := H
   (try dsimp only at H)
   have A33 := A_ A330
   clear A330
   by_cases c34 : t527 = true
   {
   subst c34
   rw [if_pos rfl] at H
   replace H := Option.bind_eq_some_iff.mp H
   obtain ⟨⟨t528, t529, t530, t533⟩, A350, H⟩ := H
   (try dsimp only at H)
   have A35 := A_ A350
   clear A350
   by_cases c36 : a0_0.toList = t528.toList
   {
   rw [if_pos c36] at H
   have c36b0 : (a0_0.toList == t528.toList) = true := beq_iff_eq.mpr c36
   have c36b1 : (a0_0.toList != t528.toList) = false := bne_eq_false_iff_eq.mpr c36
   clear c36
   by_cases c37 : a0_1.toList = t529.toList
   {
   rw [if_pos c37] at H
   have c37b0 : (a0_1.toList == t529.toList) = true := beq_iff_eq.mpr c37
   have c37b1 : (a0_1.toList != t529.toList) = false := bne_eq_false_iff_eq.mpr c37
   clear c37
   replace H := Option.bind_eq_some_iff.mp H
   obtain ⟨t537, A380, H⟩ := H
   (try dsimp only at H)
   have A38 := A_ A380
   clear A380
   simp only [Option.some.injEq, Prod.mk.injEq] at H
   obtain ⟨rfl, rfl⟩ := H
   obtain ⟨Ao39, co39, eo39⟩ := Kd.R_slice HO_4.out
   subst eo39
   go_wp2_with (first | ((with_reducible refine gate_callee (f := 26) rfl ?_); refine goesL_ (some 42) rfl rfl Try.func26 (by kernel_rfl) rfl #[.slice Ao39 x4_1.length co39] rfl zg7 ?_; (with_reducible refine (impl_EntriesOk.calls k1 _ _ x4_1 true _ ?side1 ?side2 A33.out).mono ?_); (case side1 => exact zg11); (case side2 => exact (Kd.R_reads' HO_4.out).2.1); rintro e w40 ⟨rfl, hb⟩; refine ⟨_, rfl, ?_⟩; replace HO_4 := A_ (Kd.R_below zg10 hb); replace BK510 := A_ (blk_below (g := gb510) (o := .cells #[.string a0_0, .string a0_1, .slice A0_2 l0_2.length c0_2, .slice A0_3 l0_3.length c0_3] 57 (0, 0)) z88b hb); replace HB := A_ (below_step z88a hb)) | ((with_reducible refine gate_callee (f := 74) rfl ?_); refine goesL_ (some 45) rfl rfl Try.func74 (by kernel_rfl) rfl #[.slice Ao39 x4_1.length co39] rfl zg7 ?_; (with_reducible refine (impl_built.calls k1 _ _ x4_1 t528 t529 t530 t533 _ ?side1 ?side2 A35.out).mono ?_); (case side1 => exact zg11); (case side2 => exact (Kd.R_reads' HO_4.out).2.1); rintro e w41 ⟨v531, v534, rfl, ho0, ho1, hb⟩; refine ⟨_, rfl, ?_⟩; have n0_ := A_ (Kd.R_below zg10 hb); have n1_ := A_ (Kd.R_lower ho0 (below_size z88a)); have n2_ := A_ (Kd.R_lower ho1 (below_size z88a)); have n3_ := A_ (blk_below (g := gb510) (o := .cells #[.string a0_0, .string a0_1, .slice A0_2 l0_2.length c0_2, .slice A0_3 l0_3.length c0_3] 57 (0, 0)) z88b hb); have n4_ := A_ (below_step z88a hb); clear HO_4; clear BK510; clear HB; have HO_4 := n0_; have HO532 := n1_; have HO535 := n2_; have BK510 := n3_; have HB := n4_; clear n0_ n1_ n2_ n3_ n4_; (try clear ho1)) | ((with_reducible refine gate_dst (N := 9) rfl ?_); (try (refine gate_guard (by rfl) ?_; dsimp only)); refine box_event ?hg (N := 9) ?hd (cs := #[.string (⟨#[]⟩ : ByteArray), .string (⟨#[]⟩ : ByteArray), .slice none 0 0, .slice none 0 0]) (t := 57) ?hr ?_; (case hd => rfl); (case hg => rfl); (case hr => first | (go_simp; done) | (go_simp; rfl)); intro gb536 hg w42 hbox hb; have n0_ := A_ (Kd.R_below zg10 hb); have n1_ := A_ (Kd.R_below (by (with_reducible repeat (first | apply Kd.R_alloc | apply Kd.R_drewN | apply Kd.R_drew)); exact HO532.out) hb); have n2_ := A_ (Kd.R_below (by (with_reducible repeat (first | apply Kd.R_alloc | apply Kd.R_drewN | apply Kd.R_drew)); exact HO535.out) hb); have n3_ := A_ (blk_below (g := gb510) (o := .cells #[.string a0_0, .string a0_1, .slice A0_2 l0_2.length c0_2, .slice A0_3 l0_3.length c0_3] 57 (0, 0)) z88b hb); have n4_ := A_ (below_step z88a hb); have n5_ := A_ (hbox); have n6_ := A_ ((by rw [hg]; exact (below_size z88a) : w.heap.size ≤ gb536)); have n7_ := A_ ((by rw [hg]; exact (below_size z88a) : w.heap.size ≤ gb536)); have n8_ := A_ ((by rw [hg]; exact Nat.ne_of_lt (blk_lt (g := gb510) (o := .cells #[.string a0_0, .string a0_1, .slice A0_2 l0_2.length c0_2, .slice A0_3 l0_3.length c0_3] 57 (0, 0)) z88b) : gb510 ≠ gb536)); have n9_ := A_ ((by rw [hg]; exact Nat.ne_of_gt (blk_lt (g := gb510) (o := .cells #[.string a0_0, .string a0_1, .slice A0_2 l0_2.length c0_2, .slice A0_3 l0_3.length c0_3] 57 (0, 0)) z88b) : gb536 ≠ gb510)); clear HO_4; clear HO532; clear HO535; clear BK510; clear HB; have HO_4 := n0_; have HO532 := n1_; have HO535 := n2_; have BK510 := n3_; have HB := n4_; have BK536 := n5_; have GW536 := n6_; have GE536 := n7_; have NB510_536 := n8_; have NB536_510 := n9_; clear n0_ n1_ n2_ n3_ n4_ n5_ n6_ n7_ n8_ n9_; clear hb hbox hg; have hnb43 := NB536_510.out; have hnc43 := NB510_536.out; obtain ⟨hcz44_0, hcz44_1, hcz44_2, hcz44_3, hfz44_0, hfz44_1, hfz44_2, hfz44_3⟩ := bz4 BK536.out; obtain ⟨Ao45, co45, eo45⟩ := Kd.R_slice HO532.out; subst eo45; obtain ⟨Ao46, co46, eo46⟩ := Kd.R_slice HO535.out; subst eo46; obtain ⟨hcz47_0, hcz47_1, hcz47_2, hcz47_3, hfz47_0, hfz47_1, hfz47_2, hfz47_3⟩ := bz4 BK510.out) | (go_at_call 119; (with_reducible refine (slices_Equal_int64.calls k1 _ _ l0_2 _ _ t530 t537 _ ?side1 ?side2 ?side3 ?side4 A38.out).mono ?_); (case side1 => exact Kd.C_below HR0_2.out (by repeat (first | (with_reducible first | exact HB.out | apply below_alloc | apply pw_below_drewN | apply below_drew1 | refine below_set ?_ GE510.out | refine below_set ?_ GE536.out) | exact HB.out))); (case side2 => exact HC0_2.out); (case side3 => refine (Kd.R_reads' (e := 2) (base := w.heap.size) (ok := fun k_ => True) (n := t530.length) (c := co45) ?_).2.2; exact (by (with_reducible repeat (first | apply Kd.R_alloc | apply Kd.R_drewN | apply Kd.R_drew)); exact (Kd.R_mono (Kd.R_far (p := ⟨gb536, 3, none⟩) (Kd.R_far (p := ⟨gb536, 2, none⟩) (Kd.R_far (p := ⟨gb536, 1, none⟩) (Kd.R_far (p := ⟨gb536, 0, none⟩) (Kd.R_types HO532.out BK536.out (by decide)) (fun _ hk => hk.2) (.string t528)) (fun _ hk => hk.2) (.string t529)) (fun _ hk => hk.2) (.slice Ao45 t530.length co45)) (fun _ hk => hk.2) (.slice Ao46 t533.length co46)) (fun _ h_ => h_.1)))); (case side4 => exact (Kd.R_reads' HO532.out).2.1); rintro e w' ⟨rfl, ⟨nd, rfl⟩⟩))
   go_ret2
   exact ⟨_, zr, by (with_reducible repeat (first | apply Kd.R_alloc | apply Kd.R_drewN | apply Kd.R_drew)); exact Kd.R_mono (Kd.R_far (p := ⟨gb536, 3, none⟩) (Kd.R_far (p := ⟨gb536, 2, none⟩) (Kd.R_far (p := ⟨gb536, 1, none⟩) (Kd.R_far (p := ⟨gb536, 0, none⟩) (Kd.R_types HO_4.out BK536.out (by decide)) (fun _ hk => hk.2) (.string t528)) (fun _ hk => hk.2) (.string t529)) (fun _ hk => hk.2) (.slice Ao45 t530.length co45)) (fun _ hk => hk.2) (.slice Ao46 t533.length co46)) (fun _ hk => trivial), by repeat (first | (with_reducible first | exact HB.out | apply below_alloc | apply pw_below_drewN | apply below_drew1 | refine below_set ?_ GE510.out | refine below_set ?_ GE536.out) | exact HB.out)⟩
   }
   {
   rw [if_neg c37] at H
   have c37b0 : (a0_1.toList == t529.toList) = false := beq_eq_false_iff_ne.mpr c37
   have c37b1 : (a0_1.toList != t529.toList) = true := bne_iff_ne.mpr c37
   simp only [Option.some.injEq, Prod.mk.injEq] at H
   obtain ⟨rfl, rfl⟩ := H
   obtain ⟨Ao48, co48, eo48⟩ := Kd.R_slice HO_4.out
   subst eo48
   go_wp2_with (first | ((with_reducible refine gate_callee (f := 26) rfl ?_); refine goesL_ (some 42) rfl rfl Try.func26 (by kernel_rfl) rfl #[.slice Ao48 x4_1.length co48] rfl zg7 ?_; (with_reducible refine (impl_EntriesOk.calls k1 _ _ x4_1 true _ ?side1 ?side2 A33.out).mono ?_); (case side1 => exact zg11); (case side2 => exact (Kd.R_reads' HO_4.out).2.1); rintro e w49 ⟨rfl, hb⟩; refine ⟨_, rfl, ?_⟩; replace HO_4 := A_ (Kd.R_below zg10 hb); replace BK510 := A_ (blk_below (g := gb510) (o := .cells #[.string a0_0, .string a0_1, .slice A0_2 l0_2.length c0_2, .slice A0_3 l0_3.length c0_3] 57 (0, 0)) z88b hb); replace HB := A_ (below_step z88a hb)) | ((with_reducible refine gate_callee (f := 74) rfl ?_); refine goesL_ (some 45) rfl rfl Try.func74 (by kernel_rfl) rfl #[.slice Ao48 x4_1.length co48] rfl zg7 ?_; (with_reducible refine (impl_built.calls k1 _ _ x4_1 t528 t529 t530 t533 _ ?side1 ?side2 A35.out).mono ?_); (case side1 => exact zg11); (case side2 => exact (Kd.R_reads' HO_4.out).2.1); rintro e w50 ⟨v531, v534, rfl, ho0, ho1, hb⟩; refine ⟨_, rfl, ?_⟩; have n0_ := A_ (Kd.R_below zg10 hb); have n1_ := A_ (Kd.R_lower ho0 (below_size z88a)); have n2_ := A_ (Kd.R_lower ho1 (below_size z88a)); have n3_ := A_ (blk_below (g := gb510) (o := .cells #[.string a0_0, .string a0_1, .slice A0_2 l0_2.length c0_2, .slice A0_3 l0_3.length c0_3] 57 (0, 0)) z88b hb); have n4_ := A_ (below_step z88a hb); clear HO_4; clear BK510; clear HB; have HO_4 := n0_; have HO532 := n1_; have HO535 := n2_; have BK510 := n3_; have HB := n4_; clear n0_ n1_ n2_ n3_ n4_; (try clear ho1)) | ((with_reducible refine gate_dst (N := 9) rfl ?_); (try (refine gate_guard (by rfl) ?_; dsimp only)); refine box_event ?hg (N := 9) ?hd (cs := #[.string (⟨#[]⟩ : ByteArray), .string (⟨#[]⟩ : ByteArray), .slice none 0 0, .slice none 0 0]) (t := 57) ?hr ?_; (case hd => rfl); (case hg => rfl); (case hr => first | (go_simp; done) | (go_simp; rfl)); intro gb536 hg w51 hbox hb; have n0_ := A_ (Kd.R_below zg10 hb); have n1_ := A_ (Kd.R_below (by (with_reducible repeat (first | apply Kd.R_alloc | apply Kd.R_drewN | apply Kd.R_drew)); exact HO532.out) hb); have n2_ := A_ (Kd.R_below (by (with_reducible repeat (first | apply Kd.R_alloc | apply Kd.R_drewN | apply Kd.R_drew)); exact HO535.out) hb); have n3_ := A_ (blk_below (g := gb510) (o := .cells #[.string a0_0, .string a0_1, .slice A0_2 l0_2.length c0_2, .slice A0_3 l0_3.length c0_3] 57 (0, 0)) z88b hb); have n4_ := A_ (below_step z88a hb); have n5_ := A_ (hbox); have n6_ := A_ ((by rw [hg]; exact (below_size z88a) : w.heap.size ≤ gb536)); have n7_ := A_ ((by rw [hg]; exact (below_size z88a) : w.heap.size ≤ gb536)); have n8_ := A_ ((by rw [hg]; exact Nat.ne_of_lt (blk_lt (g := gb510) (o := .cells #[.string a0_0, .string a0_1, .slice A0_2 l0_2.length c0_2, .slice A0_3 l0_3.length c0_3] 57 (0, 0)) z88b) : gb510 ≠ gb536)); have n9_ := A_ ((by rw [hg]; exact Nat.ne_of_gt (blk_lt (g := gb510) (o := .cells #[.string a0_0, .string a0_1, .slice A0_2 l0_2.length c0_2, .slice A0_3 l0_3.length c0_3] 57 (0, 0)) z88b) : gb536 ≠ gb510)); clear HO_4; clear HO532; clear HO535; clear BK510; clear HB; have HO_4 := n0_; have HO532 := n1_; have HO535 := n2_; have BK510 := n3_; have HB := n4_; have BK536 := n5_; have GW536 := n6_; have GE536 := n7_; have NB510_536 := n8_; have NB536_510 := n9_; clear n0_ n1_ n2_ n3_ n4_ n5_ n6_ n7_ n8_ n9_; clear hb hbox hg; have hnb52 := NB536_510.out; have hnc52 := NB510_536.out; obtain ⟨hcz53_0, hcz53_1, hcz53_2, hcz53_3, hfz53_0, hfz53_1, hfz53_2, hfz53_3⟩ := bz4 BK536.out; obtain ⟨Ao54, co54, eo54⟩ := Kd.R_slice HO532.out; subst eo54; obtain ⟨Ao55, co55, eo55⟩ := Kd.R_slice HO535.out; subst eo55; obtain ⟨hcz56_0, hcz56_1, hcz56_2, hcz56_3, hfz56_0, hfz56_1, hfz56_2, hfz56_3⟩ := bz4 BK510.out))
   go_ret2
   exact ⟨_, zr, by (with_reducible repeat (first | apply Kd.R_alloc | apply Kd.R_drewN | apply Kd.R_drew)); exact Kd.R_mono (Kd.R_far (p := ⟨gb536, 3, none⟩) (Kd.R_far (p := ⟨gb536, 2, none⟩) (Kd.R_far (p := ⟨gb536, 1, none⟩) (Kd.R_far (p := ⟨gb536, 0, none⟩) (Kd.R_types HO_4.out BK536.out (by decide)) (fun _ hk => hk.2) (.string t528)) (fun _ hk => hk.2) (.string t529)) (fun _ hk => hk.2) (.slice Ao54 t530.length co54)) (fun _ hk => hk.2) (.slice Ao55 t533.length co55)) (fun _ hk => trivial), by repeat (first | (with_reducible first | exact HB.out | apply below_alloc | apply pw_below_drewN | apply below_drew1 | refine below_set ?_ GE510.out | refine below_set ?_ GE536.out) | exact HB.out)⟩
   }
   }
   {
   rw [if_neg c36] at H
   have c36b0 : (a0_0.toList == t528.toList) = false := beq_eq_false_iff_ne.mpr c36
   have c36b1 : (a0_0.toList != t528.toList) = true := bne_iff_ne.mpr c36
   simp only [Option.some.injEq, Prod.mk.injEq] at H
   obtain ⟨rfl, rfl⟩ := H
   obtain ⟨Ao57, co57, eo57⟩ := Kd.R_slice HO_4.out
   subst eo57
   go_wp2_with (first | ((with_reducible refine gate_callee (f := 26) rfl ?_); refine goesL_ (some 42) rfl rfl Try.func26 (by kernel_rfl) rfl #[.slice Ao57 x4_1.length co57] rfl zg7 ?_; (with_reducible refine (impl_EntriesOk.calls k1 _ _ x4_1 true _ ?side1 ?side2 A33.out).mono ?_); (case side1 => exact zg11); (case side2 => exact (Kd.R_reads' HO_4.out).2.1); rintro e w58 ⟨rfl, hb⟩; refine ⟨_, rfl, ?_⟩; replace HO_4 := A_ (Kd.R_below zg10 hb); replace BK510 := A_ (blk_below (g := gb510) (o := .cells #[.string a0_0, .string a0_1, .slice A0_2 l0_2.length c0_2, .slice A0_3 l0_3.length c0_3] 57 (0, 0)) z88b hb); replace HB := A_ (below_step z88a hb)) | ((with_reducible refine gate_callee (f := 74) rfl ?_); refine goesL_ (some 45) rfl rfl Try.func74 (by kernel_rfl) rfl #[.slice Ao57 x4_1.length co57] rfl zg7 ?_; (with_reducible refine (impl_built.calls k1 _ _ x4_1 t528 t529 t530 t533 _ ?side1 ?side2 A35.out).mono ?_); (case side1 => exact zg11); (case side2 => exact (Kd.R_reads' HO_4.out).2.1); rintro e w59 ⟨v531, v534, rfl, ho0, ho1, hb⟩; refine ⟨_, rfl, ?_⟩; have n0_ := A_ (Kd.R_below zg10 hb); have n1_ := A_ (Kd.R_lower ho0 (below_size z88a)); have n2_ := A_ (Kd.R_lower ho1 (below_size z88a)); have n3_ := A_ (blk_below (g := gb510) (o := .cells #[.string a0_0, .string a0_1, .slice A0_2 l0_2.length c0_2, .slice A0_3 l0_3.length c0_3] 57 (0, 0)) z88b hb); have n4_ := A_ (below_step z88a hb); clear HO_4; clear BK510; clear HB; have HO_4 := n0_; have HO532 := n1_; have HO535 := n2_; have BK510 := n3_; have HB := n4_; clear n0_ n1_ n2_ n3_ n4_; (try clear ho1)) | ((with_reducible refine gate_dst (N := 9) rfl ?_); (try (refine gate_guard (by rfl) ?_; dsimp only)); refine box_event ?hg (N := 9) ?hd (cs := #[.string (⟨#[]⟩ : ByteArray), .string (⟨#[]⟩ : ByteArray), .slice none 0 0, .slice none 0 0]) (t := 57) ?hr ?_; (case hd => rfl); (case hg => rfl); (case hr => first | (go_simp; done) | (go_simp; rfl)); intro gb536 hg w60 hbox hb; have n0_ := A_ (Kd.R_below zg10 hb); have n1_ := A_ (Kd.R_below (by (with_reducible repeat (first | apply Kd.R_alloc | apply Kd.R_drewN | apply Kd.R_drew)); exact HO532.out) hb); have n2_ := A_ (Kd.R_below (by (with_reducible repeat (first | apply Kd.R_alloc | apply Kd.R_drewN | apply Kd.R_drew)); exact HO535.out) hb); have n3_ := A_ (blk_below (g := gb510) (o := .cells #[.string a0_0, .string a0_1, .slice A0_2 l0_2.length c0_2, .slice A0_3 l0_3.length c0_3] 57 (0, 0)) z88b hb); have n4_ := A_ (below_step z88a hb); have n5_ := A_ (hbox); have n6_ := A_ ((by rw [hg]; exact (below_size z88a) : w.heap.size ≤ gb536)); have n7_ := A_ ((by rw [hg]; exact (below_size z88a) : w.heap.size ≤ gb536)); have n8_ := A_ ((by rw [hg]; exact Nat.ne_of_lt (blk_lt (g := gb510) (o := .cells #[.string a0_0, .string a0_1, .slice A0_2 l0_2.length c0_2, .slice A0_3 l0_3.length c0_3] 57 (0, 0)) z88b) : gb510 ≠ gb536)); have n9_ := A_ ((by rw [hg]; exact Nat.ne_of_gt (blk_lt (g := gb510) (o := .cells #[.string a0_0, .string a0_1, .slice A0_2 l0_2.length c0_2, .slice A0_3 l0_3.length c0_3] 57 (0, 0)) z88b) : gb536 ≠ gb510)); clear HO_4; clear HO532; clear HO535; clear BK510; clear HB; have HO_4 := n0_; have HO532 := n1_; have HO535 := n2_; have BK510 := n3_; have HB := n4_; have BK536 := n5_; have GW536 := n6_; have GE536 := n7_; have NB510_536 := n8_; have NB536_510 := n9_; clear n0_ n1_ n2_ n3_ n4_ n5_ n6_ n7_ n8_ n9_; clear hb hbox hg; have hnb61 := NB536_510.out; have hnc61 := NB510_536.out; obtain ⟨hcz62_0, hcz62_1, hcz62_2, hcz62_3, hfz62_0, hfz62_1, hfz62_2, hfz62_3⟩ := bz4 BK536.out; obtain ⟨Ao63, co63, eo63⟩ := Kd.R_slice HO532.out; subst eo63; obtain ⟨Ao64, co64, eo64⟩ := Kd.R_slice HO535.out; subst eo64; obtain ⟨hcz65_0, hcz65_1, hcz65_2, hcz65_3, hfz65_0, hfz65_1, hfz65_2, hfz65_3⟩ := bz4 BK510.out))
   go_ret2
   exact ⟨_, zr, by (with_reducible repeat (first | apply Kd.R_alloc | apply Kd.R_drewN | apply Kd.R_drew)); exact Kd.R_mono (Kd.R_far (p := ⟨gb536, 3, none⟩) (Kd.R_far (p := ⟨gb536, 2, none⟩) (Kd.R_far (p := ⟨gb536, 1, none⟩) (Kd.R_far (p := ⟨gb536, 0, none⟩) (Kd.R_types HO_4.out BK536.out (by decide)) (fun _ hk => hk.2) (.string t528)) (fun _ hk => hk.2) (.string t529)) (fun _ hk => hk.2) (.slice Ao63 t530.length co63)) (fun _ hk => hk.2) (.slice Ao64 t533.length co64)) (fun _ hk => trivial), by repeat (first | (with_reducible first | exact HB.out | apply below_alloc | apply pw_below_drewN | apply below_drew1 | refine below_set ?_ GE510.out | refine below_set ?_ GE536.out) | exact HB.out)⟩
   }
   }
   {
   replace c34 := Bool.eq_false_iff.mpr c34
   subst c34
   rw [if_neg Bool.false_ne_true] at H
   simp only [Option.some.injEq, Prod.mk.injEq] at H
   obtain ⟨rfl, rfl⟩ := H
   obtain ⟨Ao66, co66, eo66⟩ := Kd.R_slice HO_4.out
   subst eo66
   go_wp2_with (first | ((with_reducible refine gate_callee (f := 26) rfl ?_); refine goesL_ (some 42) rfl rfl Try.func26 (by kernel_rfl) rfl #[.slice Ao66 x4_1.length co66] rfl zg7 ?_; (with_reducible refine (impl_EntriesOk.calls k1 _ _ x4_1 false _ ?side1 ?side2 A33.out).mono ?_); (case side1 => exact zg11); (case side2 => exact (Kd.R_reads' HO_4.out).2.1); rintro e w67 ⟨rfl, hb⟩; refine ⟨_, rfl, ?_⟩; replace HO_4 := A_ (Kd.R_below zg10 hb); replace BK510 := A_ (blk_below (g := gb510) (o := .cells #[.string a0_0, .string a0_1, .slice A0_2 l0_2.length c0_2, .slice A0_3 l0_3.length c0_3] 57 (0, 0)) z88b hb); replace HB := A_ (below_step z88a hb)))
   go_ret2
   exact ⟨_, zr, by first | exact Kd.R_nil _ _ _ _ _ | exact Kd.N_nil _ _ _ _ _ | exact Kd.V_nil _ _ _ _ _ | exact Kd.Q_nil _ _ _ _ _ | exact Kd.S_nil _ _ _ _ _, z88a⟩
   }
   }
 }
 {
 replace c3 := Bool.eq_false_iff.mpr c3
 subst c3
 rw [if_neg Bool.false_ne_true] at H
 simp only [Option.some.injEq, Prod.mk.injEq] at H
 obtain ⟨rfl, rfl⟩ := H
 go_enter Try.func88, Try.ntmps88
 go_wp2_with (first | ((with_reducible refine gate_dst (N := 1) rfl ?_); (try (refine gate_guard (by rfl) ?_; dsimp only)); refine box_event ?hg (N := 1) ?hd (cs := #[.string a0_0, .string a0_1, .slice A0_2 l0_2.length c0_2, .slice A0_3 l0_3.length c0_3]) (t := 57) ?hr ?_; (case hd => rfl); (case hg => rfl); (case hr => first | (go_simp; done) | (go_simp; rfl)); intro gb510 hg w68 hbox hb; have n0_ := A_ (below_step zg0 hb); have n1_ := A_ (hbox); have n2_ := A_ ((by rw [hg]; exact (below_size zg0) : w.heap.size ≤ gb510)); have n3_ := A_ ((by rw [hg]; exact (below_size zg0) : w.heap.size ≤ gb510)); clear HB; have HB := n0_; have BK510 := n1_; have GW510 := n2_; have GE510 := n3_; clear n0_ n1_ n2_ n3_; clear hb hbox hg; obtain ⟨hcz69_0, hcz69_1, hcz69_2, hcz69_3, hfz69_0, hfz69_1, hfz69_2, hfz69_3⟩ := bz4 BK510.out) | ((with_reducible refine gate_callee (f := 96) rfl ?_); refine goesL_ (some 13) rfl rfl Try.func96 (by kernel_rfl) rfl #[.int .i64 (l0_3.length : Int), .int .i64 1, .int .i64 40] rfl zg7 ?_; (with_reducible refine (impl_within.calls (l0_3.length : Int) 1 40 false _ A2.out).mono ?_); rintro e w' ⟨rfl, ⟨nd, rfl⟩⟩; refine ⟨_, rfl, ?_⟩))
 go_ret2
 exact ⟨_, zr, by first | exact Kd.R_nil _ _ _ _ _ | exact Kd.N_nil _ _ _ _ _ | exact Kd.V_nil _ _ _ _ _ | exact Kd.Q_nil _ _ _ _ _ | exact Kd.S_nil _ _ _ _ _, z88a⟩
 
 }
theorem z46b {p_ : Prop} (h_ : p_ := by repeat (first | (with_reducible first | exact HB.out | apply below_alloc | apply pw_below_drewN | apply below_drew1 | refine below_set ?_ GE538.out) | exact HB.out)) : p_ := h_
def impl_Entries.f (k : Nat) (a0_0 : ByteArray) (a0_1 : ByteArray) (l0_2 : List Int) (l0_3 : List ByteArray) : Option ((List (S31))) := (impl_entries.f k a0_0 a0_1 l0_2 l0_3).bind fun bt539 => (if bt539.2 = true then (some bt539.1) else (some ([] : List (S31))))
set_option maxHeartbeats 8000000 in
set_option maxRecDepth 100000 in
theorem impl_Entries.calls (k : Nat) (a0_0 : ByteArray) (a0_1 : ByteArray) (A0_2 : Option Addr) (c0_2 : Nat) (l0_2 : List Int) (A0_3 : Option Addr) (c0_3 : Nat) (l0_3 : List ByteArray) (r : List (S31)) (w : World) (hr0_2 : Kd.C (Kd.int .i64) w A0_2 l0_2.length l0_2) (hc0_2 : l0_2.length ≤ c0_2) (hr0_3 : Kd.C Kd.string w A0_3 l0_3.length l0_3) (hc0_3 : l0_3.length ≤ c0_3) (h : impl_Entries.f k a0_0 a0_1 l0_2 l0_3 = some r) :
  Calls Try.prog 46 #[.agg #[.string a0_0, .string a0_1, .slice A0_2 l0_2.length c0_2, .slice A0_3 l0_3.length c0_3]] w fun e w' => ∃ v0_ : Value, e = .returned (v0_) ∧ Kd.R k31 31 w' w.heap.size (fun _ => True) v0_ r ∧ Below w.heap.size w w' := by
 have hu57 := Try.underlying57
 have HR0_2 := A_ hr0_2
 have HC0_2 := A_ hc0_2
 clear hr0_2 hc0_2
 have HR0_3 := A_ hr0_3
 have HC0_3 := A_ hc0_3
 clear hr0_3 hc0_3
 have HB := A_ (Below.refl w.heap.size w)
 have H : ((impl_entries.f k a0_0 a0_1 l0_2 l0_3).bind fun bt539 => (if bt539.2 = true then (some bt539.1) else (some ([] : List (S31))))) = some r := h
 clear h
 replace H := Option.bind_eq_some_iff.mp H
 obtain ⟨⟨t539, t542⟩, A20, H⟩ := H
 (try dsimp only at H)
 have A2 := A_ A20
 clear A20
 by_cases c3 : t542 = true
 {
 subst c3
 rw [if_pos rfl] at H
 obtain rfl := Option.some.inj H
 go_enter Try.func46, Try.ntmps46
 go_wp2_with (first | ((with_reducible refine gate_dst (N := 1) rfl ?_); refine box_event ?hg (N := 1) ?hd (cs := #[.string a0_0, .string a0_1, .slice A0_2 l0_2.length c0_2, .slice A0_3 l0_3.length c0_3]) (t := 57) ?hr ?_; (case hd => rfl); (case hg => rfl); (case hr => first | (go_simp; done) | (go_simp; rfl)); intro gb538 hg w4 hbox hb; have n0_ := A_ (below_step zg0 hb); have n1_ := A_ (hbox); have n2_ := A_ ((by rw [hg]; exact (below_size zg0) : w.heap.size ≤ gb538)); have n3_ := A_ ((by rw [hg]; exact (below_size zg0) : w.heap.size ≤ gb538)); clear HB; have HB := n0_; have BK538 := n1_; have GW538 := n2_; have GE538 := n3_; clear n0_ n1_ n2_ n3_; clear hb hbox hg; obtain ⟨hcz5_0, hcz5_1, hcz5_2, hcz5_3, hfz5_0, hfz5_1, hfz5_2, hfz5_3⟩ := bz4 BK538.out) | ((with_reducible refine gate_callee (f := 88) rfl ?_); refine goesL_ (some 7) rfl rfl Try.func88 (by kernel_rfl) rfl #[.agg #[.string a0_0, .string a0_1, .slice A0_2 l0_2.length c0_2, .slice A0_3 l0_3.length c0_3]] rfl (by (try simp only [List.map_toArray, List.map_cons, List.map_nil]); first | done | rfl | (simp only [List.length_drop, List.length_take]; rfl)) ?_; (with_reducible refine (impl_entries.calls k a0_0 a0_1 _ _ l0_2 _ _ l0_3 t539 true _ ?side1 ?side2 ?side3 ?side4 A2.out).mono ?_); (case side1 => exact zg6); (case side2 => exact HC0_2.out); (case side3 => exact zg8); (case side4 => exact HC0_3.out); rintro e w6 ⟨v540, rfl, ho0, hb⟩; refine ⟨_, rfl, ?_⟩; have n0_ := A_ (Kd.R_lower ho0 (below_size z46b)); have n1_ := A_ (blk_below (g := gb538) (o := .cells #[.string a0_0, .string a0_1, .slice A0_2 l0_2.length c0_2, .slice A0_3 l0_3.length c0_3] 57 (0, 0)) (by (with_reducible repeat (first | refine blk_drewN ?_ _ | refine blk_drew ?_ | refine blk_alloc ?_ _)); exact BK538.out) hb); have n2_ := A_ (below_step z46b hb); clear BK538; clear HB; have HO541 := n0_; have BK538 := n1_; have HB := n2_; clear n0_ n1_ n2_))
 go_ret
 exact ⟨_, zr, by (with_reducible repeat (first | apply Kd.R_alloc | apply Kd.R_drewN | apply Kd.R_drew)); exact HO541.out, z46b⟩
 }
 {
 replace c3 := Bool.eq_false_iff.mpr c3
 subst c3
 rw [if_neg Bool.false_ne_true] at H
 obtain rfl := Option.some.inj H
 go_enter Try.func46, Try.ntmps46
 go_wp2_with (first | ((with_reducible refine gate_dst (N := 1) rfl ?_); refine box_event ?hg (N := 1) ?hd (cs := #[.string a0_0, .string a0_1, .slice A0_2 l0_2.length c0_2, .slice A0_3 l0_3.length c0_3]) (t := 57) ?hr ?_; (case hd => rfl); (case hg => rfl); (case hr => first | (go_simp; done) | (go_simp; rfl)); intro gb538 hg w7 hbox hb; have n0_ := A_ (below_step zg0 hb); have n1_ := A_ (hbox); have n2_ := A_ ((by rw [hg]; exact (below_size zg0) : w.heap.size ≤ gb538)); have n3_ := A_ ((by rw [hg]; exact (below_size zg0) : w.heap.size ≤ gb538)); clear HB; have HB := n0_; have BK538 := n1_; have GW538 := n2_; have GE538 := n3_; clear n0_ n1_ n2_ n3_; clear hb hbox hg; obtain ⟨hcz8_0, hcz8_1, hcz8_2, hcz8_3, hfz8_0, hfz8_1, hfz8_2, hfz8_3⟩ := bz4 BK538.out) | ((with_reducible refine gate_callee (f := 88) rfl ?_); refine goesL_ (some 7) rfl rfl Try.func88 (by kernel_rfl) rfl #[.agg #[.string a0_0, .string a0_1, .slice A0_2 l0_2.length c0_2, .slice A0_3 l0_3.length c0_3]] rfl (by (try simp only [List.map_toArray, List.map_cons, List.map_nil]); first | done | rfl | (simp only [List.length_drop, List.length_take]; rfl)) ?_; (with_reducible refine (impl_entries.calls k a0_0 a0_1 _ _ l0_2 _ _ l0_3 t539 false _ ?side1 ?side2 ?side3 ?side4 A2.out).mono ?_); (case side1 => exact zg6); (case side2 => exact HC0_2.out); (case side3 => exact zg8); (case side4 => exact HC0_3.out); rintro e w9 ⟨v540, rfl, ho0, hb⟩; refine ⟨_, rfl, ?_⟩; have n0_ := A_ (Kd.R_lower ho0 (below_size z46b)); have n1_ := A_ (blk_below (g := gb538) (o := .cells #[.string a0_0, .string a0_1, .slice A0_2 l0_2.length c0_2, .slice A0_3 l0_3.length c0_3] 57 (0, 0)) (by (with_reducible repeat (first | refine blk_drewN ?_ _ | refine blk_drew ?_ | refine blk_alloc ?_ _)); exact BK538.out) hb); have n2_ := A_ (below_step z46b hb); clear BK538; clear HB; have HO541 := n0_; have BK538 := n1_; have HB := n2_; clear n0_ n1_ n2_))
 go_ret
 exact ⟨_, zr, by first | exact Kd.R_nil _ _ _ _ _ | exact Kd.N_nil _ _ _ _ _ | exact Kd.V_nil _ _ _ _ _ | exact Kd.Q_nil _ _ _ _ _ | exact Kd.S_nil _ _ _ _ _, z46b⟩
 
 }
end Go.Proofs.Ytaiggfjkikfcbaa.PFnExactEntries

-- by a program of this session (wip/print/run.py) for this claim
import Derived.Test.YtaiggfjkikfcbaaLibPu
import Derived.Test.YtaiggfjkikfcbaaPFnExactFoundx0
import Derived.Test.YtaiggfjkikfcbaaPFnExactFoundx10
import Derived.Test.YtaiggfjkikfcbaaPFnExactFoundx11
import Derived.Test.YtaiggfjkikfcbaaPFnExactFoundx14
import Derived.Test.YtaiggfjkikfcbaaPFnExactFoundx16
namespace Go.Proofs.Ytaiggfjkikfcbaa.PFnExactFound
open Go.Proofs.Ytaiggfjkikfcbaa.Lib Go.RowKit Go.Proofs.YtaiggfjkikfcbaaW.PrintWords Go.Proofs.YtaiggfjkikfcbaaW.PrintLast Go.Proofs.YtaiggfjkikfcbaaW.PrintMore
attribute [local go_sem] max2_int min2_int max_two min_two max_three min_three max_four min_four   -- for this text's walks alone
set_option linter.unusedVariables false
set_option linter.unusedSimpArgs false

theorem z88a {p_ : Prop} (h_ : p_ := by repeat (first | (with_reducible first | exact HB.out | apply below_alloc | apply pw_below_drewN | apply below_drew1 | refine below_set ?_ GE496.out) | exact HB.out)) : p_ := h_
theorem z88b {p_ : Prop} (h_ : p_ := by (with_reducible repeat (first | refine blk_drewN ?_ _ | refine blk_drew ?_ | refine blk_alloc ?_ _)); exact BK496.out) : p_ := h_
theorem z88c {p_ : Prop} (h_ : p_ := by (with_reducible repeat (first | apply Kd.R_alloc | apply Kd.R_drewN | apply Kd.R_drew)); exact HO_4.out) : p_ := h_
theorem z88d {p_ : Prop} (h_ : p_ := by (try simp only [List.map_toArray, List.map_cons, List.map_nil]); first | done | rfl | (simp only [List.length_drop, List.length_take]; rfl)) : p_ := h_
theorem z88e {p_ : Prop} (h_ : p_ := by repeat (first | exact (Kd.R_reads' HO_4.out).2.2 | (with_reducible refine Kd.C_alloc ?_ _) | (with_reducible refine Kd.C_drewN ?_ _) | (with_reducible refine Kd.C_drew ?_))) : p_ := h_
theorem z88f {p_ : Prop} (h_ : p_ := by repeat (first | (with_reducible first | exact HB.out | apply below_alloc | apply pw_below_drewN | apply below_drew1) | exact HB.out)) : p_ := h_
theorem z88g {p_ : Prop} (h_ : p_ := by first | (with_reducible assumption) | assumption) : p_ := h_
def impl_entries.l0 : Nat → List (S31) → List ByteArray → Int → Int → ByteArray → ByteArray → List Int → List ByteArray → Option ((List (S31)) × Bool)
 | 0, _, _, _, _, _, _, _, _ => none
 | k + 1, x4, x17, x18, x19, x497000, x497001, x497002, x497003 => if x19 < x18 then (if 0 ≤ x19 then (if x19 < (x17.length : Int) then (if ((rdOf ByteArray.empty x17 x19).size : Int) ≤ 140737488351232 then ((impl_Unpacked.f k (bytesOf (rdOf ByteArray.empty x17 x19))).bind fun bt505 => (if bt505.2 = true then ((impl_within.f (bt505.1.length : Int) 1 8).bind fun t509 => (if t509 = true then (if x4.length + bt505.1.length < 2932031007402 then (impl_entries.l0 k (x4 ++ bt505.1) x17 x18 (wrap64 (x19 + 1)) x497000 x497001 x497002 x497003) else (none)) else (some (([] : List (S31)), false)))) else (some (([] : List (S31)), false)))) else (none)) else (none)) else (none)) else ((impl_EntriesOk.f k x4).bind fun t513 => (if t513 = true then ((impl_built.f k x4).bind fun bt514 => (if x497000.toList = bt514.1.toList then (if x497001.toList = bt514.2.1.toList then ((slices_Equal_int64.f k x497002 bt514.2.2.1).bind fun t523 => (some (x4, t523))) else (some (x4, false))) else (some (x4, false)))) else (some (([] : List (S31)), false))))
def impl_entries.f (k : Nat) (a0_0 : ByteArray) (a0_1 : ByteArray) (l0_2 : List Int) (l0_3 : List ByteArray) : Option ((List (S31)) × Bool) := (impl_within.f (l0_3.length : Int) 1 40).bind fun t497 => (if t497 = true then (impl_entries.l0 k (([] : List (S31))) l0_3 (l0_3.length : Int) 0 a0_0 a0_1 l0_2 l0_3) else (some (([] : List (S31)), false)))
set_option maxHeartbeats 8000000 in
set_option maxRecDepth 100000 in
theorem impl_entries.calls (k : Nat) (a0_0 : ByteArray) (a0_1 : ByteArray) (A0_2 : Option Addr) (c0_2 : Nat) (l0_2 : List Int) (A0_3 : Option Addr) (c0_3 : Nat) (l0_3 : List ByteArray) (r1 : List (S31)) (r2 : Bool) (w : World) (hr0_2 : Kd.C (Kd.int .i64) w A0_2 l0_2.length l0_2) (hc0_2 : l0_2.length ≤ c0_2) (hr0_3 : Kd.C Kd.string w A0_3 l0_3.length l0_3) (hc0_3 : l0_3.length ≤ c0_3) (h : impl_entries.f k a0_0 a0_1 l0_2 l0_3 = some (r1, r2)) :
  Calls Try.prog 88 #[.agg #[.string a0_0, .string a0_1, .slice A0_2 l0_2.length c0_2, .slice A0_3 l0_3.length c0_3]] w fun e w' => ∃ v0_ : Value, e = .returned (.tuple #[v0_, .bool r2]) ∧ Kd.R k31 31 w' w.heap.size (fun _ => True) v0_ r1 ∧ Below w.heap.size w w' := by
 have hu57 := Try.underlying57
 have HR0_2 := A_ hr0_2
 have HC0_2 := A_ hc0_2
 clear hr0_2 hc0_2
 have HR0_3 := A_ hr0_3
 have HC0_3 := A_ hc0_3
 clear hr0_3 hc0_3
 have HB := A_ (Below.refl w.heap.size w)
 have H : ((impl_within.f (l0_3.length : Int) 1 40).bind fun t497 => (if t497 = true then (impl_entries.l0 k (([] : List (S31))) l0_3 (l0_3.length : Int) 0 a0_0 a0_1 l0_2 l0_3) else (some (([] : List (S31)), false)))) = some (r1, r2) := h
 clear h
 replace H := Option.bind_eq_some_iff.mp H
 obtain ⟨t497, A20, H⟩ := H
 (try dsimp only at H)
 have A2 := A_ A20
 clear A20
 by_cases c3 : t497 = true
 {
 subst c3
 rw [if_pos rfl] at H
 obtain ⟨y498, hy498⟩ : ∃ y_ : List (S31), y_ = (([] : List (S31))) := ⟨_, rfl⟩
 replace H : (impl_entries.l0 k y498 l0_3 (l0_3.length : Int) 0 a0_0 a0_1 l0_2 l0_3) = some (r1, r2) := by first | (rw [hy498]; with_reducible exact H) | (have H2_ := (Option.bind_some _ _).symm.trans H; rw [hy498]; with_reducible exact H2_) | (have H2_ := (Option.bind_some _ _).symm.trans H; with_reducible exact H2_) | with_reducible exact H | (rw [hy498]; exact H) | exact H
 have Ny498 := A_ hy498
 clear hy498
 have H' := A_ H
 clear H
 go_enter Try.func88, Try.ntmps88
 go_wp2_with (first | ((with_reducible refine gate_dst (N := 1) rfl ?_); (try (refine gate_guard (by rfl) ?_; dsimp only)); refine box_event ?hg (N := 1) ?hd (cs := #[.string a0_0, .string a0_1, .slice A0_2 l0_2.length c0_2, .slice A0_3 l0_3.length c0_3]) (t := 57) ?hr ?_; (case hd => rfl); (case hg => rfl); (case hr => first | (go_simp; done) | (go_simp; rfl)); intro gb496 hg w4 hbox hb; have n0_ := A_ (below_step z88f hb); have n1_ := A_ (hbox); have n2_ := A_ ((by rw [hg]; exact (below_size z88f) : w.heap.size ≤ gb496)); have n3_ := A_ ((by rw [hg]; exact (below_size z88f) : w.heap.size ≤ gb496)); clear HB; have HB := n0_; have BK496 := n1_; have GW496 := n2_; have GE496 := n3_; clear n0_ n1_ n2_ n3_; clear hb hbox hg; have hcz5_0 : w4.cell? ⟨gb496, 0, none⟩ = some (.string a0_0) := (blk_cell BK496.out 0).trans rfl; have hcz5_1 : w4.cell? ⟨gb496, 1, none⟩ = some (.string a0_1) := (blk_cell BK496.out 1).trans rfl; have hcz5_2 : w4.cell? ⟨gb496, 2, none⟩ = some (.slice A0_2 l0_2.length c0_2) := (blk_cell BK496.out 2).trans rfl; have hcz5_3 : w4.cell? ⟨gb496, 3, none⟩ = some (.slice A0_3 l0_3.length c0_3) := (blk_cell BK496.out 3).trans rfl; have hfz5_0 := blk_frozen BK496.out 0; have hfz5_1 := blk_frozen BK496.out 1; have hfz5_2 := blk_frozen BK496.out 2; have hfz5_3 := blk_frozen BK496.out 3) | ((with_reducible refine gate_callee (f := 96) rfl ?_); refine goesL_ (some 13) rfl rfl Try.func96 (by kernel_rfl) rfl #[.int .i64 (l0_3.length : Int), .int .i64 1, .int .i64 40] rfl z88d ?_; (with_reducible refine (impl_within.calls (l0_3.length : Int) 1 40 true _ A2.out).mono ?_); rintro e w' ⟨rfl, ⟨nd, rfl⟩⟩; refine ⟨_, rfl, ?_⟩) | ((with_reducible refine gate_dst (N := 15) rfl ?_); (try (refine gate_guard (by rfl) ?_; dsimp only)); refine Kd.R_lit k31 _ 31 ?hg (N := 15) ?hd (xs := ([] : List (S31))) (inner := []) (ok := fun _ => True) (okp := fun _ => True) ?hr ?hp (fun _ hk => hk) trivial (Below.refl _ _) (Nat.le_refl _) (by simp) ?_; (case hd => rfl); (case hg => rfl); (case hr => first | (go_simp; done) | (go_simp; rfl)); (case hp => exact (Reps.none _ _)); intro v499 w6 ho7 hb hg_ hnew_; clear hg_ hnew_; (first | rw [← Ny498.out] at ho7 | (simp only [Int.reduceToNat] at ho7; rw [← Ny498.out] at ho7)); have n0_ := A_ (Kd.R_lower ho7 (below_size z88a)); have n1_ := A_ (blk_below (g := gb496) (o := .cells #[.string a0_0, .string a0_1, .slice A0_2 l0_2.length c0_2, .slice A0_3 l0_3.length c0_3] 57 (0, 0)) z88b hb); have n2_ := A_ (below_step z88a hb); clear BK496; clear HB; have HO500 := n0_; have BK496 := n1_; have HB := n2_; clear n0_ n1_ n2_; clear hb ho7; have hcz8_0 : w6.cell? ⟨gb496, 0, none⟩ = some (.string a0_0) := (blk_cell BK496.out 0).trans rfl; have hcz8_1 : w6.cell? ⟨gb496, 1, none⟩ = some (.string a0_1) := (blk_cell BK496.out 1).trans rfl; have hcz8_2 : w6.cell? ⟨gb496, 2, none⟩ = some (.slice A0_2 l0_2.length c0_2) := (blk_cell BK496.out 2).trans rfl; have hcz8_3 : w6.cell? ⟨gb496, 3, none⟩ = some (.slice A0_3 l0_3.length c0_3) := (blk_cell BK496.out 3).trans rfl; have hfz8_0 := blk_frozen BK496.out 0; have hfz8_1 := blk_frozen BK496.out 1; have hfz8_2 := blk_frozen BK496.out 2; have hfz8_3 := blk_frozen BK496.out 3))
 go_loopg [4, 19] k (fun kq v4 v19 w' => ∃ (x4_1 : List (S31)) (x19_1 : Int), v19 = .int .i64 x19_1 ∧ Aside0 (impl_entries.l0 kq x4_1 l0_3 (l0_3.length : Int) x19_1 a0_0 a0_1 l0_2 l0_3 = some (r1, r2)) ∧ Aside0 (kq ≤ k) ∧ Aside0 (Kd.R k31 31 w' w.heap.size (fun _ => True) v4 x4_1) ∧ Aside0 (w'.heap[gb496]? = some (.cells #[.string a0_0, .string a0_1, (.slice A0_2 l0_2.length c0_2), (.slice A0_3 l0_3.length c0_3)] 57 (0, 0))) ∧ Aside0 (Below w.heap.size w w'))
 case atStart => exact ⟨(y498), (0), (by first | rfl | (simp; done) | (simp [*]; done)), H', ⟨Nat.le_refl _⟩, ⟨by (with_reducible repeat (first | apply Kd.R_alloc | apply Kd.R_drewN | apply Kd.R_drew)); exact HO500.out⟩, ⟨by (with_reducible repeat (first | refine blk_drewN ?_ _ | refine blk_drew ?_ | refine blk_alloc ?_ _)); exact BK496.out⟩, ⟨by repeat (first | (with_reducible first | exact HB.out | apply below_alloc | apply pw_below_drewN | apply below_drew1 | refine below_set ?_ GE496.out) | exact HB.out)⟩⟩
 case round =>
  clear H'
  try clear p2
  try clear c3
  try clear c8
  try clear hcz5_0
  try clear hcz5_1
  try clear hcz5_2
  try clear hcz5_3
  try clear hcz8_0
  try clear hcz8_1
  try clear hcz8_2
  try clear hcz8_3
  try clear hfz5_0
  try clear hfz5_1
  try clear hfz5_2
  try clear hfz5_3
  try clear hfz8_0
  try clear hfz8_1
  try clear hfz8_2
  try clear hfz8_3
  obtain ⟨x4_1, x19_1, rfl, HA, HK1, HO_4, BK496, HB⟩ := hrel
  cases gk with
  | zero => exact absurd HA.out (by simp [impl_entries.l0])
  | succ k1 =>
   have H := HA.out
   clear HA
   simp only [impl_entries.l0] at H
   by_cases c9 : x19_1 < (l0_3.length : Int)
   {
   rw [if_pos c9] at H
   have c9b0 : decide (x19_1 < (l0_3.length : Int)) = true := decide_eq_true c9
   clear c9
   by_cases c10 : 0 ≤ x19_1
   {
   rw [if_pos c10] at H
   have c10b0 : decide (0 ≤ x19_1) = true := decide_eq_true c10
   clear c10
   by_cases c11 : x19_1 < (l0_3.length : Int)
   {
   rw [if_pos c11] at H
   have c11b0 : decide (x19_1 < (l0_3.length : Int)) = true := decide_eq_true c11
   clear c11
   by_cases c12 : ((rdOf ByteArray.empty l0_3 x19_1).size : Int) ≤ 140737488351232
   {
   rw [if_pos c12] at H
   have c12b0 := eq_true c12
   have c12b1 : decide (((rdOf ByteArray.empty l0_3 x19_1).size : Int) ≤ 140737488351232) = true := decide_eq_true c12
   clear c12
   obtain ⟨y502, hy502⟩ : ∃ y_ : List Int, y_ = (bytesOf (rdOf ByteArray.empty l0_3 x19_1)) := ⟨_, rfl⟩
   replace H : ((impl_Unpacked.f k1 y502).bind fun bt505 => (if bt505.2 = true then ((impl_within.f (bt505.1.length : Int) 1 8).bind fun t509 => (if t509 = true then (if x4_1.length + bt505.1.length < 2932031007402 then (impl_entries.l0 k1 (x4_1 ++ bt505.1) l0_3 (l0_3.length : Int) (wrap64 (x19_1 + 1)) a0_0 a0_1 l0_2 l0_3) else (none)) else (some (([] : List (S31)), false)))) else (some (([] : List (S31)), false)))) = some (r1, r2) := by first | (rw [hy502]; with_reducible exact H) | (have H2_ := (Option.bind_some _ _).symm.trans H; rw [hy502]; with_reducible exact H2_) | (have H2_ := (Option.bind_some _ _).symm.trans H; with_reducible exact H2_) | with_reducible exact H | (rw [hy502]; exact H) | exact H
   have Ny502 := A_ hy502
   clear hy502
   replace H := Option.bind_eq_some_iff.mp H
   obtain ⟨⟨t505, t506⟩, A130, H⟩ := H
   (try dsimp only at H)
   have A13 := A_ A130
   clear A130
   by_cases c14 : t506 = true
   {
   subst c14
   rw [if_pos rfl] at H
   replace H := Option.bind_eq_some_iff.mp H
   obtain ⟨t509, A150, H⟩ := H
   (try dsimp only at H)
   have A15 := A_ A150
   clear A150
   by_cases c16 : t509 = true
   {
   subst c16
   rw [if_pos rfl] at H
   by_cases c17 : x4_1.length + t505.length < 2932031007402
   {
   rw [if_pos c17] at H
   have LMc17 := A_ c17
   clear c17
   obtain ⟨y510, hy510⟩ : ∃ y_ : List (S31), y_ = (x4_1 ++ t505) := ⟨_, rfl⟩
   replace H : (impl_entries.l0 k1 y510 l0_3 (l0_3.length : Int) (wrap64 (x19_1 + 1)) a0_0 a0_1 l0_2 l0_3) = some (r1, r2) := by first | (rw [hy510]; with_reducible exact H) | (have H2_ := (Option.bind_some _ _).symm.trans H; rw [hy510]; with_reducible exact H2_) | (have H2_ := (Option.bind_some _ _).symm.trans H; with_reducible exact H2_) | with_reducible exact H | (rw [hy510]; exact H) | exact H
   have Ny510 := A_ hy510
   clear hy510
   have H' := A_ H
   clear H
   have p501 : 0 ≤ (x19_1 : Int) := of_decide_eq_true z88g
   have q501 : x19_1 < (l0_3.length : Int) := of_decide_eq_true z88g
   obtain ⟨ad501, e501, hx501_0⟩ := Kd.at_string HR0_3.out x19_1 p501 q501
   cases e501
   replace hx501_0 := (HB.out.cell (World.block_lt_of_cell? w _ hx501_0)).trans hx501_0
   replace p501 := eq_true p501
   replace q501 := eq_true q501
   go_wp2_with (first | ((with_reducible refine gate_dst (N := 25) rfl ?_); (try (refine gate_guard (by rfl) ?_; dsimp only)); refine Go.Proofs.Ytaiggfjkikfcbaa.Lib.R_conv _ 5 rfl (N := 25) rfl 9 36 (.tmp 24) rfl Try.underlying9 Try.underlying36 Try.underlying5 (rdOf ByteArray.empty l0_3 x19_1) rfl (ok := fun _ => True) (okp := fun _ => True) (fun _ hk => hk) trivial (of_decide_eq_true z88g) (Below.refl _ _) (Nat.le_refl _) ?_; intro v503 w18 ho19 hb hg_ hnew_; clear hg_ hnew_; (first | rw [← Ny502.out] at ho19 | (simp only [Int.reduceToNat] at ho19; rw [← Ny502.out] at ho19)); have n0_ := A_ (Kd.R_below z88c hb); have n1_ := A_ (Kd.R_lower ho19 (below_size z88a)); have n2_ := A_ (blk_below (g := gb496) (o := .cells #[.string a0_0, .string a0_1, .slice A0_2 l0_2.length c0_2, .slice (some ad501) l0_3.length c0_3] 57 (0, 0)) z88b hb); have n3_ := A_ (below_step z88a hb); clear HO_4; clear BK496; clear HB; have HO_4 := n0_; have HO504 := n1_; have BK496 := n2_; have HB := n3_; clear n0_ n1_ n2_ n3_; clear hb ho19; obtain ⟨Ao20, co20, eo20⟩ := Kd.R_slice HO504.out; subst eo20) | ((with_reducible refine gate_callee (f := 118) rfl ?_); refine goesL_ (some 26) rfl rfl Try.func118 (by kernel_rfl) rfl #[.slice Ao20 y502.length co20] rfl z88d ?_; (with_reducible refine (impl_Unpacked.calls k1 _ _ y502 t505 true _ ?side1 ?side2 A13.out).mono ?_); (case side1 => exact (by repeat (first | exact (Kd.R_reads' HO504.out).2.2 | (with_reducible refine Kd.C_alloc ?_ _) | (with_reducible refine Kd.C_drewN ?_ _) | (with_reducible refine Kd.C_drew ?_)))); (case side2 => exact (Kd.R_reads' HO504.out).2.1); rintro e w21 ⟨v507, rfl, ho0, hb⟩; refine ⟨_, rfl, ?_⟩; have n0_ := A_ (Kd.R_elder' z88c (Kd.R_base ho0) hb); have n1_ := A_ (Kd.R_below (by (with_reducible repeat (first | apply Kd.R_alloc | apply Kd.R_drewN | apply Kd.R_drew)); exact HO504.out) hb); have n2_ := A_ (Kd.R_lower (Kd.R_new' ho0 (Kd.R_lt z88c)) (below_size z88a)); have n3_ := A_ (blk_below (g := gb496) (o := .cells #[.string a0_0, .string a0_1, .slice A0_2 l0_2.length c0_2, .slice (some ad501) l0_3.length c0_3] 57 (0, 0)) z88b hb); have n4_ := A_ (below_step z88a hb); clear HO_4; clear HO504; clear BK496; clear HB; have HO_4 := n0_; have HO504 := n1_; have HO508 := n2_; have BK496 := n3_; have HB := n4_; clear n0_ n1_ n2_ n3_ n4_; obtain ⟨Ao22, co22, eo22⟩ := Kd.R_slice HO508.out; subst eo22) | (go_at_call 96; (with_reducible refine (impl_within.calls (t505.length : Int) 1 8 true _ A15.out).mono ?_); rintro e w' ⟨rfl, ⟨nd, rfl⟩⟩) | ((with_reducible refine gate_builtin (b := .append) (xs := #[.tmp 37, .tmp 38]) rfl ?_); (try (refine gate_guard (by rfl) ?_; dsimp only)); at_builtin; refine Kd.R_append_rows k31 (w0 := w) w.heap.size rfl (.tmp 37) (.tmp 38) 27 31 (.agg #[(.string ⟨#[]⟩), (.string ⟨#[]⟩), (.int .i64 0), (.bool false)]) 48 rfl Try.underlying27 info31 rfl (by decide) (by omega) u4 x4_1 t505 _ _ _ (fun k_ => some k_ ≠ (.slice Ao22 t505.length co22 : Value).ownBlock) (fun _ => False) rfl rfl ?aO ?aR (fun _ _ h => h) (fun _ h => h.elim) ?aF ?aB ?aS ?aL ?_; (case aR => exact (by repeat (first | exact (Kd.R_reads' HO508.out).2.2 | (with_reducible refine Kd.C_alloc ?_ _) | (with_reducible refine Kd.C_drewN ?_ _) | (with_reducible refine Kd.C_drew ?_)))); (case aB => exact z88a); (case aF => exact (fun k_ hk => Kd.fresh' (Kd.R_lt (by (with_reducible repeat (first | apply Kd.R_alloc | apply Kd.R_drewN | apply Kd.R_drew)); exact HO508.out)) k_ hk)); (case aO => exact (by (with_reducible repeat (first | apply Kd.R_alloc | apply Kd.R_drewN | apply Kd.R_drew)); exact Kd.R_mono HO_4.out (fun _ hk => hk.2))); (case aS => exact (below_size z88a)); (case aL => have := LMc17.out; omega); intro v511 w23 ho hb hg hat; rw [← Ny510.out] at ho; have n0_ := A_ (blk_grown (g := gb496) (o := .cells #[.string a0_0, .string a0_1, .slice A0_2 l0_2.length c0_2, .slice (some ad501) l0_3.length c0_3] 57 (0, 0)) z88b hg (Kd.R_ne HO_4.out BK496.out (by decide))); have n1_ := A_ (Kd.R_over' (by (with_reducible repeat (first | apply Kd.R_alloc | apply Kd.R_drewN | apply Kd.R_drew)); exact HO504.out) (Kd.R_typed z88c) (by decide) hg); have n2_ := A_ (Kd.R_after (ok := (fun _ => True)) (by (with_reducible repeat (first | apply Kd.R_alloc | apply Kd.R_drewN | apply Kd.R_drew)); exact HO508.out) hg hat); have n3_ := A_ (hb); have n4_ := A_ (ho); clear BK496; clear HO504; clear HO508; clear HB; clear HO_4; have BK496 := n0_; have HO504 := n1_; have HO508 := n2_; have HB := n3_; have HO512 := n4_; clear n0_ n1_ n2_ n3_ n4_; clear ho hb hg hat))
   go_roundg k1
   case measure => have := HK1.out; omega
   case rel => exact ⟨(y510), (wrap64 (x19_1 + 1)), (by first | rfl | (simp; done) | (simp [*]; done)), H', ⟨by have := HK1.out; omega⟩, ⟨by (with_reducible repeat (first | apply Kd.R_alloc | apply Kd.R_drewN | apply Kd.R_drew)); exact Kd.R_mono HO512.out (fun _ hk => trivial)⟩, ⟨by (with_reducible repeat (first | refine blk_drewN ?_ _ | refine blk_drew ?_ | refine blk_alloc ?_ _)); exact BK496.out⟩, ⟨by repeat (first | (with_reducible first | exact HB.out | apply below_alloc | apply pw_below_drewN | apply below_drew1 | refine below_set ?_ GE496.out) | exact HB.out)⟩⟩
   }
   {
   rw [if_neg c17] at H
   exact absurd H (by simp)
   }
   }
   {
   replace c16 := Bool.eq_false_iff.mpr c16
   subst c16
   rw [if_neg Bool.false_ne_true] at H
   simp only [Option.some.injEq, Prod.mk.injEq] at H
   obtain ⟨rfl, rfl⟩ := H
   have p501 : 0 ≤ (x19_1 : Int) := of_decide_eq_true z88g
   have q501 : x19_1 < (l0_3.length : Int) := of_decide_eq_true z88g
   obtain ⟨ad501, e501, hx501_0⟩ := Kd.at_string HR0_3.out x19_1 p501 q501
   cases e501
   replace hx501_0 := (HB.out.cell (World.block_lt_of_cell? w _ hx501_0)).trans hx501_0
   replace p501 := eq_true p501
   replace q501 := eq_true q501
   go_wp2_with (first | ((with_reducible refine gate_dst (N := 25) rfl ?_); (try (refine gate_guard (by rfl) ?_; dsimp only)); refine Go.Proofs.Ytaiggfjkikfcbaa.Lib.R_conv _ 5 rfl (N := 25) rfl 9 36 (.tmp 24) rfl Try.underlying9 Try.underlying36 Try.underlying5 (rdOf ByteArray.empty l0_3 x19_1) rfl (ok := fun _ => True) (okp := fun _ => True) (fun _ hk => hk) trivial (of_decide_eq_true z88g) (Below.refl _ _) (Nat.le_refl _) ?_; intro v503 w24 ho25 hb hg_ hnew_; clear hg_ hnew_; (first | rw [← Ny502.out] at ho25 | (simp only [Int.reduceToNat] at ho25; rw [← Ny502.out] at ho25)); have n0_ := A_ (Kd.R_below z88c hb); have n1_ := A_ (Kd.R_lower ho25 (below_size z88a)); have n2_ := A_ (blk_below (g := gb496) (o := .cells #[.string a0_0, .string a0_1, .slice A0_2 l0_2.length c0_2, .slice (some ad501) l0_3.length c0_3] 57 (0, 0)) z88b hb); have n3_ := A_ (below_step z88a hb); clear HO_4; clear BK496; clear HB; have HO_4 := n0_; have HO504 := n1_; have BK496 := n2_; have HB := n3_; clear n0_ n1_ n2_ n3_; clear hb ho25; obtain ⟨Ao26, co26, eo26⟩ := Kd.R_slice HO504.out; subst eo26) | ((with_reducible refine gate_callee (f := 118) rfl ?_); refine goesL_ (some 26) rfl rfl Try.func118 (by kernel_rfl) rfl #[.slice Ao26 y502.length co26] rfl z88d ?_; (with_reducible refine (impl_Unpacked.calls k1 _ _ y502 t505 true _ ?side1 ?side2 A13.out).mono ?_); (case side1 => exact (by repeat (first | exact (Kd.R_reads' HO504.out).2.2 | (with_reducible refine Kd.C_alloc ?_ _) | (with_reducible refine Kd.C_drewN ?_ _) | (with_reducible refine Kd.C_drew ?_)))); (case side2 => exact (Kd.R_reads' HO504.out).2.1); rintro e w27 ⟨v507, rfl, ho0, hb⟩; refine ⟨_, rfl, ?_⟩; have n0_ := A_ (Kd.R_elder' z88c (Kd.R_base ho0) hb); have n1_ := A_ (Kd.R_below (by (with_reducible repeat (first | apply Kd.R_alloc | apply Kd.R_drewN | apply Kd.R_drew)); exact HO504.out) hb); have n2_ := A_ (Kd.R_lower (Kd.R_new' ho0 (Kd.R_lt z88c)) (below_size z88a)); have n3_ := A_ (blk_below (g := gb496) (o := .cells #[.string a0_0, .string a0_1, .slice A0_2 l0_2.length c0_2, .slice (some ad501) l0_3.length c0_3] 57 (0, 0)) z88b hb); have n4_ := A_ (below_step z88a hb); clear HO_4; clear HO504; clear BK496; clear HB; have HO_4 := n0_; have HO504 := n1_; have HO508 := n2_; have BK496 := n3_; have HB := n4_; clear n0_ n1_ n2_ n3_ n4_; obtain ⟨Ao28, co28, eo28⟩ := Kd.R_slice HO508.out; subst eo28) | (go_at_call 96; (with_reducible refine (impl_within.calls (t505.length : Int) 1 8 false _ A15.out).mono ?_); rintro e w' ⟨rfl, ⟨nd, rfl⟩⟩))
   go_ret2
   exact ⟨_, by first | rfl | (simp [errW_none, errW_some] <;> rfl) | (simp [*, errW_none, errW_some] <;> rfl), by first | exact Kd.R_nil _ _ _ _ _ | exact Kd.N_nil _ _ _ _ _ | exact Kd.V_nil _ _ _ _ _ | exact Kd.Q_nil _ _ _ _ _ | exact Kd.S_nil _ _ _ _ _, by repeat (first | (with_reducible first | exact HB.out | apply below_alloc | apply pw_below_drewN | apply below_drew1 | refine below_set ?_ GE496.out) | exact HB.out)⟩
   }
   }
   {
   replace c14 := Bool.eq_false_iff.mpr c14
   subst c14
   rw [if_neg Bool.false_ne_true] at H
   simp only [Option.some.injEq, Prod.mk.injEq] at H
   obtain ⟨rfl, rfl⟩ := H
   have p501 : 0 ≤ (x19_1 : Int) := of_decide_eq_true z88g
   have q501 : x19_1 < (l0_3.length : Int) := of_decide_eq_true z88g
   obtain ⟨ad501, e501, hx501_0⟩ := Kd.at_string HR0_3.out x19_1 p501 q501
   cases e501
   replace hx501_0 := (HB.out.cell (World.block_lt_of_cell? w _ hx501_0)).trans hx501_0
   replace p501 := eq_true p501
   replace q501 := eq_true q501
   go_wp2_with (first | ((with_reducible refine gate_dst (N := 25) rfl ?_); (try (refine gate_guard (by rfl) ?_; dsimp only)); refine Go.Proofs.Ytaiggfjkikfcbaa.Lib.R_conv _ 5 rfl (N := 25) rfl 9 36 (.tmp 24) rfl Try.underlying9 Try.underlying36 Try.underlying5 (rdOf ByteArray.empty l0_3 x19_1) rfl (ok := fun _ => True) (okp := fun _ => True) (fun _ hk => hk) trivial (of_decide_eq_true z88g) (Below.refl _ _) (Nat.le_refl _) ?_; intro v503 w29 ho30 hb hg_ hnew_; clear hg_ hnew_; (first | rw [← Ny502.out] at ho30 | (simp only [Int.reduceToNat] at ho30; rw [← Ny502.out] at ho30)); have n0_ := A_ (Kd.R_below z88c hb); have n1_ := A_ (Kd.R_lower ho30 (below_size z88a)); have n2_ := A_ (blk_below (g := gb496) (o := .cells #[.string a0_0, .string a0_1, .slice A0_2 l0_2.length c0_2, .slice (some ad501) l0_3.length c0_3] 57 (0, 0)) z88b hb); have n3_ := A_ (below_step z88a hb); clear HO_4; clear BK496; clear HB; have HO_4 := n0_; have HO504 := n1_; have BK496 := n2_; have HB := n3_; clear n0_ n1_ n2_ n3_; clear hb ho30; obtain ⟨Ao31, co31, eo31⟩ := Kd.R_slice HO504.out; subst eo31) | ((with_reducible refine gate_callee (f := 118) rfl ?_); refine goesL_ (some 26) rfl rfl Try.func118 (by kernel_rfl) rfl #[.slice Ao31 y502.length co31] rfl z88d ?_; (with_reducible refine (impl_Unpacked.calls k1 _ _ y502 t505 false _ ?side1 ?side2 A13.out).mono ?_); (case side1 => exact (by repeat (first | exact (Kd.R_reads' HO504.out).2.2 | (with_reducible refine Kd.C_alloc ?_ _) | (with_reducible refine Kd.C_drewN ?_ _) | (with_reducible refine Kd.C_drew ?_)))); (case side2 => exact (Kd.R_reads' HO504.out).2.1); rintro e w32 ⟨v507, rfl, ho0, hb⟩; refine ⟨_, rfl, ?_⟩; have n0_ := A_ (Kd.R_elder' z88c (Kd.R_base ho0) hb); have n1_ := A_ (Kd.R_below (by (with_reducible repeat (first | apply Kd.R_alloc | apply Kd.R_drewN | apply Kd.R_drew)); exact HO504.out) hb); have n2_ := A_ (Kd.R_lower (Kd.R_new' ho0 (Kd.R_lt z88c)) (below_size z88a)); have n3_ := A_ (blk_below (g := gb496) (o := .cells #[.string a0_0, .string a0_1, .slice A0_2 l0_2.length c0_2, .slice (some ad501) l0_3.length c0_3] 57 (0, 0)) z88b hb); have n4_ := A_ (below_step z88a hb); clear HO_4; clear HO504; clear BK496; clear HB; have HO_4 := n0_; have HO504 := n1_; have HO508 := n2_; have BK496 := n3_; have HB := n4_; clear n0_ n1_ n2_ n3_ n4_))
   go_ret2
   exact ⟨_, by first | rfl | (simp [errW_none, errW_some] <;> rfl) | (simp [*, errW_none, errW_some] <;> rfl), by first | exact Kd.R_nil _ _ _ _ _ | exact Kd.N_nil _ _ _ _ _ | exact Kd.V_nil _ _ _ _ _ | exact Kd.Q_nil _ _ _ _ _ | exact Kd.S_nil _ _ _ _ _, by repeat (first | (with_reducible first | exact HB.out | apply below_alloc | apply pw_below_drewN | apply below_drew1 | refine below_set ?_ GE496.out) | exact HB.out)⟩
   }
   }
   {
   rw [if_neg c12] at H
   exact absurd H (by simp)
   }
   }
   {
   rw [if_neg c11] at H
   exact absurd H (by simp)
   }
   }
   {
   rw [if_neg c10] at H
   exact absurd H (by simp)
   }
   }
   {
   rw [if_neg c9] at H
   have c9b0 : decide (x19_1 < (l0_3.length : Int)) = false := decide_eq_false c9
   clear c9
   replace H := Option.bind_eq_some_iff.mp H
   obtain ⟨t513, A330, H⟩ := H
   (try dsimp only at H)
   have A33 := A_ A330
   clear A330
   by_cases c34 : t513 = true
   {
   subst c34
   rw [if_pos rfl] at H
   replace H := Option.bind_eq_some_iff.mp H
   obtain ⟨⟨t514, t515, t516, t519⟩, A350, H⟩ := H
   (try dsimp only at H)
   have A35 := A_ A350
   clear A350
   by_cases c36 : a0_0.toList = t514.toList
   {
   rw [if_pos c36] at H
   have c36b0 : (a0_0.toList == t514.toList) = true := beq_iff_eq.mpr c36
   have c36b1 : (a0_0.toList != t514.toList) = false := bne_eq_false_iff_eq.mpr c36
   clear c36
   by_cases c37 : a0_1.toList = t515.toList
   {
   rw [if_pos c37] at H
   have c37b0 : (a0_1.toList == t515.toList) = true := beq_iff_eq.mpr c37
   have c37b1 : (a0_1.toList != t515.toList) = false := bne_eq_false_iff_eq.mpr c37
   clear c37
   replace H := Option.bind_eq_some_iff.mp H
   obtain ⟨t523, A380, H⟩ := H
   (try dsimp only at H)
   have A38 := A_ A380
   clear A380
   simp only [Option.some.injEq, Prod.mk.injEq] at H
   obtain ⟨rfl, rfl⟩ := H
   obtain ⟨Ao39, co39, eo39⟩ := Kd.R_slice HO_4.out
   subst eo39
   go_wp2_with (first | ((with_reducible refine gate_callee (f := 26) rfl ?_); refine goesL_ (some 42) rfl rfl Try.func26 (by kernel_rfl) rfl #[.slice Ao39 x4_1.length co39] rfl z88d ?_; (with_reducible refine (impl_EntriesOk.calls k1 _ _ x4_1 true _ ?side1 ?side2 A33.out).mono ?_); (case side1 => exact z88e); (case side2 => exact (Kd.R_reads' HO_4.out).2.1); rintro e w40 ⟨rfl, hb⟩; refine ⟨_, rfl, ?_⟩; replace HO_4 := A_ (Kd.R_below z88c hb); replace BK496 := A_ (blk_below (g := gb496) (o := .cells #[.string a0_0, .string a0_1, .slice A0_2 l0_2.length c0_2, .slice A0_3 l0_3.length c0_3] 57 (0, 0)) z88b hb); replace HB := A_ (below_step z88a hb)) | ((with_reducible refine gate_callee (f := 74) rfl ?_); refine goesL_ (some 45) rfl rfl Try.func74 (by kernel_rfl) rfl #[.slice Ao39 x4_1.length co39] rfl z88d ?_; (with_reducible refine (impl_built.calls k1 _ _ x4_1 t514 t515 t516 t519 _ ?side1 ?side2 A35.out).mono ?_); (case side1 => exact z88e); (case side2 => exact (Kd.R_reads' HO_4.out).2.1); rintro e w41 ⟨v517, v520, rfl, ho0, ho1, hb⟩; refine ⟨_, rfl, ?_⟩; have n0_ := A_ (Kd.R_below z88c hb); have n1_ := A_ (Kd.R_lower ho0 (below_size z88a)); have n2_ := A_ (Kd.R_lower ho1 (below_size z88a)); have n3_ := A_ (blk_below (g := gb496) (o := .cells #[.string a0_0, .string a0_1, .slice A0_2 l0_2.length c0_2, .slice A0_3 l0_3.length c0_3] 57 (0, 0)) z88b hb); have n4_ := A_ (below_step z88a hb); clear HO_4; clear BK496; clear HB; have HO_4 := n0_; have HO518 := n1_; have HO521 := n2_; have BK496 := n3_; have HB := n4_; clear n0_ n1_ n2_ n3_ n4_; (try clear ho1)) | ((with_reducible refine gate_dst (N := 9) rfl ?_); (try (refine gate_guard (by rfl) ?_; dsimp only)); refine box_event ?hg (N := 9) ?hd (cs := #[.string (⟨#[]⟩ : ByteArray), .string (⟨#[]⟩ : ByteArray), .slice none 0 0, .slice none 0 0]) (t := 57) ?hr ?_; (case hd => rfl); (case hg => rfl); (case hr => first | (go_simp; done) | (go_simp; rfl)); intro gb522 hg w42 hbox hb; have n0_ := A_ (Kd.R_below z88c hb); have n1_ := A_ (Kd.R_below (by (with_reducible repeat (first | apply Kd.R_alloc | apply Kd.R_drewN | apply Kd.R_drew)); exact HO518.out) hb); have n2_ := A_ (Kd.R_below (by (with_reducible repeat (first | apply Kd.R_alloc | apply Kd.R_drewN | apply Kd.R_drew)); exact HO521.out) hb); have n3_ := A_ (blk_below (g := gb496) (o := .cells #[.string a0_0, .string a0_1, .slice A0_2 l0_2.length c0_2, .slice A0_3 l0_3.length c0_3] 57 (0, 0)) z88b hb); have n4_ := A_ (below_step z88a hb); have n5_ := A_ (hbox); have n6_ := A_ ((by rw [hg]; exact (below_size z88a) : w.heap.size ≤ gb522)); have n7_ := A_ ((by rw [hg]; exact (below_size z88a) : w.heap.size ≤ gb522)); have n8_ := A_ ((by rw [hg]; exact Nat.ne_of_lt (blk_lt (g := gb496) (o := .cells #[.string a0_0, .string a0_1, .slice A0_2 l0_2.length c0_2, .slice A0_3 l0_3.length c0_3] 57 (0, 0)) z88b) : gb496 ≠ gb522)); have n9_ := A_ ((by rw [hg]; exact Nat.ne_of_gt (blk_lt (g := gb496) (o := .cells #[.string a0_0, .string a0_1, .slice A0_2 l0_2.length c0_2, .slice A0_3 l0_3.length c0_3] 57 (0, 0)) z88b) : gb522 ≠ gb496)); clear HO_4; clear HO518; clear HO521; clear BK496; clear HB; have HO_4 := n0_; have HO518 := n1_; have HO521 := n2_; have BK496 := n3_; have HB := n4_; have BK522 := n5_; have GW522 := n6_; have GE522 := n7_; have NB496_522 := n8_; have NB522_496 := n9_; clear n0_ n1_ n2_ n3_ n4_ n5_ n6_ n7_ n8_ n9_; clear hb hbox hg; have hnb43 := NB522_496.out; have hnc43 := NB496_522.out; have hcz44_0 : w42.cell? ⟨gb522, 0, none⟩ = some (.string (⟨#[]⟩ : ByteArray)) := (blk_cell BK522.out 0).trans rfl; have hcz44_1 : w42.cell? ⟨gb522, 1, none⟩ = some (.string (⟨#[]⟩ : ByteArray)) := (blk_cell BK522.out 1).trans rfl; have hcz44_2 : w42.cell? ⟨gb522, 2, none⟩ = some (.slice none 0 0) := (blk_cell BK522.out 2).trans rfl; have hcz44_3 : w42.cell? ⟨gb522, 3, none⟩ = some (.slice none 0 0) := (blk_cell BK522.out 3).trans rfl; have hfz44_0 := blk_frozen BK522.out 0; have hfz44_1 := blk_frozen BK522.out 1; have hfz44_2 := blk_frozen BK522.out 2; have hfz44_3 := blk_frozen BK522.out 3; obtain ⟨Ao45, co45, eo45⟩ := Kd.R_slice HO518.out; subst eo45; obtain ⟨Ao46, co46, eo46⟩ := Kd.R_slice HO521.out; subst eo46; have hcz47_0 : w42.cell? ⟨gb496, 0, none⟩ = some (.string a0_0) := (blk_cell BK496.out 0).trans rfl; have hcz47_1 : w42.cell? ⟨gb496, 1, none⟩ = some (.string a0_1) := (blk_cell BK496.out 1).trans rfl; have hcz47_2 : w42.cell? ⟨gb496, 2, none⟩ = some (.slice A0_2 l0_2.length c0_2) := (blk_cell BK496.out 2).trans rfl; have hcz47_3 : w42.cell? ⟨gb496, 3, none⟩ = some (.slice A0_3 l0_3.length c0_3) := (blk_cell BK496.out 3).trans rfl; have hfz47_0 := blk_frozen BK496.out 0; have hfz47_1 := blk_frozen BK496.out 1; have hfz47_2 := blk_frozen BK496.out 2; have hfz47_3 := blk_frozen BK496.out 3) | (go_at_call 119; (with_reducible refine (slices_Equal_int64.calls k1 _ _ l0_2 _ _ t516 t523 _ ?side1 ?side2 ?side3 ?side4 A38.out).mono ?_); (case side1 => exact Kd.C_below HR0_2.out (by repeat (first | (with_reducible first | exact HB.out | apply below_alloc | apply pw_below_drewN | apply below_drew1 | refine below_set ?_ GE496.out | refine below_set ?_ GE522.out) | exact HB.out))); (case side2 => exact HC0_2.out); (case side3 => refine (Kd.R_reads' (e := 2) (base := w.heap.size) (ok := fun k_ => True) (n := t516.length) (c := co45) ?_).2.2; exact (by (with_reducible repeat (first | apply Kd.R_alloc | apply Kd.R_drewN | apply Kd.R_drew)); exact (Kd.R_mono (Kd.R_far (p := ⟨gb522, 3, none⟩) (Kd.R_far (p := ⟨gb522, 2, none⟩) (Kd.R_far (p := ⟨gb522, 1, none⟩) (Kd.R_far (p := ⟨gb522, 0, none⟩) (Kd.R_types HO518.out BK522.out (by decide)) (fun _ hk => hk.2) (.string t514)) (fun _ hk => hk.2) (.string t515)) (fun _ hk => hk.2) (.slice Ao45 t516.length co45)) (fun _ hk => hk.2) (.slice Ao46 t519.length co46)) (fun _ h_ => h_.1)))); (case side4 => exact (Kd.R_reads' HO518.out).2.1); rintro e w' ⟨rfl, ⟨nd, rfl⟩⟩))
   go_ret2
   exact ⟨_, by first | rfl | (simp [errW_none, errW_some] <;> rfl) | (simp [*, errW_none, errW_some] <;> rfl), by (with_reducible repeat (first | apply Kd.R_alloc | apply Kd.R_drewN | apply Kd.R_drew)); exact Kd.R_mono (Kd.R_far (p := ⟨gb522, 3, none⟩) (Kd.R_far (p := ⟨gb522, 2, none⟩) (Kd.R_far (p := ⟨gb522, 1, none⟩) (Kd.R_far (p := ⟨gb522, 0, none⟩) (Kd.R_types HO_4.out BK522.out (by decide)) (fun _ hk => hk.2) (.string t514)) (fun _ hk => hk.2) (.string t515)) (fun _ hk => hk.2) (.slice Ao45 t516.length co45)) (fun _ hk => hk.2) (.slice Ao46 t519.length co46)) (fun _ hk => trivial), by repeat (first | (with_reducible first | exact HB.out | apply below_alloc | apply pw_below_drewN | apply below_drew1 | refine below_set ?_ GE496.out | refine below_set ?_ GE522.out) | exact HB.out)⟩
   }
   {
   rw [if_neg c37] at H
   have c37b0 : (a0_1.toList == t515.toList) = false := beq_eq_false_iff_ne.mpr c37
   have c37b1 : (a0_1.toList != t515.toList) = true := bne_iff_ne.mpr c37
   simp only [Option.some.injEq, Prod.mk.injEq] at H
   obtain ⟨rfl, rfl⟩ := H
   obtain ⟨Ao48, co48, eo48⟩ := Kd.R_slice HO_4.out
   subst eo48
   go_wp2_with (first | ((with_reducible refine gate_callee (f := 26) rfl ?_); refine goesL_ (some 42) rfl rfl Try.func26 (by kernel_rfl) rfl #[.slice Ao48 x4_1.length co48] rfl z88d ?_; (with_reducible refine (impl_EntriesOk.calls k1 _ _ x4_1 true _ ?side1 ?side2 A33.out).mono ?_); (case side1 => exact z88e); (case side2 => exact (Kd.R_reads' HO_4.out).2.1); rintro e w49 ⟨rfl, hb⟩; refine ⟨_, rfl, ?_⟩; replace HO_4 := A_ (Kd.R_below z88c hb); replace BK496 := A_ (blk_below (g := gb496) (o := .cells #[.string a0_0, .string a0_1, .slice A0_2 l0_2.length c0_2, .slice A0_3 l0_3.length c0_3] 57 (0, 0)) z88b hb); replace HB := A_ (below_step z88a hb)) | ((with_reducible refine gate_callee (f := 74) rfl ?_); refine goesL_ (some 45) rfl rfl Try.func74 (by kernel_rfl) rfl #[.slice Ao48 x4_1.length co48] rfl z88d ?_; (with_reducible refine (impl_built.calls k1 _ _ x4_1 t514 t515 t516 t519 _ ?side1 ?side2 A35.out).mono ?_); (case side1 => exact z88e); (case side2 => exact (Kd.R_reads' HO_4.out).2.1); rintro e w50 ⟨v517, v520, rfl, ho0, ho1, hb⟩; refine ⟨_, rfl, ?_⟩; have n0_ := A_ (Kd.R_below z88c hb); have n1_ := A_ (Kd.R_lower ho0 (below_size z88a)); have n2_ := A_ (Kd.R_lower ho1 (below_size z88a)); have n3_ := A_ (blk_below (g := gb496) (o := .cells #[.string a0_0, .string a0_1, .slice A0_2 l0_2.length c0_2, .slice A0_3 l0_3.length c0_3] 57 (0, 0)) z88b hb); have n4_ := A_ (below_step z88a hb); clear HO_4; clear BK496; clear HB; have HO_4 := n0_; have HO518 := n1_; have HO521 := n2_; have BK496 := n3_; have HB := n4_; clear n0_ n1_ n2_ n3_ n4_; (try clear ho1)) | ((with_reducible refine gate_dst (N := 9) rfl ?_); (try (refine gate_guard (by rfl) ?_; dsimp only)); refine box_event ?hg (N := 9) ?hd (cs := #[.string (⟨#[]⟩ : ByteArray), .string (⟨#[]⟩ : ByteArray), .slice none 0 0, .slice none 0 0]) (t := 57) ?hr ?_; (case hd => rfl); (case hg => rfl); (case hr => first | (go_simp; done) | (go_simp; rfl)); intro gb522 hg w51 hbox hb; have n0_ := A_ (Kd.R_below z88c hb); have n1_ := A_ (Kd.R_below (by (with_reducible repeat (first | apply Kd.R_alloc | apply Kd.R_drewN | apply Kd.R_drew)); exact HO518.out) hb); have n2_ := A_ (Kd.R_below (by (with_reducible repeat (first | apply Kd.R_alloc | apply Kd.R_drewN | apply Kd.R_drew)); exact HO521.out) hb); have n3_ := A_ (blk_below (g := gb496) (o := .cells #[.string a0_0, .string a0_1, .slice A0_2 l0_2.length c0_2, .slice A0_3 l0_3.length c0_3] 57 (0, 0)) z88b hb); have n4_ := A_ (below_step z88a hb); have n5_ := A_ (hbox); have n6_ := A_ ((by rw [hg]; exact (below_size z88a) : w.heap.size ≤ gb522)); have n7_ := A_ ((by rw [hg]; exact (below_size z88a) : w.heap.size ≤ gb522)); have n8_ := A_ ((by rw [hg]; exact Nat.ne_of_lt (blk_lt (g := gb496) (o := .cells #[.string a0_0, .string a0_1, .slice A0_2 l0_2.length c0_2, .slice A0_3 l0_3.length c0_3] 57 (0, 0)) z88b) : gb496 ≠ gb522)); have n9_ := A_ ((by rw [hg]; exact Nat.ne_of_gt (blk_lt (g := gb496) (o := .cells #[.string a0_0, .string a0_1, .slice A0_2 l0_2.length c0_2, .slice A0_3 l0_3.length c0_3] 57 (0, 0)) z88b) : gb522 ≠ gb496)); clear HO_4; clear HO518; clear HO521; clear BK496; clear HB; have HO_4 := n0_; have HO518 := n1_; have HO521 := n2_; have BK496 := n3_; have HB := n4_; have BK522 := n5_; have GW522 := n6_; have GE522 := n7_; have NB496_522 := n8_; have NB522_496 := n9_; clear n0_ n1_ n2_ n3_ n4_ n5_ n6_ n7_ n8_ n9_; clear hb hbox hg; have hnb52 := NB522_496.out; have hnc52 := NB496_522.out; have hcz53_0 : w51.cell? ⟨gb522, 0, none⟩ = some (.string (⟨#[]⟩ : ByteArray)) := (blk_cell BK522.out 0).trans rfl; have hcz53_1 : w51.cell? ⟨gb522, 1, none⟩ = some (.string (⟨#[]⟩ : ByteArray)) := (blk_cell BK522.out 1).trans rfl; have hcz53_2 : w51.cell? ⟨gb522, 2, none⟩ = some (.slice none 0 0) := (blk_cell BK522.out 2).trans rfl; have hcz53_3 : w51.cell? ⟨gb522, 3, none⟩ = some (.slice none 0 0) := (blk_cell BK522.out 3).trans rfl; have hfz53_0 := blk_frozen BK522.out 0; have hfz53_1 := blk_frozen BK522.out 1; have hfz53_2 := blk_frozen BK522.out 2; have hfz53_3 := blk_frozen BK522.out 3; obtain ⟨Ao54, co54, eo54⟩ := Kd.R_slice HO518.out; subst eo54; obtain ⟨Ao55, co55, eo55⟩ := Kd.R_slice HO521.out; subst eo55; have hcz56_0 : w51.cell? ⟨gb496, 0, none⟩ = some (.string a0_0) := (blk_cell BK496.out 0).trans rfl; have hcz56_1 : w51.cell? ⟨gb496, 1, none⟩ = some (.string a0_1) := (blk_cell BK496.out 1).trans rfl; have hcz56_2 : w51.cell? ⟨gb496, 2, none⟩ = some (.slice A0_2 l0_2.length c0_2) := (blk_cell BK496.out 2).trans rfl; have hcz56_3 : w51.cell? ⟨gb496, 3, none⟩ = some (.slice A0_3 l0_3.length c0_3) := (blk_cell BK496.out 3).trans rfl; have hfz56_0 := blk_frozen BK496.out 0; have hfz56_1 := blk_frozen BK496.out 1; have hfz56_2 := blk_frozen BK496.out 2; have hfz56_3 := blk_frozen BK496.out 3))
   go_ret2
   exact ⟨_, by first | rfl | (simp [errW_none, errW_some] <;> rfl) | (simp [*, errW_none, errW_some] <;> rfl), by (with_reducible repeat (first | apply Kd.R_alloc | apply Kd.R_drewN | apply Kd.R_drew)); exact Kd.R_mono (Kd.R_far (p := ⟨gb522, 3, none⟩) (Kd.R_far (p := ⟨gb522, 2, none⟩) (Kd.R_far (p := ⟨gb522, 1, none⟩) (Kd.R_far (p := ⟨gb522, 0, none⟩) (Kd.R_types HO_4.out BK522.out (by decide)) (fun _ hk => hk.2) (.string t514)) (fun _ hk => hk.2) (.string t515)) (fun _ hk => hk.2) (.slice Ao54 t516.length co54)) (fun _ hk => hk.2) (.slice Ao55 t519.length co55)) (fun _ hk => trivial), by repeat (first | (with_reducible first | exact HB.out | apply below_alloc | apply pw_below_drewN | apply below_drew1 | refine below_set ?_ GE496.out | refine below_set ?_ GE522.out) | exact HB.out)⟩
   }
   }
   {
   rw [if_neg c36] at H
   have c36b0 : (a0_0.toList == t514.toList) = false := beq_eq_false_iff_ne.mpr c36
   have c36b1 : (a0_0.toList != t514.toList) = true := bne_iff_ne.mpr c36
   simp only [Option.some.injEq, Prod.mk.injEq] at H
   obtain ⟨rfl, rfl⟩ := H
   obtain ⟨Ao57, co57, eo57⟩ := Kd.R_slice HO_4.out
   subst eo57
   go_wp2_with (first | ((with_reducible refine gate_callee (f := 26) rfl ?_); refine goesL_ (some 42) rfl rfl Try.func26 (by kernel_rfl) rfl #[.slice Ao57 x4_1.length co57] rfl z88d ?_; (with_reducible refine (impl_EntriesOk.calls k1 _ _ x4_1 true _ ?side1 ?side2 A33.out).mono ?_); (case side1 => exact z88e); (case side2 => exact (Kd.R_reads' HO_4.out).2.1); rintro e w58 ⟨rfl, hb⟩; refine ⟨_, rfl, ?_⟩; replace HO_4 := A_ (Kd.R_below z88c hb); replace BK496 := A_ (blk_below (g := gb496) (o := .cells #[.string a0_0, .string a0_1, .slice A0_2 l0_2.length c0_2, .slice A0_3 l0_3.length c0_3] 57 (0, 0)) z88b hb); replace HB := A_ (below_step z88a hb)) | ((with_reducible refine gate_callee (f := 74) rfl ?_); refine goesL_ (some 45) rfl rfl Try.func74 (by kernel_rfl) rfl #[.slice Ao57 x4_1.length co57] rfl z88d ?_; (with_reducible refine (impl_built.calls k1 _ _ x4_1 t514 t515 t516 t519 _ ?side1 ?side2 A35.out).mono ?_); (case side1 => exact z88e); (case side2 => exact (Kd.R_reads' HO_4.out).2.1); rintro e w59 ⟨v517, v520, rfl, ho0, ho1, hb⟩; refine ⟨_, rfl, ?_⟩; have n0_ := A_ (Kd.R_below z88c hb); have n1_ := A_ (Kd.R_lower ho0 (below_size z88a)); have n2_ := A_ (Kd.R_lower ho1 (below_size z88a)); have n3_ := A_ (blk_below (g := gb496) (o := .cells #[.string a0_0, .string a0_1, .slice A0_2 l0_2.length c0_2, .slice A0_3 l0_3.length c0_3] 57 (0, 0)) z88b hb); have n4_ := A_ (below_step z88a hb); clear HO_4; clear BK496; clear HB; have HO_4 := n0_; have HO518 := n1_; have HO521 := n2_; have BK496 := n3_; have HB := n4_; clear n0_ n1_ n2_ n3_ n4_; (try clear ho1)) | ((with_reducible refine gate_dst (N := 9) rfl ?_); (try (refine gate_guard (by rfl) ?_; dsimp only)); refine box_event ?hg (N := 9) ?hd (cs := #[.string (⟨#[]⟩ : ByteArray), .string (⟨#[]⟩ : ByteArray), .slice none 0 0, .slice none 0 0]) (t := 57) ?hr ?_; (case hd => rfl); (case hg => rfl); (case hr => first | (go_simp; done) | (go_simp; rfl)); intro gb522 hg w60 hbox hb; have n0_ := A_ (Kd.R_below z88c hb); have n1_ := A_ (Kd.R_below (by (with_reducible repeat (first | apply Kd.R_alloc | apply Kd.R_drewN | apply Kd.R_drew)); exact HO518.out) hb); have n2_ := A_ (Kd.R_below (by (with_reducible repeat (first | apply Kd.R_alloc | apply Kd.R_drewN | apply Kd.R_drew)); exact HO521.out) hb); have n3_ := A_ (blk_below (g := gb496) (o := .cells #[.string a0_0, .string a0_1, .slice A0_2 l0_2.length c0_2, .slice A0_3 l0_3.length c0_3] 57 (0, 0)) z88b hb); have n4_ := A_ (below_step z88a hb); have n5_ := A_ (hbox); have n6_ := A_ ((by rw [hg]; exact (below_size z88a) : w.heap.size ≤ gb522)); have n7_ := A_ ((by rw [hg]; exact (below_size z88a) : w.heap.size ≤ gb522)); have n8_ := A_ ((by rw [hg]; exact Nat.ne_of_lt (blk_lt (g := gb496) (o := .cells #[.string a0_0, .string a0_1, .slice A0_2 l0_2.length c0_2, .slice A0_3 l0_3.length c0_3] 57 (0, 0)) z88b) : gb496 ≠ gb522)); have n9_ := A_ ((by rw [hg]; exact Nat.ne_of_gt (blk_lt (g := gb496) (o := .cells #[.string a0_0, .string a0_1, .slice A0_2 l0_2.length c0_2, .slice A0_3 l0_3.length c0_3] 57 (0, 0)) z88b) : gb522 ≠ gb496)); clear HO_4; clear HO518; clear HO521; clear BK496; clear HB; have HO_4 := n0_; have HO518 := n1_; have HO521 := n2_; have BK496 := n3_; have HB := n4_; have BK522 := n5_; have GW522 := n6_; have GE522 := n7_; have NB496_522 := n8_; have NB522_496 := n9_; clear n0_ n1_ n2_ n3_ n4_ n5_ n6_ n7_ n8_ n9_; clear hb hbox hg; have hnb61 := NB522_496.out; have hnc61 := NB496_522.out; have hcz62_0 : w60.cell? ⟨gb522, 0, none⟩ = some (.string (⟨#[]⟩ : ByteArray)) := (blk_cell BK522.out 0).trans rfl; have hcz62_1 : w60.cell? ⟨gb522, 1, none⟩ = some (.string (⟨#[]⟩ : ByteArray)) := (blk_cell BK522.out 1).trans rfl; have hcz62_2 : w60.cell? ⟨gb522, 2, none⟩ = some (.slice none 0 0) := (blk_cell BK522.out 2).trans rfl; have hcz62_3 : w60.cell? ⟨gb522, 3, none⟩ = some (.slice none 0 0) := (blk_cell BK522.out 3).trans rfl; have hfz62_0 := blk_frozen BK522.out 0; have hfz62_1 := blk_frozen BK522.out 1; have hfz62_2 := blk_frozen BK522.out 2; have hfz62_3 := blk_frozen BK522.out 3; obtain ⟨Ao63, co63, eo63⟩ := Kd.R_slice HO518.out; subst eo63; obtain ⟨Ao64, co64, eo64⟩ := Kd.R_slice HO521.out; subst eo64; have hcz65_0 : w60.cell? ⟨gb496, 0, none⟩ = some (.string a0_0) := (blk_cell BK496.out 0).trans rfl; have hcz65_1 : w60.cell? ⟨gb496, 1, none⟩ = some (.string a0_1) := (blk_cell BK496.out 1).trans rfl; have hcz65_2 : w60.cell? ⟨gb496, 2, none⟩ = some (.slice A0_2 l0_2.length c0_2) := (blk_cell BK496.out 2).trans rfl; have hcz65_3 : w60.cell? ⟨gb496, 3, none⟩ = some (.slice A0_3 l0_3.length c0_3) := (blk_cell BK496.out 3).trans rfl; have hfz65_0 := blk_frozen BK496.out 0; have hfz65_1 := blk_frozen BK496.out 1; have hfz65_2 := blk_frozen BK496.out 2; have hfz65_3 := blk_frozen BK496.out 3))
   go_ret2
   exact ⟨_, by first | rfl | (simp [errW_none, errW_some] <;> rfl) | (simp [*, errW_none, errW_some] <;> rfl), by (with_reducible repeat (first | apply Kd.R_alloc | apply Kd.R_drewN | apply Kd.R_drew)); exact Kd.R_mono (Kd.R_far (p := ⟨gb522, 3, none⟩) (Kd.R_far (p := ⟨gb522, 2, none⟩) (Kd.R_far (p := ⟨gb522, 1, none⟩) (Kd.R_far (p := ⟨gb522, 0, none⟩) (Kd.R_types HO_4.out BK522.out (by decide)) (fun _ hk => hk.2) (.string t514)) (fun _ hk => hk.2) (.string t515)) (fun _ hk => hk.2) (.slice Ao63 t516.length co63)) (fun _ hk => hk.2) (.slice Ao64 t519.length co64)) (fun _ hk => trivial), by repeat (first | (with_reducible first | exact HB.out | apply below_alloc | apply pw_below_drewN | apply below_drew1 | refine below_set ?_ GE496.out | refine below_set ?_ GE522.out) | exact HB.out)⟩
   }
   }
   {
   replace c34 := Bool.eq_false_iff.mpr c34
   subst c34
   rw [if_neg Bool.false_ne_true] at H
   simp only [Option.some.injEq, Prod.mk.injEq] at H
   obtain ⟨rfl, rfl⟩ := H
   obtain ⟨Ao66, co66, eo66⟩ := Kd.R_slice HO_4.out
   subst eo66
   go_wp2_with (first | ((with_reducible refine gate_callee (f := 26) rfl ?_); refine goesL_ (some 42) rfl rfl Try.func26 (by kernel_rfl) rfl #[.slice Ao66 x4_1.length co66] rfl z88d ?_; (with_reducible refine (impl_EntriesOk.calls k1 _ _ x4_1 false _ ?side1 ?side2 A33.out).mono ?_); (case side1 => exact z88e); (case side2 => exact (Kd.R_reads' HO_4.out).2.1); rintro e w67 ⟨rfl, hb⟩; refine ⟨_, rfl, ?_⟩; replace HO_4 := A_ (Kd.R_below z88c hb); replace BK496 := A_ (blk_below (g := gb496) (o := .cells #[.string a0_0, .string a0_1, .slice A0_2 l0_2.length c0_2, .slice A0_3 l0_3.length c0_3] 57 (0, 0)) z88b hb); replace HB := A_ (below_step z88a hb)))
   go_ret2
   exact ⟨_, by first | rfl | (simp [errW_none, errW_some] <;> rfl) | (simp [*, errW_none, errW_some] <;> rfl), by first | exact Kd.R_nil _ _ _ _ _ | exact Kd.N_nil _ _ _ _ _ | exact Kd.V_nil _ _ _ _ _ | exact Kd.Q_nil _ _ _ _ _ | exact Kd.S_nil _ _ _ _ _, by repeat (first | (with_reducible first | exact HB.out | apply below_alloc | apply pw_below_drewN | apply below_drew1 | refine below_set ?_ GE496.out) | exact HB.out)⟩
   }
   }
 }
 {
 replace c3 := Bool.eq_false_iff.mpr c3
 subst c3
 rw [if_neg Bool.false_ne_true] at H
 simp only [Option.some.injEq, Prod.mk.injEq] at H
 obtain ⟨rfl, rfl⟩ := H
 go_enter Try.func88, Try.ntmps88
 go_wp2_with (first | ((with_reducible refine gate_dst (N := 1) rfl ?_); (try (refine gate_guard (by rfl) ?_; dsimp only)); refine box_event ?hg (N := 1) ?hd (cs := #[.string a0_0, .string a0_1, .slice A0_2 l0_2.length c0_2, .slice A0_3 l0_3.length c0_3]) (t := 57) ?hr ?_; (case hd => rfl); (case hg => rfl); (case hr => first | (go_simp; done) | (go_simp; rfl)); intro gb496 hg w68 hbox hb; have n0_ := A_ (below_step z88f hb); have n1_ := A_ (hbox); have n2_ := A_ ((by rw [hg]; exact (below_size z88f) : w.heap.size ≤ gb496)); have n3_ := A_ ((by rw [hg]; exact (below_size z88f) : w.heap.size ≤ gb496)); clear HB; have HB := n0_; have BK496 := n1_; have GW496 := n2_; have GE496 := n3_; clear n0_ n1_ n2_ n3_; clear hb hbox hg; have hcz69_0 : w68.cell? ⟨gb496, 0, none⟩ = some (.string a0_0) := (blk_cell BK496.out 0).trans rfl; have hcz69_1 : w68.cell? ⟨gb496, 1, none⟩ = some (.string a0_1) := (blk_cell BK496.out 1).trans rfl; have hcz69_2 : w68.cell? ⟨gb496, 2, none⟩ = some (.slice A0_2 l0_2.length c0_2) := (blk_cell BK496.out 2).trans rfl; have hcz69_3 : w68.cell? ⟨gb496, 3, none⟩ = some (.slice A0_3 l0_3.length c0_3) := (blk_cell BK496.out 3).trans rfl; have hfz69_0 := blk_frozen BK496.out 0; have hfz69_1 := blk_frozen BK496.out 1; have hfz69_2 := blk_frozen BK496.out 2; have hfz69_3 := blk_frozen BK496.out 3) | ((with_reducible refine gate_callee (f := 96) rfl ?_); refine goesL_ (some 13) rfl rfl Try.func96 (by kernel_rfl) rfl #[.int .i64 (l0_3.length : Int), .int .i64 1, .int .i64 40] rfl z88d ?_; (with_reducible refine (impl_within.calls (l0_3.length : Int) 1 40 false _ A2.out).mono ?_); rintro e w' ⟨rfl, ⟨nd, rfl⟩⟩; refine ⟨_, rfl, ?_⟩))
 go_ret2
 exact ⟨_, by first | rfl | (simp [errW_none, errW_some] <;> rfl) | (simp [*, errW_none, errW_some] <;> rfl), by first | exact Kd.R_nil _ _ _ _ _ | exact Kd.N_nil _ _ _ _ _ | exact Kd.V_nil _ _ _ _ _ | exact Kd.Q_nil _ _ _ _ _ | exact Kd.S_nil _ _ _ _ _, by repeat (first | (with_reducible first | exact HB.out | apply below_alloc | apply pw_below_drewN | apply below_drew1 | refine below_set ?_ GE496.out) | exact HB.out)⟩
 
 }
theorem z46a {p_ : Prop} (h_ : p_ := by repeat (first | (with_reducible first | exact HB.out | apply below_alloc | apply pw_below_drewN | apply below_drew1) | exact HB.out)) : p_ := h_
theorem z46b {p_ : Prop} (h_ : p_ := by repeat (first | (with_reducible first | exact HB.out | apply below_alloc | apply pw_below_drewN | apply below_drew1 | refine below_set ?_ GE524.out) | exact HB.out)) : p_ := h_
def impl_Entries.f (k : Nat) (a0_0 : ByteArray) (a0_1 : ByteArray) (l0_2 : List Int) (l0_3 : List ByteArray) : Option ((List (S31))) := (impl_entries.f k a0_0 a0_1 l0_2 l0_3).bind fun bt525 => (if bt525.2 = true then (some bt525.1) else (some ([] : List (S31))))
set_option maxHeartbeats 8000000 in
set_option maxRecDepth 100000 in
theorem impl_Entries.calls (k : Nat) (a0_0 : ByteArray) (a0_1 : ByteArray) (A0_2 : Option Addr) (c0_2 : Nat) (l0_2 : List Int) (A0_3 : Option Addr) (c0_3 : Nat) (l0_3 : List ByteArray) (r : List (S31)) (w : World) (hr0_2 : Kd.C (Kd.int .i64) w A0_2 l0_2.length l0_2) (hc0_2 : l0_2.length ≤ c0_2) (hr0_3 : Kd.C Kd.string w A0_3 l0_3.length l0_3) (hc0_3 : l0_3.length ≤ c0_3) (h : impl_Entries.f k a0_0 a0_1 l0_2 l0_3 = some r) :
  Calls Try.prog 46 #[.agg #[.string a0_0, .string a0_1, .slice A0_2 l0_2.length c0_2, .slice A0_3 l0_3.length c0_3]] w fun e w' => ∃ v0_ : Value, e = .returned (v0_) ∧ Kd.R k31 31 w' w.heap.size (fun _ => True) v0_ r ∧ Below w.heap.size w w' := by
 have hu57 := Try.underlying57
 have HR0_2 := A_ hr0_2
 have HC0_2 := A_ hc0_2
 clear hr0_2 hc0_2
 have HR0_3 := A_ hr0_3
 have HC0_3 := A_ hc0_3
 clear hr0_3 hc0_3
 have HB := A_ (Below.refl w.heap.size w)
 have H : ((impl_entries.f k a0_0 a0_1 l0_2 l0_3).bind fun bt525 => (if bt525.2 = true then (some bt525.1) else (some ([] : List (S31))))) = some r := h
 clear h
 replace H := Option.bind_eq_some_iff.mp H
 obtain ⟨⟨t525, t528⟩, A20, H⟩ := H
 (try dsimp only at H)
 have A2 := A_ A20
 clear A20
 by_cases c3 : t528 = true
 {
 subst c3
 rw [if_pos rfl] at H
 obtain rfl := Option.some.inj H
 go_enter Try.func46, Try.ntmps46
 go_wp2_with (first | ((with_reducible refine gate_dst (N := 1) rfl ?_); refine box_event ?hg (N := 1) ?hd (cs := #[.string a0_0, .string a0_1, .slice A0_2 l0_2.length c0_2, .slice A0_3 l0_3.length c0_3]) (t := 57) ?hr ?_; (case hd => rfl); (case hg => rfl); (case hr => first | (go_simp; done) | (go_simp; rfl)); intro gb524 hg w4 hbox hb; have n0_ := A_ (below_step z46a hb); have n1_ := A_ (hbox); have n2_ := A_ ((by rw [hg]; exact (below_size z46a) : w.heap.size ≤ gb524)); have n3_ := A_ ((by rw [hg]; exact (below_size z46a) : w.heap.size ≤ gb524)); clear HB; have HB := n0_; have BK524 := n1_; have GW524 := n2_; have GE524 := n3_; clear n0_ n1_ n2_ n3_; clear hb hbox hg; have hcz5_0 : w4.cell? ⟨gb524, 0, none⟩ = some (.string a0_0) := (blk_cell BK524.out 0).trans rfl; have hcz5_1 : w4.cell? ⟨gb524, 1, none⟩ = some (.string a0_1) := (blk_cell BK524.out 1).trans rfl; have hcz5_2 : w4.cell? ⟨gb524, 2, none⟩ = some (.slice A0_2 l0_2.length c0_2) := (blk_cell BK524.out 2).trans rfl; have hcz5_3 : w4.cell? ⟨gb524, 3, none⟩ = some (.slice A0_3 l0_3.length c0_3) := (blk_cell BK524.out 3).trans rfl; have hfz5_0 := blk_frozen BK524.out 0; have hfz5_1 := blk_frozen BK524.out 1; have hfz5_2 := blk_frozen BK524.out 2; have hfz5_3 := blk_frozen BK524.out 3) | ((with_reducible refine gate_callee (f := 88) rfl ?_); refine goesL_ (some 7) rfl rfl Try.func88 (by kernel_rfl) rfl #[.agg #[.string a0_0, .string a0_1, .slice A0_2 l0_2.length c0_2, .slice A0_3 l0_3.length c0_3]] rfl (by (try simp only [List.map_toArray, List.map_cons, List.map_nil]); first | done | rfl | (simp only [List.length_drop, List.length_take]; rfl)) ?_; (with_reducible refine (impl_entries.calls k a0_0 a0_1 _ _ l0_2 _ _ l0_3 t525 true _ ?side1 ?side2 ?side3 ?side4 A2.out).mono ?_); (case side1 => exact (by repeat (first | exact (Kd.C_below HR0_2.out HB.out) | (with_reducible refine Kd.C_alloc ?_ _) | (with_reducible refine Kd.C_drewN ?_ _) | (with_reducible refine Kd.C_drew ?_)))); (case side2 => exact HC0_2.out); (case side3 => exact (by repeat (first | exact (Kd.C_below HR0_3.out HB.out) | (with_reducible refine Kd.C_alloc ?_ _) | (with_reducible refine Kd.C_drewN ?_ _) | (with_reducible refine Kd.C_drew ?_)))); (case side4 => exact HC0_3.out); rintro e w6 ⟨v526, rfl, ho0, hb⟩; refine ⟨_, rfl, ?_⟩; have n0_ := A_ (Kd.R_lower ho0 (below_size z46b)); have n1_ := A_ (blk_below (g := gb524) (o := .cells #[.string a0_0, .string a0_1, .slice A0_2 l0_2.length c0_2, .slice A0_3 l0_3.length c0_3] 57 (0, 0)) (by (with_reducible repeat (first | refine blk_drewN ?_ _ | refine blk_drew ?_ | refine blk_alloc ?_ _)); exact BK524.out) hb); have n2_ := A_ (below_step z46b hb); clear BK524; clear HB; have HO527 := n0_; have BK524 := n1_; have HB := n2_; clear n0_ n1_ n2_))
 go_ret
 exact ⟨_, by first | rfl | (simp [errW_none, errW_some] <;> rfl) | (simp [*, errW_none, errW_some] <;> rfl), by (with_reducible repeat (first | apply Kd.R_alloc | apply Kd.R_drewN | apply Kd.R_drew)); exact HO527.out, by repeat (first | (with_reducible first | exact HB.out | apply below_alloc | apply pw_below_drewN | apply below_drew1 | refine below_set ?_ GE524.out) | exact HB.out)⟩
 }
 {
 replace c3 := Bool.eq_false_iff.mpr c3
 subst c3
 rw [if_neg Bool.false_ne_true] at H
 obtain rfl := Option.some.inj H
 go_enter Try.func46, Try.ntmps46
 go_wp2_with (first | ((with_reducible refine gate_dst (N := 1) rfl ?_); refine box_event ?hg (N := 1) ?hd (cs := #[.string a0_0, .string a0_1, .slice A0_2 l0_2.length c0_2, .slice A0_3 l0_3.length c0_3]) (t := 57) ?hr ?_; (case hd => rfl); (case hg => rfl); (case hr => first | (go_simp; done) | (go_simp; rfl)); intro gb524 hg w7 hbox hb; have n0_ := A_ (below_step z46a hb); have n1_ := A_ (hbox); have n2_ := A_ ((by rw [hg]; exact (below_size z46a) : w.heap.size ≤ gb524)); have n3_ := A_ ((by rw [hg]; exact (below_size z46a) : w.heap.size ≤ gb524)); clear HB; have HB := n0_; have BK524 := n1_; have GW524 := n2_; have GE524 := n3_; clear n0_ n1_ n2_ n3_; clear hb hbox hg; have hcz8_0 : w7.cell? ⟨gb524, 0, none⟩ = some (.string a0_0) := (blk_cell BK524.out 0).trans rfl; have hcz8_1 : w7.cell? ⟨gb524, 1, none⟩ = some (.string a0_1) := (blk_cell BK524.out 1).trans rfl; have hcz8_2 : w7.cell? ⟨gb524, 2, none⟩ = some (.slice A0_2 l0_2.length c0_2) := (blk_cell BK524.out 2).trans rfl; have hcz8_3 : w7.cell? ⟨gb524, 3, none⟩ = some (.slice A0_3 l0_3.length c0_3) := (blk_cell BK524.out 3).trans rfl; have hfz8_0 := blk_frozen BK524.out 0; have hfz8_1 := blk_frozen BK524.out 1; have hfz8_2 := blk_frozen BK524.out 2; have hfz8_3 := blk_frozen BK524.out 3) | ((with_reducible refine gate_callee (f := 88) rfl ?_); refine goesL_ (some 7) rfl rfl Try.func88 (by kernel_rfl) rfl #[.agg #[.string a0_0, .string a0_1, .slice A0_2 l0_2.length c0_2, .slice A0_3 l0_3.length c0_3]] rfl (by (try simp only [List.map_toArray, List.map_cons, List.map_nil]); first | done | rfl | (simp only [List.length_drop, List.length_take]; rfl)) ?_; (with_reducible refine (impl_entries.calls k a0_0 a0_1 _ _ l0_2 _ _ l0_3 t525 false _ ?side1 ?side2 ?side3 ?side4 A2.out).mono ?_); (case side1 => exact (by repeat (first | exact (Kd.C_below HR0_2.out HB.out) | (with_reducible refine Kd.C_alloc ?_ _) | (with_reducible refine Kd.C_drewN ?_ _) | (with_reducible refine Kd.C_drew ?_)))); (case side2 => exact HC0_2.out); (case side3 => exact (by repeat (first | exact (Kd.C_below HR0_3.out HB.out) | (with_reducible refine Kd.C_alloc ?_ _) | (with_reducible refine Kd.C_drewN ?_ _) | (with_reducible refine Kd.C_drew ?_)))); (case side4 => exact HC0_3.out); rintro e w9 ⟨v526, rfl, ho0, hb⟩; refine ⟨_, rfl, ?_⟩; have n0_ := A_ (Kd.R_lower ho0 (below_size z46b)); have n1_ := A_ (blk_below (g := gb524) (o := .cells #[.string a0_0, .string a0_1, .slice A0_2 l0_2.length c0_2, .slice A0_3 l0_3.length c0_3] 57 (0, 0)) (by (with_reducible repeat (first | refine blk_drewN ?_ _ | refine blk_drew ?_ | refine blk_alloc ?_ _)); exact BK524.out) hb); have n2_ := A_ (below_step z46b hb); clear BK524; clear HB; have HO527 := n0_; have BK524 := n1_; have HB := n2_; clear n0_ n1_ n2_))
 go_ret
 exact ⟨_, by first | rfl | (simp [errW_none, errW_some] <;> rfl) | (simp [*, errW_none, errW_some] <;> rfl), by first | exact Kd.R_nil _ _ _ _ _ | exact Kd.N_nil _ _ _ _ _ | exact Kd.V_nil _ _ _ _ _ | exact Kd.Q_nil _ _ _ _ _ | exact Kd.S_nil _ _ _ _ _, by repeat (first | (with_reducible first | exact HB.out | apply below_alloc | apply pw_below_drewN | apply below_drew1 | refine below_set ?_ GE524.out) | exact HB.out)⟩
 
 }
theorem z64a {p_ : Prop} (h_ : p_ := by repeat (first | (with_reducible first | exact HB.out | apply below_alloc | apply pw_below_drewN | apply below_drew1 | refine below_set ?_ GE529.out) | exact HB.out)) : p_ := h_
theorem z64b {p_ : Prop} (h_ : p_ := by (with_reducible repeat (first | refine blk_drewN ?_ _ | refine blk_drew ?_ | refine blk_alloc ?_ _)); exact BK529.out) : p_ := h_
def impl_seen.l0 : Nat → ByteArray → Int → List (S31) → Int → Int → Option (ByteArray × ByteArray × Int × Bool × Bool)
 | 0, _, _, _, _, _ => none
 | k + 1, x1, x2, x10, x11, x12 => if x12 < x11 then (if 0 ≤ x12 then (if x12 < (x10.length : Int) then (if ((rd_T31 x10 x12).f0).toList = x1.toList then (if ((rd_T31 x10 x12).f2) ≤ x2 then (some ((rd_T31 x10 x12).f0, (rd_T31 x10 x12).f1, (rd_T31 x10 x12).f2, (rd_T31 x10 x12).f3, true)) else (impl_seen.l0 k x1 x2 x10 x11 (wrap64 (x12 + 1)))) else (impl_seen.l0 k x1 x2 x10 x11 (wrap64 (x12 + 1)))) else (none)) else (none)) else (some ((⟨#[]⟩ : ByteArray), (⟨#[]⟩ : ByteArray), 0, false, false))
def impl_seen.f (k : Nat) (l0 : List (S31)) (a1 : ByteArray) (a2 : Int) : Option (ByteArray × ByteArray × Int × Bool × Bool) := impl_seen.l0 k a1 a2 l0 (l0.length : Int) 0
set_option maxHeartbeats 8000000 in
set_option maxRecDepth 100000 in
theorem impl_seen.calls (k : Nat) (A0 : Option Addr) (c0 : Nat) (l0 : List (S31)) (a1 : ByteArray) (a2 : Int) (r1 : ByteArray) (r2 : ByteArray) (r3 : Int) (r4 : Bool) (r5 : Bool) (w : World) (hr0 : Kd.C k31 w A0 l0.length l0) (hc0 : l0.length ≤ c0) (h : impl_seen.f k l0 a1 a2 = some (r1, r2, r3, r4, r5)) :
  Calls Try.prog 64 #[.slice A0 l0.length c0, .string a1, .int .i64 a2] w fun e w' => e = .returned (.tuple #[.agg #[.string r1, .string r2, .int .i64 r3, .bool r4], .bool r5]) ∧ Below w.heap.size w w' := by
 have hu31 := Try.underlying31
 have HR0 := A_ hr0
 have HC0 := A_ hc0
 clear hr0 hc0
 have HB := A_ (Below.refl w.heap.size w)
 have H : (impl_seen.l0 k a1 a2 l0 (l0.length : Int) 0) = some (r1, r2, r3, r4, r5) := h
 clear h
 have H' := A_ H
 clear H
 go_enter Try.func64, Try.ntmps64
 go_wp2_with (first | ((with_reducible refine gate_dst (N := 6) rfl ?_); refine box_event ?hg (N := 6) ?hd (cs := #[.string (⟨#[]⟩ : ByteArray), .string (⟨#[]⟩ : ByteArray), .int .i64 0, .bool false]) (t := 31) ?hr ?_; (case hd => rfl); (case hg => rfl); (case hr => first | (go_simp; done) | (go_simp; rfl)); intro gb529 hg w4 hbox hb; have n0_ := A_ (below_step (by repeat (first | (with_reducible first | exact HB.out | apply below_alloc | apply pw_below_drewN | apply below_drew1) | exact HB.out)) hb); have n1_ := A_ (hbox); have n2_ := A_ ((by rw [hg]; exact (below_size (by repeat (first | (with_reducible first | exact HB.out | apply below_alloc | apply pw_below_drewN | apply below_drew1) | exact HB.out))) : w.heap.size ≤ gb529)); have n3_ := A_ ((by rw [hg]; exact (below_size (by repeat (first | (with_reducible first | exact HB.out | apply below_alloc | apply pw_below_drewN | apply below_drew1) | exact HB.out))) : w.heap.size ≤ gb529)); clear HB; have HB := n0_; have BK529 := n1_; have GW529 := n2_; have GE529 := n3_; clear n0_ n1_ n2_ n3_; clear hb hbox hg))
 go_loopg [12] k (fun kq v12 w' => ∃ (x12_1 : Int) (x530000_1 : ByteArray) (x530001_1 : ByteArray) (x530002_1 : Int) (x530003_1 : Bool), v12 = .int .i64 x12_1 ∧ Aside0 (impl_seen.l0 kq a1 a2 l0 (l0.length : Int) x12_1 = some (r1, r2, r3, r4, r5)) ∧ Aside0 (kq ≤ k) ∧ Aside0 (w'.heap[gb529]? = some (.cells #[.string x530000_1, .string x530001_1, .int .i64 x530002_1, .bool x530003_1] 31 (0, 0))) ∧ Aside0 (Below w.heap.size w w'))
 case atStart => exact ⟨(0), ((⟨#[]⟩ : ByteArray)), ((⟨#[]⟩ : ByteArray)), (0), (false), (by first | rfl | (simp; done) | (simp [*]; done)), H', ⟨Nat.le_refl _⟩, ⟨by (with_reducible repeat (first | refine blk_drewN ?_ _ | refine blk_drew ?_ | refine blk_alloc ?_ _)); exact BK529.out⟩, ⟨by repeat (first | (with_reducible first | exact HB.out | apply below_alloc | apply pw_below_drewN | apply below_drew1 | refine below_set ?_ GE529.out) | exact HB.out)⟩⟩
 case round =>
  clear H'
  try clear p2
  obtain ⟨x12_1, x530000_1, x530001_1, x530002_1, x530003_1, rfl, HA, HK1, BK529, HB⟩ := hrel
  cases gk with
  | zero => exact absurd HA.out (by simp [impl_seen.l0])
  | succ k1 =>
   have H := HA.out
   clear HA
   simp only [impl_seen.l0] at H
   by_cases c5 : x12_1 < (l0.length : Int)
   {
   rw [if_pos c5] at H
   have c5b0 : decide (x12_1 < (l0.length : Int)) = true := decide_eq_true c5
   clear c5
   by_cases c6 : 0 ≤ x12_1
   {
   rw [if_pos c6] at H
   have c6b0 : decide (0 ≤ x12_1) = true := decide_eq_true c6
   clear c6
   by_cases c7 : x12_1 < (l0.length : Int)
   {
   rw [if_pos c7] at H
   have c7b0 : decide (x12_1 < (l0.length : Int)) = true := decide_eq_true c7
   clear c7
   by_cases c8 : ((rd_T31 l0 x12_1).f0).toList = a1.toList
   {
   rw [if_pos c8] at H
   have c8b0 : (((rd_T31 l0 x12_1).f0).toList == a1.toList) = true := beq_iff_eq.mpr c8
   have c8b1 : (((rd_T31 l0 x12_1).f0).toList != a1.toList) = false := bne_eq_false_iff_eq.mpr c8
   clear c8
   by_cases c9 : ((rd_T31 l0 x12_1).f2) ≤ a2
   {
   rw [if_pos c9] at H
   have c9b0 : decide (((rd_T31 l0 x12_1).f2) ≤ a2) = true := decide_eq_true c9
   clear c9
   simp only [Option.some.injEq, Prod.mk.injEq] at H
   obtain ⟨rfl, rfl, rfl, rfl, rfl⟩ := H
   have p530 : 0 ≤ (x12_1 : Int) := of_decide_eq_true (by first | (with_reducible assumption) | assumption)
   have q530 : x12_1 < (l0.length : Int) := of_decide_eq_true (by first | (with_reducible assumption) | assumption)
   obtain ⟨ad530, e530, hx530_0, hx530_1, hx530_2, hx530_3⟩ := at_T31 HR0.out x12_1 p530 q530
   cases e530
   replace hx530_0 := (HB.out.cell (World.block_lt_of_cell? w _ hx530_0)).trans hx530_0
   replace hx530_1 := (HB.out.cell (World.block_lt_of_cell? w _ hx530_1)).trans hx530_1
   replace hx530_2 := (HB.out.cell (World.block_lt_of_cell? w _ hx530_2)).trans hx530_2
   replace hx530_3 := (HB.out.cell (World.block_lt_of_cell? w _ hx530_3)).trans hx530_3
   replace p530 := eq_true p530
   replace q530 := eq_true q530
   go_wp2_with (first | ((with_reducible refine gate_dst (N := 9) rfl ?_); refine box_event ?hg (N := 9) ?hd (cs := #[.string (⟨#[]⟩ : ByteArray), .string (⟨#[]⟩ : ByteArray), .int .i64 0, .bool false]) (t := 31) ?hr ?_; (case hd => rfl); (case hg => rfl); (case hr => first | (go_simp; done) | (go_simp; rfl)); intro gb531 hg w10 hbox hb; have n0_ := A_ (blk_below (g := gb529) (o := .cells #[.string x530000_1, .string x530001_1, .int .i64 x530002_1, .bool x530003_1] 31 (0, 0)) z64b hb); have n1_ := A_ (below_step z64a hb); have n2_ := A_ (hbox); have n3_ := A_ ((by rw [hg]; exact (below_size z64a) : w.heap.size ≤ gb531)); have n4_ := A_ ((by rw [hg]; exact (below_size z64a) : w.heap.size ≤ gb531)); have n5_ := A_ ((by rw [hg]; exact Nat.ne_of_lt (blk_lt (g := gb529) (o := .cells #[.string x530000_1, .string x530001_1, .int .i64 x530002_1, .bool x530003_1] 31 (0, 0)) z64b) : gb529 ≠ gb531)); have n6_ := A_ ((by rw [hg]; exact Nat.ne_of_gt (blk_lt (g := gb529) (o := .cells #[.string x530000_1, .string x530001_1, .int .i64 x530002_1, .bool x530003_1] 31 (0, 0)) z64b) : gb531 ≠ gb529)); clear BK529; clear HB; have BK529 := n0_; have HB := n1_; have BK531 := n2_; have GW531 := n3_; have GE531 := n4_; have NB529_531 := n5_; have NB531_529 := n6_; clear n0_ n1_ n2_ n3_ n4_ n5_ n6_; clear hb hbox hg; have hnb11 := NB531_529.out; have hnc11 := NB529_531.out; have hcz12_0 : w10.cell? ⟨gb531, 0, none⟩ = some (.string (⟨#[]⟩ : ByteArray)) := (blk_cell BK531.out 0).trans rfl; have hcz12_1 : w10.cell? ⟨gb531, 1, none⟩ = some (.string (⟨#[]⟩ : ByteArray)) := (blk_cell BK531.out 1).trans rfl; have hcz12_2 : w10.cell? ⟨gb531, 2, none⟩ = some (.int .i64 0) := (blk_cell BK531.out 2).trans rfl; have hcz12_3 : w10.cell? ⟨gb531, 3, none⟩ = some (.bool false) := (blk_cell BK531.out 3).trans rfl; have hfz12_0 := blk_frozen BK531.out 0; have hfz12_1 := blk_frozen BK531.out 1; have hfz12_2 := blk_frozen BK531.out 2; have hfz12_3 := blk_frozen BK531.out 3; have hcz13_0 : w10.cell? ⟨gb529, 0, none⟩ = some (.string x530000_1) := (blk_cell BK529.out 0).trans rfl; have hcz13_1 : w10.cell? ⟨gb529, 1, none⟩ = some (.string x530001_1) := (blk_cell BK529.out 1).trans rfl; have hcz13_2 : w10.cell? ⟨gb529, 2, none⟩ = some (.int .i64 x530002_1) := (blk_cell BK529.out 2).trans rfl; have hcz13_3 : w10.cell? ⟨gb529, 3, none⟩ = some (.bool x530003_1) := (blk_cell BK529.out 3).trans rfl; have hfz13_0 := blk_frozen BK529.out 0; have hfz13_1 := blk_frozen BK529.out 1; have hfz13_2 := blk_frozen BK529.out 2; have hfz13_3 := blk_frozen BK529.out 3))
   refine bodyPost_ret (results_ct rfl _ _ gb529 31 #[.string ((rd_T31 l0 x12_1).f0), .string ((rd_T31 l0 x12_1).f1), .int .i64 ((rd_T31 l0 x12_1).f2), .bool ((rd_T31 l0 x12_1).f3)] (0, 0) _ rfl (by (with_reducible repeat (first | refine blk_drewN ?_ _ | refine blk_drew ?_ | refine blk_alloc ?_ _)); refine blk_put (cs := #[.string ((rd_T31 l0 x12_1).f0), .string ((rd_T31 l0 x12_1).f1), .int .i64 ((rd_T31 l0 x12_1).f2), .bool x530003_1]) ?_ 3 _ rfl; (with_reducible repeat (first | refine blk_drewN ?_ _ | refine blk_drew ?_ | refine blk_alloc ?_ _)); refine blk_put (cs := #[.string ((rd_T31 l0 x12_1).f0), .string ((rd_T31 l0 x12_1).f1), .int .i64 x530002_1, .bool x530003_1]) ?_ 2 _ rfl; (with_reducible repeat (first | refine blk_drewN ?_ _ | refine blk_drew ?_ | refine blk_alloc ?_ _)); refine blk_put (cs := #[.string ((rd_T31 l0 x12_1).f0), .string x530001_1, .int .i64 x530002_1, .bool x530003_1]) ?_ 1 _ rfl; (with_reducible repeat (first | refine blk_drewN ?_ _ | refine blk_drew ?_ | refine blk_alloc ?_ _)); refine blk_put (cs := #[.string x530000_1, .string x530001_1, .int .i64 x530002_1, .bool x530003_1]) ?_ 0 _ rfl; (with_reducible repeat (first | refine blk_drewN ?_ _ | refine blk_drew ?_ | refine blk_alloc ?_ _)); refine blk_far ?_ NB529_531.out _; (with_reducible repeat (first | refine blk_drewN ?_ _ | refine blk_drew ?_ | refine blk_alloc ?_ _)); refine blk_far ?_ NB529_531.out _; (with_reducible repeat (first | refine blk_drewN ?_ _ | refine blk_drew ?_ | refine blk_alloc ?_ _)); refine blk_far ?_ NB529_531.out _; (with_reducible repeat (first | refine blk_drewN ?_ _ | refine blk_drew ?_ | refine blk_alloc ?_ _)); refine blk_far ?_ NB529_531.out _; (with_reducible repeat (first | refine blk_drewN ?_ _ | refine blk_drew ?_ | refine blk_alloc ?_ _)); exact BK529.out) Try.underlying31 rfl (by kernel_rfl)) rfl ?_
   exact ⟨by first | rfl | (simp [errW_none, errW_some] <;> rfl) | (simp [*, errW_none, errW_some] <;> rfl), by repeat (first | (with_reducible first | exact HB.out | apply below_alloc | apply pw_below_drewN | apply below_drew1 | refine below_set ?_ GE529.out | refine below_set ?_ GE531.out) | exact HB.out)⟩
   }
   {
   rw [if_neg c9] at H
   have c9b0 : decide (((rd_T31 l0 x12_1).f2) ≤ a2) = false := decide_eq_false c9
   clear c9
   have H' := A_ H
   clear H
   have p530 : 0 ≤ (x12_1 : Int) := of_decide_eq_true (by first | (with_reducible assumption) | assumption)
   have q530 : x12_1 < (l0.length : Int) := of_decide_eq_true (by first | (with_reducible assumption) | assumption)
   obtain ⟨ad530, e530, hx530_0, hx530_1, hx530_2, hx530_3⟩ := at_T31 HR0.out x12_1 p530 q530
   cases e530
   replace hx530_0 := (HB.out.cell (World.block_lt_of_cell? w _ hx530_0)).trans hx530_0
   replace hx530_1 := (HB.out.cell (World.block_lt_of_cell? w _ hx530_1)).trans hx530_1
   replace hx530_2 := (HB.out.cell (World.block_lt_of_cell? w _ hx530_2)).trans hx530_2
   replace hx530_3 := (HB.out.cell (World.block_lt_of_cell? w _ hx530_3)).trans hx530_3
   replace p530 := eq_true p530
   replace q530 := eq_true q530
   go_wp2_with (first | ((with_reducible refine gate_dst (N := 9) rfl ?_); refine box_event ?hg (N := 9) ?hd (cs := #[.string (⟨#[]⟩ : ByteArray), .string (⟨#[]⟩ : ByteArray), .int .i64 0, .bool false]) (t := 31) ?hr ?_; (case hd => rfl); (case hg => rfl); (case hr => first | (go_simp; done) | (go_simp; rfl)); intro gb531 hg w14 hbox hb; have n0_ := A_ (blk_below (g := gb529) (o := .cells #[.string x530000_1, .string x530001_1, .int .i64 x530002_1, .bool x530003_1] 31 (0, 0)) z64b hb); have n1_ := A_ (below_step z64a hb); have n2_ := A_ (hbox); have n3_ := A_ ((by rw [hg]; exact (below_size z64a) : w.heap.size ≤ gb531)); have n4_ := A_ ((by rw [hg]; exact (below_size z64a) : w.heap.size ≤ gb531)); have n5_ := A_ ((by rw [hg]; exact Nat.ne_of_lt (blk_lt (g := gb529) (o := .cells #[.string x530000_1, .string x530001_1, .int .i64 x530002_1, .bool x530003_1] 31 (0, 0)) z64b) : gb529 ≠ gb531)); have n6_ := A_ ((by rw [hg]; exact Nat.ne_of_gt (blk_lt (g := gb529) (o := .cells #[.string x530000_1, .string x530001_1, .int .i64 x530002_1, .bool x530003_1] 31 (0, 0)) z64b) : gb531 ≠ gb529)); clear BK529; clear HB; have BK529 := n0_; have HB := n1_; have BK531 := n2_; have GW531 := n3_; have GE531 := n4_; have NB529_531 := n5_; have NB531_529 := n6_; clear n0_ n1_ n2_ n3_ n4_ n5_ n6_; clear hb hbox hg; have hnb15 := NB531_529.out; have hnc15 := NB529_531.out; have hcz16_0 : w14.cell? ⟨gb531, 0, none⟩ = some (.string (⟨#[]⟩ : ByteArray)) := (blk_cell BK531.out 0).trans rfl; have hcz16_1 : w14.cell? ⟨gb531, 1, none⟩ = some (.string (⟨#[]⟩ : ByteArray)) := (blk_cell BK531.out 1).trans rfl; have hcz16_2 : w14.cell? ⟨gb531, 2, none⟩ = some (.int .i64 0) := (blk_cell BK531.out 2).trans rfl; have hcz16_3 : w14.cell? ⟨gb531, 3, none⟩ = some (.bool false) := (blk_cell BK531.out 3).trans rfl; have hfz16_0 := blk_frozen BK531.out 0; have hfz16_1 := blk_frozen BK531.out 1; have hfz16_2 := blk_frozen BK531.out 2; have hfz16_3 := blk_frozen BK531.out 3))
   go_roundg k1
   case measure => have := HK1.out; omega
   case rel => exact ⟨(wrap64 (x12_1 + 1)), (x530000_1), (x530001_1), (x530002_1), (x530003_1), (by first | rfl | (simp; done) | (simp [*]; done)), H', ⟨by have := HK1.out; omega⟩, ⟨by (with_reducible repeat (first | refine blk_drewN ?_ _ | refine blk_drew ?_ | refine blk_alloc ?_ _)); refine blk_far ?_ NB529_531.out _; (with_reducible repeat (first | refine blk_drewN ?_ _ | refine blk_drew ?_ | refine blk_alloc ?_ _)); refine blk_far ?_ NB529_531.out _; (with_reducible repeat (first | refine blk_drewN ?_ _ | refine blk_drew ?_ | refine blk_alloc ?_ _)); refine blk_far ?_ NB529_531.out _; (with_reducible repeat (first | refine blk_drewN ?_ _ | refine blk_drew ?_ | refine blk_alloc ?_ _)); refine blk_far ?_ NB529_531.out _; (with_reducible repeat (first | refine blk_drewN ?_ _ | refine blk_drew ?_ | refine blk_alloc ?_ _)); exact BK529.out⟩, ⟨by repeat (first | (with_reducible first | exact HB.out | apply below_alloc | apply pw_below_drewN | apply below_drew1 | refine below_set ?_ GE529.out | refine below_set ?_ GE531.out) | exact HB.out)⟩⟩
   }
   }
   {
   rw [if_neg c8] at H
   have c8b0 : (((rd_T31 l0 x12_1).f0).toList == a1.toList) = false := beq_eq_false_iff_ne.mpr c8
   have c8b1 : (((rd_T31 l0 x12_1).f0).toList != a1.toList) = true := bne_iff_ne.mpr c8
   have H' := A_ H
   clear H
   have p530 : 0 ≤ (x12_1 : Int) := of_decide_eq_true (by first | (with_reducible assumption) | assumption)
   have q530 : x12_1 < (l0.length : Int) := of_decide_eq_true (by first | (with_reducible assumption) | assumption)
   obtain ⟨ad530, e530, hx530_0, hx530_1, hx530_2, hx530_3⟩ := at_T31 HR0.out x12_1 p530 q530
   cases e530
   replace hx530_0 := (HB.out.cell (World.block_lt_of_cell? w _ hx530_0)).trans hx530_0
   replace hx530_1 := (HB.out.cell (World.block_lt_of_cell? w _ hx530_1)).trans hx530_1
   replace hx530_2 := (HB.out.cell (World.block_lt_of_cell? w _ hx530_2)).trans hx530_2
   replace hx530_3 := (HB.out.cell (World.block_lt_of_cell? w _ hx530_3)).trans hx530_3
   replace p530 := eq_true p530
   replace q530 := eq_true q530
   go_wp2_with (first | ((with_reducible refine gate_dst (N := 9) rfl ?_); refine box_event ?hg (N := 9) ?hd (cs := #[.string (⟨#[]⟩ : ByteArray), .string (⟨#[]⟩ : ByteArray), .int .i64 0, .bool false]) (t := 31) ?hr ?_; (case hd => rfl); (case hg => rfl); (case hr => first | (go_simp; done) | (go_simp; rfl)); intro gb531 hg w17 hbox hb; have n0_ := A_ (blk_below (g := gb529) (o := .cells #[.string x530000_1, .string x530001_1, .int .i64 x530002_1, .bool x530003_1] 31 (0, 0)) z64b hb); have n1_ := A_ (below_step z64a hb); have n2_ := A_ (hbox); have n3_ := A_ ((by rw [hg]; exact (below_size z64a) : w.heap.size ≤ gb531)); have n4_ := A_ ((by rw [hg]; exact (below_size z64a) : w.heap.size ≤ gb531)); have n5_ := A_ ((by rw [hg]; exact Nat.ne_of_lt (blk_lt (g := gb529) (o := .cells #[.string x530000_1, .string x530001_1, .int .i64 x530002_1, .bool x530003_1] 31 (0, 0)) z64b) : gb529 ≠ gb531)); have n6_ := A_ ((by rw [hg]; exact Nat.ne_of_gt (blk_lt (g := gb529) (o := .cells #[.string x530000_1, .string x530001_1, .int .i64 x530002_1, .bool x530003_1] 31 (0, 0)) z64b) : gb531 ≠ gb529)); clear BK529; clear HB; have BK529 := n0_; have HB := n1_; have BK531 := n2_; have GW531 := n3_; have GE531 := n4_; have NB529_531 := n5_; have NB531_529 := n6_; clear n0_ n1_ n2_ n3_ n4_ n5_ n6_; clear hb hbox hg; have hnb18 := NB531_529.out; have hnc18 := NB529_531.out; have hcz19_0 : w17.cell? ⟨gb531, 0, none⟩ = some (.string (⟨#[]⟩ : ByteArray)) := (blk_cell BK531.out 0).trans rfl; have hcz19_1 : w17.cell? ⟨gb531, 1, none⟩ = some (.string (⟨#[]⟩ : ByteArray)) := (blk_cell BK531.out 1).trans rfl; have hcz19_2 : w17.cell? ⟨gb531, 2, none⟩ = some (.int .i64 0) := (blk_cell BK531.out 2).trans rfl; have hcz19_3 : w17.cell? ⟨gb531, 3, none⟩ = some (.bool false) := (blk_cell BK531.out 3).trans rfl; have hfz19_0 := blk_frozen BK531.out 0; have hfz19_1 := blk_frozen BK531.out 1; have hfz19_2 := blk_frozen BK531.out 2; have hfz19_3 := blk_frozen BK531.out 3))
   go_roundg k1
   case measure => have := HK1.out; omega
   case rel => exact ⟨(wrap64 (x12_1 + 1)), (x530000_1), (x530001_1), (x530002_1), (x530003_1), (by first | rfl | (simp; done) | (simp [*]; done)), H', ⟨by have := HK1.out; omega⟩, ⟨by (with_reducible repeat (first | refine blk_drewN ?_ _ | refine blk_drew ?_ | refine blk_alloc ?_ _)); refine blk_far ?_ NB529_531.out _; (with_reducible repeat (first | refine blk_drewN ?_ _ | refine blk_drew ?_ | refine blk_alloc ?_ _)); refine blk_far ?_ NB529_531.out _; (with_reducible repeat (first | refine blk_drewN ?_ _ | refine blk_drew ?_ | refine blk_alloc ?_ _)); refine blk_far ?_ NB529_531.out _; (with_reducible repeat (first | refine blk_drewN ?_ _ | refine blk_drew ?_ | refine blk_alloc ?_ _)); refine blk_far ?_ NB529_531.out _; (with_reducible repeat (first | refine blk_drewN ?_ _ | refine blk_drew ?_ | refine blk_alloc ?_ _)); exact BK529.out⟩, ⟨by repeat (first | (with_reducible first | exact HB.out | apply below_alloc | apply pw_below_drewN | apply below_drew1 | refine below_set ?_ GE529.out | refine below_set ?_ GE531.out) | exact HB.out)⟩⟩
   }
   }
   {
   rw [if_neg c7] at H
   exact absurd H (by simp)
   }
   }
   {
   rw [if_neg c6] at H
   exact absurd H (by simp)
   }
   }
   {
   rw [if_neg c5] at H
   have c5b0 : decide (x12_1 < (l0.length : Int)) = false := decide_eq_false c5
   clear c5
   simp only [Option.some.injEq, Prod.mk.injEq] at H
   obtain ⟨rfl, rfl, rfl, rfl, rfl⟩ := H
   have hcz20_0 : wr.cell? ⟨gb529, 0, none⟩ = some (.string x530000_1) := (blk_cell BK529.out 0).trans rfl
   have hcz20_1 : wr.cell? ⟨gb529, 1, none⟩ = some (.string x530001_1) := (blk_cell BK529.out 1).trans rfl
   have hcz20_2 : wr.cell? ⟨gb529, 2, none⟩ = some (.int .i64 x530002_1) := (blk_cell BK529.out 2).trans rfl
   have hcz20_3 : wr.cell? ⟨gb529, 3, none⟩ = some (.bool x530003_1) := (blk_cell BK529.out 3).trans rfl
   have hfz20_0 := blk_frozen BK529.out 0
   have hfz20_1 := blk_frozen BK529.out 1
   have hfz20_2 := blk_frozen BK529.out 2
   have hfz20_3 := blk_frozen BK529.out 3
   go_wp2
   refine bodyPost_ret (results_ct rfl _ _ gb529 31 #[.string (⟨#[]⟩ : ByteArray), .string (⟨#[]⟩ : ByteArray), .int .i64 0, .bool false] (0, 0) _ rfl (by (with_reducible repeat (first | refine blk_drewN ?_ _ | refine blk_drew ?_ | refine blk_alloc ?_ _)); refine blk_put (cs := #[.string (⟨#[]⟩ : ByteArray), .string (⟨#[]⟩ : ByteArray), .int .i64 0, .bool x530003_1]) ?_ 3 _ rfl; (with_reducible repeat (first | refine blk_drewN ?_ _ | refine blk_drew ?_ | refine blk_alloc ?_ _)); refine blk_put (cs := #[.string (⟨#[]⟩ : ByteArray), .string (⟨#[]⟩ : ByteArray), .int .i64 x530002_1, .bool x530003_1]) ?_ 2 _ rfl; (with_reducible repeat (first | refine blk_drewN ?_ _ | refine blk_drew ?_ | refine blk_alloc ?_ _)); refine blk_put (cs := #[.string (⟨#[]⟩ : ByteArray), .string x530001_1, .int .i64 x530002_1, .bool x530003_1]) ?_ 1 _ rfl; (with_reducible repeat (first | refine blk_drewN ?_ _ | refine blk_drew ?_ | refine blk_alloc ?_ _)); refine blk_put (cs := #[.string x530000_1, .string x530001_1, .int .i64 x530002_1, .bool x530003_1]) ?_ 0 _ rfl; (with_reducible repeat (first | refine blk_drewN ?_ _ | refine blk_drew ?_ | refine blk_alloc ?_ _)); exact BK529.out) Try.underlying31 rfl (by kernel_rfl)) rfl ?_
   exact ⟨by first | rfl | (simp [errW_none, errW_some] <;> rfl) | (simp [*, errW_none, errW_some] <;> rfl), by repeat (first | (with_reducible first | exact HB.out | apply below_alloc | apply pw_below_drewN | apply below_drew1 | refine below_set ?_ GE529.out) | exact HB.out)⟩
   
   }
theorem z48a {p_ : Prop} (h_ : p_ := by (with_reducible repeat (first | refine blk_drewN ?_ _ | refine blk_drew ?_ | refine blk_alloc ?_ _)); exact BK532.out) : p_ := h_
theorem z48b {p_ : Prop} (h_ : p_ := by repeat (first | (with_reducible first | exact HB.out | apply below_alloc | apply pw_below_drewN | apply below_drew1 | refine below_set ?_ GE532.out | refine below_set ?_ GE533.out) | exact HB.out)) : p_ := h_
def impl_Found.f (k : Nat) (a0_0 : ByteArray) (a0_1 : ByteArray) (l0_2 : List Int) (l0_3 : List ByteArray) (a1 : ByteArray) (a2 : Int) : Option (ByteArray × ByteArray × Int × Bool × Bool) := (impl_Entries.f k a0_0 a0_1 l0_2 l0_3).bind fun t534 => ((impl_seen.f k t534 a1 a2).bind fun bt537 => (some (bt537.1, bt537.2.1, bt537.2.2.1, bt537.2.2.2.1, bt537.2.2.2.2)))
set_option maxHeartbeats 8000000 in
set_option maxRecDepth 100000 in
theorem impl_Found.calls (k : Nat) (a0_0 : ByteArray) (a0_1 : ByteArray) (A0_2 : Option Addr) (c0_2 : Nat) (l0_2 : List Int) (A0_3 : Option Addr) (c0_3 : Nat) (l0_3 : List ByteArray) (a1 : ByteArray) (a2 : Int) (r1 : ByteArray) (r2 : ByteArray) (r3 : Int) (r4 : Bool) (r5 : Bool) (w : World) (hr0_2 : Kd.C (Kd.int .i64) w A0_2 l0_2.length l0_2) (hc0_2 : l0_2.length ≤ c0_2) (hr0_3 : Kd.C Kd.string w A0_3 l0_3.length l0_3) (hc0_3 : l0_3.length ≤ c0_3) (h : impl_Found.f k a0_0 a0_1 l0_2 l0_3 a1 a2 = some (r1, r2, r3, r4, r5)) :
  Calls Try.prog 48 #[.agg #[.string a0_0, .string a0_1, .slice A0_2 l0_2.length c0_2, .slice A0_3 l0_3.length c0_3], .string a1, .int .i64 a2] w fun e w' => e = .returned (.tuple #[.agg #[.string r1, .string r2, .int .i64 r3, .bool r4], .bool r5]) ∧ Below w.heap.size w w' := by
 have hu57 := Try.underlying57
 have hu31 := Try.underlying31
 have HR0_2 := A_ hr0_2
 have HC0_2 := A_ hc0_2
 clear hr0_2 hc0_2
 have HR0_3 := A_ hr0_3
 have HC0_3 := A_ hc0_3
 clear hr0_3 hc0_3
 have HB := A_ (Below.refl w.heap.size w)
 have H : ((impl_Entries.f k a0_0 a0_1 l0_2 l0_3).bind fun t534 => ((impl_seen.f k t534 a1 a2).bind fun bt537 => (some (bt537.1, bt537.2.1, bt537.2.2.1, bt537.2.2.2.1, bt537.2.2.2.2)))) = some (r1, r2, r3, r4, r5) := h
 clear h
 replace H := Option.bind_eq_some_iff.mp H
 obtain ⟨t534, A40, H⟩ := H
 (try dsimp only at H)
 have A4 := A_ A40
 clear A40
 replace H := Option.bind_eq_some_iff.mp H
 obtain ⟨⟨t537, t538, t539, t540, t541⟩, A50, H⟩ := H
 (try dsimp only at H)
 have A5 := A_ A50
 clear A50
 simp only [Option.some.injEq, Prod.mk.injEq] at H
 obtain ⟨rfl, rfl, rfl, rfl, rfl⟩ := H
 go_enter Try.func48, Try.ntmps48
 go_wp2_with (first | ((with_reducible refine gate_dst (N := 3) rfl ?_); refine box_event ?hg (N := 3) ?hd (cs := #[.string a0_0, .string a0_1, .slice A0_2 l0_2.length c0_2, .slice A0_3 l0_3.length c0_3]) (t := 57) ?hr ?_; (case hd => rfl); (case hg => rfl); (case hr => first | (go_simp; done) | (go_simp; rfl)); intro gb532 hg w6 hbox hb; have n0_ := A_ (below_step (by repeat (first | (with_reducible first | exact HB.out | apply below_alloc | apply pw_below_drewN | apply below_drew1) | exact HB.out)) hb); have n1_ := A_ (hbox); have n2_ := A_ ((by rw [hg]; exact (below_size (by repeat (first | (with_reducible first | exact HB.out | apply below_alloc | apply pw_below_drewN | apply below_drew1) | exact HB.out))) : w.heap.size ≤ gb532)); have n3_ := A_ ((by rw [hg]; exact (below_size (by repeat (first | (with_reducible first | exact HB.out | apply below_alloc | apply pw_below_drewN | apply below_drew1) | exact HB.out))) : w.heap.size ≤ gb532)); clear HB; have HB := n0_; have BK532 := n1_; have GW532 := n2_; have GE532 := n3_; clear n0_ n1_ n2_ n3_; clear hb hbox hg) | ((with_reducible refine gate_dst (N := 6) rfl ?_); refine box_event ?hg (N := 6) ?hd (cs := #[.string (⟨#[]⟩ : ByteArray), .string (⟨#[]⟩ : ByteArray), .int .i64 0, .bool false]) (t := 31) ?hr ?_; (case hd => rfl); (case hg => rfl); (case hr => first | (go_simp; done) | (go_simp; rfl)); intro gb533 hg w7 hbox hb; have n0_ := A_ (blk_below (g := gb532) (o := .cells #[.string a0_0, .string a0_1, .slice A0_2 l0_2.length c0_2, .slice A0_3 l0_3.length c0_3] 57 (0, 0)) z48a hb); have n1_ := A_ (below_step (by repeat (first | (with_reducible first | exact HB.out | apply below_alloc | apply pw_below_drewN | apply below_drew1 | refine below_set ?_ GE532.out) | exact HB.out)) hb); have n2_ := A_ (hbox); have n3_ := A_ ((by rw [hg]; exact (below_size (by repeat (first | (with_reducible first | exact HB.out | apply below_alloc | apply pw_below_drewN | apply below_drew1 | refine below_set ?_ GE532.out) | exact HB.out))) : w.heap.size ≤ gb533)); have n4_ := A_ ((by rw [hg]; exact (below_size (by repeat (first | (with_reducible first | exact HB.out | apply below_alloc | apply pw_below_drewN | apply below_drew1 | refine below_set ?_ GE532.out) | exact HB.out))) : w.heap.size ≤ gb533)); have n5_ := A_ ((by rw [hg]; exact Nat.ne_of_lt (blk_lt (g := gb532) (o := .cells #[.string a0_0, .string a0_1, .slice A0_2 l0_2.length c0_2, .slice A0_3 l0_3.length c0_3] 57 (0, 0)) z48a) : gb532 ≠ gb533)); have n6_ := A_ ((by rw [hg]; exact Nat.ne_of_gt (blk_lt (g := gb532) (o := .cells #[.string a0_0, .string a0_1, .slice A0_2 l0_2.length c0_2, .slice A0_3 l0_3.length c0_3] 57 (0, 0)) z48a) : gb533 ≠ gb532)); clear BK532; clear HB; have BK532 := n0_; have HB := n1_; have BK533 := n2_; have GW533 := n3_; have GE533 := n4_; have NB532_533 := n5_; have NB533_532 := n6_; clear n0_ n1_ n2_ n3_ n4_ n5_ n6_; clear hb hbox hg; have hnb8 := NB532_533.out; have hnc8 := NB533_532.out; have hcz9_0 : w7.cell? ⟨gb532, 0, none⟩ = some (.string a0_0) := (blk_cell BK532.out 0).trans rfl; have hcz9_1 : w7.cell? ⟨gb532, 1, none⟩ = some (.string a0_1) := (blk_cell BK532.out 1).trans rfl; have hcz9_2 : w7.cell? ⟨gb532, 2, none⟩ = some (.slice A0_2 l0_2.length c0_2) := (blk_cell BK532.out 2).trans rfl; have hcz9_3 : w7.cell? ⟨gb532, 3, none⟩ = some (.slice A0_3 l0_3.length c0_3) := (blk_cell BK532.out 3).trans rfl; have hfz9_0 := blk_frozen BK532.out 0; have hfz9_1 := blk_frozen BK532.out 1; have hfz9_2 := blk_frozen BK532.out 2; have hfz9_3 := blk_frozen BK532.out 3) | ((with_reducible refine gate_callee (f := 46) rfl ?_); refine goesL_ (some 9) rfl rfl Try.func46 (by kernel_rfl) rfl #[.agg #[.string a0_0, .string a0_1, .slice A0_2 l0_2.length c0_2, .slice A0_3 l0_3.length c0_3]] rfl (by (try simp only [List.map_toArray, List.map_cons, List.map_nil]); first | done | rfl | (simp only [List.length_drop, List.length_take]; rfl)) ?_; (with_reducible refine (impl_Entries.calls k a0_0 a0_1 _ _ l0_2 _ _ l0_3 t534 _ ?side1 ?side2 ?side3 ?side4 A4.out).mono ?_); (case side1 => exact (by repeat (first | exact (Kd.C_below HR0_2.out HB.out) | (with_reducible refine Kd.C_alloc ?_ _) | (with_reducible refine Kd.C_drewN ?_ _) | (with_reducible refine Kd.C_drew ?_)))); (case side2 => exact HC0_2.out); (case side3 => exact (by repeat (first | exact (Kd.C_below HR0_3.out HB.out) | (with_reducible refine Kd.C_alloc ?_ _) | (with_reducible refine Kd.C_drewN ?_ _) | (with_reducible refine Kd.C_drew ?_)))); (case side4 => exact HC0_3.out); rintro e w10 ⟨v535, rfl, ho0, hb⟩; refine ⟨_, rfl, ?_⟩; have n0_ := A_ (Kd.R_lower (Kd.R_newB ho0 (g := gb533) (o := .cells #[.string (⟨#[]⟩ : ByteArray), .string (⟨#[]⟩ : ByteArray), .int .i64 0, .bool false] 31 (0, 0)) (by (with_reducible repeat (first | refine blk_drewN ?_ _ | refine blk_drew ?_ | refine blk_alloc ?_ _)); exact BK533.out)) (below_size z48b)); have n1_ := A_ (blk_below (g := gb532) (o := .cells #[.string a0_0, .string a0_1, .slice A0_2 l0_2.length c0_2, .slice A0_3 l0_3.length c0_3] 57 (0, 0)) z48a hb); have n2_ := A_ (blk_below (g := gb533) (o := .cells #[.string (⟨#[]⟩ : ByteArray), .string (⟨#[]⟩ : ByteArray), .int .i64 0, .bool false] 31 (0, 0)) (by (with_reducible repeat (first | refine blk_drewN ?_ _ | refine blk_drew ?_ | refine blk_alloc ?_ _)); exact BK533.out) hb); have n3_ := A_ (below_step z48b hb); clear BK532; clear BK533; clear HB; have HO536 := n0_; have BK532 := n1_; have BK533 := n2_; have HB := n3_; clear n0_ n1_ n2_ n3_; obtain ⟨Ao11, co11, eo11⟩ := Kd.R_slice HO536.out; subst eo11) | ((with_reducible refine gate_callee (f := 64) rfl ?_); refine goesL_ (some 12) rfl rfl Try.func64 (by kernel_rfl) rfl #[.slice Ao11 t534.length co11, .string a1, .int .i64 a2] rfl (by (try simp only [List.map_toArray, List.map_cons, List.map_nil]); first | done | rfl | (simp only [List.length_drop, List.length_take]; rfl)) ?_; (with_reducible refine (impl_seen.calls k _ _ t534 a1 a2 t537 t538 t539 t540 t541 _ ?side1 ?side2 A5.out).mono ?_); (case side1 => exact (by repeat (first | exact (Kd.R_reads' HO536.out).2.2 | (with_reducible refine Kd.C_alloc ?_ _) | (with_reducible refine Kd.C_drewN ?_ _) | (with_reducible refine Kd.C_drew ?_)))); (case side2 => exact (Kd.R_reads' HO536.out).2.1); rintro e w12 ⟨rfl, hb⟩; refine ⟨_, rfl, ?_⟩; replace HO536 := A_ (Kd.R_below (by (with_reducible repeat (first | apply Kd.R_alloc | apply Kd.R_drewN | apply Kd.R_drew)); exact HO536.out) hb); replace BK532 := A_ (blk_below (g := gb532) (o := .cells #[.string a0_0, .string a0_1, .slice A0_2 l0_2.length c0_2, .slice A0_3 l0_3.length c0_3] 57 (0, 0)) z48a hb); replace BK533 := A_ (blk_below (g := gb533) (o := .cells #[.string (⟨#[]⟩ : ByteArray), .string (⟨#[]⟩ : ByteArray), .int .i64 0, .bool false] 31 (0, 0)) (by (with_reducible repeat (first | refine blk_drewN ?_ _ | refine blk_drew ?_ | refine blk_alloc ?_ _)); exact BK533.out) hb); replace HB := A_ (below_step z48b hb); have hcz13_0 : w12.cell? ⟨gb533, 0, none⟩ = some (.string (⟨#[]⟩ : ByteArray)) := (blk_cell BK533.out 0).trans rfl; have hcz13_1 : w12.cell? ⟨gb533, 1, none⟩ = some (.string (⟨#[]⟩ : ByteArray)) := (blk_cell BK533.out 1).trans rfl; have hcz13_2 : w12.cell? ⟨gb533, 2, none⟩ = some (.int .i64 0) := (blk_cell BK533.out 2).trans rfl; have hcz13_3 : w12.cell? ⟨gb533, 3, none⟩ = some (.bool false) := (blk_cell BK533.out 3).trans rfl; have hfz13_0 := blk_frozen BK533.out 0; have hfz13_1 := blk_frozen BK533.out 1; have hfz13_2 := blk_frozen BK533.out 2; have hfz13_3 := blk_frozen BK533.out 3))
 refine bodyPost_ret (results_ct rfl _ _ gb533 31 #[.string t537, .string t538, .int .i64 t539, .bool t540] (0, 0) _ rfl (by (with_reducible repeat (first | refine blk_drewN ?_ _ | refine blk_drew ?_ | refine blk_alloc ?_ _)); refine blk_put (cs := #[.string t537, .string t538, .int .i64 t539, .bool false]) ?_ 3 _ rfl; (with_reducible repeat (first | refine blk_drewN ?_ _ | refine blk_drew ?_ | refine blk_alloc ?_ _)); refine blk_put (cs := #[.string t537, .string t538, .int .i64 0, .bool false]) ?_ 2 _ rfl; (with_reducible repeat (first | refine blk_drewN ?_ _ | refine blk_drew ?_ | refine blk_alloc ?_ _)); refine blk_put (cs := #[.string t537, .string (⟨#[]⟩ : ByteArray), .int .i64 0, .bool false]) ?_ 1 _ rfl; (with_reducible repeat (first | refine blk_drewN ?_ _ | refine blk_drew ?_ | refine blk_alloc ?_ _)); refine blk_put (cs := #[.string (⟨#[]⟩ : ByteArray), .string (⟨#[]⟩ : ByteArray), .int .i64 0, .bool false]) ?_ 0 _ rfl; (with_reducible repeat (first | refine blk_drewN ?_ _ | refine blk_drew ?_ | refine blk_alloc ?_ _)); exact BK533.out) Try.underlying31 rfl (by kernel_rfl)) rfl ?_
 exact ⟨by first | rfl | (simp [errW_none, errW_some] <;> rfl) | (simp [*, errW_none, errW_some] <;> rfl), by repeat (first | (with_reducible first | exact HB.out | apply below_alloc | apply pw_below_drewN | apply below_drew1 | refine below_set ?_ GE532.out | refine below_set ?_ GE533.out) | exact HB.out)⟩

theorem z49a {p_ : Prop} (h_ : p_ := by repeat (first | (with_reducible first | exact HB.out | apply below_alloc | apply pw_below_drewN | apply below_drew1 | refine below_set ?_ GE542.out) | exact HB.out)) : p_ := h_
theorem z49b {p_ : Prop} (h_ : p_ := by repeat (first | (with_reducible first | exact HB.out | apply below_alloc | apply pw_below_drewN | apply below_drew1) | exact HB.out)) : p_ := h_
theorem z49c {p_ : Prop} (h_ : p_ := by (with_reducible repeat (first | refine blk_drewN ?_ _ | refine blk_drew ?_ | refine blk_alloc ?_ _)); exact BK542.out) : p_ := h_
def laws_eqEntry.f (a0_0 : ByteArray) (a0_1 : ByteArray) (a0_2 : Int) (a0_3 : Bool) (a1_0 : ByteArray) (a1_1 : ByteArray) (a1_2 : Int) (a1_3 : Bool) : Option (Bool) := if a0_0.toList = a1_0.toList then (if a0_1.toList = a1_1.toList then (if a0_2 = a1_2 then (if (a0_3 != a1_3) = true then (some false) else (some true)) else (some false)) else (some false)) else (some false)
set_option maxHeartbeats 8000000 in
set_option maxRecDepth 100000 in
theorem laws_eqEntry.calls (a0_0 : ByteArray) (a0_1 : ByteArray) (a0_2 : Int) (a0_3 : Bool) (a1_0 : ByteArray) (a1_1 : ByteArray) (a1_2 : Int) (a1_3 : Bool) (r : Bool) (w : World) (h : laws_eqEntry.f a0_0 a0_1 a0_2 a0_3 a1_0 a1_1 a1_2 a1_3 = some r) :
  Calls Try.prog 49 #[.agg #[.string a0_0, .string a0_1, .int .i64 a0_2, .bool a0_3], .agg #[.string a1_0, .string a1_1, .int .i64 a1_2, .bool a1_3]] w fun e w' => e = .returned (.bool r) ∧ Below w.heap.size w w' := by
 have hu31 := Try.underlying31
 have HB := A_ (Below.refl w.heap.size w)
 have H : (if a0_0.toList = a1_0.toList then (if a0_1.toList = a1_1.toList then (if a0_2 = a1_2 then (if (a0_3 != a1_3) = true then (some false) else (some true)) else (some false)) else (some false)) else (some false)) = some r := h
 clear h
 by_cases c3 : a0_0.toList = a1_0.toList
 {
 rw [if_pos c3] at H
 have c3b0 : (a0_0.toList == a1_0.toList) = true := beq_iff_eq.mpr c3
 have c3b1 : (a0_0.toList != a1_0.toList) = false := bne_eq_false_iff_eq.mpr c3
 clear c3
 by_cases c4 : a0_1.toList = a1_1.toList
 {
 rw [if_pos c4] at H
 have c4b0 : (a0_1.toList == a1_1.toList) = true := beq_iff_eq.mpr c4
 have c4b1 : (a0_1.toList != a1_1.toList) = false := bne_eq_false_iff_eq.mpr c4
 clear c4
 by_cases c5 : a0_2 = a1_2
 {
 rw [if_pos c5] at H
 have c5b0 : (a0_2 == a1_2) = true := beq_iff_eq.mpr c5
 have c5b1 : (a0_2 != a1_2) = false := bne_eq_false_iff_eq.mpr c5
 clear c5
 by_cases c6 : (a0_3 != a1_3) = true
 {
 rw [if_pos c6] at H
 have c6b0 : (a0_3 != a1_3) = true := c6
 (try (have c6b1 : decide (a0_3 = a1_3) = false := by simpa using c6))
 (try (have c6b2 : (a0_3 == a1_3) = false := by simpa using c6))
 (try (have c6b3 : ¬ (a0_3 = a1_3) := by simpa using c6))
 clear c6
 obtain rfl := Option.some.inj H
 go_enter Try.func49, Try.ntmps49
 go_wp2_with (first | ((with_reducible refine gate_dst (N := 2) rfl ?_); refine box_event ?hg (N := 2) ?hd (cs := #[.string a0_0, .string a0_1, .int .i64 a0_2, .bool a0_3]) (t := 31) ?hr ?_; (case hd => rfl); (case hg => rfl); (case hr => first | (go_simp; done) | (go_simp; rfl)); intro gb542 hg w7 hbox hb; have n0_ := A_ (below_step z49b hb); have n1_ := A_ (hbox); have n2_ := A_ ((by rw [hg]; exact (below_size z49b) : w.heap.size ≤ gb542)); have n3_ := A_ ((by rw [hg]; exact (below_size z49b) : w.heap.size ≤ gb542)); clear HB; have HB := n0_; have BK542 := n1_; have GW542 := n2_; have GE542 := n3_; clear n0_ n1_ n2_ n3_; clear hb hbox hg) | ((with_reducible refine gate_dst (N := 3) rfl ?_); refine box_event ?hg (N := 3) ?hd (cs := #[.string a1_0, .string a1_1, .int .i64 a1_2, .bool a1_3]) (t := 31) ?hr ?_; (case hd => rfl); (case hg => rfl); (case hr => first | (go_simp; done) | (go_simp; rfl)); intro gb543 hg w8 hbox hb; have n0_ := A_ (blk_below (g := gb542) (o := .cells #[.string a0_0, .string a0_1, .int .i64 a0_2, .bool a0_3] 31 (0, 0)) z49c hb); have n1_ := A_ (below_step z49a hb); have n2_ := A_ (hbox); have n3_ := A_ ((by rw [hg]; exact (below_size z49a) : w.heap.size ≤ gb543)); have n4_ := A_ ((by rw [hg]; exact (below_size z49a) : w.heap.size ≤ gb543)); have n5_ := A_ ((by rw [hg]; exact Nat.ne_of_lt (blk_lt (g := gb542) (o := .cells #[.string a0_0, .string a0_1, .int .i64 a0_2, .bool a0_3] 31 (0, 0)) z49c) : gb542 ≠ gb543)); have n6_ := A_ ((by rw [hg]; exact Nat.ne_of_gt (blk_lt (g := gb542) (o := .cells #[.string a0_0, .string a0_1, .int .i64 a0_2, .bool a0_3] 31 (0, 0)) z49c) : gb543 ≠ gb542)); clear BK542; clear HB; have BK542 := n0_; have HB := n1_; have BK543 := n2_; have GW543 := n3_; have GE543 := n4_; have NB542_543 := n5_; have NB543_542 := n6_; clear n0_ n1_ n2_ n3_ n4_ n5_ n6_; clear hb hbox hg; have hnb9 := NB542_543.out; have hnc9 := NB543_542.out; have hcz10_0 : w8.cell? ⟨gb542, 0, none⟩ = some (.string a0_0) := (blk_cell BK542.out 0).trans rfl; have hcz10_1 : w8.cell? ⟨gb542, 1, none⟩ = some (.string a0_1) := (blk_cell BK542.out 1).trans rfl; have hcz10_2 : w8.cell? ⟨gb542, 2, none⟩ = some (.int .i64 a0_2) := (blk_cell BK542.out 2).trans rfl; have hcz10_3 : w8.cell? ⟨gb542, 3, none⟩ = some (.bool a0_3) := (blk_cell BK542.out 3).trans rfl; have hfz10_0 := blk_frozen BK542.out 0; have hfz10_1 := blk_frozen BK542.out 1; have hfz10_2 := blk_frozen BK542.out 2; have hfz10_3 := blk_frozen BK542.out 3; have hcz11_0 : w8.cell? ⟨gb543, 0, none⟩ = some (.string a1_0) := (blk_cell BK543.out 0).trans rfl; have hcz11_1 : w8.cell? ⟨gb543, 1, none⟩ = some (.string a1_1) := (blk_cell BK543.out 1).trans rfl; have hcz11_2 : w8.cell? ⟨gb543, 2, none⟩ = some (.int .i64 a1_2) := (blk_cell BK543.out 2).trans rfl; have hcz11_3 : w8.cell? ⟨gb543, 3, none⟩ = some (.bool a1_3) := (blk_cell BK543.out 3).trans rfl; have hfz11_0 := blk_frozen BK543.out 0; have hfz11_1 := blk_frozen BK543.out 1; have hfz11_2 := blk_frozen BK543.out 2; have hfz11_3 := blk_frozen BK543.out 3))
 go_ret
 exact ⟨by first | rfl | (simp [errW_none, errW_some] <;> rfl) | (simp [*, errW_none, errW_some] <;> rfl), by repeat (first | (with_reducible first | exact HB.out | apply below_alloc | apply pw_below_drewN | apply below_drew1 | refine below_set ?_ GE542.out | refine below_set ?_ GE543.out) | exact HB.out)⟩
 }
 {
 rw [if_neg c6] at H
 have c6b0 : (a0_3 != a1_3) = false := by simpa using c6
 (try (have c6b1 : decide (a0_3 = a1_3) = true := by simpa using c6))
 (try (have c6b2 : (a0_3 == a1_3) = true := by simpa using c6))
 clear c6
 obtain rfl := Option.some.inj H
 go_enter Try.func49, Try.ntmps49
 go_wp2_with (first | ((with_reducible refine gate_dst (N := 2) rfl ?_); refine box_event ?hg (N := 2) ?hd (cs := #[.string a0_0, .string a0_1, .int .i64 a0_2, .bool a0_3]) (t := 31) ?hr ?_; (case hd => rfl); (case hg => rfl); (case hr => first | (go_simp; done) | (go_simp; rfl)); intro gb542 hg w12 hbox hb; have n0_ := A_ (below_step z49b hb); have n1_ := A_ (hbox); have n2_ := A_ ((by rw [hg]; exact (below_size z49b) : w.heap.size ≤ gb542)); have n3_ := A_ ((by rw [hg]; exact (below_size z49b) : w.heap.size ≤ gb542)); clear HB; have HB := n0_; have BK542 := n1_; have GW542 := n2_; have GE542 := n3_; clear n0_ n1_ n2_ n3_; clear hb hbox hg) | ((with_reducible refine gate_dst (N := 3) rfl ?_); refine box_event ?hg (N := 3) ?hd (cs := #[.string a1_0, .string a1_1, .int .i64 a1_2, .bool a1_3]) (t := 31) ?hr ?_; (case hd => rfl); (case hg => rfl); (case hr => first | (go_simp; done) | (go_simp; rfl)); intro gb543 hg w13 hbox hb; have n0_ := A_ (blk_below (g := gb542) (o := .cells #[.string a0_0, .string a0_1, .int .i64 a0_2, .bool a0_3] 31 (0, 0)) z49c hb); have n1_ := A_ (below_step z49a hb); have n2_ := A_ (hbox); have n3_ := A_ ((by rw [hg]; exact (below_size z49a) : w.heap.size ≤ gb543)); have n4_ := A_ ((by rw [hg]; exact (below_size z49a) : w.heap.size ≤ gb543)); have n5_ := A_ ((by rw [hg]; exact Nat.ne_of_lt (blk_lt (g := gb542) (o := .cells #[.string a0_0, .string a0_1, .int .i64 a0_2, .bool a0_3] 31 (0, 0)) z49c) : gb542 ≠ gb543)); have n6_ := A_ ((by rw [hg]; exact Nat.ne_of_gt (blk_lt (g := gb542) (o := .cells #[.string a0_0, .string a0_1, .int .i64 a0_2, .bool a0_3] 31 (0, 0)) z49c) : gb543 ≠ gb542)); clear BK542; clear HB; have BK542 := n0_; have HB := n1_; have BK543 := n2_; have GW543 := n3_; have GE543 := n4_; have NB542_543 := n5_; have NB543_542 := n6_; clear n0_ n1_ n2_ n3_ n4_ n5_ n6_; clear hb hbox hg; have hnb14 := NB542_543.out; have hnc14 := NB543_542.out; have hcz15_0 : w13.cell? ⟨gb542, 0, none⟩ = some (.string a0_0) := (blk_cell BK542.out 0).trans rfl; have hcz15_1 : w13.cell? ⟨gb542, 1, none⟩ = some (.string a0_1) := (blk_cell BK542.out 1).trans rfl; have hcz15_2 : w13.cell? ⟨gb542, 2, none⟩ = some (.int .i64 a0_2) := (blk_cell BK542.out 2).trans rfl; have hcz15_3 : w13.cell? ⟨gb542, 3, none⟩ = some (.bool a0_3) := (blk_cell BK542.out 3).trans rfl; have hfz15_0 := blk_frozen BK542.out 0; have hfz15_1 := blk_frozen BK542.out 1; have hfz15_2 := blk_frozen BK542.out 2; have hfz15_3 := blk_frozen BK542.out 3; have hcz16_0 : w13.cell? ⟨gb543, 0, none⟩ = some (.string a1_0) := (blk_cell BK543.out 0).trans rfl; have hcz16_1 : w13.cell? ⟨gb543, 1, none⟩ = some (.string a1_1) := (blk_cell BK543.out 1).trans rfl; have hcz16_2 : w13.cell? ⟨gb543, 2, none⟩ = some (.int .i64 a1_2) := (blk_cell BK543.out 2).trans rfl; have hcz16_3 : w13.cell? ⟨gb543, 3, none⟩ = some (.bool a1_3) := (blk_cell BK543.out 3).trans rfl; have hfz16_0 := blk_frozen BK543.out 0; have hfz16_1 := blk_frozen BK543.out 1; have hfz16_2 := blk_frozen BK543.out 2; have hfz16_3 := blk_frozen BK543.out 3))
 go_ret
 exact ⟨by first | rfl | (simp [errW_none, errW_some] <;> rfl) | (simp [*, errW_none, errW_some] <;> rfl), by repeat (first | (with_reducible first | exact HB.out | apply below_alloc | apply pw_below_drewN | apply below_drew1 | refine below_set ?_ GE542.out | refine below_set ?_ GE543.out) | exact HB.out)⟩
 }
 }
 {
 rw [if_neg c5] at H
 have c5b0 : (a0_2 == a1_2) = false := beq_eq_false_iff_ne.mpr c5
 have c5b1 : (a0_2 != a1_2) = true := bne_iff_ne.mpr c5
 obtain rfl := Option.some.inj H
 go_enter Try.func49, Try.ntmps49
 go_wp2_with (first | ((with_reducible refine gate_dst (N := 2) rfl ?_); refine box_event ?hg (N := 2) ?hd (cs := #[.string a0_0, .string a0_1, .int .i64 a0_2, .bool a0_3]) (t := 31) ?hr ?_; (case hd => rfl); (case hg => rfl); (case hr => first | (go_simp; done) | (go_simp; rfl)); intro gb542 hg w17 hbox hb; have n0_ := A_ (below_step z49b hb); have n1_ := A_ (hbox); have n2_ := A_ ((by rw [hg]; exact (below_size z49b) : w.heap.size ≤ gb542)); have n3_ := A_ ((by rw [hg]; exact (below_size z49b) : w.heap.size ≤ gb542)); clear HB; have HB := n0_; have BK542 := n1_; have GW542 := n2_; have GE542 := n3_; clear n0_ n1_ n2_ n3_; clear hb hbox hg) | ((with_reducible refine gate_dst (N := 3) rfl ?_); refine box_event ?hg (N := 3) ?hd (cs := #[.string a1_0, .string a1_1, .int .i64 a1_2, .bool a1_3]) (t := 31) ?hr ?_; (case hd => rfl); (case hg => rfl); (case hr => first | (go_simp; done) | (go_simp; rfl)); intro gb543 hg w18 hbox hb; have n0_ := A_ (blk_below (g := gb542) (o := .cells #[.string a0_0, .string a0_1, .int .i64 a0_2, .bool a0_3] 31 (0, 0)) z49c hb); have n1_ := A_ (below_step z49a hb); have n2_ := A_ (hbox); have n3_ := A_ ((by rw [hg]; exact (below_size z49a) : w.heap.size ≤ gb543)); have n4_ := A_ ((by rw [hg]; exact (below_size z49a) : w.heap.size ≤ gb543)); have n5_ := A_ ((by rw [hg]; exact Nat.ne_of_lt (blk_lt (g := gb542) (o := .cells #[.string a0_0, .string a0_1, .int .i64 a0_2, .bool a0_3] 31 (0, 0)) z49c) : gb542 ≠ gb543)); have n6_ := A_ ((by rw [hg]; exact Nat.ne_of_gt (blk_lt (g := gb542) (o := .cells #[.string a0_0, .string a0_1, .int .i64 a0_2, .bool a0_3] 31 (0, 0)) z49c) : gb543 ≠ gb542)); clear BK542; clear HB; have BK542 := n0_; have HB := n1_; have BK543 := n2_; have GW543 := n3_; have GE543 := n4_; have NB542_543 := n5_; have NB543_542 := n6_; clear n0_ n1_ n2_ n3_ n4_ n5_ n6_; clear hb hbox hg; have hnb19 := NB542_543.out; have hnc19 := NB543_542.out; have hcz20_0 : w18.cell? ⟨gb542, 0, none⟩ = some (.string a0_0) := (blk_cell BK542.out 0).trans rfl; have hcz20_1 : w18.cell? ⟨gb542, 1, none⟩ = some (.string a0_1) := (blk_cell BK542.out 1).trans rfl; have hcz20_2 : w18.cell? ⟨gb542, 2, none⟩ = some (.int .i64 a0_2) := (blk_cell BK542.out 2).trans rfl; have hcz20_3 : w18.cell? ⟨gb542, 3, none⟩ = some (.bool a0_3) := (blk_cell BK542.out 3).trans rfl; have hfz20_0 := blk_frozen BK542.out 0; have hfz20_1 := blk_frozen BK542.out 1; have hfz20_2 := blk_frozen BK542.out 2; have hfz20_3 := blk_frozen BK542.out 3; have hcz21_0 : w18.cell? ⟨gb543, 0, none⟩ = some (.string a1_0) := (blk_cell BK543.out 0).trans rfl; have hcz21_1 : w18.cell? ⟨gb543, 1, none⟩ = some (.string a1_1) := (blk_cell BK543.out 1).trans rfl; have hcz21_2 : w18.cell? ⟨gb543, 2, none⟩ = some (.int .i64 a1_2) := (blk_cell BK543.out 2).trans rfl; have hcz21_3 : w18.cell? ⟨gb543, 3, none⟩ = some (.bool a1_3) := (blk_cell BK543.out 3).trans rfl; have hfz21_0 := blk_frozen BK543.out 0; have hfz21_1 := blk_frozen BK543.out 1; have hfz21_2 := blk_frozen BK543.out 2; have hfz21_3 := blk_frozen BK543.out 3))
 go_ret
 exact ⟨by first | rfl | (simp [errW_none, errW_some] <;> rfl) | (simp [*, errW_none, errW_some] <;> rfl), by repeat (first | (with_reducible first | exact HB.out | apply below_alloc | apply pw_below_drewN | apply below_drew1 | refine below_set ?_ GE542.out | refine below_set ?_ GE543.out) | exact HB.out)⟩
 }
 }
 {
 rw [if_neg c4] at H
 have c4b0 : (a0_1.toList == a1_1.toList) = false := beq_eq_false_iff_ne.mpr c4
 have c4b1 : (a0_1.toList != a1_1.toList) = true := bne_iff_ne.mpr c4
 obtain rfl := Option.some.inj H
 go_enter Try.func49, Try.ntmps49
 go_wp2_with (first | ((with_reducible refine gate_dst (N := 2) rfl ?_); refine box_event ?hg (N := 2) ?hd (cs := #[.string a0_0, .string a0_1, .int .i64 a0_2, .bool a0_3]) (t := 31) ?hr ?_; (case hd => rfl); (case hg => rfl); (case hr => first | (go_simp; done) | (go_simp; rfl)); intro gb542 hg w22 hbox hb; have n0_ := A_ (below_step z49b hb); have n1_ := A_ (hbox); have n2_ := A_ ((by rw [hg]; exact (below_size z49b) : w.heap.size ≤ gb542)); have n3_ := A_ ((by rw [hg]; exact (below_size z49b) : w.heap.size ≤ gb542)); clear HB; have HB := n0_; have BK542 := n1_; have GW542 := n2_; have GE542 := n3_; clear n0_ n1_ n2_ n3_; clear hb hbox hg) | ((with_reducible refine gate_dst (N := 3) rfl ?_); refine box_event ?hg (N := 3) ?hd (cs := #[.string a1_0, .string a1_1, .int .i64 a1_2, .bool a1_3]) (t := 31) ?hr ?_; (case hd => rfl); (case hg => rfl); (case hr => first | (go_simp; done) | (go_simp; rfl)); intro gb543 hg w23 hbox hb; have n0_ := A_ (blk_below (g := gb542) (o := .cells #[.string a0_0, .string a0_1, .int .i64 a0_2, .bool a0_3] 31 (0, 0)) z49c hb); have n1_ := A_ (below_step z49a hb); have n2_ := A_ (hbox); have n3_ := A_ ((by rw [hg]; exact (below_size z49a) : w.heap.size ≤ gb543)); have n4_ := A_ ((by rw [hg]; exact (below_size z49a) : w.heap.size ≤ gb543)); have n5_ := A_ ((by rw [hg]; exact Nat.ne_of_lt (blk_lt (g := gb542) (o := .cells #[.string a0_0, .string a0_1, .int .i64 a0_2, .bool a0_3] 31 (0, 0)) z49c) : gb542 ≠ gb543)); have n6_ := A_ ((by rw [hg]; exact Nat.ne_of_gt (blk_lt (g := gb542) (o := .cells #[.string a0_0, .string a0_1, .int .i64 a0_2, .bool a0_3] 31 (0, 0)) z49c) : gb543 ≠ gb542)); clear BK542; clear HB; have BK542 := n0_; have HB := n1_; have BK543 := n2_; have GW543 := n3_; have GE543 := n4_; have NB542_543 := n5_; have NB543_542 := n6_; clear n0_ n1_ n2_ n3_ n4_ n5_ n6_; clear hb hbox hg; have hnb24 := NB542_543.out; have hnc24 := NB543_542.out; have hcz25_0 : w23.cell? ⟨gb542, 0, none⟩ = some (.string a0_0) := (blk_cell BK542.out 0).trans rfl; have hcz25_1 : w23.cell? ⟨gb542, 1, none⟩ = some (.string a0_1) := (blk_cell BK542.out 1).trans rfl; have hcz25_2 : w23.cell? ⟨gb542, 2, none⟩ = some (.int .i64 a0_2) := (blk_cell BK542.out 2).trans rfl; have hcz25_3 : w23.cell? ⟨gb542, 3, none⟩ = some (.bool a0_3) := (blk_cell BK542.out 3).trans rfl; have hfz25_0 := blk_frozen BK542.out 0; have hfz25_1 := blk_frozen BK542.out 1; have hfz25_2 := blk_frozen BK542.out 2; have hfz25_3 := blk_frozen BK542.out 3; have hcz26_0 : w23.cell? ⟨gb543, 0, none⟩ = some (.string a1_0) := (blk_cell BK543.out 0).trans rfl; have hcz26_1 : w23.cell? ⟨gb543, 1, none⟩ = some (.string a1_1) := (blk_cell BK543.out 1).trans rfl; have hcz26_2 : w23.cell? ⟨gb543, 2, none⟩ = some (.int .i64 a1_2) := (blk_cell BK543.out 2).trans rfl; have hcz26_3 : w23.cell? ⟨gb543, 3, none⟩ = some (.bool a1_3) := (blk_cell BK543.out 3).trans rfl; have hfz26_0 := blk_frozen BK543.out 0; have hfz26_1 := blk_frozen BK543.out 1; have hfz26_2 := blk_frozen BK543.out 2; have hfz26_3 := blk_frozen BK543.out 3))
 go_ret
 exact ⟨by first | rfl | (simp [errW_none, errW_some] <;> rfl) | (simp [*, errW_none, errW_some] <;> rfl), by repeat (first | (with_reducible first | exact HB.out | apply below_alloc | apply pw_below_drewN | apply below_drew1 | refine below_set ?_ GE542.out | refine below_set ?_ GE543.out) | exact HB.out)⟩
 }
 }
 {
 rw [if_neg c3] at H
 have c3b0 : (a0_0.toList == a1_0.toList) = false := beq_eq_false_iff_ne.mpr c3
 have c3b1 : (a0_0.toList != a1_0.toList) = true := bne_iff_ne.mpr c3
 obtain rfl := Option.some.inj H
 go_enter Try.func49, Try.ntmps49
 go_wp2_with (first | ((with_reducible refine gate_dst (N := 2) rfl ?_); refine box_event ?hg (N := 2) ?hd (cs := #[.string a0_0, .string a0_1, .int .i64 a0_2, .bool a0_3]) (t := 31) ?hr ?_; (case hd => rfl); (case hg => rfl); (case hr => first | (go_simp; done) | (go_simp; rfl)); intro gb542 hg w27 hbox hb; have n0_ := A_ (below_step z49b hb); have n1_ := A_ (hbox); have n2_ := A_ ((by rw [hg]; exact (below_size z49b) : w.heap.size ≤ gb542)); have n3_ := A_ ((by rw [hg]; exact (below_size z49b) : w.heap.size ≤ gb542)); clear HB; have HB := n0_; have BK542 := n1_; have GW542 := n2_; have GE542 := n3_; clear n0_ n1_ n2_ n3_; clear hb hbox hg) | ((with_reducible refine gate_dst (N := 3) rfl ?_); refine box_event ?hg (N := 3) ?hd (cs := #[.string a1_0, .string a1_1, .int .i64 a1_2, .bool a1_3]) (t := 31) ?hr ?_; (case hd => rfl); (case hg => rfl); (case hr => first | (go_simp; done) | (go_simp; rfl)); intro gb543 hg w28 hbox hb; have n0_ := A_ (blk_below (g := gb542) (o := .cells #[.string a0_0, .string a0_1, .int .i64 a0_2, .bool a0_3] 31 (0, 0)) z49c hb); have n1_ := A_ (below_step z49a hb); have n2_ := A_ (hbox); have n3_ := A_ ((by rw [hg]; exact (below_size z49a) : w.heap.size ≤ gb543)); have n4_ := A_ ((by rw [hg]; exact (below_size z49a) : w.heap.size ≤ gb543)); have n5_ := A_ ((by rw [hg]; exact Nat.ne_of_lt (blk_lt (g := gb542) (o := .cells #[.string a0_0, .string a0_1, .int .i64 a0_2, .bool a0_3] 31 (0, 0)) z49c) : gb542 ≠ gb543)); have n6_ := A_ ((by rw [hg]; exact Nat.ne_of_gt (blk_lt (g := gb542) (o := .cells #[.string a0_0, .string a0_1, .int .i64 a0_2, .bool a0_3] 31 (0, 0)) z49c) : gb543 ≠ gb542)); clear BK542; clear HB; have BK542 := n0_; have HB := n1_; have BK543 := n2_; have GW543 := n3_; have GE543 := n4_; have NB542_543 := n5_; have NB543_542 := n6_; clear n0_ n1_ n2_ n3_ n4_ n5_ n6_; clear hb hbox hg; have hnb29 := NB542_543.out; have hnc29 := NB543_542.out; have hcz30_0 : w28.cell? ⟨gb542, 0, none⟩ = some (.string a0_0) := (blk_cell BK542.out 0).trans rfl; have hcz30_1 : w28.cell? ⟨gb542, 1, none⟩ = some (.string a0_1) := (blk_cell BK542.out 1).trans rfl; have hcz30_2 : w28.cell? ⟨gb542, 2, none⟩ = some (.int .i64 a0_2) := (blk_cell BK542.out 2).trans rfl; have hcz30_3 : w28.cell? ⟨gb542, 3, none⟩ = some (.bool a0_3) := (blk_cell BK542.out 3).trans rfl; have hfz30_0 := blk_frozen BK542.out 0; have hfz30_1 := blk_frozen BK542.out 1; have hfz30_2 := blk_frozen BK542.out 2; have hfz30_3 := blk_frozen BK542.out 3; have hcz31_0 : w28.cell? ⟨gb543, 0, none⟩ = some (.string a1_0) := (blk_cell BK543.out 0).trans rfl; have hcz31_1 : w28.cell? ⟨gb543, 1, none⟩ = some (.string a1_1) := (blk_cell BK543.out 1).trans rfl; have hcz31_2 : w28.cell? ⟨gb543, 2, none⟩ = some (.int .i64 a1_2) := (blk_cell BK543.out 2).trans rfl; have hcz31_3 : w28.cell? ⟨gb543, 3, none⟩ = some (.bool a1_3) := (blk_cell BK543.out 3).trans rfl; have hfz31_0 := blk_frozen BK543.out 0; have hfz31_1 := blk_frozen BK543.out 1; have hfz31_2 := blk_frozen BK543.out 2; have hfz31_3 := blk_frozen BK543.out 3))
 go_ret
 exact ⟨by first | rfl | (simp [errW_none, errW_some] <;> rfl) | (simp [*, errW_none, errW_some] <;> rfl), by repeat (first | (with_reducible first | exact HB.out | apply below_alloc | apply pw_below_drewN | apply below_drew1 | refine below_set ?_ GE542.out | refine below_set ?_ GE543.out) | exact HB.out)⟩
 
 }
end Go.Proofs.Ytaiggfjkikfcbaa.PFnExactFound

-- by a program of this session (wip/print/run.py) for this claim
import Derived.Test.YtajidjlbgpaaoaaPFnExactBottomx0
import Derived.Test.YtajidjlbgpaaoaaPFnExactBottomx7
import Derived.Test.YtajidjlbgpaaoaaPFnExactBottomx8
namespace Go.Proofs.Ytajidjlbgpaaoaa.PFnExactBottom
open Go.RowKit Go.Proofs.YtajidjlbgpaaoaaW.PrintWords Go.Proofs.YtajidjlbgpaaoaaW.PrintLast Go.Proofs.YtajidjlbgpaaoaaW.PrintMore
attribute [local go_sem] max2_int min2_int max_two min_two max_three min_three max_four min_four   -- for this text's walks alone
set_option linter.unusedVariables false
set_option linter.unusedSimpArgs false

/-! ### spec_l6Bottom: function 76 -/
theorem z76a {p_ : Prop} (h_ : p_ := by repeat (first | (with_reducible first | exact HB.out | apply below_alloc | apply pw_below_drewN | apply below_drew1) | exact HB.out)) : p_ := h_
theorem z76b {p_ : Prop} (h_ : p_ := by (with_reducible repeat (first | apply Kd.R_alloc | apply Kd.R_drewN | apply Kd.R_drew)); exact HO_5.out) : p_ := h_
theorem z76c {p_ : Prop} (h_ : p_ := by (with_reducible repeat (first | apply Kd.R_alloc | apply Kd.R_drewN | apply Kd.R_drew)); exact HO_6.out) : p_ := h_
theorem z76d {p_ : Prop} (h_ : p_ := by first | (with_reducible assumption) | assumption) : p_ := h_
theorem z76e {p_ : Prop} (h_ : p_ := by (with_reducible repeat (first | apply Kd.R_alloc | apply Kd.R_drewN | apply Kd.R_drew)); exact HO179.out) : p_ := h_
def spec_l6Bottom.l0 : Nat → List (S88) → List (S88) → Int → Option ((List (S88)))
 | 0, _, _, _ => none
 | k + 1, x5, x6, x7 => if x7 ≥ 0 then (if (x6.length : Int) = 0 then (if 0 ≤ x7 then (if x7 < (x5.length : Int) then (if ((rd_T88 x5 x7).f3 = true) then (spec_l6Bottom.l0 k x5 x6 (wrap64 (x7 - 1))) else ((some (([(⟨(rd_T88 x5 x7).f0, (rd_T88 x5 x7).f1, (rd_T88 x5 x7).f2, (rd_T88 x5 x7).f3⟩ : S88)] : List (S88)) : List (S88))).bind fun y185 => (if y185.length + x6.length < 2932031007402 then (spec_l6Bottom.l0 k x5 (y185 ++ x6) (wrap64 (x7 - 1))) else (none)))) else (none)) else (none)) else (if 0 < (x6.length : Int) then (if 0 ≤ x7 then (if x7 < (x5.length : Int) then (if (¬ ((rd_T88 x6 0).f0).toList = ((rd_T88 x5 x7).f0).toList) then (if ((rd_T88 x5 x7).f3 = true) then (spec_l6Bottom.l0 k x5 x6 (wrap64 (x7 - 1))) else ((some (([(⟨(rd_T88 x5 x7).f0, (rd_T88 x5 x7).f1, (rd_T88 x5 x7).f2, (rd_T88 x5 x7).f3⟩ : S88)] : List (S88)) : List (S88))).bind fun y195 => (if y195.length + x6.length < 2932031007402 then (spec_l6Bottom.l0 k x5 (y195 ++ x6) (wrap64 (x7 - 1))) else (none)))) else ((some (([(⟨(rd_T88 x5 x7).f0, (rd_T88 x5 x7).f1, (rd_T88 x5 x7).f2, (rd_T88 x5 x7).f3⟩ : S88)] : List (S88)) : List (S88))).bind fun y202 => (if y202.length + x6.length < 2932031007402 then (spec_l6Bottom.l0 k x5 (y202 ++ x6) (wrap64 (x7 - 1))) else (none)))) else (none)) else (none)) else (none))) else (some x6)
def spec_l6Bottom.f (k : Nat) (l0 : List (S88)) (l1 : List Int) : Option ((List (S88))) := (spec_l6Seens.f k l0 l1).bind fun t177 => (spec_l6Bottom.l0 k t177 (([] : List (S88))) (wrap64 ((t177.length : Int) - 1)))
theorem spec_l6Bottom.mono_l : ∀ k, (∀ y0 y1 y2, LeO (spec_l6Bottom.l0 k y0 y1 y2) (spec_l6Bottom.l0 (k + 1) y0 y1 y2))
 | 0 => fun _ _ _ r h => by simp [spec_l6Bottom.l0] at h
 | k + 1 => by
  have ih0 := spec_l6Bottom.mono_l k
  {
  intro y0 y1 y2
  unfold spec_l6Bottom.l0
  repeat' first
  | (with_reducible exact ih0 _ _ _)
  | (with_reducible exact spec_l6Seens.mono _ _ _)
  | (with_reducible exact LeO.refl _)
  | (with_reducible exact LeO.none _)
  | (with_reducible refine LeO.ite ?_ ?_)
  | (with_reducible refine LeO.bind ?_ (fun _ => ?_))
  | exact ih0 _ _ _
  | exact spec_l6Seens.mono _ _ _
  | exact LeO.none _
  | refine LeO.ite ?_ ?_
  | refine LeO.bind ?_ (fun _ => ?_)
  }
theorem spec_l6Bottom.mono : ∀ a0 a1 k, LeO (spec_l6Bottom.f k a0 a1) (spec_l6Bottom.f (k + 1) a0 a1) := by
 intro a0 a1 k
 have ih0 := spec_l6Bottom.mono_l k
 unfold spec_l6Bottom.f
 repeat' first
   | (with_reducible exact ih0 _ _ _)
   | (with_reducible exact spec_l6Seens.mono _ _ _)
   | (with_reducible exact LeO.refl _)
   | (with_reducible exact LeO.none _)
   | (with_reducible refine LeO.ite ?_ ?_)
   | (with_reducible refine LeO.bind ?_ (fun _ => ?_))
   | exact ih0 _ _ _
   | exact spec_l6Seens.mono _ _ _
   | exact LeO.none _
   | refine LeO.ite ?_ ?_
   | refine LeO.bind ?_ (fun _ => ?_)
set_option maxHeartbeats 8000000 in
set_option maxRecDepth 100000 in
theorem spec_l6Bottom.calls (k : Nat) (A0 : Option Addr) (c0 : Nat) (l0 : List (S88)) (A1 : Option Addr) (c1 : Nat) (l1 : List Int) (r : List (S88)) (w : World) (hr0 : Kd.C k88 w A0 l0.length l0) (hc0 : l0.length ≤ c0) (hr1 : Kd.C (Kd.int .i64) w A1 l1.length l1) (hc1 : l1.length ≤ c1) (h : spec_l6Bottom.f k l0 l1 = some r) :
  Calls Try.prog 76 #[.slice A0 l0.length c0, .slice A1 l1.length c1] w fun e w' => ∃ v0_ : Value, e = .returned (v0_) ∧ Kd.R k88 88 w' w.heap.size (fun _ => True) v0_ r ∧ Below w.heap.size w w' := by
 have hu88 := Try.underlying88
 have HR0 := Aside0.mk hr0
 have HC0 := Aside0.mk hc0
 clear hr0 hc0
 have HR1 := Aside0.mk hr1
 have HC1 := Aside0.mk hc1
 clear hr1 hc1
 have HB := Aside0.mk (Below.refl w.heap.size w)
 have H : ((spec_l6Seens.f k l0 l1).bind fun t177 => (spec_l6Bottom.l0 k t177 (([] : List (S88))) (wrap64 ((t177.length : Int) - 1)))) = some r := h
 clear h
 replace H := Option.bind_eq_some_iff.mp H
 obtain ⟨t177, A30, H⟩ := H
 replace H : (spec_l6Bottom.l0 k t177 (([] : List (S88))) (wrap64 ((t177.length : Int) - 1))) = some r := H
 have A3 := Aside0.mk A30
 clear A30
 obtain ⟨y180, hy180⟩ : ∃ y_ : List (S88), y_ = (([] : List (S88))) := ⟨_, rfl⟩
 replace H : (spec_l6Bottom.l0 k t177 y180 (wrap64 ((t177.length : Int) - 1))) = some r := by first | (rw [hy180]; with_reducible exact H) | (have H2_ := (Option.bind_some _ _).symm.trans H; rw [hy180]; with_reducible exact H2_) | (have H2_ := (Option.bind_some _ _).symm.trans H; with_reducible exact H2_) | with_reducible exact H | (rw [hy180]; exact H) | exact H
 have Ny180 := Aside0.mk hy180
 clear hy180
 have H' := Aside0.mk H
 clear H
 go_enter Try.func76, Try.ntmps76
 go_wp2_with (first | (go_at_call 71; (with_reducible refine (spec_l6Seens.calls k _ _ l0 _ _ l1 t177 _ ?side1 ?side2 ?side3 ?side4 A3.out).mono ?_); (case side1 => repeat (first | exact HR0.out | (with_reducible refine Kd.C_alloc ?_ _) | (with_reducible refine Kd.C_drewN ?_ _) | (with_reducible refine Kd.C_drew ?_))); (case side2 => exact HC0.out); (case side3 => repeat (first | exact HR1.out | (with_reducible refine Kd.C_alloc ?_ _) | (with_reducible refine Kd.C_drewN ?_ _) | (with_reducible refine Kd.C_drew ?_))); (case side4 => exact HC1.out); rintro e w4 ⟨v178, rfl, ho0, hb⟩; have n0_ := Aside0.mk (Kd.R_lower ho0 (below_size z76a)); have n1_ := Aside0.mk (below_step z76a hb); clear HB; have HO179 := n0_; have HB := n1_; clear n0_ n1_; (try clear hb); (try clear hb2); (try clear hk); (try clear hi); (try clear ho0)) | ((with_reducible refine gate_dst (N := 12) rfl ?_); refine Kd.R_lit k88 _ 88 ?hg (N := 12) ?hd (xs := ([] : List (S88))) (inner := []) (ok := fun _ => True) (okp := fun _ => True) ?hr ?hp (fun _ hk => hk) trivial (Below.refl _ _) (Nat.le_refl _) (by simp) ?_; (case hd => rfl); (case hg => rfl); (case hr => first | (go_simp; done) | (go_simp; rfl)); (case hp => exact (Reps.none _ _)); intro v181 w5 ho6 hb hg_ hnew_; clear hg_ hnew_; (first | rw [← Ny180.out] at ho6 | (simp only [Int.reduceToNat] at ho6; rw [← Ny180.out] at ho6)); have n0_ := Aside0.mk (Kd.R_elder' z76e (Kd.R_base ho6) hb); have n1_ := Aside0.mk (Kd.R_lower (Kd.R_new' ho6 (Kd.R_lt z76e)) (below_size z76a)); have n2_ := Aside0.mk (below_step z76a hb); clear HO179; clear HB; have HO179 := n0_; have HO182 := n1_; have HB := n2_; clear n0_ n1_ n2_; clear hb ho6; obtain ⟨Ao7, co7, eo7⟩ := Kd.R_slice HO179.out; subst eo7))
 repeat (go_quiet (first | (go_at_call 71; (with_reducible refine (spec_l6Seens.calls k _ _ l0 _ _ l1 t177 _ ?side1 ?side2 ?side3 ?side4 A3.out).mono ?_); (case side1 => repeat (first | exact HR0.out | (with_reducible refine Kd.C_alloc ?_ _) | (with_reducible refine Kd.C_drewN ?_ _) | (with_reducible refine Kd.C_drew ?_))); (case side2 => exact HC0.out); (case side3 => repeat (first | exact HR1.out | (with_reducible refine Kd.C_alloc ?_ _) | (with_reducible refine Kd.C_drewN ?_ _) | (with_reducible refine Kd.C_drew ?_))); (case side4 => exact HC1.out); rintro e w4 ⟨v178, rfl, ho0, hb⟩; have n0_ := Aside0.mk (Kd.R_lower ho0 (below_size z76a)); have n1_ := Aside0.mk (below_step z76a hb); clear HB; have HO179 := n0_; have HB := n1_; clear n0_ n1_; (try clear hb); (try clear hb2); (try clear hk); (try clear hi); (try clear ho0)) | ((with_reducible refine gate_dst (N := 12) rfl ?_); refine Kd.R_lit k88 _ 88 ?hg (N := 12) ?hd (xs := ([] : List (S88))) (inner := []) (ok := fun _ => True) (okp := fun _ => True) ?hr ?hp (fun _ hk => hk) trivial (Below.refl _ _) (Nat.le_refl _) (by simp) ?_; (case hd => rfl); (case hg => rfl); (case hr => first | (go_simp; done) | (go_simp; rfl)); (case hp => exact (Reps.none _ _)); intro v181 w5 ho6 hb hg_ hnew_; clear hg_ hnew_; (first | rw [← Ny180.out] at ho6 | (simp only [Int.reduceToNat] at ho6; rw [← Ny180.out] at ho6)); have n0_ := Aside0.mk (Kd.R_elder' z76e (Kd.R_base ho6) hb); have n1_ := Aside0.mk (Kd.R_lower (Kd.R_new' ho6 (Kd.R_lt z76e)) (below_size z76a)); have n2_ := Aside0.mk (below_step z76a hb); clear HO179; clear HB; have HO179 := n0_; have HO182 := n1_; have HB := n2_; clear n0_ n1_ n2_; clear hb ho6; obtain ⟨Ao7, co7, eo7⟩ := Kd.R_slice HO179.out; subst eo7)); try go_wp2_with (first | (go_at_call 71; (with_reducible refine (spec_l6Seens.calls k _ _ l0 _ _ l1 t177 _ ?side1 ?side2 ?side3 ?side4 A3.out).mono ?_); (case side1 => repeat (first | exact HR0.out | (with_reducible refine Kd.C_alloc ?_ _) | (with_reducible refine Kd.C_drewN ?_ _) | (with_reducible refine Kd.C_drew ?_))); (case side2 => exact HC0.out); (case side3 => repeat (first | exact HR1.out | (with_reducible refine Kd.C_alloc ?_ _) | (with_reducible refine Kd.C_drewN ?_ _) | (with_reducible refine Kd.C_drew ?_))); (case side4 => exact HC1.out); rintro e w4 ⟨v178, rfl, ho0, hb⟩; have n0_ := Aside0.mk (Kd.R_lower ho0 (below_size z76a)); have n1_ := Aside0.mk (below_step z76a hb); clear HB; have HO179 := n0_; have HB := n1_; clear n0_ n1_; (try clear hb); (try clear hb2); (try clear hk); (try clear hi); (try clear ho0)) | ((with_reducible refine gate_dst (N := 12) rfl ?_); refine Kd.R_lit k88 _ 88 ?hg (N := 12) ?hd (xs := ([] : List (S88))) (inner := []) (ok := fun _ => True) (okp := fun _ => True) ?hr ?hp (fun _ hk => hk) trivial (Below.refl _ _) (Nat.le_refl _) (by simp) ?_; (case hd => rfl); (case hg => rfl); (case hr => first | (go_simp; done) | (go_simp; rfl)); (case hp => exact (Reps.none _ _)); intro v181 w5 ho6 hb hg_ hnew_; clear hg_ hnew_; (first | rw [← Ny180.out] at ho6 | (simp only [Int.reduceToNat] at ho6; rw [← Ny180.out] at ho6)); have n0_ := Aside0.mk (Kd.R_elder' z76e (Kd.R_base ho6) hb); have n1_ := Aside0.mk (Kd.R_lower (Kd.R_new' ho6 (Kd.R_lt z76e)) (below_size z76a)); have n2_ := Aside0.mk (below_step z76a hb); clear HO179; clear HB; have HO179 := n0_; have HO182 := n1_; have HB := n2_; clear n0_ n1_ n2_; clear hb ho6; obtain ⟨Ao7, co7, eo7⟩ := Kd.R_slice HO179.out; subst eo7)))
 go_loopg [6, 7] k (fun kq v6 v7 w' => ∃ (x6_1 : List (S88)) (x7_1 : Int), v7 = .int .i64 x7_1 ∧ Aside0 (spec_l6Bottom.l0 kq t177 x6_1 x7_1 = some r) ∧ Aside0 (kq ≤ k) ∧ Aside0 (Kd.R k88 88 w' w.heap.size (fun k_ => some k_ ≠ (v6 : Value).ownBlock) (.slice Ao7 t177.length co7) t177) ∧ Aside0 (Kd.R k88 88 w' w.heap.size (fun k_ => some k_ ≠ ((.slice Ao7 t177.length co7) : Value).ownBlock) v6 x6_1) ∧ Aside0 (Below w.heap.size w w'))
 case atStart => exact ⟨(y180), (wrap64 ((t177.length : Int) - 1)), (by first | rfl | (simp; done) | (simp [*]; done)), H', ⟨Nat.le_refl _⟩, ⟨by (with_reducible repeat (first | apply Kd.R_alloc | apply Kd.R_drewN | apply Kd.R_drew)); exact Kd.R_mono HO179.out (fun _ hk => hk.2)⟩, ⟨by (with_reducible repeat (first | apply Kd.R_alloc | apply Kd.R_drewN | apply Kd.R_drew)); exact Kd.R_mono HO182.out (fun _ hk => hk.2)⟩, ⟨by repeat (first | (with_reducible first | exact HB.out | apply below_alloc | apply pw_below_drewN | apply below_drew1) | exact HB.out)⟩⟩
 case round =>
  clear H'
  try clear c1
  try clear p2
  try clear p6
  try clear c7
  obtain ⟨x6_1, x7_1, rfl, HA, HK1, HO_5, HO_6, HB⟩ := hrel
  cases gk with
  | zero => exact absurd HA.out (by simp [spec_l6Bottom.l0])
  | succ k1 =>
   have H := HA.out
   clear HA
   simp only [spec_l6Bottom.l0] at H
   by_cases c8 : x7_1 ≥ 0
   {
   rw [if_pos c8] at H
   have c8b0 : decide (0 ≤ x7_1) = true := decide_eq_true c8
   clear c8
   by_cases c9 : (x6_1.length : Int) = 0
   {
   rw [if_pos c9] at H
   have c9b0 : ((x6_1.length : Int) == 0) = true := beq_iff_eq.mpr c9
   have c9b1 : ((x6_1.length : Int) != 0) = false := bne_eq_false_iff_eq.mpr c9
   clear c9
   by_cases c10 : 0 ≤ x7_1
   {
   rw [if_pos c10] at H
   have c10b0 : decide (0 ≤ x7_1) = true := decide_eq_true c10
   clear c10
   by_cases c11 : x7_1 < (t177.length : Int)
   {
   rw [if_pos c11] at H
   have c11b0 : decide (x7_1 < (t177.length : Int)) = true := decide_eq_true c11
   clear c11
   obtain ⟨bq12, hbq12⟩ : ∃ b_ : Bool, b_ = ((rd_T88 t177 x7_1).f3) := ⟨_, rfl⟩
   replace H : (if (bq12 = true) then (spec_l6Bottom.l0 k1 t177 x6_1 (wrap64 (x7_1 - 1))) else ((some (([(⟨(rd_T88 t177 x7_1).f0, (rd_T88 t177 x7_1).f1, (rd_T88 t177 x7_1).f2, bq12⟩ : S88)] : List (S88)) : List (S88))).bind fun y185 => (if y185.length + x6_1.length < 2932031007402 then (spec_l6Bottom.l0 k1 t177 (y185 ++ x6_1) (wrap64 (x7_1 - 1))) else (none)))) = some r := by rw [← hbq12] at H; exact H
   have Nbq12 := Aside0.mk hbq12
   clear hbq12
   by_cases c13 : (bq12 = true)
   {
   subst c13
   have H1 : (spec_l6Bottom.l0 k1 t177 x6_1 (wrap64 (x7_1 - 1))) = some r := by rw [if_pos rfl] at H; exact H
   clear H
   have H := H1
   clear H1
   have H' := Aside0.mk H
   clear H
   obtain ⟨Ao14, co14, eo14⟩ := Kd.R_slice HO_6.out
   subst eo14
   have p183 : 0 ≤ (x7_1 : Int) := of_decide_eq_true z76d
   have q183 : x7_1 < (t177.length : Int) := of_decide_eq_true z76d
   obtain ⟨ad183, e183, hx183_0, hx183_1, hx183_2, hx183_3⟩ := at_T88 (Kd.R_reads' HO_5.out).2.2 x7_1 p183 q183
   (try rw [← Nbq12.out] at hx183_3)
   cases e183
   replace p183 := eq_true p183
   replace q183 := eq_true q183
   go_wp2
   repeat (go_quiet (fail); try go_wp2)
   go_roundg k1
   case measure => have := HK1.out; omega
   case rel => exact ⟨(x6_1), (wrap64 (x7_1 - 1)), (by first | rfl | (simp; done) | (simp [*]; done)), H', ⟨by have := HK1.out; omega⟩, ⟨by (with_reducible repeat (first | apply Kd.R_alloc | apply Kd.R_drewN | apply Kd.R_drew)); exact HO_5.out⟩, ⟨by (with_reducible repeat (first | apply Kd.R_alloc | apply Kd.R_drewN | apply Kd.R_drew)); exact HO_6.out⟩, ⟨by repeat (first | (with_reducible first | exact HB.out | apply below_alloc | apply pw_below_drewN | apply below_drew1) | exact HB.out)⟩⟩
   }
   {
   replace c13 := Bool.eq_false_iff.mpr c13
   subst c13
   have H1 : ((some (([(⟨(rd_T88 t177 x7_1).f0, (rd_T88 t177 x7_1).f1, (rd_T88 t177 x7_1).f2, false⟩ : S88)] : List (S88)) : List (S88))).bind fun y185 => (if y185.length + x6_1.length < 2932031007402 then (spec_l6Bottom.l0 k1 t177 (y185 ++ x6_1) (wrap64 (x7_1 - 1))) else (none))) = some r := by rw [if_neg (show ¬ (false = true) by decide)] at H; exact H
   clear H
   have H := H1
   clear H1
   obtain ⟨y185, hy185⟩ : ∃ y_ : List (S88), y_ = (([(⟨(rd_T88 t177 x7_1).f0, (rd_T88 t177 x7_1).f1, (rd_T88 t177 x7_1).f2, false⟩ : S88)] : List (S88))) := ⟨_, rfl⟩
   replace H : (if y185.length + x6_1.length < 2932031007402 then (spec_l6Bottom.l0 k1 t177 (y185 ++ x6_1) (wrap64 (x7_1 - 1))) else (none)) = some r := by first | (rw [hy185]; with_reducible exact H) | (have H2_ := (Option.bind_some _ _).symm.trans H; rw [hy185]; with_reducible exact H2_) | (have H2_ := (Option.bind_some _ _).symm.trans H; with_reducible exact H2_) | with_reducible exact H | (rw [hy185]; exact H) | exact H
   have Ny185 := Aside0.mk hy185
   clear hy185
   by_cases c15 : y185.length + x6_1.length < 2932031007402
   {
   rw [if_pos c15] at H
   have LMc15 := Aside0.mk c15
   clear c15
   obtain ⟨y188, hy188⟩ : ∃ y_ : List (S88), y_ = (y185 ++ x6_1) := ⟨_, rfl⟩
   replace H : (spec_l6Bottom.l0 k1 t177 y188 (wrap64 (x7_1 - 1))) = some r := by first | (rw [hy188]; with_reducible exact H) | (have H2_ := (Option.bind_some _ _).symm.trans H; rw [hy188]; with_reducible exact H2_) | (have H2_ := (Option.bind_some _ _).symm.trans H; with_reducible exact H2_) | with_reducible exact H | (rw [hy188]; exact H) | exact H
   have Ny188 := Aside0.mk hy188
   clear hy188
   have H' := Aside0.mk H
   clear H
   obtain ⟨Ao16, co16, eo16⟩ := Kd.R_slice HO_6.out
   subst eo16
   have p183 : 0 ≤ (x7_1 : Int) := of_decide_eq_true z76d
   have q183 : x7_1 < (t177.length : Int) := of_decide_eq_true z76d
   obtain ⟨ad183, e183, hx183_0, hx183_1, hx183_2, hx183_3⟩ := at_T88 (Kd.R_reads' HO_5.out).2.2 x7_1 p183 q183
   (try rw [← Nbq12.out] at hx183_3)
   cases e183
   replace p183 := eq_true p183
   replace q183 := eq_true q183
   have p184 : 0 ≤ (x7_1 : Int) := of_decide_eq_true z76d
   have q184 : x7_1 < (t177.length : Int) := of_decide_eq_true z76d
   obtain ⟨ad184, e184, hx184_0, hx184_1, hx184_2, hx184_3⟩ := at_T88 (Kd.R_reads' HO_5.out).2.2 x7_1 p184 q184
   (try rw [← Nbq12.out] at hx184_3)
   obtain rfl : ad183 = ad184 := (by injection e184)
   replace p184 := eq_true p184
   replace q184 := eq_true q184
   go_wp2_with (first | ((with_reducible refine gate_dst (N := 49) rfl ?_); refine Kd.R_lit k88 _ 88 ?hg (N := 49) ?hd (xs := ([(⟨(rd_T88 t177 x7_1).f0, (rd_T88 t177 x7_1).f1, (rd_T88 t177 x7_1).f2, false⟩ : S88)] : List (S88))) (inner := [.string ((rd_T88 t177 x7_1).f0), .string ((rd_T88 t177 x7_1).f1), .int .i64 ((rd_T88 t177 x7_1).f2), .bool false]) (ok := fun _ => True) (okp := fun _ => True) ?hr ?hp (fun _ hk => hk) trivial (Below.refl _ _) (Nat.le_refl _) (by simp) ?_; (case hd => rfl); (case hg => rfl); (case hr => first | (go_simp; done) | (go_simp; rfl)); (case hp => exact (Reps.c4 (show Kd.M k88 _ _ _ (⟨(rd_T88 t177 x7_1).f0, (rd_T88 t177 x7_1).f1, (rd_T88 t177 x7_1).f2, false⟩ : S88) [.string ((rd_T88 t177 x7_1).f0), .string ((rd_T88 t177 x7_1).f1), .int .i64 ((rd_T88 t177 x7_1).f2), .bool false] from (k88_mkM _ _ _ (⟨(rd_T88 t177 x7_1).f0, (rd_T88 t177 x7_1).f1, (rd_T88 t177 x7_1).f2, false⟩ : S88) )) (Reps.none _ _))); intro v186 w17 ho18 hb hg_ hnew_; clear hg_ hnew_; (first | rw [← Ny185.out] at ho18 | (simp only [Int.reduceToNat] at ho18; rw [← Ny185.out] at ho18)); have n0_ := Aside0.mk (Kd.R_elder' z76b (Kd.R_base ho18) hb); have n1_ := Aside0.mk (Kd.R_elder' z76c (Kd.R_base ho18) hb); have n2_ := Aside0.mk (Kd.R_lower (Kd.R_new' (Kd.R_new' ho18 (Kd.R_lt z76b)) (Kd.R_lt z76c)) (below_size z76a)); have n3_ := Aside0.mk (below_step z76a hb); clear HO_5; clear HO_6; clear HB; have HO_5 := n0_; have HO_6 := n1_; have HO187 := n2_; have HB := n3_; clear n0_ n1_ n2_ n3_; clear hb ho18) | ((with_reducible refine gate_builtin (b := .append) (xs := #[.tmp 49, .tmp 50]) rfl ?_); at_builtin; refine Kd.R_append_rows k88 (w0 := w) w.heap.size rfl (.tmp 49) (.tmp 50) 50 88 (.agg #[(.string ⟨#[]⟩), (.string ⟨#[]⟩), (.int .i64 0), (.bool false)]) 48 rfl Try.underlying50 info88 rfl (by decide) (by omega) v186 y185 x6_1 _ _ _ (fun k_ => some k_ ≠ (.slice (some ad183) t177.length co7 : Value).ownBlock ∧ some k_ ≠ (.slice Ao16 x6_1.length co16 : Value).ownBlock) (fun _ => False) rfl rfl ?aO ?aR (fun _ _ h => h) (fun _ h => h.elim) ?aF ?aB ?aS ?aL ?_; (case aR => repeat (first | exact (Kd.R_reads' HO_6.out).2.2 | (with_reducible refine Kd.C_alloc ?_ _) | (with_reducible refine Kd.C_drewN ?_ _) | (with_reducible refine Kd.C_drew ?_))); (case aB => exact z76a); (case aF => exact (fun k_ hk => ⟨Kd.fresh' (Kd.R_lt z76b) k_ hk, Kd.fresh' (Kd.R_lt z76c) k_ hk⟩)); (case aO => exact (by (with_reducible repeat (first | apply Kd.R_alloc | apply Kd.R_drewN | apply Kd.R_drew)); exact Kd.R_mono HO187.out (fun _ hk => ⟨hk.1.2, hk.2⟩))); (case aS => exact (below_size z76a)); (case aL => have := LMc15.out; omega); intro v189 w19 ho hb hg hat; rw [← Ny188.out] at ho; have n0_ := Aside0.mk (Kd.R_after (ok := (fun k_ => some k_ ≠ (.slice Ao16 x6_1.length co16 : Value).ownBlock)) z76b hg hat); have n1_ := Aside0.mk (Kd.R_after (ok := (fun k_ => some k_ ≠ (.slice (some ad183) t177.length co7 : Value).ownBlock)) z76c hg hat); have n2_ := Aside0.mk (hb); have n3_ := Aside0.mk (ho); clear HO_5; clear HO_6; clear HB; clear HO187; have HO_5 := n0_; have HO_6 := n1_; have HB := n2_; have HO190 := n3_; clear n0_ n1_ n2_ n3_; clear ho hb hg hat))
   repeat (go_quiet (first | ((with_reducible refine gate_dst (N := 49) rfl ?_); refine Kd.R_lit k88 _ 88 ?hg (N := 49) ?hd (xs := ([(⟨(rd_T88 t177 x7_1).f0, (rd_T88 t177 x7_1).f1, (rd_T88 t177 x7_1).f2, false⟩ : S88)] : List (S88))) (inner := [.string ((rd_T88 t177 x7_1).f0), .string ((rd_T88 t177 x7_1).f1), .int .i64 ((rd_T88 t177 x7_1).f2), .bool false]) (ok := fun _ => True) (okp := fun _ => True) ?hr ?hp (fun _ hk => hk) trivial (Below.refl _ _) (Nat.le_refl _) (by simp) ?_; (case hd => rfl); (case hg => rfl); (case hr => first | (go_simp; done) | (go_simp; rfl)); (case hp => exact (Reps.c4 (show Kd.M k88 _ _ _ (⟨(rd_T88 t177 x7_1).f0, (rd_T88 t177 x7_1).f1, (rd_T88 t177 x7_1).f2, false⟩ : S88) [.string ((rd_T88 t177 x7_1).f0), .string ((rd_T88 t177 x7_1).f1), .int .i64 ((rd_T88 t177 x7_1).f2), .bool false] from (k88_mkM _ _ _ (⟨(rd_T88 t177 x7_1).f0, (rd_T88 t177 x7_1).f1, (rd_T88 t177 x7_1).f2, false⟩ : S88) )) (Reps.none _ _))); intro v186 w17 ho18 hb hg_ hnew_; clear hg_ hnew_; (first | rw [← Ny185.out] at ho18 | (simp only [Int.reduceToNat] at ho18; rw [← Ny185.out] at ho18)); have n0_ := Aside0.mk (Kd.R_elder' z76b (Kd.R_base ho18) hb); have n1_ := Aside0.mk (Kd.R_elder' z76c (Kd.R_base ho18) hb); have n2_ := Aside0.mk (Kd.R_lower (Kd.R_new' (Kd.R_new' ho18 (Kd.R_lt z76b)) (Kd.R_lt z76c)) (below_size z76a)); have n3_ := Aside0.mk (below_step z76a hb); clear HO_5; clear HO_6; clear HB; have HO_5 := n0_; have HO_6 := n1_; have HO187 := n2_; have HB := n3_; clear n0_ n1_ n2_ n3_; clear hb ho18) | ((with_reducible refine gate_builtin (b := .append) (xs := #[.tmp 49, .tmp 50]) rfl ?_); at_builtin; refine Kd.R_append_rows k88 (w0 := w) w.heap.size rfl (.tmp 49) (.tmp 50) 50 88 (.agg #[(.string ⟨#[]⟩), (.string ⟨#[]⟩), (.int .i64 0), (.bool false)]) 48 rfl Try.underlying50 info88 rfl (by decide) (by omega) v186 y185 x6_1 _ _ _ (fun k_ => some k_ ≠ (.slice (some ad183) t177.length co7 : Value).ownBlock ∧ some k_ ≠ (.slice Ao16 x6_1.length co16 : Value).ownBlock) (fun _ => False) rfl rfl ?aO ?aR (fun _ _ h => h) (fun _ h => h.elim) ?aF ?aB ?aS ?aL ?_; (case aR => repeat (first | exact (Kd.R_reads' HO_6.out).2.2 | (with_reducible refine Kd.C_alloc ?_ _) | (with_reducible refine Kd.C_drewN ?_ _) | (with_reducible refine Kd.C_drew ?_))); (case aB => exact z76a); (case aF => exact (fun k_ hk => ⟨Kd.fresh' (Kd.R_lt z76b) k_ hk, Kd.fresh' (Kd.R_lt z76c) k_ hk⟩)); (case aO => exact (by (with_reducible repeat (first | apply Kd.R_alloc | apply Kd.R_drewN | apply Kd.R_drew)); exact Kd.R_mono HO187.out (fun _ hk => ⟨hk.1.2, hk.2⟩))); (case aS => exact (below_size z76a)); (case aL => have := LMc15.out; omega); intro v189 w19 ho hb hg hat; rw [← Ny188.out] at ho; have n0_ := Aside0.mk (Kd.R_after (ok := (fun k_ => some k_ ≠ (.slice Ao16 x6_1.length co16 : Value).ownBlock)) z76b hg hat); have n1_ := Aside0.mk (Kd.R_after (ok := (fun k_ => some k_ ≠ (.slice (some ad183) t177.length co7 : Value).ownBlock)) z76c hg hat); have n2_ := Aside0.mk (hb); have n3_ := Aside0.mk (ho); clear HO_5; clear HO_6; clear HB; clear HO187; have HO_5 := n0_; have HO_6 := n1_; have HB := n2_; have HO190 := n3_; clear n0_ n1_ n2_ n3_; clear ho hb hg hat)); try go_wp2_with (first | ((with_reducible refine gate_dst (N := 49) rfl ?_); refine Kd.R_lit k88 _ 88 ?hg (N := 49) ?hd (xs := ([(⟨(rd_T88 t177 x7_1).f0, (rd_T88 t177 x7_1).f1, (rd_T88 t177 x7_1).f2, false⟩ : S88)] : List (S88))) (inner := [.string ((rd_T88 t177 x7_1).f0), .string ((rd_T88 t177 x7_1).f1), .int .i64 ((rd_T88 t177 x7_1).f2), .bool false]) (ok := fun _ => True) (okp := fun _ => True) ?hr ?hp (fun _ hk => hk) trivial (Below.refl _ _) (Nat.le_refl _) (by simp) ?_; (case hd => rfl); (case hg => rfl); (case hr => first | (go_simp; done) | (go_simp; rfl)); (case hp => exact (Reps.c4 (show Kd.M k88 _ _ _ (⟨(rd_T88 t177 x7_1).f0, (rd_T88 t177 x7_1).f1, (rd_T88 t177 x7_1).f2, false⟩ : S88) [.string ((rd_T88 t177 x7_1).f0), .string ((rd_T88 t177 x7_1).f1), .int .i64 ((rd_T88 t177 x7_1).f2), .bool false] from (k88_mkM _ _ _ (⟨(rd_T88 t177 x7_1).f0, (rd_T88 t177 x7_1).f1, (rd_T88 t177 x7_1).f2, false⟩ : S88) )) (Reps.none _ _))); intro v186 w17 ho18 hb hg_ hnew_; clear hg_ hnew_; (first | rw [← Ny185.out] at ho18 | (simp only [Int.reduceToNat] at ho18; rw [← Ny185.out] at ho18)); have n0_ := Aside0.mk (Kd.R_elder' z76b (Kd.R_base ho18) hb); have n1_ := Aside0.mk (Kd.R_elder' z76c (Kd.R_base ho18) hb); have n2_ := Aside0.mk (Kd.R_lower (Kd.R_new' (Kd.R_new' ho18 (Kd.R_lt z76b)) (Kd.R_lt z76c)) (below_size z76a)); have n3_ := Aside0.mk (below_step z76a hb); clear HO_5; clear HO_6; clear HB; have HO_5 := n0_; have HO_6 := n1_; have HO187 := n2_; have HB := n3_; clear n0_ n1_ n2_ n3_; clear hb ho18) | ((with_reducible refine gate_builtin (b := .append) (xs := #[.tmp 49, .tmp 50]) rfl ?_); at_builtin; refine Kd.R_append_rows k88 (w0 := w) w.heap.size rfl (.tmp 49) (.tmp 50) 50 88 (.agg #[(.string ⟨#[]⟩), (.string ⟨#[]⟩), (.int .i64 0), (.bool false)]) 48 rfl Try.underlying50 info88 rfl (by decide) (by omega) v186 y185 x6_1 _ _ _ (fun k_ => some k_ ≠ (.slice (some ad183) t177.length co7 : Value).ownBlock ∧ some k_ ≠ (.slice Ao16 x6_1.length co16 : Value).ownBlock) (fun _ => False) rfl rfl ?aO ?aR (fun _ _ h => h) (fun _ h => h.elim) ?aF ?aB ?aS ?aL ?_; (case aR => repeat (first | exact (Kd.R_reads' HO_6.out).2.2 | (with_reducible refine Kd.C_alloc ?_ _) | (with_reducible refine Kd.C_drewN ?_ _) | (with_reducible refine Kd.C_drew ?_))); (case aB => exact z76a); (case aF => exact (fun k_ hk => ⟨Kd.fresh' (Kd.R_lt z76b) k_ hk, Kd.fresh' (Kd.R_lt z76c) k_ hk⟩)); (case aO => exact (by (with_reducible repeat (first | apply Kd.R_alloc | apply Kd.R_drewN | apply Kd.R_drew)); exact Kd.R_mono HO187.out (fun _ hk => ⟨hk.1.2, hk.2⟩))); (case aS => exact (below_size z76a)); (case aL => have := LMc15.out; omega); intro v189 w19 ho hb hg hat; rw [← Ny188.out] at ho; have n0_ := Aside0.mk (Kd.R_after (ok := (fun k_ => some k_ ≠ (.slice Ao16 x6_1.length co16 : Value).ownBlock)) z76b hg hat); have n1_ := Aside0.mk (Kd.R_after (ok := (fun k_ => some k_ ≠ (.slice (some ad183) t177.length co7 : Value).ownBlock)) z76c hg hat); have n2_ := Aside0.mk (hb); have n3_ := Aside0.mk (ho); clear HO_5; clear HO_6; clear HB; clear HO187; have HO_5 := n0_; have HO_6 := n1_; have HB := n2_; have HO190 := n3_; clear n0_ n1_ n2_ n3_; clear ho hb hg hat)))
   go_roundg k1
   case measure => have := HK1.out; omega
   case rel => exact ⟨(y188), (wrap64 (x7_1 - 1)), (by first | rfl | (simp; done) | (simp [*]; done)), H', ⟨by have := HK1.out; omega⟩, ⟨by (with_reducible repeat (first | apply Kd.R_alloc | apply Kd.R_drewN | apply Kd.R_drew)); exact Kd.R_mono HO_5.out (fun _ hk => hk.2)⟩, ⟨by (with_reducible repeat (first | apply Kd.R_alloc | apply Kd.R_drewN | apply Kd.R_drew)); exact Kd.R_mono HO190.out (fun _ hk => hk.1)⟩, ⟨by repeat (first | (with_reducible first | exact HB.out | apply below_alloc | apply pw_below_drewN | apply below_drew1) | exact HB.out)⟩⟩
   }
   {
   rw [if_neg c15] at H
   exact absurd H (by simp)
   }
   }
   }
   {
   rw [if_neg c11] at H
   exact absurd H (by simp)
   }
   }
   {
   rw [if_neg c10] at H
   exact absurd H (by simp)
   }
   }
   {
   rw [if_neg c9] at H
   have c9b0 : ((x6_1.length : Int) == 0) = false := beq_eq_false_iff_ne.mpr c9
   have c9b1 : ((x6_1.length : Int) != 0) = true := bne_iff_ne.mpr c9
   have c9b2 : ¬ (x6_1 = []) := fun h_ => c9 (by rw [h_]; rfl)
   by_cases c20 : 0 < (x6_1.length : Int)
   {
   rw [if_pos c20] at H
   have c20b0 : decide (0 < (x6_1.length : Int)) = true := decide_eq_true c20
   have c20b1 : decide (0 < x6_1.length) = true := decide_eq_true (by omega)
   clear c20
   by_cases c21 : 0 ≤ x7_1
   {
   rw [if_pos c21] at H
   have c21b0 : decide (0 ≤ x7_1) = true := decide_eq_true c21
   clear c21
   by_cases c22 : x7_1 < (t177.length : Int)
   {
   rw [if_pos c22] at H
   have c22b0 : decide (x7_1 < (t177.length : Int)) = true := decide_eq_true c22
   clear c22
   by_cases c23 : (¬ ((rd_T88 x6_1 0).f0).toList = ((rd_T88 t177 x7_1).f0).toList)
   {
   rw [if_pos c23] at H
   have c23b0 : (((rd_T88 x6_1 0).f0).toList == ((rd_T88 t177 x7_1).f0).toList) = false := beq_eq_false_iff_ne.mpr c23
   have c23b1 : (((rd_T88 x6_1 0).f0).toList != ((rd_T88 t177 x7_1).f0).toList) = true := bne_iff_ne.mpr c23
   clear c23
   obtain ⟨bq24, hbq24⟩ : ∃ b_ : Bool, b_ = ((rd_T88 t177 x7_1).f3) := ⟨_, rfl⟩
   replace H : (if (bq24 = true) then (spec_l6Bottom.l0 k1 t177 x6_1 (wrap64 (x7_1 - 1))) else ((some (([(⟨(rd_T88 t177 x7_1).f0, (rd_T88 t177 x7_1).f1, (rd_T88 t177 x7_1).f2, bq24⟩ : S88)] : List (S88)) : List (S88))).bind fun y195 => (if y195.length + x6_1.length < 2932031007402 then (spec_l6Bottom.l0 k1 t177 (y195 ++ x6_1) (wrap64 (x7_1 - 1))) else (none)))) = some r := by rw [← hbq24] at H; exact H
   have Nbq24 := Aside0.mk hbq24
   clear hbq24
   by_cases c25 : (bq24 = true)
   {
   subst c25
   have H1 : (spec_l6Bottom.l0 k1 t177 x6_1 (wrap64 (x7_1 - 1))) = some r := by rw [if_pos rfl] at H; exact H
   clear H
   have H := H1
   clear H1
   have H' := Aside0.mk H
   clear H
   obtain ⟨Ao26, co26, eo26⟩ := Kd.R_slice HO_6.out
   subst eo26
   have p191 : 0 ≤ (0 : Int) := (by omega)
   have q191 : 0 < (x6_1.length : Int) := of_decide_eq_true z76d
   obtain ⟨ad191, e191, hx191_0, hx191_1, hx191_2, hx191_3⟩ := at_T88 (Kd.R_reads' HO_6.out).2.2 0 p191 q191
   (try rw [← Nbq24.out] at hx191_3)
   cases e191
   have qi191 : (0 < x6_1.length) = True := eq_true (by omega)
   (try rw [show ((0 : Int)).toNat = 0 from rfl] at hx191_0)
   (try rw [show 0 * 4 = 0 from rfl] at hx191_0)
   (try rw [Addr.add_zero'] at hx191_0)
   (try rw [show ((0 : Int)).toNat = 0 from rfl] at hx191_1)
   (try rw [show 0 * 4 = 0 from rfl] at hx191_1)
   (try rw [Addr.add_zero'] at hx191_1)
   (try rw [show ((0 : Int)).toNat = 0 from rfl] at hx191_2)
   (try rw [show 0 * 4 = 0 from rfl] at hx191_2)
   (try rw [Addr.add_zero'] at hx191_2)
   (try rw [show ((0 : Int)).toNat = 0 from rfl] at hx191_3)
   (try rw [show 0 * 4 = 0 from rfl] at hx191_3)
   (try rw [Addr.add_zero'] at hx191_3)
   replace p191 := eq_true p191
   replace q191 := eq_true q191
   have p192 : 0 ≤ (x7_1 : Int) := of_decide_eq_true z76d
   have q192 : x7_1 < (t177.length : Int) := of_decide_eq_true z76d
   obtain ⟨ad192, e192, hx192_0, hx192_1, hx192_2, hx192_3⟩ := at_T88 (Kd.R_reads' HO_5.out).2.2 x7_1 p192 q192
   (try rw [← Nbq24.out] at hx192_3)
   cases e192
   replace p192 := eq_true p192
   replace q192 := eq_true q192
   have p193 : 0 ≤ (x7_1 : Int) := of_decide_eq_true z76d
   have q193 : x7_1 < (t177.length : Int) := of_decide_eq_true z76d
   obtain ⟨ad193, e193, hx193_0, hx193_1, hx193_2, hx193_3⟩ := at_T88 (Kd.R_reads' HO_5.out).2.2 x7_1 p193 q193
   (try rw [← Nbq24.out] at hx193_3)
   obtain rfl : ad192 = ad193 := (by injection e193)
   replace p193 := eq_true p193
   replace q193 := eq_true q193
   go_wp2
   repeat (go_quiet (fail); try go_wp2)
   go_roundg k1
   case measure => have := HK1.out; omega
   case rel => exact ⟨(x6_1), (wrap64 (x7_1 - 1)), (by first | rfl | (simp; done) | (simp [*]; done)), H', ⟨by have := HK1.out; omega⟩, ⟨by (with_reducible repeat (first | apply Kd.R_alloc | apply Kd.R_drewN | apply Kd.R_drew)); exact HO_5.out⟩, ⟨by (with_reducible repeat (first | apply Kd.R_alloc | apply Kd.R_drewN | apply Kd.R_drew)); exact HO_6.out⟩, ⟨by repeat (first | (with_reducible first | exact HB.out | apply below_alloc | apply pw_below_drewN | apply below_drew1) | exact HB.out)⟩⟩
   }
   {
   replace c25 := Bool.eq_false_iff.mpr c25
   subst c25
   have H1 : ((some (([(⟨(rd_T88 t177 x7_1).f0, (rd_T88 t177 x7_1).f1, (rd_T88 t177 x7_1).f2, false⟩ : S88)] : List (S88)) : List (S88))).bind fun y195 => (if y195.length + x6_1.length < 2932031007402 then (spec_l6Bottom.l0 k1 t177 (y195 ++ x6_1) (wrap64 (x7_1 - 1))) else (none))) = some r := by rw [if_neg (show ¬ (false = true) by decide)] at H; exact H
   clear H
   have H := H1
   clear H1
   obtain ⟨y195, hy195⟩ : ∃ y_ : List (S88), y_ = (([(⟨(rd_T88 t177 x7_1).f0, (rd_T88 t177 x7_1).f1, (rd_T88 t177 x7_1).f2, false⟩ : S88)] : List (S88))) := ⟨_, rfl⟩
   replace H : (if y195.length + x6_1.length < 2932031007402 then (spec_l6Bottom.l0 k1 t177 (y195 ++ x6_1) (wrap64 (x7_1 - 1))) else (none)) = some r := by first | (rw [hy195]; with_reducible exact H) | (have H2_ := (Option.bind_some _ _).symm.trans H; rw [hy195]; with_reducible exact H2_) | (have H2_ := (Option.bind_some _ _).symm.trans H; with_reducible exact H2_) | with_reducible exact H | (rw [hy195]; exact H) | exact H
   have Ny195 := Aside0.mk hy195
   clear hy195
   by_cases c27 : y195.length + x6_1.length < 2932031007402
   {
   rw [if_pos c27] at H
   have LMc27 := Aside0.mk c27
   clear c27
   obtain ⟨y198, hy198⟩ : ∃ y_ : List (S88), y_ = (y195 ++ x6_1) := ⟨_, rfl⟩
   replace H : (spec_l6Bottom.l0 k1 t177 y198 (wrap64 (x7_1 - 1))) = some r := by first | (rw [hy198]; with_reducible exact H) | (have H2_ := (Option.bind_some _ _).symm.trans H; rw [hy198]; with_reducible exact H2_) | (have H2_ := (Option.bind_some _ _).symm.trans H; with_reducible exact H2_) | with_reducible exact H | (rw [hy198]; exact H) | exact H
   have Ny198 := Aside0.mk hy198
   clear hy198
   have H' := Aside0.mk H
   clear H
   obtain ⟨Ao28, co28, eo28⟩ := Kd.R_slice HO_6.out
   subst eo28
   have p191 : 0 ≤ (0 : Int) := (by omega)
   have q191 : 0 < (x6_1.length : Int) := of_decide_eq_true z76d
   obtain ⟨ad191, e191, hx191_0, hx191_1, hx191_2, hx191_3⟩ := at_T88 (Kd.R_reads' HO_6.out).2.2 0 p191 q191
   (try rw [← Nbq24.out] at hx191_3)
   cases e191
   have qi191 : (0 < x6_1.length) = True := eq_true (by omega)
   (try rw [show ((0 : Int)).toNat = 0 from rfl] at hx191_0)
   (try rw [show 0 * 4 = 0 from rfl] at hx191_0)
   (try rw [Addr.add_zero'] at hx191_0)
   (try rw [show ((0 : Int)).toNat = 0 from rfl] at hx191_1)
   (try rw [show 0 * 4 = 0 from rfl] at hx191_1)
   (try rw [Addr.add_zero'] at hx191_1)
   (try rw [show ((0 : Int)).toNat = 0 from rfl] at hx191_2)
   (try rw [show 0 * 4 = 0 from rfl] at hx191_2)
   (try rw [Addr.add_zero'] at hx191_2)
   (try rw [show ((0 : Int)).toNat = 0 from rfl] at hx191_3)
   (try rw [show 0 * 4 = 0 from rfl] at hx191_3)
   (try rw [Addr.add_zero'] at hx191_3)
   replace p191 := eq_true p191
   replace q191 := eq_true q191
   have p192 : 0 ≤ (x7_1 : Int) := of_decide_eq_true z76d
   have q192 : x7_1 < (t177.length : Int) := of_decide_eq_true z76d
   obtain ⟨ad192, e192, hx192_0, hx192_1, hx192_2, hx192_3⟩ := at_T88 (Kd.R_reads' HO_5.out).2.2 x7_1 p192 q192
   (try rw [← Nbq24.out] at hx192_3)
   cases e192
   replace p192 := eq_true p192
   replace q192 := eq_true q192
   have p193 : 0 ≤ (x7_1 : Int) := of_decide_eq_true z76d
   have q193 : x7_1 < (t177.length : Int) := of_decide_eq_true z76d
   obtain ⟨ad193, e193, hx193_0, hx193_1, hx193_2, hx193_3⟩ := at_T88 (Kd.R_reads' HO_5.out).2.2 x7_1 p193 q193
   (try rw [← Nbq24.out] at hx193_3)
   obtain rfl : ad192 = ad193 := (by injection e193)
   replace p193 := eq_true p193
   replace q193 := eq_true q193
   have p194 : 0 ≤ (x7_1 : Int) := of_decide_eq_true z76d
   have q194 : x7_1 < (t177.length : Int) := of_decide_eq_true z76d
   obtain ⟨ad194, e194, hx194_0, hx194_1, hx194_2, hx194_3⟩ := at_T88 (Kd.R_reads' HO_5.out).2.2 x7_1 p194 q194
   (try rw [← Nbq24.out] at hx194_3)
   obtain rfl : ad192 = ad194 := (by injection e194)
   replace p194 := eq_true p194
   replace q194 := eq_true q194
   go_wp2_with (first | ((with_reducible refine gate_dst (N := 49) rfl ?_); refine Kd.R_lit k88 _ 88 ?hg (N := 49) ?hd (xs := ([(⟨(rd_T88 t177 x7_1).f0, (rd_T88 t177 x7_1).f1, (rd_T88 t177 x7_1).f2, false⟩ : S88)] : List (S88))) (inner := [.string ((rd_T88 t177 x7_1).f0), .string ((rd_T88 t177 x7_1).f1), .int .i64 ((rd_T88 t177 x7_1).f2), .bool false]) (ok := fun _ => True) (okp := fun _ => True) ?hr ?hp (fun _ hk => hk) trivial (Below.refl _ _) (Nat.le_refl _) (by simp) ?_; (case hd => rfl); (case hg => rfl); (case hr => first | (go_simp; done) | (go_simp; rfl)); (case hp => exact (Reps.c4 (show Kd.M k88 _ _ _ (⟨(rd_T88 t177 x7_1).f0, (rd_T88 t177 x7_1).f1, (rd_T88 t177 x7_1).f2, false⟩ : S88) [.string ((rd_T88 t177 x7_1).f0), .string ((rd_T88 t177 x7_1).f1), .int .i64 ((rd_T88 t177 x7_1).f2), .bool false] from (k88_mkM _ _ _ (⟨(rd_T88 t177 x7_1).f0, (rd_T88 t177 x7_1).f1, (rd_T88 t177 x7_1).f2, false⟩ : S88) )) (Reps.none _ _))); intro v196 w29 ho30 hb hg_ hnew_; clear hg_ hnew_; (first | rw [← Ny195.out] at ho30 | (simp only [Int.reduceToNat] at ho30; rw [← Ny195.out] at ho30)); have n0_ := Aside0.mk (Kd.R_elder' z76b (Kd.R_base ho30) hb); have n1_ := Aside0.mk (Kd.R_elder' z76c (Kd.R_base ho30) hb); have n2_ := Aside0.mk (Kd.R_lower (Kd.R_new' (Kd.R_new' ho30 (Kd.R_lt z76b)) (Kd.R_lt z76c)) (below_size z76a)); have n3_ := Aside0.mk (below_step z76a hb); clear HO_5; clear HO_6; clear HB; have HO_5 := n0_; have HO_6 := n1_; have HO197 := n2_; have HB := n3_; clear n0_ n1_ n2_ n3_; clear hb ho30) | ((with_reducible refine gate_builtin (b := .append) (xs := #[.tmp 49, .tmp 50]) rfl ?_); at_builtin; refine Kd.R_append_rows k88 (w0 := w) w.heap.size rfl (.tmp 49) (.tmp 50) 50 88 (.agg #[(.string ⟨#[]⟩), (.string ⟨#[]⟩), (.int .i64 0), (.bool false)]) 48 rfl Try.underlying50 info88 rfl (by decide) (by omega) v196 y195 x6_1 _ _ _ (fun k_ => some k_ ≠ (.slice (some ad192) t177.length co7 : Value).ownBlock ∧ some k_ ≠ (.slice (some ad191) x6_1.length co28 : Value).ownBlock) (fun _ => False) rfl rfl ?aO ?aR (fun _ _ h => h) (fun _ h => h.elim) ?aF ?aB ?aS ?aL ?_; (case aR => repeat (first | exact (Kd.R_reads' HO_6.out).2.2 | (with_reducible refine Kd.C_alloc ?_ _) | (with_reducible refine Kd.C_drewN ?_ _) | (with_reducible refine Kd.C_drew ?_))); (case aB => exact z76a); (case aF => exact (fun k_ hk => ⟨Kd.fresh' (Kd.R_lt z76b) k_ hk, Kd.fresh' (Kd.R_lt z76c) k_ hk⟩)); (case aO => exact (by (with_reducible repeat (first | apply Kd.R_alloc | apply Kd.R_drewN | apply Kd.R_drew)); exact Kd.R_mono HO197.out (fun _ hk => ⟨hk.1.2, hk.2⟩))); (case aS => exact (below_size z76a)); (case aL => have := LMc27.out; omega); intro v199 w31 ho hb hg hat; rw [← Ny198.out] at ho; have n0_ := Aside0.mk (Kd.R_after (ok := (fun k_ => some k_ ≠ (.slice (some ad191) x6_1.length co28 : Value).ownBlock)) z76b hg hat); have n1_ := Aside0.mk (Kd.R_after (ok := (fun k_ => some k_ ≠ (.slice (some ad192) t177.length co7 : Value).ownBlock)) z76c hg hat); have n2_ := Aside0.mk (hb); have n3_ := Aside0.mk (ho); clear HO_5; clear HO_6; clear HB; clear HO197; have HO_5 := n0_; have HO_6 := n1_; have HB := n2_; have HO200 := n3_; clear n0_ n1_ n2_ n3_; clear ho hb hg hat))
   repeat (go_quiet (first | ((with_reducible refine gate_dst (N := 49) rfl ?_); refine Kd.R_lit k88 _ 88 ?hg (N := 49) ?hd (xs := ([(⟨(rd_T88 t177 x7_1).f0, (rd_T88 t177 x7_1).f1, (rd_T88 t177 x7_1).f2, false⟩ : S88)] : List (S88))) (inner := [.string ((rd_T88 t177 x7_1).f0), .string ((rd_T88 t177 x7_1).f1), .int .i64 ((rd_T88 t177 x7_1).f2), .bool false]) (ok := fun _ => True) (okp := fun _ => True) ?hr ?hp (fun _ hk => hk) trivial (Below.refl _ _) (Nat.le_refl _) (by simp) ?_; (case hd => rfl); (case hg => rfl); (case hr => first | (go_simp; done) | (go_simp; rfl)); (case hp => exact (Reps.c4 (show Kd.M k88 _ _ _ (⟨(rd_T88 t177 x7_1).f0, (rd_T88 t177 x7_1).f1, (rd_T88 t177 x7_1).f2, false⟩ : S88) [.string ((rd_T88 t177 x7_1).f0), .string ((rd_T88 t177 x7_1).f1), .int .i64 ((rd_T88 t177 x7_1).f2), .bool false] from (k88_mkM _ _ _ (⟨(rd_T88 t177 x7_1).f0, (rd_T88 t177 x7_1).f1, (rd_T88 t177 x7_1).f2, false⟩ : S88) )) (Reps.none _ _))); intro v196 w29 ho30 hb hg_ hnew_; clear hg_ hnew_; (first | rw [← Ny195.out] at ho30 | (simp only [Int.reduceToNat] at ho30; rw [← Ny195.out] at ho30)); have n0_ := Aside0.mk (Kd.R_elder' z76b (Kd.R_base ho30) hb); have n1_ := Aside0.mk (Kd.R_elder' z76c (Kd.R_base ho30) hb); have n2_ := Aside0.mk (Kd.R_lower (Kd.R_new' (Kd.R_new' ho30 (Kd.R_lt z76b)) (Kd.R_lt z76c)) (below_size z76a)); have n3_ := Aside0.mk (below_step z76a hb); clear HO_5; clear HO_6; clear HB; have HO_5 := n0_; have HO_6 := n1_; have HO197 := n2_; have HB := n3_; clear n0_ n1_ n2_ n3_; clear hb ho30) | ((with_reducible refine gate_builtin (b := .append) (xs := #[.tmp 49, .tmp 50]) rfl ?_); at_builtin; refine Kd.R_append_rows k88 (w0 := w) w.heap.size rfl (.tmp 49) (.tmp 50) 50 88 (.agg #[(.string ⟨#[]⟩), (.string ⟨#[]⟩), (.int .i64 0), (.bool false)]) 48 rfl Try.underlying50 info88 rfl (by decide) (by omega) v196 y195 x6_1 _ _ _ (fun k_ => some k_ ≠ (.slice (some ad192) t177.length co7 : Value).ownBlock ∧ some k_ ≠ (.slice (some ad191) x6_1.length co28 : Value).ownBlock) (fun _ => False) rfl rfl ?aO ?aR (fun _ _ h => h) (fun _ h => h.elim) ?aF ?aB ?aS ?aL ?_; (case aR => repeat (first | exact (Kd.R_reads' HO_6.out).2.2 | (with_reducible refine Kd.C_alloc ?_ _) | (with_reducible refine Kd.C_drewN ?_ _) | (with_reducible refine Kd.C_drew ?_))); (case aB => exact z76a); (case aF => exact (fun k_ hk => ⟨Kd.fresh' (Kd.R_lt z76b) k_ hk, Kd.fresh' (Kd.R_lt z76c) k_ hk⟩)); (case aO => exact (by (with_reducible repeat (first | apply Kd.R_alloc | apply Kd.R_drewN | apply Kd.R_drew)); exact Kd.R_mono HO197.out (fun _ hk => ⟨hk.1.2, hk.2⟩))); (case aS => exact (below_size z76a)); (case aL => have := LMc27.out; omega); intro v199 w31 ho hb hg hat; rw [← Ny198.out] at ho; have n0_ := Aside0.mk (Kd.R_after (ok := (fun k_ => some k_ ≠ (.slice (some ad191) x6_1.length co28 : Value).ownBlock)) z76b hg hat); have n1_ := Aside0.mk (Kd.R_after (ok := (fun k_ => some k_ ≠ (.slice (some ad192) t177.length co7 : Value).ownBlock)) z76c hg hat); have n2_ := Aside0.mk (hb); have n3_ := Aside0.mk (ho); clear HO_5; clear HO_6; clear HB; clear HO197; have HO_5 := n0_; have HO_6 := n1_; have HB := n2_; have HO200 := n3_; clear n0_ n1_ n2_ n3_; clear ho hb hg hat)); try go_wp2_with (first | ((with_reducible refine gate_dst (N := 49) rfl ?_); refine Kd.R_lit k88 _ 88 ?hg (N := 49) ?hd (xs := ([(⟨(rd_T88 t177 x7_1).f0, (rd_T88 t177 x7_1).f1, (rd_T88 t177 x7_1).f2, false⟩ : S88)] : List (S88))) (inner := [.string ((rd_T88 t177 x7_1).f0), .string ((rd_T88 t177 x7_1).f1), .int .i64 ((rd_T88 t177 x7_1).f2), .bool false]) (ok := fun _ => True) (okp := fun _ => True) ?hr ?hp (fun _ hk => hk) trivial (Below.refl _ _) (Nat.le_refl _) (by simp) ?_; (case hd => rfl); (case hg => rfl); (case hr => first | (go_simp; done) | (go_simp; rfl)); (case hp => exact (Reps.c4 (show Kd.M k88 _ _ _ (⟨(rd_T88 t177 x7_1).f0, (rd_T88 t177 x7_1).f1, (rd_T88 t177 x7_1).f2, false⟩ : S88) [.string ((rd_T88 t177 x7_1).f0), .string ((rd_T88 t177 x7_1).f1), .int .i64 ((rd_T88 t177 x7_1).f2), .bool false] from (k88_mkM _ _ _ (⟨(rd_T88 t177 x7_1).f0, (rd_T88 t177 x7_1).f1, (rd_T88 t177 x7_1).f2, false⟩ : S88) )) (Reps.none _ _))); intro v196 w29 ho30 hb hg_ hnew_; clear hg_ hnew_; (first | rw [← Ny195.out] at ho30 | (simp only [Int.reduceToNat] at ho30; rw [← Ny195.out] at ho30)); have n0_ := Aside0.mk (Kd.R_elder' z76b (Kd.R_base ho30) hb); have n1_ := Aside0.mk (Kd.R_elder' z76c (Kd.R_base ho30) hb); have n2_ := Aside0.mk (Kd.R_lower (Kd.R_new' (Kd.R_new' ho30 (Kd.R_lt z76b)) (Kd.R_lt z76c)) (below_size z76a)); have n3_ := Aside0.mk (below_step z76a hb); clear HO_5; clear HO_6; clear HB; have HO_5 := n0_; have HO_6 := n1_; have HO197 := n2_; have HB := n3_; clear n0_ n1_ n2_ n3_; clear hb ho30) | ((with_reducible refine gate_builtin (b := .append) (xs := #[.tmp 49, .tmp 50]) rfl ?_); at_builtin; refine Kd.R_append_rows k88 (w0 := w) w.heap.size rfl (.tmp 49) (.tmp 50) 50 88 (.agg #[(.string ⟨#[]⟩), (.string ⟨#[]⟩), (.int .i64 0), (.bool false)]) 48 rfl Try.underlying50 info88 rfl (by decide) (by omega) v196 y195 x6_1 _ _ _ (fun k_ => some k_ ≠ (.slice (some ad192) t177.length co7 : Value).ownBlock ∧ some k_ ≠ (.slice (some ad191) x6_1.length co28 : Value).ownBlock) (fun _ => False) rfl rfl ?aO ?aR (fun _ _ h => h) (fun _ h => h.elim) ?aF ?aB ?aS ?aL ?_; (case aR => repeat (first | exact (Kd.R_reads' HO_6.out).2.2 | (with_reducible refine Kd.C_alloc ?_ _) | (with_reducible refine Kd.C_drewN ?_ _) | (with_reducible refine Kd.C_drew ?_))); (case aB => exact z76a); (case aF => exact (fun k_ hk => ⟨Kd.fresh' (Kd.R_lt z76b) k_ hk, Kd.fresh' (Kd.R_lt z76c) k_ hk⟩)); (case aO => exact (by (with_reducible repeat (first | apply Kd.R_alloc | apply Kd.R_drewN | apply Kd.R_drew)); exact Kd.R_mono HO197.out (fun _ hk => ⟨hk.1.2, hk.2⟩))); (case aS => exact (below_size z76a)); (case aL => have := LMc27.out; omega); intro v199 w31 ho hb hg hat; rw [← Ny198.out] at ho; have n0_ := Aside0.mk (Kd.R_after (ok := (fun k_ => some k_ ≠ (.slice (some ad191) x6_1.length co28 : Value).ownBlock)) z76b hg hat); have n1_ := Aside0.mk (Kd.R_after (ok := (fun k_ => some k_ ≠ (.slice (some ad192) t177.length co7 : Value).ownBlock)) z76c hg hat); have n2_ := Aside0.mk (hb); have n3_ := Aside0.mk (ho); clear HO_5; clear HO_6; clear HB; clear HO197; have HO_5 := n0_; have HO_6 := n1_; have HB := n2_; have HO200 := n3_; clear n0_ n1_ n2_ n3_; clear ho hb hg hat)))
   go_roundg k1
   case measure => have := HK1.out; omega
   case rel => exact ⟨(y198), (wrap64 (x7_1 - 1)), (by first | rfl | (simp; done) | (simp [*]; done)), H', ⟨by have := HK1.out; omega⟩, ⟨by (with_reducible repeat (first | apply Kd.R_alloc | apply Kd.R_drewN | apply Kd.R_drew)); exact Kd.R_mono HO_5.out (fun _ hk => hk.2)⟩, ⟨by (with_reducible repeat (first | apply Kd.R_alloc | apply Kd.R_drewN | apply Kd.R_drew)); exact Kd.R_mono HO200.out (fun _ hk => hk.1)⟩, ⟨by repeat (first | (with_reducible first | exact HB.out | apply below_alloc | apply pw_below_drewN | apply below_drew1) | exact HB.out)⟩⟩
   }
   {
   rw [if_neg c27] at H
   exact absurd H (by simp)
   }
   }
   }
   {
   rw [if_neg c23] at H
   have c23b0 : (((rd_T88 x6_1 0).f0).toList == ((rd_T88 t177 x7_1).f0).toList) = true := beq_iff_eq.mpr (Decidable.not_not.mp c23)
   have c23b1 : (((rd_T88 x6_1 0).f0).toList != ((rd_T88 t177 x7_1).f0).toList) = false := bne_eq_false_iff_eq.mpr (Decidable.not_not.mp c23)
   obtain ⟨y202, hy202⟩ : ∃ y_ : List (S88), y_ = (([(⟨(rd_T88 t177 x7_1).f0, (rd_T88 t177 x7_1).f1, (rd_T88 t177 x7_1).f2, (rd_T88 t177 x7_1).f3⟩ : S88)] : List (S88))) := ⟨_, rfl⟩
   replace H : (if y202.length + x6_1.length < 2932031007402 then (spec_l6Bottom.l0 k1 t177 (y202 ++ x6_1) (wrap64 (x7_1 - 1))) else (none)) = some r := by first | (rw [hy202]; with_reducible exact H) | (have H2_ := (Option.bind_some _ _).symm.trans H; rw [hy202]; with_reducible exact H2_) | (have H2_ := (Option.bind_some _ _).symm.trans H; with_reducible exact H2_) | with_reducible exact H | (rw [hy202]; exact H) | exact H
   have Ny202 := Aside0.mk hy202
   clear hy202
   by_cases c32 : y202.length + x6_1.length < 2932031007402
   {
   rw [if_pos c32] at H
   have LMc32 := Aside0.mk c32
   clear c32
   obtain ⟨y205, hy205⟩ : ∃ y_ : List (S88), y_ = (y202 ++ x6_1) := ⟨_, rfl⟩
   replace H : (spec_l6Bottom.l0 k1 t177 y205 (wrap64 (x7_1 - 1))) = some r := by first | (rw [hy205]; with_reducible exact H) | (have H2_ := (Option.bind_some _ _).symm.trans H; rw [hy205]; with_reducible exact H2_) | (have H2_ := (Option.bind_some _ _).symm.trans H; with_reducible exact H2_) | with_reducible exact H | (rw [hy205]; exact H) | exact H
   have Ny205 := Aside0.mk hy205
   clear hy205
   have H' := Aside0.mk H
   clear H
   obtain ⟨Ao33, co33, eo33⟩ := Kd.R_slice HO_6.out
   subst eo33
   have p191 : 0 ≤ (0 : Int) := (by omega)
   have q191 : 0 < (x6_1.length : Int) := of_decide_eq_true z76d
   obtain ⟨ad191, e191, hx191_0, hx191_1, hx191_2, hx191_3⟩ := at_T88 (Kd.R_reads' HO_6.out).2.2 0 p191 q191
   cases e191
   have qi191 : (0 < x6_1.length) = True := eq_true (by omega)
   (try rw [show ((0 : Int)).toNat = 0 from rfl] at hx191_0)
   (try rw [show 0 * 4 = 0 from rfl] at hx191_0)
   (try rw [Addr.add_zero'] at hx191_0)
   (try rw [show ((0 : Int)).toNat = 0 from rfl] at hx191_1)
   (try rw [show 0 * 4 = 0 from rfl] at hx191_1)
   (try rw [Addr.add_zero'] at hx191_1)
   (try rw [show ((0 : Int)).toNat = 0 from rfl] at hx191_2)
   (try rw [show 0 * 4 = 0 from rfl] at hx191_2)
   (try rw [Addr.add_zero'] at hx191_2)
   (try rw [show ((0 : Int)).toNat = 0 from rfl] at hx191_3)
   (try rw [show 0 * 4 = 0 from rfl] at hx191_3)
   (try rw [Addr.add_zero'] at hx191_3)
   replace p191 := eq_true p191
   replace q191 := eq_true q191
   have p192 : 0 ≤ (x7_1 : Int) := of_decide_eq_true z76d
   have q192 : x7_1 < (t177.length : Int) := of_decide_eq_true z76d
   obtain ⟨ad192, e192, hx192_0, hx192_1, hx192_2, hx192_3⟩ := at_T88 (Kd.R_reads' HO_5.out).2.2 x7_1 p192 q192
   cases e192
   replace p192 := eq_true p192
   replace q192 := eq_true q192
   have p201 : 0 ≤ (x7_1 : Int) := of_decide_eq_true z76d
   have q201 : x7_1 < (t177.length : Int) := of_decide_eq_true z76d
   obtain ⟨ad201, e201, hx201_0, hx201_1, hx201_2, hx201_3⟩ := at_T88 (Kd.R_reads' HO_5.out).2.2 x7_1 p201 q201
   obtain rfl : ad192 = ad201 := (by injection e201)
   replace p201 := eq_true p201
   replace q201 := eq_true q201
   go_wp2_with (first | ((with_reducible refine gate_dst (N := 49) rfl ?_); refine Kd.R_lit k88 _ 88 ?hg (N := 49) ?hd (xs := ([(⟨(rd_T88 t177 x7_1).f0, (rd_T88 t177 x7_1).f1, (rd_T88 t177 x7_1).f2, (rd_T88 t177 x7_1).f3⟩ : S88)] : List (S88))) (inner := [.string ((rd_T88 t177 x7_1).f0), .string ((rd_T88 t177 x7_1).f1), .int .i64 ((rd_T88 t177 x7_1).f2), .bool ((rd_T88 t177 x7_1).f3)]) (ok := fun _ => True) (okp := fun _ => True) ?hr ?hp (fun _ hk => hk) trivial (Below.refl _ _) (Nat.le_refl _) (by simp) ?_; (case hd => rfl); (case hg => rfl); (case hr => first | (go_simp; done) | (go_simp; rfl)); (case hp => exact (Reps.c4 (show Kd.M k88 _ _ _ (⟨(rd_T88 t177 x7_1).f0, (rd_T88 t177 x7_1).f1, (rd_T88 t177 x7_1).f2, (rd_T88 t177 x7_1).f3⟩ : S88) [.string ((rd_T88 t177 x7_1).f0), .string ((rd_T88 t177 x7_1).f1), .int .i64 ((rd_T88 t177 x7_1).f2), .bool ((rd_T88 t177 x7_1).f3)] from (k88_mkM _ _ _ (⟨(rd_T88 t177 x7_1).f0, (rd_T88 t177 x7_1).f1, (rd_T88 t177 x7_1).f2, (rd_T88 t177 x7_1).f3⟩ : S88) )) (Reps.none _ _))); intro v203 w34 ho35 hb hg_ hnew_; clear hg_ hnew_; (first | rw [← Ny202.out] at ho35 | (simp only [Int.reduceToNat] at ho35; rw [← Ny202.out] at ho35)); have n0_ := Aside0.mk (Kd.R_elder' z76b (Kd.R_base ho35) hb); have n1_ := Aside0.mk (Kd.R_elder' z76c (Kd.R_base ho35) hb); have n2_ := Aside0.mk (Kd.R_lower (Kd.R_new' (Kd.R_new' ho35 (Kd.R_lt z76b)) (Kd.R_lt z76c)) (below_size z76a)); have n3_ := Aside0.mk (below_step z76a hb); clear HO_5; clear HO_6; clear HB; have HO_5 := n0_; have HO_6 := n1_; have HO204 := n2_; have HB := n3_; clear n0_ n1_ n2_ n3_; clear hb ho35) | ((with_reducible refine gate_builtin (b := .append) (xs := #[.tmp 49, .tmp 50]) rfl ?_); at_builtin; refine Kd.R_append_rows k88 (w0 := w) w.heap.size rfl (.tmp 49) (.tmp 50) 50 88 (.agg #[(.string ⟨#[]⟩), (.string ⟨#[]⟩), (.int .i64 0), (.bool false)]) 48 rfl Try.underlying50 info88 rfl (by decide) (by omega) v203 y202 x6_1 _ _ _ (fun k_ => some k_ ≠ (.slice (some ad192) t177.length co7 : Value).ownBlock ∧ some k_ ≠ (.slice (some ad191) x6_1.length co33 : Value).ownBlock) (fun _ => False) rfl rfl ?aO ?aR (fun _ _ h => h) (fun _ h => h.elim) ?aF ?aB ?aS ?aL ?_; (case aR => repeat (first | exact (Kd.R_reads' HO_6.out).2.2 | (with_reducible refine Kd.C_alloc ?_ _) | (with_reducible refine Kd.C_drewN ?_ _) | (with_reducible refine Kd.C_drew ?_))); (case aB => exact z76a); (case aF => exact (fun k_ hk => ⟨Kd.fresh' (Kd.R_lt z76b) k_ hk, Kd.fresh' (Kd.R_lt z76c) k_ hk⟩)); (case aO => exact (by (with_reducible repeat (first | apply Kd.R_alloc | apply Kd.R_drewN | apply Kd.R_drew)); exact Kd.R_mono HO204.out (fun _ hk => ⟨hk.1.2, hk.2⟩))); (case aS => exact (below_size z76a)); (case aL => have := LMc32.out; omega); intro v206 w36 ho hb hg hat; rw [← Ny205.out] at ho; have n0_ := Aside0.mk (Kd.R_after (ok := (fun k_ => some k_ ≠ (.slice (some ad191) x6_1.length co33 : Value).ownBlock)) z76b hg hat); have n1_ := Aside0.mk (Kd.R_after (ok := (fun k_ => some k_ ≠ (.slice (some ad192) t177.length co7 : Value).ownBlock)) z76c hg hat); have n2_ := Aside0.mk (hb); have n3_ := Aside0.mk (ho); clear HO_5; clear HO_6; clear HB; clear HO204; have HO_5 := n0_; have HO_6 := n1_; have HB := n2_; have HO207 := n3_; clear n0_ n1_ n2_ n3_; clear ho hb hg hat))
   repeat (go_quiet (first | ((with_reducible refine gate_dst (N := 49) rfl ?_); refine Kd.R_lit k88 _ 88 ?hg (N := 49) ?hd (xs := ([(⟨(rd_T88 t177 x7_1).f0, (rd_T88 t177 x7_1).f1, (rd_T88 t177 x7_1).f2, (rd_T88 t177 x7_1).f3⟩ : S88)] : List (S88))) (inner := [.string ((rd_T88 t177 x7_1).f0), .string ((rd_T88 t177 x7_1).f1), .int .i64 ((rd_T88 t177 x7_1).f2), .bool ((rd_T88 t177 x7_1).f3)]) (ok := fun _ => True) (okp := fun _ => True) ?hr ?hp (fun _ hk => hk) trivial (Below.refl _ _) (Nat.le_refl _) (by simp) ?_; (case hd => rfl); (case hg => rfl); (case hr => first | (go_simp; done) | (go_simp; rfl)); (case hp => exact (Reps.c4 (show Kd.M k88 _ _ _ (⟨(rd_T88 t177 x7_1).f0, (rd_T88 t177 x7_1).f1, (rd_T88 t177 x7_1).f2, (rd_T88 t177 x7_1).f3⟩ : S88) [.string ((rd_T88 t177 x7_1).f0), .string ((rd_T88 t177 x7_1).f1), .int .i64 ((rd_T88 t177 x7_1).f2), .bool ((rd_T88 t177 x7_1).f3)] from (k88_mkM _ _ _ (⟨(rd_T88 t177 x7_1).f0, (rd_T88 t177 x7_1).f1, (rd_T88 t177 x7_1).f2, (rd_T88 t177 x7_1).f3⟩ : S88) )) (Reps.none _ _))); intro v203 w34 ho35 hb hg_ hnew_; clear hg_ hnew_; (first | rw [← Ny202.out] at ho35 | (simp only [Int.reduceToNat] at ho35; rw [← Ny202.out] at ho35)); have n0_ := Aside0.mk (Kd.R_elder' z76b (Kd.R_base ho35) hb); have n1_ := Aside0.mk (Kd.R_elder' z76c (Kd.R_base ho35) hb); have n2_ := Aside0.mk (Kd.R_lower (Kd.R_new' (Kd.R_new' ho35 (Kd.R_lt z76b)) (Kd.R_lt z76c)) (below_size z76a)); have n3_ := Aside0.mk (below_step z76a hb); clear HO_5; clear HO_6; clear HB; have HO_5 := n0_; have HO_6 := n1_; have HO204 := n2_; have HB := n3_; clear n0_ n1_ n2_ n3_; clear hb ho35) | ((with_reducible refine gate_builtin (b := .append) (xs := #[.tmp 49, .tmp 50]) rfl ?_); at_builtin; refine Kd.R_append_rows k88 (w0 := w) w.heap.size rfl (.tmp 49) (.tmp 50) 50 88 (.agg #[(.string ⟨#[]⟩), (.string ⟨#[]⟩), (.int .i64 0), (.bool false)]) 48 rfl Try.underlying50 info88 rfl (by decide) (by omega) v203 y202 x6_1 _ _ _ (fun k_ => some k_ ≠ (.slice (some ad192) t177.length co7 : Value).ownBlock ∧ some k_ ≠ (.slice (some ad191) x6_1.length co33 : Value).ownBlock) (fun _ => False) rfl rfl ?aO ?aR (fun _ _ h => h) (fun _ h => h.elim) ?aF ?aB ?aS ?aL ?_; (case aR => repeat (first | exact (Kd.R_reads' HO_6.out).2.2 | (with_reducible refine Kd.C_alloc ?_ _) | (with_reducible refine Kd.C_drewN ?_ _) | (with_reducible refine Kd.C_drew ?_))); (case aB => exact z76a); (case aF => exact (fun k_ hk => ⟨Kd.fresh' (Kd.R_lt z76b) k_ hk, Kd.fresh' (Kd.R_lt z76c) k_ hk⟩)); (case aO => exact (by (with_reducible repeat (first | apply Kd.R_alloc | apply Kd.R_drewN | apply Kd.R_drew)); exact Kd.R_mono HO204.out (fun _ hk => ⟨hk.1.2, hk.2⟩))); (case aS => exact (below_size z76a)); (case aL => have := LMc32.out; omega); intro v206 w36 ho hb hg hat; rw [← Ny205.out] at ho; have n0_ := Aside0.mk (Kd.R_after (ok := (fun k_ => some k_ ≠ (.slice (some ad191) x6_1.length co33 : Value).ownBlock)) z76b hg hat); have n1_ := Aside0.mk (Kd.R_after (ok := (fun k_ => some k_ ≠ (.slice (some ad192) t177.length co7 : Value).ownBlock)) z76c hg hat); have n2_ := Aside0.mk (hb); have n3_ := Aside0.mk (ho); clear HO_5; clear HO_6; clear HB; clear HO204; have HO_5 := n0_; have HO_6 := n1_; have HB := n2_; have HO207 := n3_; clear n0_ n1_ n2_ n3_; clear ho hb hg hat)); try go_wp2_with (first | ((with_reducible refine gate_dst (N := 49) rfl ?_); refine Kd.R_lit k88 _ 88 ?hg (N := 49) ?hd (xs := ([(⟨(rd_T88 t177 x7_1).f0, (rd_T88 t177 x7_1).f1, (rd_T88 t177 x7_1).f2, (rd_T88 t177 x7_1).f3⟩ : S88)] : List (S88))) (inner := [.string ((rd_T88 t177 x7_1).f0), .string ((rd_T88 t177 x7_1).f1), .int .i64 ((rd_T88 t177 x7_1).f2), .bool ((rd_T88 t177 x7_1).f3)]) (ok := fun _ => True) (okp := fun _ => True) ?hr ?hp (fun _ hk => hk) trivial (Below.refl _ _) (Nat.le_refl _) (by simp) ?_; (case hd => rfl); (case hg => rfl); (case hr => first | (go_simp; done) | (go_simp; rfl)); (case hp => exact (Reps.c4 (show Kd.M k88 _ _ _ (⟨(rd_T88 t177 x7_1).f0, (rd_T88 t177 x7_1).f1, (rd_T88 t177 x7_1).f2, (rd_T88 t177 x7_1).f3⟩ : S88) [.string ((rd_T88 t177 x7_1).f0), .string ((rd_T88 t177 x7_1).f1), .int .i64 ((rd_T88 t177 x7_1).f2), .bool ((rd_T88 t177 x7_1).f3)] from (k88_mkM _ _ _ (⟨(rd_T88 t177 x7_1).f0, (rd_T88 t177 x7_1).f1, (rd_T88 t177 x7_1).f2, (rd_T88 t177 x7_1).f3⟩ : S88) )) (Reps.none _ _))); intro v203 w34 ho35 hb hg_ hnew_; clear hg_ hnew_; (first | rw [← Ny202.out] at ho35 | (simp only [Int.reduceToNat] at ho35; rw [← Ny202.out] at ho35)); have n0_ := Aside0.mk (Kd.R_elder' z76b (Kd.R_base ho35) hb); have n1_ := Aside0.mk (Kd.R_elder' z76c (Kd.R_base ho35) hb); have n2_ := Aside0.mk (Kd.R_lower (Kd.R_new' (Kd.R_new' ho35 (Kd.R_lt z76b)) (Kd.R_lt z76c)) (below_size z76a)); have n3_ := Aside0.mk (below_step z76a hb); clear HO_5; clear HO_6; clear HB; have HO_5 := n0_; have HO_6 := n1_; have HO204 := n2_; have HB := n3_; clear n0_ n1_ n2_ n3_; clear hb ho35) | ((with_reducible refine gate_builtin (b := .append) (xs := #[.tmp 49, .tmp 50]) rfl ?_); at_builtin; refine Kd.R_append_rows k88 (w0 := w) w.heap.size rfl (.tmp 49) (.tmp 50) 50 88 (.agg #[(.string ⟨#[]⟩), (.string ⟨#[]⟩), (.int .i64 0), (.bool false)]) 48 rfl Try.underlying50 info88 rfl (by decide) (by omega) v203 y202 x6_1 _ _ _ (fun k_ => some k_ ≠ (.slice (some ad192) t177.length co7 : Value).ownBlock ∧ some k_ ≠ (.slice (some ad191) x6_1.length co33 : Value).ownBlock) (fun _ => False) rfl rfl ?aO ?aR (fun _ _ h => h) (fun _ h => h.elim) ?aF ?aB ?aS ?aL ?_; (case aR => repeat (first | exact (Kd.R_reads' HO_6.out).2.2 | (with_reducible refine Kd.C_alloc ?_ _) | (with_reducible refine Kd.C_drewN ?_ _) | (with_reducible refine Kd.C_drew ?_))); (case aB => exact z76a); (case aF => exact (fun k_ hk => ⟨Kd.fresh' (Kd.R_lt z76b) k_ hk, Kd.fresh' (Kd.R_lt z76c) k_ hk⟩)); (case aO => exact (by (with_reducible repeat (first | apply Kd.R_alloc | apply Kd.R_drewN | apply Kd.R_drew)); exact Kd.R_mono HO204.out (fun _ hk => ⟨hk.1.2, hk.2⟩))); (case aS => exact (below_size z76a)); (case aL => have := LMc32.out; omega); intro v206 w36 ho hb hg hat; rw [← Ny205.out] at ho; have n0_ := Aside0.mk (Kd.R_after (ok := (fun k_ => some k_ ≠ (.slice (some ad191) x6_1.length co33 : Value).ownBlock)) z76b hg hat); have n1_ := Aside0.mk (Kd.R_after (ok := (fun k_ => some k_ ≠ (.slice (some ad192) t177.length co7 : Value).ownBlock)) z76c hg hat); have n2_ := Aside0.mk (hb); have n3_ := Aside0.mk (ho); clear HO_5; clear HO_6; clear HB; clear HO204; have HO_5 := n0_; have HO_6 := n1_; have HB := n2_; have HO207 := n3_; clear n0_ n1_ n2_ n3_; clear ho hb hg hat)))
   go_roundg k1
   case measure => have := HK1.out; omega
   case rel => exact ⟨(y205), (wrap64 (x7_1 - 1)), (by first | rfl | (simp; done) | (simp [*]; done)), H', ⟨by have := HK1.out; omega⟩, ⟨by (with_reducible repeat (first | apply Kd.R_alloc | apply Kd.R_drewN | apply Kd.R_drew)); exact Kd.R_mono HO_5.out (fun _ hk => hk.2)⟩, ⟨by (with_reducible repeat (first | apply Kd.R_alloc | apply Kd.R_drewN | apply Kd.R_drew)); exact Kd.R_mono HO207.out (fun _ hk => hk.1)⟩, ⟨by repeat (first | (with_reducible first | exact HB.out | apply below_alloc | apply pw_below_drewN | apply below_drew1) | exact HB.out)⟩⟩
   }
   {
   rw [if_neg c32] at H
   exact absurd H (by simp)
   }
   }
   }
   {
   rw [if_neg c22] at H
   exact absurd H (by simp)
   }
   }
   {
   rw [if_neg c21] at H
   exact absurd H (by simp)
   }
   }
   {
   rw [if_neg c20] at H
   exact absurd H (by simp)
   }
   }
   }
   {
   rw [if_neg c8] at H
   have c8b0 : decide (0 ≤ x7_1) = false := decide_eq_false c8
   clear c8
   obtain rfl := Option.some.inj H
   go_wp2
   repeat (go_quiet (fail); try go_wp2)
   go_ret
   exact ⟨_, by first | rfl | (simp [errW_none, errW_some] <;> rfl) | (simp [*, errW_none, errW_some] <;> rfl), by (with_reducible repeat (first | apply Kd.R_alloc | apply Kd.R_drewN | apply Kd.R_drew)); exact Kd.R_mono HO_6.out (fun _ hk => trivial), by repeat (first | (with_reducible first | exact HB.out | apply below_alloc | apply pw_below_drewN | apply below_drew1) | exact HB.out)⟩
   
   }
/-! ### spec_Bottom: function 39 -/
theorem z39a {p_ : Prop} (h_ : p_ := by repeat (first | (with_reducible first | exact HB.out | apply below_alloc | apply pw_below_drewN | apply below_drew1) | exact HB.out)) : p_ := h_
def spec_Bottom.f (k : Nat) (l0 : List (S88)) (l1 : List Int) : Option ((List (S88))) := (spec_l6Told.f k l0 l1).bind fun t208 => (if t208 = true then ((spec_l6Bottom.f k l0 l1).bind fun t209 => (some t209)) else (some (([] : List (S88)))))
theorem spec_Bottom.mono : ∀ a0 a1 k, LeO (spec_Bottom.f k a0 a1) (spec_Bottom.f (k + 1) a0 a1) := by
 intro a0 a1 k
 unfold spec_Bottom.f
 repeat' first
   | (with_reducible exact spec_l6Bottom.mono _ _ _)
   | (with_reducible exact spec_l6Told.mono _ _ _)
   | (with_reducible exact LeO.refl _)
   | (with_reducible exact LeO.none _)
   | (with_reducible refine LeO.ite ?_ ?_)
   | (with_reducible refine LeO.bind ?_ (fun _ => ?_))
   | exact spec_l6Bottom.mono _ _ _
   | exact spec_l6Told.mono _ _ _
   | exact LeO.none _
   | refine LeO.ite ?_ ?_
   | refine LeO.bind ?_ (fun _ => ?_)
set_option maxHeartbeats 8000000 in
set_option maxRecDepth 100000 in
theorem spec_Bottom.calls (k : Nat) (A0 : Option Addr) (c0 : Nat) (l0 : List (S88)) (A1 : Option Addr) (c1 : Nat) (l1 : List Int) (r : List (S88)) (w : World) (hr0 : Kd.C k88 w A0 l0.length l0) (hc0 : l0.length ≤ c0) (hr1 : Kd.C (Kd.int .i64) w A1 l1.length l1) (hc1 : l1.length ≤ c1) (h : spec_Bottom.f k l0 l1 = some r) :
  Calls Try.prog 39 #[.slice A0 l0.length c0, .slice A1 l1.length c1] w fun e w' => ∃ v0_ : Value, e = .returned (v0_) ∧ Kd.R k88 88 w' w.heap.size (fun _ => True) v0_ r ∧ Below w.heap.size w w' := by
 have HR0 := Aside0.mk hr0
 have HC0 := Aside0.mk hc0
 clear hr0 hc0
 have HR1 := Aside0.mk hr1
 have HC1 := Aside0.mk hc1
 clear hr1 hc1
 have HB := Aside0.mk (Below.refl w.heap.size w)
 have H : ((spec_l6Told.f k l0 l1).bind fun t208 => (if t208 = true then ((spec_l6Bottom.f k l0 l1).bind fun t209 => (some t209)) else (some (([] : List (S88)))))) = some r := h
 clear h
 replace H := Option.bind_eq_some_iff.mp H
 obtain ⟨t208, A30, H⟩ := H
 replace H : (if t208 = true then ((spec_l6Bottom.f k l0 l1).bind fun t209 => (some t209)) else (some (([] : List (S88))))) = some r := H
 have A3 := Aside0.mk A30
 clear A30
 by_cases c4 : t208 = true
 {
 subst c4
 have H1 : ((spec_l6Bottom.f k l0 l1).bind fun t209 => (some t209)) = some r := by rw [if_pos rfl] at H; exact H
 clear H
 have H := H1
 clear H1
 replace H := Option.bind_eq_some_iff.mp H
 obtain ⟨t209, A50, H⟩ := H
 replace H : (some t209) = some r := H
 have A5 := Aside0.mk A50
 clear A50
 obtain rfl := Option.some.inj H
 go_enter Try.func39, Try.ntmps39
 go_wp2_with (first | ((with_reducible refine gate_callee (f := 70) rfl ?_); refine goesL_ (some 7) rfl rfl Try.func70 (by kernel_rfl) rfl #[.slice A0 l0.length c0, .slice A1 l1.length c1] rfl (by (try simp only [List.map_toArray, List.map_cons, List.map_nil]); first | done | rfl | (simp only [List.length_drop, List.length_take]; rfl)) ?_; (with_reducible refine (spec_l6Told.calls k _ _ l0 _ _ l1 true _ ?side1 ?side2 ?side3 ?side4 A3.out).mono ?_); (case side1 => repeat (first | exact HR0.out | (with_reducible refine Kd.C_alloc ?_ _) | (with_reducible refine Kd.C_drewN ?_ _) | (with_reducible refine Kd.C_drew ?_))); (case side2 => exact HC0.out); (case side3 => repeat (first | exact HR1.out | (with_reducible refine Kd.C_alloc ?_ _) | (with_reducible refine Kd.C_drewN ?_ _) | (with_reducible refine Kd.C_drew ?_))); (case side4 => exact HC1.out); rintro e w6 ⟨rfl, hb⟩; refine ⟨_, rfl, ?_⟩; have n0_ := Aside0.mk (below_step z39a hb); clear HB; have HB := n0_; clear n0_; (try clear hb); (try clear hb2); (try clear hk); (try clear hi)) | ((with_reducible refine gate_callee (f := 76) rfl ?_); refine goesL_ (some 12) rfl rfl Try.func76 (by kernel_rfl) rfl #[.slice A0 l0.length c0, .slice A1 l1.length c1] rfl (by (try simp only [List.map_toArray, List.map_cons, List.map_nil]); first | done | rfl | (simp only [List.length_drop, List.length_take]; rfl)) ?_; (with_reducible refine (spec_l6Bottom.calls k _ _ l0 _ _ l1 t209 _ ?side1 ?side2 ?side3 ?side4 A5.out).mono ?_); (case side1 => repeat (first | exact (Kd.C_below HR0.out HB.out) | (with_reducible refine Kd.C_alloc ?_ _) | (with_reducible refine Kd.C_drewN ?_ _) | (with_reducible refine Kd.C_drew ?_))); (case side2 => exact HC0.out); (case side3 => repeat (first | exact (Kd.C_below HR1.out HB.out) | (with_reducible refine Kd.C_alloc ?_ _) | (with_reducible refine Kd.C_drewN ?_ _) | (with_reducible refine Kd.C_drew ?_))); (case side4 => exact HC1.out); rintro e w7 ⟨v210, rfl, ho0, hb⟩; refine ⟨_, rfl, ?_⟩; have n0_ := Aside0.mk (Kd.R_lower ho0 (below_size z39a)); have n1_ := Aside0.mk (below_step z39a hb); clear HB; have HO211 := n0_; have HB := n1_; clear n0_ n1_; (try clear hb); (try clear hb2); (try clear hk); (try clear hi); (try clear ho0)))
 go_ret
 exact ⟨_, by first | rfl | (simp [errW_none, errW_some] <;> rfl) | (simp [*, errW_none, errW_some] <;> rfl), by (with_reducible repeat (first | apply Kd.R_alloc | apply Kd.R_drewN | apply Kd.R_drew)); exact HO211.out, by repeat (first | (with_reducible first | exact HB.out | apply below_alloc | apply pw_below_drewN | apply below_drew1) | exact HB.out)⟩
 }
 {
 replace c4 := Bool.eq_false_iff.mpr c4
 subst c4
 have H1 : (some (([] : List (S88)))) = some r := by rw [if_neg (show ¬ (false = true) by decide)] at H; exact H
 clear H
 have H := H1
 clear H1
 obtain ⟨y212, hy212⟩ : ∃ y_ : List (S88), y_ = (([] : List (S88))) := ⟨_, rfl⟩
 replace H : (some y212) = some r := by first | (rw [hy212]; with_reducible exact H) | (have H2_ := (Option.bind_some _ _).symm.trans H; rw [hy212]; with_reducible exact H2_) | (have H2_ := (Option.bind_some _ _).symm.trans H; with_reducible exact H2_) | with_reducible exact H | (rw [hy212]; exact H) | exact H
 have Ny212 := Aside0.mk hy212
 clear hy212
 obtain rfl := Option.some.inj H
 go_enter Try.func39, Try.ntmps39
 go_wp2_with (first | ((with_reducible refine gate_callee (f := 70) rfl ?_); refine goesL_ (some 7) rfl rfl Try.func70 (by kernel_rfl) rfl #[.slice A0 l0.length c0, .slice A1 l1.length c1] rfl (by (try simp only [List.map_toArray, List.map_cons, List.map_nil]); first | done | rfl | (simp only [List.length_drop, List.length_take]; rfl)) ?_; (with_reducible refine (spec_l6Told.calls k _ _ l0 _ _ l1 false _ ?side1 ?side2 ?side3 ?side4 A3.out).mono ?_); (case side1 => repeat (first | exact HR0.out | (with_reducible refine Kd.C_alloc ?_ _) | (with_reducible refine Kd.C_drewN ?_ _) | (with_reducible refine Kd.C_drew ?_))); (case side2 => exact HC0.out); (case side3 => repeat (first | exact HR1.out | (with_reducible refine Kd.C_alloc ?_ _) | (with_reducible refine Kd.C_drewN ?_ _) | (with_reducible refine Kd.C_drew ?_))); (case side4 => exact HC1.out); rintro e w8 ⟨rfl, hb⟩; refine ⟨_, rfl, ?_⟩; have n0_ := Aside0.mk (below_step z39a hb); clear HB; have HB := n0_; clear n0_; (try clear hb); (try clear hb2); (try clear hk); (try clear hi)) | ((with_reducible refine gate_dst (N := 9) rfl ?_); refine Kd.R_lit k88 _ 88 ?hg (N := 9) ?hd (xs := ([] : List (S88))) (inner := []) (ok := fun _ => True) (okp := fun _ => True) ?hr ?hp (fun _ hk => hk) trivial (Below.refl _ _) (Nat.le_refl _) (by simp) ?_; (case hd => rfl); (case hg => rfl); (case hr => first | (go_simp; done) | (go_simp; rfl)); (case hp => exact (Reps.none _ _)); intro v213 w9 ho10 hb hg_ hnew_; clear hg_ hnew_; (first | rw [← Ny212.out] at ho10 | (simp only [Int.reduceToNat] at ho10; rw [← Ny212.out] at ho10)); have n0_ := Aside0.mk (Kd.R_lower ho10 (below_size z39a)); have n1_ := Aside0.mk (below_step z39a hb); clear HB; have HO214 := n0_; have HB := n1_; clear n0_ n1_; clear hb ho10))
 go_ret
 exact ⟨_, by first | rfl | (simp [errW_none, errW_some] <;> rfl) | (simp [*, errW_none, errW_some] <;> rfl), by (with_reducible repeat (first | apply Kd.R_alloc | apply Kd.R_drewN | apply Kd.R_drew)); exact HO214.out, by repeat (first | (with_reducible first | exact HB.out | apply below_alloc | apply pw_below_drewN | apply below_drew1) | exact HB.out)⟩
 
 }
/-! ### impl_within: function 49 -/
def impl_within.f (a0 : Int) (a1 : Int) (a2 : Int) : Option (Bool) := if a0 ≥ a1 then (some (decide (a0 ≤ a2))) else (some false)
set_option maxHeartbeats 8000000 in
set_option maxRecDepth 100000 in
theorem impl_within.calls (a0 : Int) (a1 : Int) (a2 : Int) (r : Bool) (w : World) (h : impl_within.f a0 a1 a2 = some r) :
  Calls Try.prog 49 #[.int .i64 a0, .int .i64 a1, .int .i64 a2] w fun e w' => e = .returned (.bool r) ∧ Drawn0 w w' := by
 have H : (if a0 ≥ a1 then (some (decide (a0 ≤ a2))) else (some false)) = some r := h
 clear h
 by_cases c4 : a0 ≥ a1
 {
 rw [if_pos c4] at H
 have c4b0 : decide (a1 ≤ a0) = true := decide_eq_true c4
 clear c4
 obtain rfl := Option.some.inj H
 go_enter Try.func49, Try.ntmps49
 go_wp2
 go_ret
 exact ⟨by first | rfl | (simp; done) | (simp [*]; done), by repeat (first | exact Drawn0.refl _ | apply Drawn0.step)⟩
 }
 {
 rw [if_neg c4] at H
 have c4b0 : decide (a1 ≤ a0) = false := decide_eq_false c4
 clear c4
 obtain rfl := Option.some.inj H
 go_enter Try.func49, Try.ntmps49
 go_wp2
 go_ret
 exact ⟨by first | rfl | (simp; done) | (simp [*]; done), by repeat (first | exact Drawn0.refl _ | apply Drawn0.step)⟩
 
 }
/-! ### impl_entryOk: function 85 -/
theorem z85a {p_ : Prop} (h_ : p_ := by repeat (first | (with_reducible first | exact HB.out | apply below_alloc | apply pw_below_drewN | apply below_drew1) | exact HB.out)) : p_ := h_
theorem z85b {p_ : Prop} (h_ : p_ := by (try simp only [List.map_toArray, List.map_cons, List.map_nil]); first | done | rfl | (simp only [List.length_drop, List.length_take]; rfl)) : p_ := h_
def impl_entryOk.f (a0_0 : ByteArray) (a0_1 : ByteArray) (a0_2 : Int) (a0_3 : Bool) : Option (Bool) := (impl_within.f (a0_0.size : Int) 1 40).bind fun t216 => (if t216 = true then (if (a0_1.size : Int) ≤ 200 then (if a0_3 = true then (if a0_1.toList = ([] : List UInt8) then ((impl_within.f a0_2 1 1000000).bind fun t217 => (some t217)) else (some false)) else ((impl_within.f a0_2 1 1000000).bind fun t218 => (some t218))) else (some false)) else (some false))
set_option maxHeartbeats 8000000 in
set_option maxRecDepth 100000 in
theorem impl_entryOk.calls (a0_0 : ByteArray) (a0_1 : ByteArray) (a0_2 : Int) (a0_3 : Bool) (r : Bool) (w : World) (h : impl_entryOk.f a0_0 a0_1 a0_2 a0_3 = some r) :
  Calls Try.prog 85 #[.agg #[.string a0_0, .string a0_1, .int .i64 a0_2, .bool a0_3]] w fun e w' => e = .returned (.bool r) ∧ Below w.heap.size w w' := by
 have hu88 := Try.underlying88
 have HB := Aside0.mk (Below.refl w.heap.size w)
 have H : ((impl_within.f (a0_0.size : Int) 1 40).bind fun t216 => (if t216 = true then (if (a0_1.size : Int) ≤ 200 then (if a0_3 = true then (if a0_1.toList = ([] : List UInt8) then ((impl_within.f a0_2 1 1000000).bind fun t217 => (some t217)) else (some false)) else ((impl_within.f a0_2 1 1000000).bind fun t218 => (some t218))) else (some false)) else (some false))) = some r := h
 clear h
 replace H := Option.bind_eq_some_iff.mp H
 obtain ⟨t216, A20, H⟩ := H
 replace H : (if t216 = true then (if (a0_1.size : Int) ≤ 200 then (if a0_3 = true then (if a0_1.toList = ([] : List UInt8) then ((impl_within.f a0_2 1 1000000).bind fun t217 => (some t217)) else (some false)) else ((impl_within.f a0_2 1 1000000).bind fun t218 => (some t218))) else (some false)) else (some false)) = some r := H
 have A2 := Aside0.mk A20
 clear A20
 by_cases c3 : t216 = true
 {
 subst c3
 have H1 : (if (a0_1.size : Int) ≤ 200 then (if a0_3 = true then (if a0_1.toList = ([] : List UInt8) then ((impl_within.f a0_2 1 1000000).bind fun t217 => (some t217)) else (some false)) else ((impl_within.f a0_2 1 1000000).bind fun t218 => (some t218))) else (some false)) = some r := by rw [if_pos rfl] at H; exact H
 clear H
 have H := H1
 clear H1
 by_cases c4 : (a0_1.size : Int) ≤ 200
 {
 rw [if_pos c4] at H
 have c4b0 : decide ((a0_1.size : Int) ≤ 200) = true := decide_eq_true c4
 have c4b1 : decide (a0_1.size ≤ 200) = true := decide_eq_true (by omega)
 clear c4
 by_cases c5 : a0_3 = true
 {
 subst c5
 have H1 : (if a0_1.toList = ([] : List UInt8) then ((impl_within.f a0_2 1 1000000).bind fun t217 => (some t217)) else (some false)) = some r := by rw [if_pos rfl] at H; exact H
 clear H
 have H := H1
 clear H1
 by_cases c6 : a0_1.toList = ([] : List UInt8)
 {
 rw [if_pos c6] at H
 have c6b0 : (a0_1.toList == ([] : List UInt8)) = true := beq_iff_eq.mpr c6
 have c6b1 : (a0_1.toList != ([] : List UInt8)) = false := bne_eq_false_iff_eq.mpr c6
 clear c6
 replace H := Option.bind_eq_some_iff.mp H
 obtain ⟨t217, A70, H⟩ := H
 replace H : (some t217) = some r := H
 have A7 := Aside0.mk A70
 clear A70
 obtain rfl := Option.some.inj H
 go_enter Try.func85, Try.ntmps85
 go_wp2_with (first | ((with_reducible refine gate_dst (N := 1) rfl ?_); (try (refine gate_guard (by rfl) ?_; dsimp only)); refine box_event ?hg (N := 1) ?hd (cs := #[.string a0_0, .string a0_1, .int .i64 a0_2, .bool true]) (t := 88) ?hr ?_; (case hd => rfl); (case hg => rfl); (case hr => first | (go_simp; done) | (go_simp; rfl)); intro gb215 hg w8 hbox hb; have n0_ := Aside0.mk (below_step z85a hb); have n1_ := Aside0.mk (hbox); have n2_ := Aside0.mk ((by rw [hg]; exact (below_size z85a) : w.heap.size ≤ gb215)); have n3_ := Aside0.mk ((by rw [hg]; exact (below_size z85a) : w.heap.size ≤ gb215)); clear HB; have HB := n0_; have BK215 := n1_; have GW215 := n2_; have GE215 := n3_; clear n0_ n1_ n2_ n3_; clear hb hbox hg; have hcz9_0 : w8.cell? ⟨gb215, 0, none⟩ = some (.string a0_0) := (blk_cell BK215.out 0).trans rfl; have hcz9_1 : w8.cell? ⟨gb215, 1, none⟩ = some (.string a0_1) := (blk_cell BK215.out 1).trans rfl; have hcz9_2 : w8.cell? ⟨gb215, 2, none⟩ = some (.int .i64 a0_2) := (blk_cell BK215.out 2).trans rfl; have hcz9_3 : w8.cell? ⟨gb215, 3, none⟩ = some (.bool true) := (blk_cell BK215.out 3).trans rfl; have hfz9_0 := blk_frozen BK215.out 0; have hfz9_1 := blk_frozen BK215.out 1; have hfz9_2 := blk_frozen BK215.out 2; have hfz9_3 := blk_frozen BK215.out 3) | ((with_reducible refine gate_callee (f := 49) rfl ?_); refine goesL_ (some 6) rfl rfl Try.func49 (by kernel_rfl) rfl #[.int .i64 (a0_0.size : Int), .int .i64 1, .int .i64 40] rfl z85b ?_; (with_reducible refine (impl_within.calls (a0_0.size : Int) 1 40 true _ A2.out).mono ?_); rintro e w' ⟨rfl, ⟨nd, rfl⟩⟩; refine ⟨_, rfl, ?_⟩) | (go_at_call 49; (with_reducible refine (impl_within.calls a0_2 1 1000000 t217 _ A7.out).mono ?_); rintro e w' ⟨rfl, ⟨nd, rfl⟩⟩))
 go_ret
 exact ⟨by first | rfl | (simp [errW_none, errW_some] <;> rfl) | (simp [*, errW_none, errW_some] <;> rfl), by repeat (first | (with_reducible first | exact HB.out | apply below_alloc | apply pw_below_drewN | apply below_drew1 | refine below_set ?_ GE215.out) | exact HB.out)⟩
 }
 {
 rw [if_neg c6] at H
 have c6b0 : (a0_1.toList == ([] : List UInt8)) = false := beq_eq_false_iff_ne.mpr c6
 have c6b1 : (a0_1.toList != ([] : List UInt8)) = true := bne_iff_ne.mpr c6
 obtain rfl := Option.some.inj H
 go_enter Try.func85, Try.ntmps85
 go_wp2_with (first | ((with_reducible refine gate_dst (N := 1) rfl ?_); (try (refine gate_guard (by rfl) ?_; dsimp only)); refine box_event ?hg (N := 1) ?hd (cs := #[.string a0_0, .string a0_1, .int .i64 a0_2, .bool true]) (t := 88) ?hr ?_; (case hd => rfl); (case hg => rfl); (case hr => first | (go_simp; done) | (go_simp; rfl)); intro gb215 hg w10 hbox hb; have n0_ := Aside0.mk (below_step z85a hb); have n1_ := Aside0.mk (hbox); have n2_ := Aside0.mk ((by rw [hg]; exact (below_size z85a) : w.heap.size ≤ gb215)); have n3_ := Aside0.mk ((by rw [hg]; exact (below_size z85a) : w.heap.size ≤ gb215)); clear HB; have HB := n0_; have BK215 := n1_; have GW215 := n2_; have GE215 := n3_; clear n0_ n1_ n2_ n3_; clear hb hbox hg; have hcz11_0 : w10.cell? ⟨gb215, 0, none⟩ = some (.string a0_0) := (blk_cell BK215.out 0).trans rfl; have hcz11_1 : w10.cell? ⟨gb215, 1, none⟩ = some (.string a0_1) := (blk_cell BK215.out 1).trans rfl; have hcz11_2 : w10.cell? ⟨gb215, 2, none⟩ = some (.int .i64 a0_2) := (blk_cell BK215.out 2).trans rfl; have hcz11_3 : w10.cell? ⟨gb215, 3, none⟩ = some (.bool true) := (blk_cell BK215.out 3).trans rfl; have hfz11_0 := blk_frozen BK215.out 0; have hfz11_1 := blk_frozen BK215.out 1; have hfz11_2 := blk_frozen BK215.out 2; have hfz11_3 := blk_frozen BK215.out 3) | ((with_reducible refine gate_callee (f := 49) rfl ?_); refine goesL_ (some 6) rfl rfl Try.func49 (by kernel_rfl) rfl #[.int .i64 (a0_0.size : Int), .int .i64 1, .int .i64 40] rfl z85b ?_; (with_reducible refine (impl_within.calls (a0_0.size : Int) 1 40 true _ A2.out).mono ?_); rintro e w' ⟨rfl, ⟨nd, rfl⟩⟩; refine ⟨_, rfl, ?_⟩))
 go_ret
 exact ⟨by first | rfl | (simp [errW_none, errW_some] <;> rfl) | (simp [*, errW_none, errW_some] <;> rfl), by repeat (first | (with_reducible first | exact HB.out | apply below_alloc | apply pw_below_drewN | apply below_drew1 | refine below_set ?_ GE215.out) | exact HB.out)⟩
 }
 }
 {
 replace c5 := Bool.eq_false_iff.mpr c5
 subst c5
 have H1 : ((impl_within.f a0_2 1 1000000).bind fun t218 => (some t218)) = some r := by rw [if_neg (show ¬ (false = true) by decide)] at H; exact H
 clear H
 have H := H1
 clear H1
 replace H := Option.bind_eq_some_iff.mp H
 obtain ⟨t218, A120, H⟩ := H
 replace H : (some t218) = some r := H
 have A12 := Aside0.mk A120
 clear A120
 obtain rfl := Option.some.inj H
 go_enter Try.func85, Try.ntmps85
 go_wp2_with (first | ((with_reducible refine gate_dst (N := 1) rfl ?_); (try (refine gate_guard (by rfl) ?_; dsimp only)); refine box_event ?hg (N := 1) ?hd (cs := #[.string a0_0, .string a0_1, .int .i64 a0_2, .bool false]) (t := 88) ?hr ?_; (case hd => rfl); (case hg => rfl); (case hr => first | (go_simp; done) | (go_simp; rfl)); intro gb215 hg w13 hbox hb; have n0_ := Aside0.mk (below_step z85a hb); have n1_ := Aside0.mk (hbox); have n2_ := Aside0.mk ((by rw [hg]; exact (below_size z85a) : w.heap.size ≤ gb215)); have n3_ := Aside0.mk ((by rw [hg]; exact (below_size z85a) : w.heap.size ≤ gb215)); clear HB; have HB := n0_; have BK215 := n1_; have GW215 := n2_; have GE215 := n3_; clear n0_ n1_ n2_ n3_; clear hb hbox hg; have hcz14_0 : w13.cell? ⟨gb215, 0, none⟩ = some (.string a0_0) := (blk_cell BK215.out 0).trans rfl; have hcz14_1 : w13.cell? ⟨gb215, 1, none⟩ = some (.string a0_1) := (blk_cell BK215.out 1).trans rfl; have hcz14_2 : w13.cell? ⟨gb215, 2, none⟩ = some (.int .i64 a0_2) := (blk_cell BK215.out 2).trans rfl; have hcz14_3 : w13.cell? ⟨gb215, 3, none⟩ = some (.bool false) := (blk_cell BK215.out 3).trans rfl; have hfz14_0 := blk_frozen BK215.out 0; have hfz14_1 := blk_frozen BK215.out 1; have hfz14_2 := blk_frozen BK215.out 2; have hfz14_3 := blk_frozen BK215.out 3) | ((with_reducible refine gate_callee (f := 49) rfl ?_); refine goesL_ (some 6) rfl rfl Try.func49 (by kernel_rfl) rfl #[.int .i64 (a0_0.size : Int), .int .i64 1, .int .i64 40] rfl z85b ?_; (with_reducible refine (impl_within.calls (a0_0.size : Int) 1 40 true _ A2.out).mono ?_); rintro e w' ⟨rfl, ⟨nd, rfl⟩⟩; refine ⟨_, rfl, ?_⟩) | (go_at_call 49; (with_reducible refine (impl_within.calls a0_2 1 1000000 t218 _ A12.out).mono ?_); rintro e w' ⟨rfl, ⟨nd, rfl⟩⟩))
 go_ret
 exact ⟨by first | rfl | (simp [errW_none, errW_some] <;> rfl) | (simp [*, errW_none, errW_some] <;> rfl), by repeat (first | (with_reducible first | exact HB.out | apply below_alloc | apply pw_below_drewN | apply below_drew1 | refine below_set ?_ GE215.out) | exact HB.out)⟩
 }
 }
 {
 rw [if_neg c4] at H
 have c4b0 : decide ((a0_1.size : Int) ≤ 200) = false := decide_eq_false c4
 have c4b1 : decide (a0_1.size ≤ 200) = false := decide_eq_false (by omega)
 clear c4
 obtain rfl := Option.some.inj H
 go_enter Try.func85, Try.ntmps85
 go_wp2_with (first | ((with_reducible refine gate_dst (N := 1) rfl ?_); (try (refine gate_guard (by rfl) ?_; dsimp only)); refine box_event ?hg (N := 1) ?hd (cs := #[.string a0_0, .string a0_1, .int .i64 a0_2, .bool a0_3]) (t := 88) ?hr ?_; (case hd => rfl); (case hg => rfl); (case hr => first | (go_simp; done) | (go_simp; rfl)); intro gb215 hg w15 hbox hb; have n0_ := Aside0.mk (below_step z85a hb); have n1_ := Aside0.mk (hbox); have n2_ := Aside0.mk ((by rw [hg]; exact (below_size z85a) : w.heap.size ≤ gb215)); have n3_ := Aside0.mk ((by rw [hg]; exact (below_size z85a) : w.heap.size ≤ gb215)); clear HB; have HB := n0_; have BK215 := n1_; have GW215 := n2_; have GE215 := n3_; clear n0_ n1_ n2_ n3_; clear hb hbox hg; have hcz16_0 : w15.cell? ⟨gb215, 0, none⟩ = some (.string a0_0) := (blk_cell BK215.out 0).trans rfl; have hcz16_1 : w15.cell? ⟨gb215, 1, none⟩ = some (.string a0_1) := (blk_cell BK215.out 1).trans rfl; have hcz16_2 : w15.cell? ⟨gb215, 2, none⟩ = some (.int .i64 a0_2) := (blk_cell BK215.out 2).trans rfl; have hcz16_3 : w15.cell? ⟨gb215, 3, none⟩ = some (.bool a0_3) := (blk_cell BK215.out 3).trans rfl; have hfz16_0 := blk_frozen BK215.out 0; have hfz16_1 := blk_frozen BK215.out 1; have hfz16_2 := blk_frozen BK215.out 2; have hfz16_3 := blk_frozen BK215.out 3) | ((with_reducible refine gate_callee (f := 49) rfl ?_); refine goesL_ (some 6) rfl rfl Try.func49 (by kernel_rfl) rfl #[.int .i64 (a0_0.size : Int), .int .i64 1, .int .i64 40] rfl z85b ?_; (with_reducible refine (impl_within.calls (a0_0.size : Int) 1 40 true _ A2.out).mono ?_); rintro e w' ⟨rfl, ⟨nd, rfl⟩⟩; refine ⟨_, rfl, ?_⟩))
 go_ret
 exact ⟨by first | rfl | (simp [errW_none, errW_some] <;> rfl) | (simp [*, errW_none, errW_some] <;> rfl), by repeat (first | (with_reducible first | exact HB.out | apply below_alloc | apply pw_below_drewN | apply below_drew1 | refine below_set ?_ GE215.out) | exact HB.out)⟩
 }
 }
 {
 replace c3 := Bool.eq_false_iff.mpr c3
 subst c3
 have H1 : (some false) = some r := by rw [if_neg (show ¬ (false = true) by decide)] at H; exact H
 clear H
 have H := H1
 clear H1
 obtain rfl := Option.some.inj H
 go_enter Try.func85, Try.ntmps85
 go_wp2_with (first | ((with_reducible refine gate_dst (N := 1) rfl ?_); (try (refine gate_guard (by rfl) ?_; dsimp only)); refine box_event ?hg (N := 1) ?hd (cs := #[.string a0_0, .string a0_1, .int .i64 a0_2, .bool a0_3]) (t := 88) ?hr ?_; (case hd => rfl); (case hg => rfl); (case hr => first | (go_simp; done) | (go_simp; rfl)); intro gb215 hg w17 hbox hb; have n0_ := Aside0.mk (below_step z85a hb); have n1_ := Aside0.mk (hbox); have n2_ := Aside0.mk ((by rw [hg]; exact (below_size z85a) : w.heap.size ≤ gb215)); have n3_ := Aside0.mk ((by rw [hg]; exact (below_size z85a) : w.heap.size ≤ gb215)); clear HB; have HB := n0_; have BK215 := n1_; have GW215 := n2_; have GE215 := n3_; clear n0_ n1_ n2_ n3_; clear hb hbox hg; have hcz18_0 : w17.cell? ⟨gb215, 0, none⟩ = some (.string a0_0) := (blk_cell BK215.out 0).trans rfl; have hcz18_1 : w17.cell? ⟨gb215, 1, none⟩ = some (.string a0_1) := (blk_cell BK215.out 1).trans rfl; have hcz18_2 : w17.cell? ⟨gb215, 2, none⟩ = some (.int .i64 a0_2) := (blk_cell BK215.out 2).trans rfl; have hcz18_3 : w17.cell? ⟨gb215, 3, none⟩ = some (.bool a0_3) := (blk_cell BK215.out 3).trans rfl; have hfz18_0 := blk_frozen BK215.out 0; have hfz18_1 := blk_frozen BK215.out 1; have hfz18_2 := blk_frozen BK215.out 2; have hfz18_3 := blk_frozen BK215.out 3) | ((with_reducible refine gate_callee (f := 49) rfl ?_); refine goesL_ (some 6) rfl rfl Try.func49 (by kernel_rfl) rfl #[.int .i64 (a0_0.size : Int), .int .i64 1, .int .i64 40] rfl z85b ?_; (with_reducible refine (impl_within.calls (a0_0.size : Int) 1 40 false _ A2.out).mono ?_); rintro e w' ⟨rfl, ⟨nd, rfl⟩⟩; refine ⟨_, rfl, ?_⟩))
 go_ret
 exact ⟨by first | rfl | (simp [errW_none, errW_some] <;> rfl) | (simp [*, errW_none, errW_some] <;> rfl), by repeat (first | (with_reducible first | exact HB.out | apply below_alloc | apply pw_below_drewN | apply below_drew1 | refine below_set ?_ GE215.out) | exact HB.out)⟩
 
 }
/-! ### cmp_Or_int: function 105 -/
def cmp_Or_int.l0 : Nat → Int → List Int → Int → Int → Option (Int)
 | 0, _, _, _, _ => none
 | k + 1, x3, x6, x7, x8 => if x8 < x7 then (if 0 ≤ x8 then (if x8 < (x6.length : Int) then (if (rd x6 x8) = x3 then (cmp_Or_int.l0 k x3 x6 x7 (wrap64 (x8 + 1))) else (some (rd x6 x8))) else (none)) else (none)) else (some x3)
def cmp_Or_int.f (k : Nat) (l0 : List Int) : Option (Int) := cmp_Or_int.l0 k 0 l0 (l0.length : Int) 0
theorem cmp_Or_int.mono_l : ∀ k, (∀ y0 y1 y2 y3, LeO (cmp_Or_int.l0 k y0 y1 y2 y3) (cmp_Or_int.l0 (k + 1) y0 y1 y2 y3))
 | 0 => fun _ _ _ _ r h => by simp [cmp_Or_int.l0] at h
 | k + 1 => by
  have ih0 := cmp_Or_int.mono_l k
  {
  intro y0 y1 y2 y3
  unfold cmp_Or_int.l0
  repeat' first
  | (with_reducible exact ih0 _ _ _ _)
  | (with_reducible exact LeO.refl _)
  | (with_reducible exact LeO.none _)
  | (with_reducible refine LeO.ite ?_ ?_)
  | (with_reducible refine LeO.bind ?_ (fun _ => ?_))
  | exact ih0 _ _ _ _
  | exact LeO.none _
  | refine LeO.ite ?_ ?_
  | refine LeO.bind ?_ (fun _ => ?_)
  }
theorem cmp_Or_int.mono : ∀ a0 k, LeO (cmp_Or_int.f k a0) (cmp_Or_int.f (k + 1) a0) := by
 intro a0 k
 have ih0 := cmp_Or_int.mono_l k
 unfold cmp_Or_int.f
 repeat' first
   | (with_reducible exact ih0 _ _ _ _)
   | (with_reducible exact LeO.refl _)
   | (with_reducible exact LeO.none _)
   | (with_reducible refine LeO.ite ?_ ?_)
   | (with_reducible refine LeO.bind ?_ (fun _ => ?_))
   | exact ih0 _ _ _ _
   | exact LeO.none _
   | refine LeO.ite ?_ ?_
   | refine LeO.bind ?_ (fun _ => ?_)
set_option maxHeartbeats 8000000 in
set_option maxRecDepth 100000 in
theorem cmp_Or_int.calls (k : Nat) (A0 : Option Addr) (c0 : Nat) (l0 : List Int) (r : Int) (w : World) (hr0 : Kd.C (Kd.int .i64) w A0 l0.length l0) (hc0 : l0.length ≤ c0) (h : cmp_Or_int.f k l0 = some r) :
  Calls Try.prog 105 #[.slice A0 l0.length c0] w fun e w' => e = .returned (.int .i64 r) ∧ Drawn0 w w' := by
 have HR0 := Aside0.mk hr0
 have HC0 := Aside0.mk hc0
 clear hr0 hc0
 have H : (cmp_Or_int.l0 k 0 l0 (l0.length : Int) 0) = some r := h
 clear h
 have H' := Aside0.mk H
 clear H
 go_enter Try.func105, Try.ntmps105
 go_wp2
 go_loopg [8] k (fun kq v8 w' => ∃ (x8_1 : Int), v8 = .int .i64 x8_1 ∧ Aside0 (cmp_Or_int.l0 kq 0 l0 (l0.length : Int) x8_1 = some r) ∧ Aside0 (kq ≤ k) ∧ Drawn0 w w')
 case atStart => exact ⟨(0), (by first | rfl | (simp; done) | (simp [*]; done)), H', ⟨Nat.le_refl _⟩, by repeat (first | exact Drawn0.refl _ | apply Drawn0.step)⟩
 case round =>
  clear H'
  try clear c1
  obtain ⟨x8_1, rfl, HA, HK1, ⟨m1, rfl⟩⟩ := hrel
  cases gk with
  | zero => exact absurd HA.out (by simp [cmp_Or_int.l0])
  | succ k1 =>
   have H := HA.out
   clear HA
   simp only [cmp_Or_int.l0] at H
   by_cases c2 : x8_1 < (l0.length : Int)
   {
   rw [if_pos c2] at H
   have c2b0 : decide (x8_1 < (l0.length : Int)) = true := decide_eq_true c2
   clear c2
   by_cases c3 : 0 ≤ x8_1
   {
   rw [if_pos c3] at H
   have c3b0 : decide (0 ≤ x8_1) = true := decide_eq_true c3
   clear c3
   by_cases c4 : x8_1 < (l0.length : Int)
   {
   rw [if_pos c4] at H
   have c4b0 : decide (x8_1 < (l0.length : Int)) = true := decide_eq_true c4
   clear c4
   by_cases c5 : (rd l0 x8_1) = 0
   {
   rw [if_pos c5] at H
   have c5b0 : ((rd l0 x8_1) == 0) = true := beq_iff_eq.mpr c5
   have c5b1 : ((rd l0 x8_1) != 0) = false := bne_eq_false_iff_eq.mpr c5
   clear c5
   have H' := Aside0.mk H
   clear H
   have p219 : 0 ≤ (x8_1 : Int) := of_decide_eq_true (by first | (with_reducible assumption) | assumption)
   have q219 : x8_1 < (l0.length : Int) := of_decide_eq_true (by first | (with_reducible assumption) | assumption)
   obtain ⟨ad219, e219, hx219_0⟩ := Kd.at_int HR0.out x8_1 p219 q219
   cases e219
   replace p219 := eq_true p219
   replace q219 := eq_true q219
   go_wp2
   go_roundg k1
   case measure => have := HK1.out; omega
   case rel => exact ⟨(wrap64 (x8_1 + 1)), (by first | rfl | (simp; done) | (simp [*]; done)), H', ⟨by have := HK1.out; omega⟩, by repeat (first | exact Drawn0.refl _ | apply Drawn0.step)⟩
   }
   {
   rw [if_neg c5] at H
   have c5b0 : ((rd l0 x8_1) == 0) = false := beq_eq_false_iff_ne.mpr c5
   have c5b1 : ((rd l0 x8_1) != 0) = true := bne_iff_ne.mpr c5
   obtain rfl := Option.some.inj H
   have p219 : 0 ≤ (x8_1 : Int) := of_decide_eq_true (by first | (with_reducible assumption) | assumption)
   have q219 : x8_1 < (l0.length : Int) := of_decide_eq_true (by first | (with_reducible assumption) | assumption)
   obtain ⟨ad219, e219, hx219_0⟩ := Kd.at_int HR0.out x8_1 p219 q219
   cases e219
   replace p219 := eq_true p219
   replace q219 := eq_true q219
   go_wp2
   go_ret
   exact ⟨by first | rfl | (simp; done) | (simp [*]; done), by repeat (first | exact Drawn0.refl _ | apply Drawn0.step)⟩
   }
   }
   {
   rw [if_neg c4] at H
   exact absurd H (by simp)
   }
   }
   {
   rw [if_neg c3] at H
   exact absurd H (by simp)
   }
   }
   {
   rw [if_neg c2] at H
   have c2b0 : decide (x8_1 < (l0.length : Int)) = false := decide_eq_false c2
   clear c2
   obtain rfl := Option.some.inj H
   go_wp2
   go_ret
   exact ⟨by first | rfl | (simp; done) | (simp [*]; done), by repeat (first | exact Drawn0.refl _ | apply Drawn0.step)⟩
   
   }
/-! ### cmp_isNaN_string: function 115 -/
def cmp_isNaN_string.f (a0 : ByteArray) : Option (Bool) := some (a0.toList != a0.toList)
set_option maxHeartbeats 8000000 in
set_option maxRecDepth 100000 in
theorem cmp_isNaN_string.calls (a0 : ByteArray) (r : Bool) (w : World) (h : cmp_isNaN_string.f a0 = some r) :
  Calls Try.prog 115 #[.string a0] w fun e w' => e = .returned (.bool r) ∧ Drawn0 w w' := by
 have H : (some (a0.toList != a0.toList)) = some r := h
 clear h
 obtain rfl := Option.some.inj H
 go_enter Try.func115, Try.ntmps115
 go_wp2
 go_ret
 exact ⟨by first | rfl | (simp; done) | (simp [*]; done), by repeat (first | exact Drawn0.refl _ | apply Drawn0.step)⟩

end Go.Proofs.Ytajidjlbgpaaoaa.PFnExactBottom

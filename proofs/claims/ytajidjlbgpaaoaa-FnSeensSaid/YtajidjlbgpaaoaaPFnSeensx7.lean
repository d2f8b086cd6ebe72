-- by a program of this session (wip/print/run.py) for this claim
import Derived.Test.YtajidjlbgpaaoaaPFnSeensx0
import Derived.Test.YtajidjlbgpaaoaaPFnSeensx2
import Derived.Test.YtajidjlbgpaaoaaPFnSeensx4
import Derived.Test.YtajidjlbgpaaoaaPFnSeensx6
namespace Go.Proofs.Ytajidjlbgpaaoaa.PFnSeens
open Go.RowKit Go.Proofs.YtajidjlbgpaaoaaW.PrintWords Go.Proofs.YtajidjlbgpaaoaaW.PrintLast Go.Proofs.YtajidjlbgpaaoaaW.PrintMore
attribute [local go_sem] max2_int min2_int max_two min_two max_three min_three max_four min_four   -- for this text's walks alone
set_option linter.unusedVariables false
set_option linter.unusedSimpArgs false

/-! ### impl_Seens: function 33 -/
theorem z33a {p_ : Prop} (h_ : p_ := by repeat (first | (with_reducible first | exact HB.out | apply below_alloc | apply pw_below_drewN | apply below_drew1) | exact HB.out)) : p_ := h_
theorem z33b {p_ : Prop} (h_ : p_ := by (try simp only [List.map_toArray, List.map_cons, List.map_nil]); first | done | rfl | (simp only [List.length_drop, List.length_take]; rfl)) : p_ := h_
def impl_Seens.f (k : Nat) (l0 : List (S88)) (l1 : List Int) : Option ((List (S88))) := (impl_EntriesOk.f k l0).bind fun t163 => (if t163 = true then (if (l1.length : Int) > 20 then (some ([] : List (S88))) else ((impl_seens.f l0 l1).bind fun t164 => (some t164))) else (some ([] : List (S88))))
theorem impl_Seens.mono : ∀ a0 a1 k, LeO (impl_Seens.f k a0 a1) (impl_Seens.f (k + 1) a0 a1) := by
 intro a0 a1 k
 unfold impl_Seens.f
 repeat' first
   | (with_reducible exact impl_EntriesOk.mono _ _)
   | (with_reducible exact LeO.refl _)
   | (with_reducible exact LeO.none _)
   | (with_reducible refine LeO.ite ?_ ?_)
   | (with_reducible refine LeO.bind ?_ (fun _ => ?_))
   | exact impl_EntriesOk.mono _ _
   | exact LeO.none _
   | refine LeO.ite ?_ ?_
   | refine LeO.bind ?_ (fun _ => ?_)
set_option maxHeartbeats 8000000 in
set_option maxRecDepth 100000 in
theorem impl_Seens.calls (k : Nat) (A0 : Option Addr) (c0 : Nat) (l0 : List (S88)) (A1 : Option Addr) (c1 : Nat) (l1 : List Int) (r : List (S88)) (w : World) (hr0 : Kd.C k88 w A0 l0.length l0) (hc0 : l0.length ≤ c0) (hr1 : Kd.C (Kd.int .i64) w A1 l1.length l1) (hc1 : l1.length ≤ c1) (h : impl_Seens.f k l0 l1 = some r) :
  Calls Try.prog 33 #[.slice A0 l0.length c0, .slice A1 l1.length c1] w fun e w' => ∃ v0_ : Value, e = .returned (v0_) ∧ Kd.R k88 88 w' w.heap.size (fun _ => True) v0_ r ∧ Below w.heap.size w w' := by
 have HR0 := Aside0.mk hr0
 have HC0 := Aside0.mk hc0
 clear hr0 hc0
 have HR1 := Aside0.mk hr1
 have HC1 := Aside0.mk hc1
 clear hr1 hc1
 have HB := Aside0.mk (Below.refl w.heap.size w)
 have H : ((impl_EntriesOk.f k l0).bind fun t163 => (if t163 = true then (if (l1.length : Int) > 20 then (some ([] : List (S88))) else ((impl_seens.f l0 l1).bind fun t164 => (some t164))) else (some ([] : List (S88))))) = some r := h
 clear h
 replace H := Option.bind_eq_some_iff.mp H
 obtain ⟨t163, A30, H⟩ := H
 replace H : (if t163 = true then (if (l1.length : Int) > 20 then (some ([] : List (S88))) else ((impl_seens.f l0 l1).bind fun t164 => (some t164))) else (some ([] : List (S88)))) = some r := H
 have A3 := Aside0.mk A30
 clear A30
 by_cases c4 : t163 = true
 {
 subst c4
 have H1 : (if (l1.length : Int) > 20 then (some ([] : List (S88))) else ((impl_seens.f l0 l1).bind fun t164 => (some t164))) = some r := by rw [if_pos rfl] at H; exact H
 clear H
 have H := H1
 clear H1
 by_cases c5 : (l1.length : Int) > 20
 {
 rw [if_pos c5] at H
 have c5b0 : decide (20 < (l1.length : Int)) = true := decide_eq_true c5
 have c5b1 : decide (20 < l1.length) = true := decide_eq_true (by omega)
 clear c5
 obtain rfl := Option.some.inj H
 go_enter Try.func33, Try.ntmps33
 go_wp2_with (first | ((with_reducible refine gate_callee (f := 47) rfl ?_); refine goesL_ (some 6) rfl rfl Try.func47 (by kernel_rfl) rfl #[.slice A0 l0.length c0] rfl z33b ?_; (with_reducible refine (impl_EntriesOk.calls k _ _ l0 true _ ?side1 ?side2 A3.out).mono ?_); (case side1 => exact (by repeat (first | exact HR0.out | (with_reducible refine Kd.C_alloc ?_ _) | (with_reducible refine Kd.C_drewN ?_ _) | (with_reducible refine Kd.C_drew ?_)))); (case side2 => exact HC0.out); rintro e w6 ⟨rfl, hb⟩; refine ⟨_, rfl, ?_⟩; have n0_ := Aside0.mk (below_step z33a hb); clear HB; have HB := n0_; clear n0_; (try clear hb); (try clear hb2); (try clear hk); (try clear hi)))
 go_ret
 exact ⟨_, by first | rfl | (simp [errW_none, errW_some] <;> rfl) | (simp [*, errW_none, errW_some] <;> rfl), by first | exact Kd.R_nil _ _ _ _ _ | exact Kd.N_nil _ _ _ _ _ | exact Kd.V_nil _ _ _ _ _ | exact Kd.Q_nil _ _ _ _ _ | exact Kd.S_nil _ _ _ _ _, by repeat (first | (with_reducible first | exact HB.out | apply below_alloc | apply pw_below_drewN | apply below_drew1) | exact HB.out)⟩
 }
 {
 rw [if_neg c5] at H
 have c5b0 : decide (20 < (l1.length : Int)) = false := decide_eq_false c5
 have c5b1 : decide (20 < l1.length) = false := decide_eq_false (by omega)
 clear c5
 replace H := Option.bind_eq_some_iff.mp H
 obtain ⟨t164, A70, H⟩ := H
 replace H : (some t164) = some r := H
 have A7 := Aside0.mk A70
 clear A70
 obtain rfl := Option.some.inj H
 go_enter Try.func33, Try.ntmps33
 go_wp2_with (first | ((with_reducible refine gate_callee (f := 47) rfl ?_); refine goesL_ (some 6) rfl rfl Try.func47 (by kernel_rfl) rfl #[.slice A0 l0.length c0] rfl z33b ?_; (with_reducible refine (impl_EntriesOk.calls k _ _ l0 true _ ?side1 ?side2 A3.out).mono ?_); (case side1 => exact (by repeat (first | exact HR0.out | (with_reducible refine Kd.C_alloc ?_ _) | (with_reducible refine Kd.C_drewN ?_ _) | (with_reducible refine Kd.C_drew ?_)))); (case side2 => exact HC0.out); rintro e w8 ⟨rfl, hb⟩; refine ⟨_, rfl, ?_⟩; have n0_ := Aside0.mk (below_step z33a hb); clear HB; have HB := n0_; clear n0_; (try clear hb); (try clear hb2); (try clear hk); (try clear hi)) | ((with_reducible refine gate_callee (f := 73) rfl ?_); refine goesL_ (some 15) rfl rfl Try.func73 (by kernel_rfl) rfl #[.slice A0 l0.length c0, .slice A1 l1.length c1] rfl z33b ?_; (with_reducible refine (impl_seens.calls _ _ l0 _ _ l1 t164 _ ?side1 ?side2 ?side3 ?side4 A7.out).mono ?_); (case side1 => exact (by repeat (first | exact (Kd.C_below HR0.out HB.out) | (with_reducible refine Kd.C_alloc ?_ _) | (with_reducible refine Kd.C_drewN ?_ _) | (with_reducible refine Kd.C_drew ?_)))); (case side2 => exact HC0.out); (case side3 => exact (by repeat (first | exact (Kd.C_below HR1.out HB.out) | (with_reducible refine Kd.C_alloc ?_ _) | (with_reducible refine Kd.C_drewN ?_ _) | (with_reducible refine Kd.C_drew ?_)))); (case side4 => exact HC1.out); rintro e w9 ⟨v165, rfl, ho0, hb⟩; refine ⟨_, rfl, ?_⟩; have n0_ := Aside0.mk (Kd.R_lower ho0 (below_size z33a)); have n1_ := Aside0.mk (below_step z33a hb); clear HB; have HO166 := n0_; have HB := n1_; clear n0_ n1_; (try clear hb); (try clear hb2); (try clear hk); (try clear hi); (try clear ho0)))
 go_ret
 exact ⟨_, by first | rfl | (simp [errW_none, errW_some] <;> rfl) | (simp [*, errW_none, errW_some] <;> rfl), by (with_reducible repeat (first | apply Kd.R_alloc | apply Kd.R_drewN | apply Kd.R_drew)); exact HO166.out, by repeat (first | (with_reducible first | exact HB.out | apply below_alloc | apply pw_below_drewN | apply below_drew1) | exact HB.out)⟩
 }
 }
 {
 replace c4 := Bool.eq_false_iff.mpr c4
 subst c4
 have H1 : (some ([] : List (S88))) = some r := by rw [if_neg (show ¬ (false = true) by decide)] at H; exact H
 clear H
 have H := H1
 clear H1
 obtain rfl := Option.some.inj H
 go_enter Try.func33, Try.ntmps33
 go_wp2_with (first | ((with_reducible refine gate_callee (f := 47) rfl ?_); refine goesL_ (some 6) rfl rfl Try.func47 (by kernel_rfl) rfl #[.slice A0 l0.length c0] rfl z33b ?_; (with_reducible refine (impl_EntriesOk.calls k _ _ l0 false _ ?side1 ?side2 A3.out).mono ?_); (case side1 => exact (by repeat (first | exact HR0.out | (with_reducible refine Kd.C_alloc ?_ _) | (with_reducible refine Kd.C_drewN ?_ _) | (with_reducible refine Kd.C_drew ?_)))); (case side2 => exact HC0.out); rintro e w10 ⟨rfl, hb⟩; refine ⟨_, rfl, ?_⟩; have n0_ := Aside0.mk (below_step z33a hb); clear HB; have HB := n0_; clear n0_; (try clear hb); (try clear hb2); (try clear hk); (try clear hi)))
 go_ret
 exact ⟨_, by first | rfl | (simp [errW_none, errW_some] <;> rfl) | (simp [*, errW_none, errW_some] <;> rfl), by first | exact Kd.R_nil _ _ _ _ _ | exact Kd.N_nil _ _ _ _ _ | exact Kd.V_nil _ _ _ _ _ | exact Kd.Q_nil _ _ _ _ _ | exact Kd.S_nil _ _ _ _ _, by repeat (first | (with_reducible first | exact HB.out | apply below_alloc | apply pw_below_drewN | apply below_drew1) | exact HB.out)⟩
 
 }
/-! ### spec_l6Bottom: function 76 -/
theorem z76a {p_ : Prop} (h_ : p_ := by repeat (first | (with_reducible first | exact HB.out | apply below_alloc | apply pw_below_drewN | apply below_drew1) | exact HB.out)) : p_ := h_
theorem z76b {p_ : Prop} (h_ : p_ := by (with_reducible repeat (first | apply Kd.R_alloc | apply Kd.R_drewN | apply Kd.R_drew)); exact HO_5.out) : p_ := h_
theorem z76c {p_ : Prop} (h_ : p_ := by (with_reducible repeat (first | apply Kd.R_alloc | apply Kd.R_drewN | apply Kd.R_drew)); exact HO_6.out) : p_ := h_
theorem z76d {p_ : Prop} (h_ : p_ := by repeat (first | exact (Kd.R_reads' HO_6.out).2.2 | (with_reducible refine Kd.C_alloc ?_ _) | (with_reducible refine Kd.C_drewN ?_ _) | (with_reducible refine Kd.C_drew ?_))) : p_ := h_
theorem z76e {p_ : Prop} (h_ : p_ := by first | (with_reducible assumption) | assumption) : p_ := h_
theorem z76f {p_ : Prop} (h_ : p_ := by (with_reducible repeat (first | apply Kd.R_alloc | apply Kd.R_drewN | apply Kd.R_drew)); exact HO169.out) : p_ := h_
def spec_l6Bottom.l0 : Nat → List (S88) → List (S88) → Int → Option ((List (S88)))
 | 0, _, _, _ => none
 | k + 1, x5, x6, x7 => if x7 ≥ 0 then (if (x6.length : Int) = 0 then (if 0 ≤ x7 then (if x7 < (x5.length : Int) then (if ((rd_T88 x5 x7).f3 = true) then (spec_l6Bottom.l0 k x5 x6 (wrap64 (x7 - 1))) else ((some (([(⟨(rd_T88 x5 x7).f0, (rd_T88 x5 x7).f1, (rd_T88 x5 x7).f2, (rd_T88 x5 x7).f3⟩ : S88)] : List (S88)) : List (S88))).bind fun y175 => (if y175.length + x6.length < 2932031007402 then (spec_l6Bottom.l0 k x5 (y175 ++ x6) (wrap64 (x7 - 1))) else (none)))) else (none)) else (none)) else (if 0 < (x6.length : Int) then (if 0 ≤ x7 then (if x7 < (x5.length : Int) then (if (¬ ((rd_T88 x6 0).f0).toList = ((rd_T88 x5 x7).f0).toList) then (if ((rd_T88 x5 x7).f3 = true) then (spec_l6Bottom.l0 k x5 x6 (wrap64 (x7 - 1))) else ((some (([(⟨(rd_T88 x5 x7).f0, (rd_T88 x5 x7).f1, (rd_T88 x5 x7).f2, (rd_T88 x5 x7).f3⟩ : S88)] : List (S88)) : List (S88))).bind fun y185 => (if y185.length + x6.length < 2932031007402 then (spec_l6Bottom.l0 k x5 (y185 ++ x6) (wrap64 (x7 - 1))) else (none)))) else ((some (([(⟨(rd_T88 x5 x7).f0, (rd_T88 x5 x7).f1, (rd_T88 x5 x7).f2, (rd_T88 x5 x7).f3⟩ : S88)] : List (S88)) : List (S88))).bind fun y192 => (if y192.length + x6.length < 2932031007402 then (spec_l6Bottom.l0 k x5 (y192 ++ x6) (wrap64 (x7 - 1))) else (none)))) else (none)) else (none)) else (none))) else (some x6)
def spec_l6Bottom.f (k : Nat) (l0 : List (S88)) (l1 : List Int) : Option ((List (S88))) := (spec_l6Seens.f k l0 l1).bind fun t167 => (spec_l6Bottom.l0 k t167 (([] : List (S88))) (wrap64 ((t167.length : Int) - 1)))
theorem spec_l6Bottom.mono_l : ∀ k, (∀ y0 y1 y2, LeO (spec_l6Bottom.l0 k y0 y1 y2) (spec_l6Bottom.l0 (k + 1) y0 y1 y2))
 | 0 => fun _ _ _ r h => by simp [spec_l6Bottom.l0] at h
 | k + 1 => by
  have ih0 := spec_l6Bottom.mono_l k
  {
  intro y0 y1 y2
  unfold spec_l6Bottom.l0
  repeat' first
  | (with_reducible exact ih0 _ _ _)
  | (with_reducible exact spec_l6Seens.mono _ _ _)
  | (with_reducible exact LeO.refl _)
  | (with_reducible exact LeO.none _)
  | (with_reducible refine LeO.ite ?_ ?_)
  | (with_reducible refine LeO.bind ?_ (fun _ => ?_))
  | exact ih0 _ _ _
  | exact spec_l6Seens.mono _ _ _
  | exact LeO.none _
  | refine LeO.ite ?_ ?_
  | refine LeO.bind ?_ (fun _ => ?_)
  }
theorem spec_l6Bottom.mono : ∀ a0 a1 k, LeO (spec_l6Bottom.f k a0 a1) (spec_l6Bottom.f (k + 1) a0 a1) := by
 intro a0 a1 k
 have ih0 := spec_l6Bottom.mono_l k
 unfold spec_l6Bottom.f
 repeat' first
   | (with_reducible exact ih0 _ _ _)
   | (with_reducible exact spec_l6Seens.mono _ _ _)
   | (with_reducible exact LeO.refl _)
   | (with_reducible exact LeO.none _)
   | (with_reducible refine LeO.ite ?_ ?_)
   | (with_reducible refine LeO.bind ?_ (fun _ => ?_))
   | exact ih0 _ _ _
   | exact spec_l6Seens.mono _ _ _
   | exact LeO.none _
   | refine LeO.ite ?_ ?_
   | refine LeO.bind ?_ (fun _ => ?_)
set_option maxHeartbeats 8000000 in
set_option maxRecDepth 100000 in
theorem spec_l6Bottom.calls (k : Nat) (A0 : Option Addr) (c0 : Nat) (l0 : List (S88)) (A1 : Option Addr) (c1 : Nat) (l1 : List Int) (r : List (S88)) (w : World) (hr0 : Kd.C k88 w A0 l0.length l0) (hc0 : l0.length ≤ c0) (hr1 : Kd.C (Kd.int .i64) w A1 l1.length l1) (hc1 : l1.length ≤ c1) (h : spec_l6Bottom.f k l0 l1 = some r) :
  Calls Try.prog 76 #[.slice A0 l0.length c0, .slice A1 l1.length c1] w fun e w' => ∃ v0_ : Value, e = .returned (v0_) ∧ Kd.R k88 88 w' w.heap.size (fun _ => True) v0_ r ∧ Below w.heap.size w w' := by
 have hu88 := Try.underlying88
 have HR0 := Aside0.mk hr0
 have HC0 := Aside0.mk hc0
 clear hr0 hc0
 have HR1 := Aside0.mk hr1
 have HC1 := Aside0.mk hc1
 clear hr1 hc1
 have HB := Aside0.mk (Below.refl w.heap.size w)
 have H : ((spec_l6Seens.f k l0 l1).bind fun t167 => (spec_l6Bottom.l0 k t167 (([] : List (S88))) (wrap64 ((t167.length : Int) - 1)))) = some r := h
 clear h
 replace H := Option.bind_eq_some_iff.mp H
 obtain ⟨t167, A30, H⟩ := H
 replace H : (spec_l6Bottom.l0 k t167 (([] : List (S88))) (wrap64 ((t167.length : Int) - 1))) = some r := H
 have A3 := Aside0.mk A30
 clear A30
 obtain ⟨y170, hy170⟩ : ∃ y_ : List (S88), y_ = (([] : List (S88))) := ⟨_, rfl⟩
 replace H : (spec_l6Bottom.l0 k t167 y170 (wrap64 ((t167.length : Int) - 1))) = some r := by first | (rw [hy170]; with_reducible exact H) | (have H2_ := (Option.bind_some _ _).symm.trans H; rw [hy170]; with_reducible exact H2_) | (have H2_ := (Option.bind_some _ _).symm.trans H; with_reducible exact H2_) | with_reducible exact H | (rw [hy170]; exact H) | exact H
 have Ny170 := Aside0.mk hy170
 clear hy170
 have H' := Aside0.mk H
 clear H
 go_enter Try.func76, Try.ntmps76
 go_wp2_with (first | (go_at_call 71; (with_reducible refine (spec_l6Seens.calls k _ _ l0 _ _ l1 t167 _ ?side1 ?side2 ?side3 ?side4 A3.out).mono ?_); (case side1 => exact (by repeat (first | exact HR0.out | (with_reducible refine Kd.C_alloc ?_ _) | (with_reducible refine Kd.C_drewN ?_ _) | (with_reducible refine Kd.C_drew ?_)))); (case side2 => exact HC0.out); (case side3 => exact (by repeat (first | exact HR1.out | (with_reducible refine Kd.C_alloc ?_ _) | (with_reducible refine Kd.C_drewN ?_ _) | (with_reducible refine Kd.C_drew ?_)))); (case side4 => exact HC1.out); rintro e w4 ⟨v168, rfl, ho0, hb⟩; have n0_ := Aside0.mk (Kd.R_lower ho0 (below_size z76a)); have n1_ := Aside0.mk (below_step z76a hb); clear HB; have HO169 := n0_; have HB := n1_; clear n0_ n1_; (try clear hb); (try clear hb2); (try clear hk); (try clear hi); (try clear ho0)) | ((with_reducible refine gate_dst (N := 12) rfl ?_); refine Kd.R_lit k88 _ 88 ?hg (N := 12) ?hd (xs := ([] : List (S88))) (inner := []) (ok := fun _ => True) (okp := fun _ => True) ?hr ?hp (fun _ hk => hk) trivial (Below.refl _ _) (Nat.le_refl _) (by simp) ?_; (case hd => rfl); (case hg => rfl); (case hr => first | (go_simp; done) | (go_simp; rfl)); (case hp => exact (Reps.none _ _)); intro v171 w5 ho6 hb hg_ hnew_; clear hg_ hnew_; (first | rw [← Ny170.out] at ho6 | (simp only [Int.reduceToNat] at ho6; rw [← Ny170.out] at ho6)); have n0_ := Aside0.mk (Kd.R_elder' z76f (Kd.R_base ho6) hb); have n1_ := Aside0.mk (Kd.R_lower (Kd.R_new' ho6 (Kd.R_lt z76f)) (below_size z76a)); have n2_ := Aside0.mk (below_step z76a hb); clear HO169; clear HB; have HO169 := n0_; have HO172 := n1_; have HB := n2_; clear n0_ n1_ n2_; clear hb ho6; obtain ⟨Ao7, co7, eo7⟩ := Kd.R_slice HO169.out; subst eo7))
 repeat (go_quiet (first | (go_at_call 71; (with_reducible refine (spec_l6Seens.calls k _ _ l0 _ _ l1 t167 _ ?side1 ?side2 ?side3 ?side4 A3.out).mono ?_); (case side1 => exact (by repeat (first | exact HR0.out | (with_reducible refine Kd.C_alloc ?_ _) | (with_reducible refine Kd.C_drewN ?_ _) | (with_reducible refine Kd.C_drew ?_)))); (case side2 => exact HC0.out); (case side3 => exact (by repeat (first | exact HR1.out | (with_reducible refine Kd.C_alloc ?_ _) | (with_reducible refine Kd.C_drewN ?_ _) | (with_reducible refine Kd.C_drew ?_)))); (case side4 => exact HC1.out); rintro e w4 ⟨v168, rfl, ho0, hb⟩; have n0_ := Aside0.mk (Kd.R_lower ho0 (below_size z76a)); have n1_ := Aside0.mk (below_step z76a hb); clear HB; have HO169 := n0_; have HB := n1_; clear n0_ n1_; (try clear hb); (try clear hb2); (try clear hk); (try clear hi); (try clear ho0)) | ((with_reducible refine gate_dst (N := 12) rfl ?_); refine Kd.R_lit k88 _ 88 ?hg (N := 12) ?hd (xs := ([] : List (S88))) (inner := []) (ok := fun _ => True) (okp := fun _ => True) ?hr ?hp (fun _ hk => hk) trivial (Below.refl _ _) (Nat.le_refl _) (by simp) ?_; (case hd => rfl); (case hg => rfl); (case hr => first | (go_simp; done) | (go_simp; rfl)); (case hp => exact (Reps.none _ _)); intro v171 w5 ho6 hb hg_ hnew_; clear hg_ hnew_; (first | rw [← Ny170.out] at ho6 | (simp only [Int.reduceToNat] at ho6; rw [← Ny170.out] at ho6)); have n0_ := Aside0.mk (Kd.R_elder' z76f (Kd.R_base ho6) hb); have n1_ := Aside0.mk (Kd.R_lower (Kd.R_new' ho6 (Kd.R_lt z76f)) (below_size z76a)); have n2_ := Aside0.mk (below_step z76a hb); clear HO169; clear HB; have HO169 := n0_; have HO172 := n1_; have HB := n2_; clear n0_ n1_ n2_; clear hb ho6; obtain ⟨Ao7, co7, eo7⟩ := Kd.R_slice HO169.out; subst eo7)); try go_wp2_with (first | (go_at_call 71; (with_reducible refine (spec_l6Seens.calls k _ _ l0 _ _ l1 t167 _ ?side1 ?side2 ?side3 ?side4 A3.out).mono ?_); (case side1 => exact (by repeat (first | exact HR0.out | (with_reducible refine Kd.C_alloc ?_ _) | (with_reducible refine Kd.C_drewN ?_ _) | (with_reducible refine Kd.C_drew ?_)))); (case side2 => exact HC0.out); (case side3 => exact (by repeat (first | exact HR1.out | (with_reducible refine Kd.C_alloc ?_ _) | (with_reducible refine Kd.C_drewN ?_ _) | (with_reducible refine Kd.C_drew ?_)))); (case side4 => exact HC1.out); rintro e w4 ⟨v168, rfl, ho0, hb⟩; have n0_ := Aside0.mk (Kd.R_lower ho0 (below_size z76a)); have n1_ := Aside0.mk (below_step z76a hb); clear HB; have HO169 := n0_; have HB := n1_; clear n0_ n1_; (try clear hb); (try clear hb2); (try clear hk); (try clear hi); (try clear ho0)) | ((with_reducible refine gate_dst (N := 12) rfl ?_); refine Kd.R_lit k88 _ 88 ?hg (N := 12) ?hd (xs := ([] : List (S88))) (inner := []) (ok := fun _ => True) (okp := fun _ => True) ?hr ?hp (fun _ hk => hk) trivial (Below.refl _ _) (Nat.le_refl _) (by simp) ?_; (case hd => rfl); (case hg => rfl); (case hr => first | (go_simp; done) | (go_simp; rfl)); (case hp => exact (Reps.none _ _)); intro v171 w5 ho6 hb hg_ hnew_; clear hg_ hnew_; (first | rw [← Ny170.out] at ho6 | (simp only [Int.reduceToNat] at ho6; rw [← Ny170.out] at ho6)); have n0_ := Aside0.mk (Kd.R_elder' z76f (Kd.R_base ho6) hb); have n1_ := Aside0.mk (Kd.R_lower (Kd.R_new' ho6 (Kd.R_lt z76f)) (below_size z76a)); have n2_ := Aside0.mk (below_step z76a hb); clear HO169; clear HB; have HO169 := n0_; have HO172 := n1_; have HB := n2_; clear n0_ n1_ n2_; clear hb ho6; obtain ⟨Ao7, co7, eo7⟩ := Kd.R_slice HO169.out; subst eo7)))
 go_loopg [6, 7] k (fun kq v6 v7 w' => ∃ (x6_1 : List (S88)) (x7_1 : Int), v7 = .int .i64 x7_1 ∧ Aside0 (spec_l6Bottom.l0 kq t167 x6_1 x7_1 = some r) ∧ Aside0 (kq ≤ k) ∧ Aside0 (Kd.R k88 88 w' w.heap.size (fun k_ => some k_ ≠ (v6 : Value).ownBlock) (.slice Ao7 t167.length co7) t167) ∧ Aside0 (Kd.R k88 88 w' w.heap.size (fun k_ => some k_ ≠ ((.slice Ao7 t167.length co7) : Value).ownBlock) v6 x6_1) ∧ Aside0 (Below w.heap.size w w'))
 case atStart => exact ⟨(y170), (wrap64 ((t167.length : Int) - 1)), (by first | rfl | (simp; done) | (simp [*]; done)), H', ⟨Nat.le_refl _⟩, ⟨by (with_reducible repeat (first | apply Kd.R_alloc | apply Kd.R_drewN | apply Kd.R_drew)); exact Kd.R_mono HO169.out (fun _ hk => hk.2)⟩, ⟨by (with_reducible repeat (first | apply Kd.R_alloc | apply Kd.R_drewN | apply Kd.R_drew)); exact Kd.R_mono HO172.out (fun _ hk => hk.2)⟩, ⟨by repeat (first | (with_reducible first | exact HB.out | apply below_alloc | apply pw_below_drewN | apply below_drew1) | exact HB.out)⟩⟩
 case round =>
  clear H'
  try clear c1
  try clear p2
  try clear p6
  try clear c7
  obtain ⟨x6_1, x7_1, rfl, HA, HK1, HO_5, HO_6, HB⟩ := hrel
  cases gk with
  | zero => exact absurd HA.out (by simp [spec_l6Bottom.l0])
  | succ k1 =>
   have H := HA.out
   clear HA
   simp only [spec_l6Bottom.l0] at H
   by_cases c8 : x7_1 ≥ 0
   {
   rw [if_pos c8] at H
   have c8b0 : decide (0 ≤ x7_1) = true := decide_eq_true c8
   clear c8
   by_cases c9 : (x6_1.length : Int) = 0
   {
   rw [if_pos c9] at H
   have c9b0 : ((x6_1.length : Int) == 0) = true := beq_iff_eq.mpr c9
   have c9b1 : ((x6_1.length : Int) != 0) = false := bne_eq_false_iff_eq.mpr c9
   clear c9
   by_cases c10 : 0 ≤ x7_1
   {
   rw [if_pos c10] at H
   have c10b0 : decide (0 ≤ x7_1) = true := decide_eq_true c10
   clear c10
   by_cases c11 : x7_1 < (t167.length : Int)
   {
   rw [if_pos c11] at H
   have c11b0 : decide (x7_1 < (t167.length : Int)) = true := decide_eq_true c11
   clear c11
   obtain ⟨bq12, hbq12⟩ : ∃ b_ : Bool, b_ = ((rd_T88 t167 x7_1).f3) := ⟨_, rfl⟩
   replace H : (if (bq12 = true) then (spec_l6Bottom.l0 k1 t167 x6_1 (wrap64 (x7_1 - 1))) else ((some (([(⟨(rd_T88 t167 x7_1).f0, (rd_T88 t167 x7_1).f1, (rd_T88 t167 x7_1).f2, bq12⟩ : S88)] : List (S88)) : List (S88))).bind fun y175 => (if y175.length + x6_1.length < 2932031007402 then (spec_l6Bottom.l0 k1 t167 (y175 ++ x6_1) (wrap64 (x7_1 - 1))) else (none)))) = some r := by rw [← hbq12] at H; exact H
   have Nbq12 := Aside0.mk hbq12
   clear hbq12
   by_cases c13 : (bq12 = true)
   {
   subst c13
   have H1 : (spec_l6Bottom.l0 k1 t167 x6_1 (wrap64 (x7_1 - 1))) = some r := by rw [if_pos rfl] at H; exact H
   clear H
   have H := H1
   clear H1
   have H' := Aside0.mk H
   clear H
   obtain ⟨Ao14, co14, eo14⟩ := Kd.R_slice HO_6.out
   subst eo14
   have p173 : 0 ≤ (x7_1 : Int) := of_decide_eq_true z76e
   have q173 : x7_1 < (t167.length : Int) := of_decide_eq_true z76e
   obtain ⟨ad173, e173, hx173_0, hx173_1, hx173_2, hx173_3⟩ := at_T88 (Kd.R_reads' HO_5.out).2.2 x7_1 p173 q173
   (try rw [← Nbq12.out] at hx173_3)
   cases e173
   replace p173 := eq_true p173
   replace q173 := eq_true q173
   go_wp2
   repeat (go_quiet (fail); try go_wp2)
   go_roundg k1
   case measure => have := HK1.out; omega
   case rel => exact ⟨(x6_1), (wrap64 (x7_1 - 1)), (by first | rfl | (simp; done) | (simp [*]; done)), H', ⟨by have := HK1.out; omega⟩, ⟨by (with_reducible repeat (first | apply Kd.R_alloc | apply Kd.R_drewN | apply Kd.R_drew)); exact HO_5.out⟩, ⟨by (with_reducible repeat (first | apply Kd.R_alloc | apply Kd.R_drewN | apply Kd.R_drew)); exact HO_6.out⟩, ⟨by repeat (first | (with_reducible first | exact HB.out | apply below_alloc | apply pw_below_drewN | apply below_drew1) | exact HB.out)⟩⟩
   }
   {
   replace c13 := Bool.eq_false_iff.mpr c13
   subst c13
   have H1 : ((some (([(⟨(rd_T88 t167 x7_1).f0, (rd_T88 t167 x7_1).f1, (rd_T88 t167 x7_1).f2, false⟩ : S88)] : List (S88)) : List (S88))).bind fun y175 => (if y175.length + x6_1.length < 2932031007402 then (spec_l6Bottom.l0 k1 t167 (y175 ++ x6_1) (wrap64 (x7_1 - 1))) else (none))) = some r := by rw [if_neg (show ¬ (false = true) by decide)] at H; exact H
   clear H
   have H := H1
   clear H1
   obtain ⟨y175, hy175⟩ : ∃ y_ : List (S88), y_ = (([(⟨(rd_T88 t167 x7_1).f0, (rd_T88 t167 x7_1).f1, (rd_T88 t167 x7_1).f2, false⟩ : S88)] : List (S88))) := ⟨_, rfl⟩
   replace H : (if y175.length + x6_1.length < 2932031007402 then (spec_l6Bottom.l0 k1 t167 (y175 ++ x6_1) (wrap64 (x7_1 - 1))) else (none)) = some r := by first | (rw [hy175]; with_reducible exact H) | (have H2_ := (Option.bind_some _ _).symm.trans H; rw [hy175]; with_reducible exact H2_) | (have H2_ := (Option.bind_some _ _).symm.trans H; with_reducible exact H2_) | with_reducible exact H | (rw [hy175]; exact H) | exact H
   have Ny175 := Aside0.mk hy175
   clear hy175
   by_cases c15 : y175.length + x6_1.length < 2932031007402
   {
   rw [if_pos c15] at H
   have LMc15 := Aside0.mk c15
   clear c15
   obtain ⟨y178, hy178⟩ : ∃ y_ : List (S88), y_ = (y175 ++ x6_1) := ⟨_, rfl⟩
   replace H : (spec_l6Bottom.l0 k1 t167 y178 (wrap64 (x7_1 - 1))) = some r := by first | (rw [hy178]; with_reducible exact H) | (have H2_ := (Option.bind_some _ _).symm.trans H; rw [hy178]; with_reducible exact H2_) | (have H2_ := (Option.bind_some _ _).symm.trans H; with_reducible exact H2_) | with_reducible exact H | (rw [hy178]; exact H) | exact H
   have Ny178 := Aside0.mk hy178
   clear hy178
   have H' := Aside0.mk H
   clear H
   obtain ⟨Ao16, co16, eo16⟩ := Kd.R_slice HO_6.out
   subst eo16
   have p173 : 0 ≤ (x7_1 : Int) := of_decide_eq_true z76e
   have q173 : x7_1 < (t167.length : Int) := of_decide_eq_true z76e
   obtain ⟨ad173, e173, hx173_0, hx173_1, hx173_2, hx173_3⟩ := at_T88 (Kd.R_reads' HO_5.out).2.2 x7_1 p173 q173
   (try rw [← Nbq12.out] at hx173_3)
   cases e173
   replace p173 := eq_true p173
   replace q173 := eq_true q173
   have p174 : 0 ≤ (x7_1 : Int) := of_decide_eq_true z76e
   have q174 : x7_1 < (t167.length : Int) := of_decide_eq_true z76e
   obtain ⟨ad174, e174, hx174_0, hx174_1, hx174_2, hx174_3⟩ := at_T88 (Kd.R_reads' HO_5.out).2.2 x7_1 p174 q174
   (try rw [← Nbq12.out] at hx174_3)
   obtain rfl : ad173 = ad174 := (by injection e174)
   replace p174 := eq_true p174
   replace q174 := eq_true q174
   go_wp2_with (first | ((with_reducible refine gate_dst (N := 49) rfl ?_); refine Kd.R_lit k88 _ 88 ?hg (N := 49) ?hd (xs := ([(⟨(rd_T88 t167 x7_1).f0, (rd_T88 t167 x7_1).f1, (rd_T88 t167 x7_1).f2, false⟩ : S88)] : List (S88))) (inner := [.string ((rd_T88 t167 x7_1).f0), .string ((rd_T88 t167 x7_1).f1), .int .i64 ((rd_T88 t167 x7_1).f2), .bool false]) (ok := fun _ => True) (okp := fun _ => True) ?hr ?hp (fun _ hk => hk) trivial (Below.refl _ _) (Nat.le_refl _) (by simp) ?_; (case hd => rfl); (case hg => rfl); (case hr => first | (go_simp; done) | (go_simp; rfl)); (case hp => exact (Reps.c4 (show Kd.M k88 _ _ _ (⟨(rd_T88 t167 x7_1).f0, (rd_T88 t167 x7_1).f1, (rd_T88 t167 x7_1).f2, false⟩ : S88) [.string ((rd_T88 t167 x7_1).f0), .string ((rd_T88 t167 x7_1).f1), .int .i64 ((rd_T88 t167 x7_1).f2), .bool false] from (k88_mkM _ _ _ (⟨(rd_T88 t167 x7_1).f0, (rd_T88 t167 x7_1).f1, (rd_T88 t167 x7_1).f2, false⟩ : S88) )) (Reps.none _ _))); intro v176 w17 ho18 hb hg_ hnew_; clear hg_ hnew_; (first | rw [← Ny175.out] at ho18 | (simp only [Int.reduceToNat] at ho18; rw [← Ny175.out] at ho18)); have n0_ := Aside0.mk (Kd.R_elder' z76b (Kd.R_base ho18) hb); have n1_ := Aside0.mk (Kd.R_elder' z76c (Kd.R_base ho18) hb); have n2_ := Aside0.mk (Kd.R_lower (Kd.R_new' (Kd.R_new' ho18 (Kd.R_lt z76b)) (Kd.R_lt z76c)) (below_size z76a)); have n3_ := Aside0.mk (below_step z76a hb); clear HO_5; clear HO_6; clear HB; have HO_5 := n0_; have HO_6 := n1_; have HO177 := n2_; have HB := n3_; clear n0_ n1_ n2_ n3_; clear hb ho18) | ((with_reducible refine gate_builtin (b := .append) (xs := #[.tmp 49, .tmp 50]) rfl ?_); at_builtin; refine Kd.R_append_rows k88 (w0 := w) w.heap.size rfl (.tmp 49) (.tmp 50) 50 88 (.agg #[(.string ⟨#[]⟩), (.string ⟨#[]⟩), (.int .i64 0), (.bool false)]) 48 rfl Try.underlying50 info88 rfl (by decide) (by omega) v176 y175 x6_1 _ _ _ (fun k_ => some k_ ≠ (.slice (some ad173) t167.length co7 : Value).ownBlock ∧ some k_ ≠ (.slice Ao16 x6_1.length co16 : Value).ownBlock) (fun _ => False) rfl rfl ?aO ?aR (fun _ _ h => h) (fun _ h => h.elim) ?aF ?aB ?aS ?aL ?_; (case aR => exact z76d); (case aB => exact z76a); (case aF => exact (fun k_ hk => ⟨Kd.fresh' (Kd.R_lt z76b) k_ hk, Kd.fresh' (Kd.R_lt z76c) k_ hk⟩)); (case aO => exact (by (with_reducible repeat (first | apply Kd.R_alloc | apply Kd.R_drewN | apply Kd.R_drew)); exact Kd.R_mono HO177.out (fun _ hk => ⟨hk.1.2, hk.2⟩))); (case aS => exact (below_size z76a)); (case aL => have := LMc15.out; omega); intro v179 w19 ho hb hg hat; rw [← Ny178.out] at ho; have n0_ := Aside0.mk (Kd.R_after (ok := (fun k_ => some k_ ≠ (.slice Ao16 x6_1.length co16 : Value).ownBlock)) z76b hg hat); have n1_ := Aside0.mk (Kd.R_after (ok := (fun k_ => some k_ ≠ (.slice (some ad173) t167.length co7 : Value).ownBlock)) z76c hg hat); have n2_ := Aside0.mk (hb); have n3_ := Aside0.mk (ho); clear HO_5; clear HO_6; clear HB; clear HO177; have HO_5 := n0_; have HO_6 := n1_; have HB := n2_; have HO180 := n3_; clear n0_ n1_ n2_ n3_; clear ho hb hg hat))
   repeat (go_quiet (first | ((with_reducible refine gate_dst (N := 49) rfl ?_); refine Kd.R_lit k88 _ 88 ?hg (N := 49) ?hd (xs := ([(⟨(rd_T88 t167 x7_1).f0, (rd_T88 t167 x7_1).f1, (rd_T88 t167 x7_1).f2, false⟩ : S88)] : List (S88))) (inner := [.string ((rd_T88 t167 x7_1).f0), .string ((rd_T88 t167 x7_1).f1), .int .i64 ((rd_T88 t167 x7_1).f2), .bool false]) (ok := fun _ => True) (okp := fun _ => True) ?hr ?hp (fun _ hk => hk) trivial (Below.refl _ _) (Nat.le_refl _) (by simp) ?_; (case hd => rfl); (case hg => rfl); (case hr => first | (go_simp; done) | (go_simp; rfl)); (case hp => exact (Reps.c4 (show Kd.M k88 _ _ _ (⟨(rd_T88 t167 x7_1).f0, (rd_T88 t167 x7_1).f1, (rd_T88 t167 x7_1).f2, false⟩ : S88) [.string ((rd_T88 t167 x7_1).f0), .string ((rd_T88 t167 x7_1).f1), .int .i64 ((rd_T88 t167 x7_1).f2), .bool false] from (k88_mkM _ _ _ (⟨(rd_T88 t167 x7_1).f0, (rd_T88 t167 x7_1).f1, (rd_T88 t167 x7_1).f2, false⟩ : S88) )) (Reps.none _ _))); intro v176 w17 ho18 hb hg_ hnew_; clear hg_ hnew_; (first | rw [← Ny175.out] at ho18 | (simp only [Int.reduceToNat] at ho18; rw [← Ny175.out] at ho18)); have n0_ := Aside0.mk (Kd.R_elder' z76b (Kd.R_base ho18) hb); have n1_ := Aside0.mk (Kd.R_elder' z76c (Kd.R_base ho18) hb); have n2_ := Aside0.mk (Kd.R_lower (Kd.R_new' (Kd.R_new' ho18 (Kd.R_lt z76b)) (Kd.R_lt z76c)) (below_size z76a)); have n3_ := Aside0.mk (below_step z76a hb); clear HO_5; clear HO_6; clear HB; have HO_5 := n0_; have HO_6 := n1_; have HO177 := n2_; have HB := n3_; clear n0_ n1_ n2_ n3_; clear hb ho18) | ((with_reducible refine gate_builtin (b := .append) (xs := #[.tmp 49, .tmp 50]) rfl ?_); at_builtin; refine Kd.R_append_rows k88 (w0 := w) w.heap.size rfl (.tmp 49) (.tmp 50) 50 88 (.agg #[(.string ⟨#[]⟩), (.string ⟨#[]⟩), (.int .i64 0), (.bool false)]) 48 rfl Try.underlying50 info88 rfl (by decide) (by omega) v176 y175 x6_1 _ _ _ (fun k_ => some k_ ≠ (.slice (some ad173) t167.length co7 : Value).ownBlock ∧ some k_ ≠ (.slice Ao16 x6_1.length co16 : Value).ownBlock) (fun _ => False) rfl rfl ?aO ?aR (fun _ _ h => h) (fun _ h => h.elim) ?aF ?aB ?aS ?aL ?_; (case aR => exact z76d); (case aB => exact z76a); (case aF => exact (fun k_ hk => ⟨Kd.fresh' (Kd.R_lt z76b) k_ hk, Kd.fresh' (Kd.R_lt z76c) k_ hk⟩)); (case aO => exact (by (with_reducible repeat (first | apply Kd.R_alloc | apply Kd.R_drewN | apply Kd.R_drew)); exact Kd.R_mono HO177.out (fun _ hk => ⟨hk.1.2, hk.2⟩))); (case aS => exact (below_size z76a)); (case aL => have := LMc15.out; omega); intro v179 w19 ho hb hg hat; rw [← Ny178.out] at ho; have n0_ := Aside0.mk (Kd.R_after (ok := (fun k_ => some k_ ≠ (.slice Ao16 x6_1.length co16 : Value).ownBlock)) z76b hg hat); have n1_ := Aside0.mk (Kd.R_after (ok := (fun k_ => some k_ ≠ (.slice (some ad173) t167.length co7 : Value).ownBlock)) z76c hg hat); have n2_ := Aside0.mk (hb); have n3_ := Aside0.mk (ho); clear HO_5; clear HO_6; clear HB; clear HO177; have HO_5 := n0_; have HO_6 := n1_; have HB := n2_; have HO180 := n3_; clear n0_ n1_ n2_ n3_; clear ho hb hg hat)); try go_wp2_with (first | ((with_reducible refine gate_dst (N := 49) rfl ?_); refine Kd.R_lit k88 _ 88 ?hg (N := 49) ?hd (xs := ([(⟨(rd_T88 t167 x7_1).f0, (rd_T88 t167 x7_1).f1, (rd_T88 t167 x7_1).f2, false⟩ : S88)] : List (S88))) (inner := [.string ((rd_T88 t167 x7_1).f0), .string ((rd_T88 t167 x7_1).f1), .int .i64 ((rd_T88 t167 x7_1).f2), .bool false]) (ok := fun _ => True) (okp := fun _ => True) ?hr ?hp (fun _ hk => hk) trivial (Below.refl _ _) (Nat.le_refl _) (by simp) ?_; (case hd => rfl); (case hg => rfl); (case hr => first | (go_simp; done) | (go_simp; rfl)); (case hp => exact (Reps.c4 (show Kd.M k88 _ _ _ (⟨(rd_T88 t167 x7_1).f0, (rd_T88 t167 x7_1).f1, (rd_T88 t167 x7_1).f2, false⟩ : S88) [.string ((rd_T88 t167 x7_1).f0), .string ((rd_T88 t167 x7_1).f1), .int .i64 ((rd_T88 t167 x7_1).f2), .bool false] from (k88_mkM _ _ _ (⟨(rd_T88 t167 x7_1).f0, (rd_T88 t167 x7_1).f1, (rd_T88 t167 x7_1).f2, false⟩ : S88) )) (Reps.none _ _))); intro v176 w17 ho18 hb hg_ hnew_; clear hg_ hnew_; (first | rw [← Ny175.out] at ho18 | (simp only [Int.reduceToNat] at ho18; rw [← Ny175.out] at ho18)); have n0_ := Aside0.mk (Kd.R_elder' z76b (Kd.R_base ho18) hb); have n1_ := Aside0.mk (Kd.R_elder' z76c (Kd.R_base ho18) hb); have n2_ := Aside0.mk (Kd.R_lower (Kd.R_new' (Kd.R_new' ho18 (Kd.R_lt z76b)) (Kd.R_lt z76c)) (below_size z76a)); have n3_ := Aside0.mk (below_step z76a hb); clear HO_5; clear HO_6; clear HB; have HO_5 := n0_; have HO_6 := n1_; have HO177 := n2_; have HB := n3_; clear n0_ n1_ n2_ n3_; clear hb ho18) | ((with_reducible refine gate_builtin (b := .append) (xs := #[.tmp 49, .tmp 50]) rfl ?_); at_builtin; refine Kd.R_append_rows k88 (w0 := w) w.heap.size rfl (.tmp 49) (.tmp 50) 50 88 (.agg #[(.string ⟨#[]⟩), (.string ⟨#[]⟩), (.int .i64 0), (.bool false)]) 48 rfl Try.underlying50 info88 rfl (by decide) (by omega) v176 y175 x6_1 _ _ _ (fun k_ => some k_ ≠ (.slice (some ad173) t167.length co7 : Value).ownBlock ∧ some k_ ≠ (.slice Ao16 x6_1.length co16 : Value).ownBlock) (fun _ => False) rfl rfl ?aO ?aR (fun _ _ h => h) (fun _ h => h.elim) ?aF ?aB ?aS ?aL ?_; (case aR => exact z76d); (case aB => exact z76a); (case aF => exact (fun k_ hk => ⟨Kd.fresh' (Kd.R_lt z76b) k_ hk, Kd.fresh' (Kd.R_lt z76c) k_ hk⟩)); (case aO => exact (by (with_reducible repeat (first | apply Kd.R_alloc | apply Kd.R_drewN | apply Kd.R_drew)); exact Kd.R_mono HO177.out (fun _ hk => ⟨hk.1.2, hk.2⟩))); (case aS => exact (below_size z76a)); (case aL => have := LMc15.out; omega); intro v179 w19 ho hb hg hat; rw [← Ny178.out] at ho; have n0_ := Aside0.mk (Kd.R_after (ok := (fun k_ => some k_ ≠ (.slice Ao16 x6_1.length co16 : Value).ownBlock)) z76b hg hat); have n1_ := Aside0.mk (Kd.R_after (ok := (fun k_ => some k_ ≠ (.slice (some ad173) t167.length co7 : Value).ownBlock)) z76c hg hat); have n2_ := Aside0.mk (hb); have n3_ := Aside0.mk (ho); clear HO_5; clear HO_6; clear HB; clear HO177; have HO_5 := n0_; have HO_6 := n1_; have HB := n2_; have HO180 := n3_; clear n0_ n1_ n2_ n3_; clear ho hb hg hat)))
   go_roundg k1
   case measure => have := HK1.out; omega
   case rel => exact ⟨(y178), (wrap64 (x7_1 - 1)), (by first | rfl | (simp; done) | (simp [*]; done)), H', ⟨by have := HK1.out; omega⟩, ⟨by (with_reducible repeat (first | apply Kd.R_alloc | apply Kd.R_drewN | apply Kd.R_drew)); exact Kd.R_mono HO_5.out (fun _ hk => hk.2)⟩, ⟨by (with_reducible repeat (first | apply Kd.R_alloc | apply Kd.R_drewN | apply Kd.R_drew)); exact Kd.R_mono HO180.out (fun _ hk => hk.1)⟩, ⟨by repeat (first | (with_reducible first | exact HB.out | apply below_alloc | apply pw_below_drewN | apply below_drew1) | exact HB.out)⟩⟩
   }
   {
   rw [if_neg c15] at H
   exact absurd H (by simp)
   }
   }
   }
   {
   rw [if_neg c11] at H
   exact absurd H (by simp)
   }
   }
   {
   rw [if_neg c10] at H
   exact absurd H (by simp)
   }
   }
   {
   rw [if_neg c9] at H
   have c9b0 : ((x6_1.length : Int) == 0) = false := beq_eq_false_iff_ne.mpr c9
   have c9b1 : ((x6_1.length : Int) != 0) = true := bne_iff_ne.mpr c9
   have c9b2 : ¬ (x6_1 = []) := fun h_ => c9 (by rw [h_]; rfl)
   by_cases c20 : 0 < (x6_1.length : Int)
   {
   rw [if_pos c20] at H
   have c20b0 : decide (0 < (x6_1.length : Int)) = true := decide_eq_true c20
   have c20b1 : decide (0 < x6_1.length) = true := decide_eq_true (by omega)
   clear c20
   by_cases c21 : 0 ≤ x7_1
   {
   rw [if_pos c21] at H
   have c21b0 : decide (0 ≤ x7_1) = true := decide_eq_true c21
   clear c21
   by_cases c22 : x7_1 < (t167.length : Int)
   {
   rw [if_pos c22] at H
   have c22b0 : decide (x7_1 < (t167.length : Int)) = true := decide_eq_true c22
   clear c22
   by_cases c23 : (¬ ((rd_T88 x6_1 0).f0).toList = ((rd_T88 t167 x7_1).f0).toList)
   {
   rw [if_pos c23] at H
   have c23b0 : (((rd_T88 x6_1 0).f0).toList == ((rd_T88 t167 x7_1).f0).toList) = false := beq_eq_false_iff_ne.mpr c23
   have c23b1 : (((rd_T88 x6_1 0).f0).toList != ((rd_T88 t167 x7_1).f0).toList) = true := bne_iff_ne.mpr c23
   clear c23
   obtain ⟨bq24, hbq24⟩ : ∃ b_ : Bool, b_ = ((rd_T88 t167 x7_1).f3) := ⟨_, rfl⟩
   replace H : (if (bq24 = true) then (spec_l6Bottom.l0 k1 t167 x6_1 (wrap64 (x7_1 - 1))) else ((some (([(⟨(rd_T88 t167 x7_1).f0, (rd_T88 t167 x7_1).f1, (rd_T88 t167 x7_1).f2, bq24⟩ : S88)] : List (S88)) : List (S88))).bind fun y185 => (if y185.length + x6_1.length < 2932031007402 then (spec_l6Bottom.l0 k1 t167 (y185 ++ x6_1) (wrap64 (x7_1 - 1))) else (none)))) = some r := by rw [← hbq24] at H; exact H
   have Nbq24 := Aside0.mk hbq24
   clear hbq24
   by_cases c25 : (bq24 = true)
   {
   subst c25
   have H1 : (spec_l6Bottom.l0 k1 t167 x6_1 (wrap64 (x7_1 - 1))) = some r := by rw [if_pos rfl] at H; exact H
   clear H
   have H := H1
   clear H1
   have H' := Aside0.mk H
   clear H
   obtain ⟨Ao26, co26, eo26⟩ := Kd.R_slice HO_6.out
   subst eo26
   have p181 : 0 ≤ (0 : Int) := (by omega)
   have q181 : 0 < (x6_1.length : Int) := of_decide_eq_true z76e
   obtain ⟨ad181, e181, hx181_0, hx181_1, hx181_2, hx181_3⟩ := at_T88 (Kd.R_reads' HO_6.out).2.2 0 p181 q181
   (try rw [← Nbq24.out] at hx181_3)
   cases e181
   have qi181 : (0 < x6_1.length) = True := eq_true (by omega)
   (try rw [show ((0 : Int)).toNat = 0 from rfl] at hx181_0)
   (try rw [show 0 * 4 = 0 from rfl] at hx181_0)
   (try rw [Addr.add_zero'] at hx181_0)
   (try rw [show ((0 : Int)).toNat = 0 from rfl] at hx181_1)
   (try rw [show 0 * 4 = 0 from rfl] at hx181_1)
   (try rw [Addr.add_zero'] at hx181_1)
   (try rw [show ((0 : Int)).toNat = 0 from rfl] at hx181_2)
   (try rw [show 0 * 4 = 0 from rfl] at hx181_2)
   (try rw [Addr.add_zero'] at hx181_2)
   (try rw [show ((0 : Int)).toNat = 0 from rfl] at hx181_3)
   (try rw [show 0 * 4 = 0 from rfl] at hx181_3)
   (try rw [Addr.add_zero'] at hx181_3)
   replace p181 := eq_true p181
   replace q181 := eq_true q181
   have p182 : 0 ≤ (x7_1 : Int) := of_decide_eq_true z76e
   have q182 : x7_1 < (t167.length : Int) := of_decide_eq_true z76e
   obtain ⟨ad182, e182, hx182_0, hx182_1, hx182_2, hx182_3⟩ := at_T88 (Kd.R_reads' HO_5.out).2.2 x7_1 p182 q182
   (try rw [← Nbq24.out] at hx182_3)
   cases e182
   replace p182 := eq_true p182
   replace q182 := eq_true q182
   have p183 : 0 ≤ (x7_1 : Int) := of_decide_eq_true z76e
   have q183 : x7_1 < (t167.length : Int) := of_decide_eq_true z76e
   obtain ⟨ad183, e183, hx183_0, hx183_1, hx183_2, hx183_3⟩ := at_T88 (Kd.R_reads' HO_5.out).2.2 x7_1 p183 q183
   (try rw [← Nbq24.out] at hx183_3)
   obtain rfl : ad182 = ad183 := (by injection e183)
   replace p183 := eq_true p183
   replace q183 := eq_true q183
   go_wp2
   repeat (go_quiet (fail); try go_wp2)
   go_roundg k1
   case measure => have := HK1.out; omega
   case rel => exact ⟨(x6_1), (wrap64 (x7_1 - 1)), (by first | rfl | (simp; done) | (simp [*]; done)), H', ⟨by have := HK1.out; omega⟩, ⟨by (with_reducible repeat (first | apply Kd.R_alloc | apply Kd.R_drewN | apply Kd.R_drew)); exact HO_5.out⟩, ⟨by (with_reducible repeat (first | apply Kd.R_alloc | apply Kd.R_drewN | apply Kd.R_drew)); exact HO_6.out⟩, ⟨by repeat (first | (with_reducible first | exact HB.out | apply below_alloc | apply pw_below_drewN | apply below_drew1) | exact HB.out)⟩⟩
   }
   {
   replace c25 := Bool.eq_false_iff.mpr c25
   subst c25
   have H1 : ((some (([(⟨(rd_T88 t167 x7_1).f0, (rd_T88 t167 x7_1).f1, (rd_T88 t167 x7_1).f2, false⟩ : S88)] : List (S88)) : List (S88))).bind fun y185 => (if y185.length + x6_1.length < 2932031007402 then (spec_l6Bottom.l0 k1 t167 (y185 ++ x6_1) (wrap64 (x7_1 - 1))) else (none))) = some r := by rw [if_neg (show ¬ (false = true) by decide)] at H; exact H
   clear H
   have H := H1
   clear H1
   obtain ⟨y185, hy185⟩ : ∃ y_ : List (S88), y_ = (([(⟨(rd_T88 t167 x7_1).f0, (rd_T88 t167 x7_1).f1, (rd_T88 t167 x7_1).f2, false⟩ : S88)] : List (S88))) := ⟨_, rfl⟩
   replace H : (if y185.length + x6_1.length < 2932031007402 then (spec_l6Bottom.l0 k1 t167 (y185 ++ x6_1) (wrap64 (x7_1 - 1))) else (none)) = some r := by first | (rw [hy185]; with_reducible exact H) | (have H2_ := (Option.bind_some _ _).symm.trans H; rw [hy185]; with_reducible exact H2_) | (have H2_ := (Option.bind_some _ _).symm.trans H; with_reducible exact H2_) | with_reducible exact H | (rw [hy185]; exact H) | exact H
   have Ny185 := Aside0.mk hy185
   clear hy185
   by_cases c27 : y185.length + x6_1.length < 2932031007402
   {
   rw [if_pos c27] at H
   have LMc27 := Aside0.mk c27
   clear c27
   obtain ⟨y188, hy188⟩ : ∃ y_ : List (S88), y_ = (y185 ++ x6_1) := ⟨_, rfl⟩
   replace H : (spec_l6Bottom.l0 k1 t167 y188 (wrap64 (x7_1 - 1))) = some r := by first | (rw [hy188]; with_reducible exact H) | (have H2_ := (Option.bind_some _ _).symm.trans H; rw [hy188]; with_reducible exact H2_) | (have H2_ := (Option.bind_some _ _).symm.trans H; with_reducible exact H2_) | with_reducible exact H | (rw [hy188]; exact H) | exact H
   have Ny188 := Aside0.mk hy188
   clear hy188
   have H' := Aside0.mk H
   clear H
   obtain ⟨Ao28, co28, eo28⟩ := Kd.R_slice HO_6.out
   subst eo28
   have p181 : 0 ≤ (0 : Int) := (by omega)
   have q181 : 0 < (x6_1.length : Int) := of_decide_eq_true z76e
   obtain ⟨ad181, e181, hx181_0, hx181_1, hx181_2, hx181_3⟩ := at_T88 (Kd.R_reads' HO_6.out).2.2 0 p181 q181
   (try rw [← Nbq24.out] at hx181_3)
   cases e181
   have qi181 : (0 < x6_1.length) = True := eq_true (by omega)
   (try rw [show ((0 : Int)).toNat = 0 from rfl] at hx181_0)
   (try rw [show 0 * 4 = 0 from rfl] at hx181_0)
   (try rw [Addr.add_zero'] at hx181_0)
   (try rw [show ((0 : Int)).toNat = 0 from rfl] at hx181_1)
   (try rw [show 0 * 4 = 0 from rfl] at hx181_1)
   (try rw [Addr.add_zero'] at hx181_1)
   (try rw [show ((0 : Int)).toNat = 0 from rfl] at hx181_2)
   (try rw [show 0 * 4 = 0 from rfl] at hx181_2)
   (try rw [Addr.add_zero'] at hx181_2)
   (try rw [show ((0 : Int)).toNat = 0 from rfl] at hx181_3)
   (try rw [show 0 * 4 = 0 from rfl] at hx181_3)
   (try rw [Addr.add_zero'] at hx181_3)
   replace p181 := eq_true p181
   replace q181 := eq_true q181
   have p182 : 0 ≤ (x7_1 : Int) := of_decide_eq_true z76e
   have q182 : x7_1 < (t167.length : Int) := of_decide_eq_true z76e
   obtain ⟨ad182, e182, hx182_0, hx182_1, hx182_2, hx182_3⟩ := at_T88 (Kd.R_reads' HO_5.out).2.2 x7_1 p182 q182
   (try rw [← Nbq24.out] at hx182_3)
   cases e182
   replace p182 := eq_true p182
   replace q182 := eq_true q182
   have p183 : 0 ≤ (x7_1 : Int) := of_decide_eq_true z76e
   have q183 : x7_1 < (t167.length : Int) := of_decide_eq_true z76e
   obtain ⟨ad183, e183, hx183_0, hx183_1, hx183_2, hx183_3⟩ := at_T88 (Kd.R_reads' HO_5.out).2.2 x7_1 p183 q183
   (try rw [← Nbq24.out] at hx183_3)
   obtain rfl : ad182 = ad183 := (by injection e183)
   replace p183 := eq_true p183
   replace q183 := eq_true q183
   have p184 : 0 ≤ (x7_1 : Int) := of_decide_eq_true z76e
   have q184 : x7_1 < (t167.length : Int) := of_decide_eq_true z76e
   obtain ⟨ad184, e184, hx184_0, hx184_1, hx184_2, hx184_3⟩ := at_T88 (Kd.R_reads' HO_5.out).2.2 x7_1 p184 q184
   (try rw [← Nbq24.out] at hx184_3)
   obtain rfl : ad182 = ad184 := (by injection e184)
   replace p184 := eq_true p184
   replace q184 := eq_true q184
   go_wp2_with (first | ((with_reducible refine gate_dst (N := 49) rfl ?_); refine Kd.R_lit k88 _ 88 ?hg (N := 49) ?hd (xs := ([(⟨(rd_T88 t167 x7_1).f0, (rd_T88 t167 x7_1).f1, (rd_T88 t167 x7_1).f2, false⟩ : S88)] : List (S88))) (inner := [.string ((rd_T88 t167 x7_1).f0), .string ((rd_T88 t167 x7_1).f1), .int .i64 ((rd_T88 t167 x7_1).f2), .bool false]) (ok := fun _ => True) (okp := fun _ => True) ?hr ?hp (fun _ hk => hk) trivial (Below.refl _ _) (Nat.le_refl _) (by simp) ?_; (case hd => rfl); (case hg => rfl); (case hr => first | (go_simp; done) | (go_simp; rfl)); (case hp => exact (Reps.c4 (show Kd.M k88 _ _ _ (⟨(rd_T88 t167 x7_1).f0, (rd_T88 t167 x7_1).f1, (rd_T88 t167 x7_1).f2, false⟩ : S88) [.string ((rd_T88 t167 x7_1).f0), .string ((rd_T88 t167 x7_1).f1), .int .i64 ((rd_T88 t167 x7_1).f2), .bool false] from (k88_mkM _ _ _ (⟨(rd_T88 t167 x7_1).f0, (rd_T88 t167 x7_1).f1, (rd_T88 t167 x7_1).f2, false⟩ : S88) )) (Reps.none _ _))); intro v186 w29 ho30 hb hg_ hnew_; clear hg_ hnew_; (first | rw [← Ny185.out] at ho30 | (simp only [Int.reduceToNat] at ho30; rw [← Ny185.out] at ho30)); have n0_ := Aside0.mk (Kd.R_elder' z76b (Kd.R_base ho30) hb); have n1_ := Aside0.mk (Kd.R_elder' z76c (Kd.R_base ho30) hb); have n2_ := Aside0.mk (Kd.R_lower (Kd.R_new' (Kd.R_new' ho30 (Kd.R_lt z76b)) (Kd.R_lt z76c)) (below_size z76a)); have n3_ := Aside0.mk (below_step z76a hb); clear HO_5; clear HO_6; clear HB; have HO_5 := n0_; have HO_6 := n1_; have HO187 := n2_; have HB := n3_; clear n0_ n1_ n2_ n3_; clear hb ho30) | ((with_reducible refine gate_builtin (b := .append) (xs := #[.tmp 49, .tmp 50]) rfl ?_); at_builtin; refine Kd.R_append_rows k88 (w0 := w) w.heap.size rfl (.tmp 49) (.tmp 50) 50 88 (.agg #[(.string ⟨#[]⟩), (.string ⟨#[]⟩), (.int .i64 0), (.bool false)]) 48 rfl Try.underlying50 info88 rfl (by decide) (by omega) v186 y185 x6_1 _ _ _ (fun k_ => some k_ ≠ (.slice (some ad182) t167.length co7 : Value).ownBlock ∧ some k_ ≠ (.slice (some ad181) x6_1.length co28 : Value).ownBlock) (fun _ => False) rfl rfl ?aO ?aR (fun _ _ h => h) (fun _ h => h.elim) ?aF ?aB ?aS ?aL ?_; (case aR => exact z76d); (case aB => exact z76a); (case aF => exact (fun k_ hk => ⟨Kd.fresh' (Kd.R_lt z76b) k_ hk, Kd.fresh' (Kd.R_lt z76c) k_ hk⟩)); (case aO => exact (by (with_reducible repeat (first | apply Kd.R_alloc | apply Kd.R_drewN | apply Kd.R_drew)); exact Kd.R_mono HO187.out (fun _ hk => ⟨hk.1.2, hk.2⟩))); (case aS => exact (below_size z76a)); (case aL => have := LMc27.out; omega); intro v189 w31 ho hb hg hat; rw [← Ny188.out] at ho; have n0_ := Aside0.mk (Kd.R_after (ok := (fun k_ => some k_ ≠ (.slice (some ad181) x6_1.length co28 : Value).ownBlock)) z76b hg hat); have n1_ := Aside0.mk (Kd.R_after (ok := (fun k_ => some k_ ≠ (.slice (some ad182) t167.length co7 : Value).ownBlock)) z76c hg hat); have n2_ := Aside0.mk (hb); have n3_ := Aside0.mk (ho); clear HO_5; clear HO_6; clear HB; clear HO187; have HO_5 := n0_; have HO_6 := n1_; have HB := n2_; have HO190 := n3_; clear n0_ n1_ n2_ n3_; clear ho hb hg hat))
   repeat (go_quiet (first | ((with_reducible refine gate_dst (N := 49) rfl ?_); refine Kd.R_lit k88 _ 88 ?hg (N := 49) ?hd (xs := ([(⟨(rd_T88 t167 x7_1).f0, (rd_T88 t167 x7_1).f1, (rd_T88 t167 x7_1).f2, false⟩ : S88)] : List (S88))) (inner := [.string ((rd_T88 t167 x7_1).f0), .string ((rd_T88 t167 x7_1).f1), .int .i64 ((rd_T88 t167 x7_1).f2), .bool false]) (ok := fun _ => True) (okp := fun _ => True) ?hr ?hp (fun _ hk => hk) trivial (Below.refl _ _) (Nat.le_refl _) (by simp) ?_; (case hd => rfl); (case hg => rfl); (case hr => first | (go_simp; done) | (go_simp; rfl)); (case hp => exact (Reps.c4 (show Kd.M k88 _ _ _ (⟨(rd_T88 t167 x7_1).f0, (rd_T88 t167 x7_1).f1, (rd_T88 t167 x7_1).f2, false⟩ : S88) [.string ((rd_T88 t167 x7_1).f0), .string ((rd_T88 t167 x7_1).f1), .int .i64 ((rd_T88 t167 x7_1).f2), .bool false] from (k88_mkM _ _ _ (⟨(rd_T88 t167 x7_1).f0, (rd_T88 t167 x7_1).f1, (rd_T88 t167 x7_1).f2, false⟩ : S88) )) (Reps.none _ _))); intro v186 w29 ho30 hb hg_ hnew_; clear hg_ hnew_; (first | rw [← Ny185.out] at ho30 | (simp only [Int.reduceToNat] at ho30; rw [← Ny185.out] at ho30)); have n0_ := Aside0.mk (Kd.R_elder' z76b (Kd.R_base ho30) hb); have n1_ := Aside0.mk (Kd.R_elder' z76c (Kd.R_base ho30) hb); have n2_ := Aside0.mk (Kd.R_lower (Kd.R_new' (Kd.R_new' ho30 (Kd.R_lt z76b)) (Kd.R_lt z76c)) (below_size z76a)); have n3_ := Aside0.mk (below_step z76a hb); clear HO_5; clear HO_6; clear HB; have HO_5 := n0_; have HO_6 := n1_; have HO187 := n2_; have HB := n3_; clear n0_ n1_ n2_ n3_; clear hb ho30) | ((with_reducible refine gate_builtin (b := .append) (xs := #[.tmp 49, .tmp 50]) rfl ?_); at_builtin; refine Kd.R_append_rows k88 (w0 := w) w.heap.size rfl (.tmp 49) (.tmp 50) 50 88 (.agg #[(.string ⟨#[]⟩), (.string ⟨#[]⟩), (.int .i64 0), (.bool false)]) 48 rfl Try.underlying50 info88 rfl (by decide) (by omega) v186 y185 x6_1 _ _ _ (fun k_ => some k_ ≠ (.slice (some ad182) t167.length co7 : Value).ownBlock ∧ some k_ ≠ (.slice (some ad181) x6_1.length co28 : Value).ownBlock) (fun _ => False) rfl rfl ?aO ?aR (fun _ _ h => h) (fun _ h => h.elim) ?aF ?aB ?aS ?aL ?_; (case aR => exact z76d); (case aB => exact z76a); (case aF => exact (fun k_ hk => ⟨Kd.fresh' (Kd.R_lt z76b) k_ hk, Kd.fresh' (Kd.R_lt z76c) k_ hk⟩)); (case aO => exact (by (with_reducible repeat (first | apply Kd.R_alloc | apply Kd.R_drewN | apply Kd.R_drew)); exact Kd.R_mono HO187.out (fun _ hk => ⟨hk.1.2, hk.2⟩))); (case aS => exact (below_size z76a)); (case aL => have := LMc27.out; omega); intro v189 w31 ho hb hg hat; rw [← Ny188.out] at ho; have n0_ := Aside0.mk (Kd.R_after (ok := (fun k_ => some k_ ≠ (.slice (some ad181) x6_1.length co28 : Value).ownBlock)) z76b hg hat); have n1_ := Aside0.mk (Kd.R_after (ok := (fun k_ => some k_ ≠ (.slice (some ad182) t167.length co7 : Value).ownBlock)) z76c hg hat); have n2_ := Aside0.mk (hb); have n3_ := Aside0.mk (ho); clear HO_5; clear HO_6; clear HB; clear HO187; have HO_5 := n0_; have HO_6 := n1_; have HB := n2_; have HO190 := n3_; clear n0_ n1_ n2_ n3_; clear ho hb hg hat)); try go_wp2_with (first | ((with_reducible refine gate_dst (N := 49) rfl ?_); refine Kd.R_lit k88 _ 88 ?hg (N := 49) ?hd (xs := ([(⟨(rd_T88 t167 x7_1).f0, (rd_T88 t167 x7_1).f1, (rd_T88 t167 x7_1).f2, false⟩ : S88)] : List (S88))) (inner := [.string ((rd_T88 t167 x7_1).f0), .string ((rd_T88 t167 x7_1).f1), .int .i64 ((rd_T88 t167 x7_1).f2), .bool false]) (ok := fun _ => True) (okp := fun _ => True) ?hr ?hp (fun _ hk => hk) trivial (Below.refl _ _) (Nat.le_refl _) (by simp) ?_; (case hd => rfl); (case hg => rfl); (case hr => first | (go_simp; done) | (go_simp; rfl)); (case hp => exact (Reps.c4 (show Kd.M k88 _ _ _ (⟨(rd_T88 t167 x7_1).f0, (rd_T88 t167 x7_1).f1, (rd_T88 t167 x7_1).f2, false⟩ : S88) [.string ((rd_T88 t167 x7_1).f0), .string ((rd_T88 t167 x7_1).f1), .int .i64 ((rd_T88 t167 x7_1).f2), .bool false] from (k88_mkM _ _ _ (⟨(rd_T88 t167 x7_1).f0, (rd_T88 t167 x7_1).f1, (rd_T88 t167 x7_1).f2, false⟩ : S88) )) (Reps.none _ _))); intro v186 w29 ho30 hb hg_ hnew_; clear hg_ hnew_; (first | rw [← Ny185.out] at ho30 | (simp only [Int.reduceToNat] at ho30; rw [← Ny185.out] at ho30)); have n0_ := Aside0.mk (Kd.R_elder' z76b (Kd.R_base ho30) hb); have n1_ := Aside0.mk (Kd.R_elder' z76c (Kd.R_base ho30) hb); have n2_ := Aside0.mk (Kd.R_lower (Kd.R_new' (Kd.R_new' ho30 (Kd.R_lt z76b)) (Kd.R_lt z76c)) (below_size z76a)); have n3_ := Aside0.mk (below_step z76a hb); clear HO_5; clear HO_6; clear HB; have HO_5 := n0_; have HO_6 := n1_; have HO187 := n2_; have HB := n3_; clear n0_ n1_ n2_ n3_; clear hb ho30) | ((with_reducible refine gate_builtin (b := .append) (xs := #[.tmp 49, .tmp 50]) rfl ?_); at_builtin; refine Kd.R_append_rows k88 (w0 := w) w.heap.size rfl (.tmp 49) (.tmp 50) 50 88 (.agg #[(.string ⟨#[]⟩), (.string ⟨#[]⟩), (.int .i64 0), (.bool false)]) 48 rfl Try.underlying50 info88 rfl (by decide) (by omega) v186 y185 x6_1 _ _ _ (fun k_ => some k_ ≠ (.slice (some ad182) t167.length co7 : Value).ownBlock ∧ some k_ ≠ (.slice (some ad181) x6_1.length co28 : Value).ownBlock) (fun _ => False) rfl rfl ?aO ?aR (fun _ _ h => h) (fun _ h => h.elim) ?aF ?aB ?aS ?aL ?_; (case aR => exact z76d); (case aB => exact z76a); (case aF => exact (fun k_ hk => ⟨Kd.fresh' (Kd.R_lt z76b) k_ hk, Kd.fresh' (Kd.R_lt z76c) k_ hk⟩)); (case aO => exact (by (with_reducible repeat (first | apply Kd.R_alloc | apply Kd.R_drewN | apply Kd.R_drew)); exact Kd.R_mono HO187.out (fun _ hk => ⟨hk.1.2, hk.2⟩))); (case aS => exact (below_size z76a)); (case aL => have := LMc27.out; omega); intro v189 w31 ho hb hg hat; rw [← Ny188.out] at ho; have n0_ := Aside0.mk (Kd.R_after (ok := (fun k_ => some k_ ≠ (.slice (some ad181) x6_1.length co28 : Value).ownBlock)) z76b hg hat); have n1_ := Aside0.mk (Kd.R_after (ok := (fun k_ => some k_ ≠ (.slice (some ad182) t167.length co7 : Value).ownBlock)) z76c hg hat); have n2_ := Aside0.mk (hb); have n3_ := Aside0.mk (ho); clear HO_5; clear HO_6; clear HB; clear HO187; have HO_5 := n0_; have HO_6 := n1_; have HB := n2_; have HO190 := n3_; clear n0_ n1_ n2_ n3_; clear ho hb hg hat)))
   go_roundg k1
   case measure => have := HK1.out; omega
   case rel => exact ⟨(y188), (wrap64 (x7_1 - 1)), (by first | rfl | (simp; done) | (simp [*]; done)), H', ⟨by have := HK1.out; omega⟩, ⟨by (with_reducible repeat (first | apply Kd.R_alloc | apply Kd.R_drewN | apply Kd.R_drew)); exact Kd.R_mono HO_5.out (fun _ hk => hk.2)⟩, ⟨by (with_reducible repeat (first | apply Kd.R_alloc | apply Kd.R_drewN | apply Kd.R_drew)); exact Kd.R_mono HO190.out (fun _ hk => hk.1)⟩, ⟨by repeat (first | (with_reducible first | exact HB.out | apply below_alloc | apply pw_below_drewN | apply below_drew1) | exact HB.out)⟩⟩
   }
   {
   rw [if_neg c27] at H
   exact absurd H (by simp)
   }
   }
   }
   {
   rw [if_neg c23] at H
   have c23b0 : (((rd_T88 x6_1 0).f0).toList == ((rd_T88 t167 x7_1).f0).toList) = true := beq_iff_eq.mpr (Decidable.not_not.mp c23)
   have c23b1 : (((rd_T88 x6_1 0).f0).toList != ((rd_T88 t167 x7_1).f0).toList) = false := bne_eq_false_iff_eq.mpr (Decidable.not_not.mp c23)
   obtain ⟨y192, hy192⟩ : ∃ y_ : List (S88), y_ = (([(⟨(rd_T88 t167 x7_1).f0, (rd_T88 t167 x7_1).f1, (rd_T88 t167 x7_1).f2, (rd_T88 t167 x7_1).f3⟩ : S88)] : List (S88))) := ⟨_, rfl⟩
   replace H : (if y192.length + x6_1.length < 2932031007402 then (spec_l6Bottom.l0 k1 t167 (y192 ++ x6_1) (wrap64 (x7_1 - 1))) else (none)) = some r := by first | (rw [hy192]; with_reducible exact H) | (have H2_ := (Option.bind_some _ _).symm.trans H; rw [hy192]; with_reducible exact H2_) | (have H2_ := (Option.bind_some _ _).symm.trans H; with_reducible exact H2_) | with_reducible exact H | (rw [hy192]; exact H) | exact H
   have Ny192 := Aside0.mk hy192
   clear hy192
   by_cases c32 : y192.length + x6_1.length < 2932031007402
   {
   rw [if_pos c32] at H
   have LMc32 := Aside0.mk c32
   clear c32
   obtain ⟨y195, hy195⟩ : ∃ y_ : List (S88), y_ = (y192 ++ x6_1) := ⟨_, rfl⟩
   replace H : (spec_l6Bottom.l0 k1 t167 y195 (wrap64 (x7_1 - 1))) = some r := by first | (rw [hy195]; with_reducible exact H) | (have H2_ := (Option.bind_some _ _).symm.trans H; rw [hy195]; with_reducible exact H2_) | (have H2_ := (Option.bind_some _ _).symm.trans H; with_reducible exact H2_) | with_reducible exact H | (rw [hy195]; exact H) | exact H
   have Ny195 := Aside0.mk hy195
   clear hy195
   have H' := Aside0.mk H
   clear H
   obtain ⟨Ao33, co33, eo33⟩ := Kd.R_slice HO_6.out
   subst eo33
   have p181 : 0 ≤ (0 : Int) := (by omega)
   have q181 : 0 < (x6_1.length : Int) := of_decide_eq_true z76e
   obtain ⟨ad181, e181, hx181_0, hx181_1, hx181_2, hx181_3⟩ := at_T88 (Kd.R_reads' HO_6.out).2.2 0 p181 q181
   cases e181
   have qi181 : (0 < x6_1.length) = True := eq_true (by omega)
   (try rw [show ((0 : Int)).toNat = 0 from rfl] at hx181_0)
   (try rw [show 0 * 4 = 0 from rfl] at hx181_0)
   (try rw [Addr.add_zero'] at hx181_0)
   (try rw [show ((0 : Int)).toNat = 0 from rfl] at hx181_1)
   (try rw [show 0 * 4 = 0 from rfl] at hx181_1)
   (try rw [Addr.add_zero'] at hx181_1)
   (try rw [show ((0 : Int)).toNat = 0 from rfl] at hx181_2)
   (try rw [show 0 * 4 = 0 from rfl] at hx181_2)
   (try rw [Addr.add_zero'] at hx181_2)
   (try rw [show ((0 : Int)).toNat = 0 from rfl] at hx181_3)
   (try rw [show 0 * 4 = 0 from rfl] at hx181_3)
   (try rw [Addr.add_zero'] at hx181_3)
   replace p181 := eq_true p181
   replace q181 := eq_true q181
   have p182 : 0 ≤ (x7_1 : Int) := of_decide_eq_true z76e
   have q182 : x7_1 < (t167.length : Int) := of_decide_eq_true z76e
   obtain ⟨ad182, e182, hx182_0, hx182_1, hx182_2, hx182_3⟩ := at_T88 (Kd.R_reads' HO_5.out).2.2 x7_1 p182 q182
   cases e182
   replace p182 := eq_true p182
   replace q182 := eq_true q182
   have p191 : 0 ≤ (x7_1 : Int) := of_decide_eq_true z76e
   have q191 : x7_1 < (t167.length : Int) := of_decide_eq_true z76e
   obtain ⟨ad191, e191, hx191_0, hx191_1, hx191_2, hx191_3⟩ := at_T88 (Kd.R_reads' HO_5.out).2.2 x7_1 p191 q191
   obtain rfl : ad182 = ad191 := (by injection e191)
   replace p191 := eq_true p191
   replace q191 := eq_true q191
   go_wp2_with (first | ((with_reducible refine gate_dst (N := 49) rfl ?_); refine Kd.R_lit k88 _ 88 ?hg (N := 49) ?hd (xs := ([(⟨(rd_T88 t167 x7_1).f0, (rd_T88 t167 x7_1).f1, (rd_T88 t167 x7_1).f2, (rd_T88 t167 x7_1).f3⟩ : S88)] : List (S88))) (inner := [.string ((rd_T88 t167 x7_1).f0), .string ((rd_T88 t167 x7_1).f1), .int .i64 ((rd_T88 t167 x7_1).f2), .bool ((rd_T88 t167 x7_1).f3)]) (ok := fun _ => True) (okp := fun _ => True) ?hr ?hp (fun _ hk => hk) trivial (Below.refl _ _) (Nat.le_refl _) (by simp) ?_; (case hd => rfl); (case hg => rfl); (case hr => first | (go_simp; done) | (go_simp; rfl)); (case hp => exact (Reps.c4 (show Kd.M k88 _ _ _ (⟨(rd_T88 t167 x7_1).f0, (rd_T88 t167 x7_1).f1, (rd_T88 t167 x7_1).f2, (rd_T88 t167 x7_1).f3⟩ : S88) [.string ((rd_T88 t167 x7_1).f0), .string ((rd_T88 t167 x7_1).f1), .int .i64 ((rd_T88 t167 x7_1).f2), .bool ((rd_T88 t167 x7_1).f3)] from (k88_mkM _ _ _ (⟨(rd_T88 t167 x7_1).f0, (rd_T88 t167 x7_1).f1, (rd_T88 t167 x7_1).f2, (rd_T88 t167 x7_1).f3⟩ : S88) )) (Reps.none _ _))); intro v193 w34 ho35 hb hg_ hnew_; clear hg_ hnew_; (first | rw [← Ny192.out] at ho35 | (simp only [Int.reduceToNat] at ho35; rw [← Ny192.out] at ho35)); have n0_ := Aside0.mk (Kd.R_elder' z76b (Kd.R_base ho35) hb); have n1_ := Aside0.mk (Kd.R_elder' z76c (Kd.R_base ho35) hb); have n2_ := Aside0.mk (Kd.R_lower (Kd.R_new' (Kd.R_new' ho35 (Kd.R_lt z76b)) (Kd.R_lt z76c)) (below_size z76a)); have n3_ := Aside0.mk (below_step z76a hb); clear HO_5; clear HO_6; clear HB; have HO_5 := n0_; have HO_6 := n1_; have HO194 := n2_; have HB := n3_; clear n0_ n1_ n2_ n3_; clear hb ho35) | ((with_reducible refine gate_builtin (b := .append) (xs := #[.tmp 49, .tmp 50]) rfl ?_); at_builtin; refine Kd.R_append_rows k88 (w0 := w) w.heap.size rfl (.tmp 49) (.tmp 50) 50 88 (.agg #[(.string ⟨#[]⟩), (.string ⟨#[]⟩), (.int .i64 0), (.bool false)]) 48 rfl Try.underlying50 info88 rfl (by decide) (by omega) v193 y192 x6_1 _ _ _ (fun k_ => some k_ ≠ (.slice (some ad182) t167.length co7 : Value).ownBlock ∧ some k_ ≠ (.slice (some ad181) x6_1.length co33 : Value).ownBlock) (fun _ => False) rfl rfl ?aO ?aR (fun _ _ h => h) (fun _ h => h.elim) ?aF ?aB ?aS ?aL ?_; (case aR => exact z76d); (case aB => exact z76a); (case aF => exact (fun k_ hk => ⟨Kd.fresh' (Kd.R_lt z76b) k_ hk, Kd.fresh' (Kd.R_lt z76c) k_ hk⟩)); (case aO => exact (by (with_reducible repeat (first | apply Kd.R_alloc | apply Kd.R_drewN | apply Kd.R_drew)); exact Kd.R_mono HO194.out (fun _ hk => ⟨hk.1.2, hk.2⟩))); (case aS => exact (below_size z76a)); (case aL => have := LMc32.out; omega); intro v196 w36 ho hb hg hat; rw [← Ny195.out] at ho; have n0_ := Aside0.mk (Kd.R_after (ok := (fun k_ => some k_ ≠ (.slice (some ad181) x6_1.length co33 : Value).ownBlock)) z76b hg hat); have n1_ := Aside0.mk (Kd.R_after (ok := (fun k_ => some k_ ≠ (.slice (some ad182) t167.length co7 : Value).ownBlock)) z76c hg hat); have n2_ := Aside0.mk (hb); have n3_ := Aside0.mk (ho); clear HO_5; clear HO_6; clear HB; clear HO194; have HO_5 := n0_; have HO_6 := n1_; have HB := n2_; have HO197 := n3_; clear n0_ n1_ n2_ n3_; clear ho hb hg hat))
   repeat (go_quiet (first | ((with_reducible refine gate_dst (N := 49) rfl ?_); refine Kd.R_lit k88 _ 88 ?hg (N := 49) ?hd (xs := ([(⟨(rd_T88 t167 x7_1).f0, (rd_T88 t167 x7_1).f1, (rd_T88 t167 x7_1).f2, (rd_T88 t167 x7_1).f3⟩ : S88)] : List (S88))) (inner := [.string ((rd_T88 t167 x7_1).f0), .string ((rd_T88 t167 x7_1).f1), .int .i64 ((rd_T88 t167 x7_1).f2), .bool ((rd_T88 t167 x7_1).f3)]) (ok := fun _ => True) (okp := fun _ => True) ?hr ?hp (fun _ hk => hk) trivial (Below.refl _ _) (Nat.le_refl _) (by simp) ?_; (case hd => rfl); (case hg => rfl); (case hr => first | (go_simp; done) | (go_simp; rfl)); (case hp => exact (Reps.c4 (show Kd.M k88 _ _ _ (⟨(rd_T88 t167 x7_1).f0, (rd_T88 t167 x7_1).f1, (rd_T88 t167 x7_1).f2, (rd_T88 t167 x7_1).f3⟩ : S88) [.string ((rd_T88 t167 x7_1).f0), .string ((rd_T88 t167 x7_1).f1), .int .i64 ((rd_T88 t167 x7_1).f2), .bool ((rd_T88 t167 x7_1).f3)] from (k88_mkM _ _ _ (⟨(rd_T88 t167 x7_1).f0, (rd_T88 t167 x7_1).f1, (rd_T88 t167 x7_1).f2, (rd_T88 t167 x7_1).f3⟩ : S88) )) (Reps.none _ _))); intro v193 w34 ho35 hb hg_ hnew_; clear hg_ hnew_; (first | rw [← Ny192.out] at ho35 | (simp only [Int.reduceToNat] at ho35; rw [← Ny192.out] at ho35)); have n0_ := Aside0.mk (Kd.R_elder' z76b (Kd.R_base ho35) hb); have n1_ := Aside0.mk (Kd.R_elder' z76c (Kd.R_base ho35) hb); have n2_ := Aside0.mk (Kd.R_lower (Kd.R_new' (Kd.R_new' ho35 (Kd.R_lt z76b)) (Kd.R_lt z76c)) (below_size z76a)); have n3_ := Aside0.mk (below_step z76a hb); clear HO_5; clear HO_6; clear HB; have HO_5 := n0_; have HO_6 := n1_; have HO194 := n2_; have HB := n3_; clear n0_ n1_ n2_ n3_; clear hb ho35) | ((with_reducible refine gate_builtin (b := .append) (xs := #[.tmp 49, .tmp 50]) rfl ?_); at_builtin; refine Kd.R_append_rows k88 (w0 := w) w.heap.size rfl (.tmp 49) (.tmp 50) 50 88 (.agg #[(.string ⟨#[]⟩), (.string ⟨#[]⟩), (.int .i64 0), (.bool false)]) 48 rfl Try.underlying50 info88 rfl (by decide) (by omega) v193 y192 x6_1 _ _ _ (fun k_ => some k_ ≠ (.slice (some ad182) t167.length co7 : Value).ownBlock ∧ some k_ ≠ (.slice (some ad181) x6_1.length co33 : Value).ownBlock) (fun _ => False) rfl rfl ?aO ?aR (fun _ _ h => h) (fun _ h => h.elim) ?aF ?aB ?aS ?aL ?_; (case aR => exact z76d); (case aB => exact z76a); (case aF => exact (fun k_ hk => ⟨Kd.fresh' (Kd.R_lt z76b) k_ hk, Kd.fresh' (Kd.R_lt z76c) k_ hk⟩)); (case aO => exact (by (with_reducible repeat (first | apply Kd.R_alloc | apply Kd.R_drewN | apply Kd.R_drew)); exact Kd.R_mono HO194.out (fun _ hk => ⟨hk.1.2, hk.2⟩))); (case aS => exact (below_size z76a)); (case aL => have := LMc32.out; omega); intro v196 w36 ho hb hg hat; rw [← Ny195.out] at ho; have n0_ := Aside0.mk (Kd.R_after (ok := (fun k_ => some k_ ≠ (.slice (some ad181) x6_1.length co33 : Value).ownBlock)) z76b hg hat); have n1_ := Aside0.mk (Kd.R_after (ok := (fun k_ => some k_ ≠ (.slice (some ad182) t167.length co7 : Value).ownBlock)) z76c hg hat); have n2_ := Aside0.mk (hb); have n3_ := Aside0.mk (ho); clear HO_5; clear HO_6; clear HB; clear HO194; have HO_5 := n0_; have HO_6 := n1_; have HB := n2_; have HO197 := n3_; clear n0_ n1_ n2_ n3_; clear ho hb hg hat)); try go_wp2_with (first | ((with_reducible refine gate_dst (N := 49) rfl ?_); refine Kd.R_lit k88 _ 88 ?hg (N := 49) ?hd (xs := ([(⟨(rd_T88 t167 x7_1).f0, (rd_T88 t167 x7_1).f1, (rd_T88 t167 x7_1).f2, (rd_T88 t167 x7_1).f3⟩ : S88)] : List (S88))) (inner := [.string ((rd_T88 t167 x7_1).f0), .string ((rd_T88 t167 x7_1).f1), .int .i64 ((rd_T88 t167 x7_1).f2), .bool ((rd_T88 t167 x7_1).f3)]) (ok := fun _ => True) (okp := fun _ => True) ?hr ?hp (fun _ hk => hk) trivial (Below.refl _ _) (Nat.le_refl _) (by simp) ?_; (case hd => rfl); (case hg => rfl); (case hr => first | (go_simp; done) | (go_simp; rfl)); (case hp => exact (Reps.c4 (show Kd.M k88 _ _ _ (⟨(rd_T88 t167 x7_1).f0, (rd_T88 t167 x7_1).f1, (rd_T88 t167 x7_1).f2, (rd_T88 t167 x7_1).f3⟩ : S88) [.string ((rd_T88 t167 x7_1).f0), .string ((rd_T88 t167 x7_1).f1), .int .i64 ((rd_T88 t167 x7_1).f2), .bool ((rd_T88 t167 x7_1).f3)] from (k88_mkM _ _ _ (⟨(rd_T88 t167 x7_1).f0, (rd_T88 t167 x7_1).f1, (rd_T88 t167 x7_1).f2, (rd_T88 t167 x7_1).f3⟩ : S88) )) (Reps.none _ _))); intro v193 w34 ho35 hb hg_ hnew_; clear hg_ hnew_; (first | rw [← Ny192.out] at ho35 | (simp only [Int.reduceToNat] at ho35; rw [← Ny192.out] at ho35)); have n0_ := Aside0.mk (Kd.R_elder' z76b (Kd.R_base ho35) hb); have n1_ := Aside0.mk (Kd.R_elder' z76c (Kd.R_base ho35) hb); have n2_ := Aside0.mk (Kd.R_lower (Kd.R_new' (Kd.R_new' ho35 (Kd.R_lt z76b)) (Kd.R_lt z76c)) (below_size z76a)); have n3_ := Aside0.mk (below_step z76a hb); clear HO_5; clear HO_6; clear HB; have HO_5 := n0_; have HO_6 := n1_; have HO194 := n2_; have HB := n3_; clear n0_ n1_ n2_ n3_; clear hb ho35) | ((with_reducible refine gate_builtin (b := .append) (xs := #[.tmp 49, .tmp 50]) rfl ?_); at_builtin; refine Kd.R_append_rows k88 (w0 := w) w.heap.size rfl (.tmp 49) (.tmp 50) 50 88 (.agg #[(.string ⟨#[]⟩), (.string ⟨#[]⟩), (.int .i64 0), (.bool false)]) 48 rfl Try.underlying50 info88 rfl (by decide) (by omega) v193 y192 x6_1 _ _ _ (fun k_ => some k_ ≠ (.slice (some ad182) t167.length co7 : Value).ownBlock ∧ some k_ ≠ (.slice (some ad181) x6_1.length co33 : Value).ownBlock) (fun _ => False) rfl rfl ?aO ?aR (fun _ _ h => h) (fun _ h => h.elim) ?aF ?aB ?aS ?aL ?_; (case aR => exact z76d); (case aB => exact z76a); (case aF => exact (fun k_ hk => ⟨Kd.fresh' (Kd.R_lt z76b) k_ hk, Kd.fresh' (Kd.R_lt z76c) k_ hk⟩)); (case aO => exact (by (with_reducible repeat (first | apply Kd.R_alloc | apply Kd.R_drewN | apply Kd.R_drew)); exact Kd.R_mono HO194.out (fun _ hk => ⟨hk.1.2, hk.2⟩))); (case aS => exact (below_size z76a)); (case aL => have := LMc32.out; omega); intro v196 w36 ho hb hg hat; rw [← Ny195.out] at ho; have n0_ := Aside0.mk (Kd.R_after (ok := (fun k_ => some k_ ≠ (.slice (some ad181) x6_1.length co33 : Value).ownBlock)) z76b hg hat); have n1_ := Aside0.mk (Kd.R_after (ok := (fun k_ => some k_ ≠ (.slice (some ad182) t167.length co7 : Value).ownBlock)) z76c hg hat); have n2_ := Aside0.mk (hb); have n3_ := Aside0.mk (ho); clear HO_5; clear HO_6; clear HB; clear HO194; have HO_5 := n0_; have HO_6 := n1_; have HB := n2_; have HO197 := n3_; clear n0_ n1_ n2_ n3_; clear ho hb hg hat)))
   go_roundg k1
   case measure => have := HK1.out; omega
   case rel => exact ⟨(y195), (wrap64 (x7_1 - 1)), (by first | rfl | (simp; done) | (simp [*]; done)), H', ⟨by have := HK1.out; omega⟩, ⟨by (with_reducible repeat (first | apply Kd.R_alloc | apply Kd.R_drewN | apply Kd.R_drew)); exact Kd.R_mono HO_5.out (fun _ hk => hk.2)⟩, ⟨by (with_reducible repeat (first | apply Kd.R_alloc | apply Kd.R_drewN | apply Kd.R_drew)); exact Kd.R_mono HO197.out (fun _ hk => hk.1)⟩, ⟨by repeat (first | (with_reducible first | exact HB.out | apply below_alloc | apply pw_below_drewN | apply below_drew1) | exact HB.out)⟩⟩
   }
   {
   rw [if_neg c32] at H
   exact absurd H (by simp)
   }
   }
   }
   {
   rw [if_neg c22] at H
   exact absurd H (by simp)
   }
   }
   {
   rw [if_neg c21] at H
   exact absurd H (by simp)
   }
   }
   {
   rw [if_neg c20] at H
   exact absurd H (by simp)
   }
   }
   }
   {
   rw [if_neg c8] at H
   have c8b0 : decide (0 ≤ x7_1) = false := decide_eq_false c8
   clear c8
   obtain rfl := Option.some.inj H
   go_wp2
   repeat (go_quiet (fail); try go_wp2)
   go_ret
   exact ⟨_, by first | rfl | (simp [errW_none, errW_some] <;> rfl) | (simp [*, errW_none, errW_some] <;> rfl), by (with_reducible repeat (first | apply Kd.R_alloc | apply Kd.R_drewN | apply Kd.R_drew)); exact Kd.R_mono HO_6.out (fun _ hk => trivial), by repeat (first | (with_reducible first | exact HB.out | apply below_alloc | apply pw_below_drewN | apply below_drew1) | exact HB.out)⟩
   
   }
/-! ### spec_Bottom: function 39 -/
theorem z39a {p_ : Prop} (h_ : p_ := by repeat (first | (with_reducible first | exact HB.out | apply below_alloc | apply pw_below_drewN | apply below_drew1) | exact HB.out)) : p_ := h_
def spec_Bottom.f (k : Nat) (l0 : List (S88)) (l1 : List Int) : Option ((List (S88))) := (spec_l6Told.f k l0 l1).bind fun t198 => (if t198 = true then ((spec_l6Bottom.f k l0 l1).bind fun t199 => (some t199)) else (some (([] : List (S88)))))
theorem spec_Bottom.mono : ∀ a0 a1 k, LeO (spec_Bottom.f k a0 a1) (spec_Bottom.f (k + 1) a0 a1) := by
 intro a0 a1 k
 unfold spec_Bottom.f
 repeat' first
   | (with_reducible exact spec_l6Bottom.mono _ _ _)
   | (with_reducible exact spec_l6Told.mono _ _ _)
   | (with_reducible exact LeO.refl _)
   | (with_reducible exact LeO.none _)
   | (with_reducible refine LeO.ite ?_ ?_)
   | (with_reducible refine LeO.bind ?_ (fun _ => ?_))
   | exact spec_l6Bottom.mono _ _ _
   | exact spec_l6Told.mono _ _ _
   | exact LeO.none _
   | refine LeO.ite ?_ ?_
   | refine LeO.bind ?_ (fun _ => ?_)
set_option maxHeartbeats 8000000 in
set_option maxRecDepth 100000 in
theorem spec_Bottom.calls (k : Nat) (A0 : Option Addr) (c0 : Nat) (l0 : List (S88)) (A1 : Option Addr) (c1 : Nat) (l1 : List Int) (r : List (S88)) (w : World) (hr0 : Kd.C k88 w A0 l0.length l0) (hc0 : l0.length ≤ c0) (hr1 : Kd.C (Kd.int .i64) w A1 l1.length l1) (hc1 : l1.length ≤ c1) (h : spec_Bottom.f k l0 l1 = some r) :
  Calls Try.prog 39 #[.slice A0 l0.length c0, .slice A1 l1.length c1] w fun e w' => ∃ v0_ : Value, e = .returned (v0_) ∧ Kd.R k88 88 w' w.heap.size (fun _ => True) v0_ r ∧ Below w.heap.size w w' := by
 have HR0 := Aside0.mk hr0
 have HC0 := Aside0.mk hc0
 clear hr0 hc0
 have HR1 := Aside0.mk hr1
 have HC1 := Aside0.mk hc1
 clear hr1 hc1
 have HB := Aside0.mk (Below.refl w.heap.size w)
 have H : ((spec_l6Told.f k l0 l1).bind fun t198 => (if t198 = true then ((spec_l6Bottom.f k l0 l1).bind fun t199 => (some t199)) else (some (([] : List (S88)))))) = some r := h
 clear h
 replace H := Option.bind_eq_some_iff.mp H
 obtain ⟨t198, A30, H⟩ := H
 replace H : (if t198 = true then ((spec_l6Bottom.f k l0 l1).bind fun t199 => (some t199)) else (some (([] : List (S88))))) = some r := H
 have A3 := Aside0.mk A30
 clear A30
 by_cases c4 : t198 = true
 {
 subst c4
 have H1 : ((spec_l6Bottom.f k l0 l1).bind fun t199 => (some t199)) = some r := by rw [if_pos rfl] at H; exact H
 clear H
 have H := H1
 clear H1
 replace H := Option.bind_eq_some_iff.mp H
 obtain ⟨t199, A50, H⟩ := H
 replace H : (some t199) = some r := H
 have A5 := Aside0.mk A50
 clear A50
 obtain rfl := Option.some.inj H
 go_enter Try.func39, Try.ntmps39
 go_wp2_with (first | ((with_reducible refine gate_callee (f := 70) rfl ?_); refine goesL_ (some 7) rfl rfl Try.func70 (by kernel_rfl) rfl #[.slice A0 l0.length c0, .slice A1 l1.length c1] rfl (by (try simp only [List.map_toArray, List.map_cons, List.map_nil]); first | done | rfl | (simp only [List.length_drop, List.length_take]; rfl)) ?_; (with_reducible refine (spec_l6Told.calls k _ _ l0 _ _ l1 true _ ?side1 ?side2 ?side3 ?side4 A3.out).mono ?_); (case side1 => exact (by repeat (first | exact HR0.out | (with_reducible refine Kd.C_alloc ?_ _) | (with_reducible refine Kd.C_drewN ?_ _) | (with_reducible refine Kd.C_drew ?_)))); (case side2 => exact HC0.out); (case side3 => exact (by repeat (first | exact HR1.out | (with_reducible refine Kd.C_alloc ?_ _) | (with_reducible refine Kd.C_drewN ?_ _) | (with_reducible refine Kd.C_drew ?_)))); (case side4 => exact HC1.out); rintro e w6 ⟨rfl, hb⟩; refine ⟨_, rfl, ?_⟩; have n0_ := Aside0.mk (below_step z39a hb); clear HB; have HB := n0_; clear n0_; (try clear hb); (try clear hb2); (try clear hk); (try clear hi)) | ((with_reducible refine gate_callee (f := 76) rfl ?_); refine goesL_ (some 12) rfl rfl Try.func76 (by kernel_rfl) rfl #[.slice A0 l0.length c0, .slice A1 l1.length c1] rfl (by (try simp only [List.map_toArray, List.map_cons, List.map_nil]); first | done | rfl | (simp only [List.length_drop, List.length_take]; rfl)) ?_; (with_reducible refine (spec_l6Bottom.calls k _ _ l0 _ _ l1 t199 _ ?side1 ?side2 ?side3 ?side4 A5.out).mono ?_); (case side1 => exact (by repeat (first | exact (Kd.C_below HR0.out HB.out) | (with_reducible refine Kd.C_alloc ?_ _) | (with_reducible refine Kd.C_drewN ?_ _) | (with_reducible refine Kd.C_drew ?_)))); (case side2 => exact HC0.out); (case side3 => exact (by repeat (first | exact (Kd.C_below HR1.out HB.out) | (with_reducible refine Kd.C_alloc ?_ _) | (with_reducible refine Kd.C_drewN ?_ _) | (with_reducible refine Kd.C_drew ?_)))); (case side4 => exact HC1.out); rintro e w7 ⟨v200, rfl, ho0, hb⟩; refine ⟨_, rfl, ?_⟩; have n0_ := Aside0.mk (Kd.R_lower ho0 (below_size z39a)); have n1_ := Aside0.mk (below_step z39a hb); clear HB; have HO201 := n0_; have HB := n1_; clear n0_ n1_; (try clear hb); (try clear hb2); (try clear hk); (try clear hi); (try clear ho0)))
 go_ret
 exact ⟨_, by first | rfl | (simp [errW_none, errW_some] <;> rfl) | (simp [*, errW_none, errW_some] <;> rfl), by (with_reducible repeat (first | apply Kd.R_alloc | apply Kd.R_drewN | apply Kd.R_drew)); exact HO201.out, by repeat (first | (with_reducible first | exact HB.out | apply below_alloc | apply pw_below_drewN | apply below_drew1) | exact HB.out)⟩
 }
 {
 replace c4 := Bool.eq_false_iff.mpr c4
 subst c4
 have H1 : (some (([] : List (S88)))) = some r := by rw [if_neg (show ¬ (false = true) by decide)] at H; exact H
 clear H
 have H := H1
 clear H1
 obtain ⟨y202, hy202⟩ : ∃ y_ : List (S88), y_ = (([] : List (S88))) := ⟨_, rfl⟩
 replace H : (some y202) = some r := by first | (rw [hy202]; with_reducible exact H) | (have H2_ := (Option.bind_some _ _).symm.trans H; rw [hy202]; with_reducible exact H2_) | (have H2_ := (Option.bind_some _ _).symm.trans H; with_reducible exact H2_) | with_reducible exact H | (rw [hy202]; exact H) | exact H
 have Ny202 := Aside0.mk hy202
 clear hy202
 obtain rfl := Option.some.inj H
 go_enter Try.func39, Try.ntmps39
 go_wp2_with (first | ((with_reducible refine gate_callee (f := 70) rfl ?_); refine goesL_ (some 7) rfl rfl Try.func70 (by kernel_rfl) rfl #[.slice A0 l0.length c0, .slice A1 l1.length c1] rfl (by (try simp only [List.map_toArray, List.map_cons, List.map_nil]); first | done | rfl | (simp only [List.length_drop, List.length_take]; rfl)) ?_; (with_reducible refine (spec_l6Told.calls k _ _ l0 _ _ l1 false _ ?side1 ?side2 ?side3 ?side4 A3.out).mono ?_); (case side1 => exact (by repeat (first | exact HR0.out | (with_reducible refine Kd.C_alloc ?_ _) | (with_reducible refine Kd.C_drewN ?_ _) | (with_reducible refine Kd.C_drew ?_)))); (case side2 => exact HC0.out); (case side3 => exact (by repeat (first | exact HR1.out | (with_reducible refine Kd.C_alloc ?_ _) | (with_reducible refine Kd.C_drewN ?_ _) | (with_reducible refine Kd.C_drew ?_)))); (case side4 => exact HC1.out); rintro e w8 ⟨rfl, hb⟩; refine ⟨_, rfl, ?_⟩; have n0_ := Aside0.mk (below_step z39a hb); clear HB; have HB := n0_; clear n0_; (try clear hb); (try clear hb2); (try clear hk); (try clear hi)) | ((with_reducible refine gate_dst (N := 9) rfl ?_); refine Kd.R_lit k88 _ 88 ?hg (N := 9) ?hd (xs := ([] : List (S88))) (inner := []) (ok := fun _ => True) (okp := fun _ => True) ?hr ?hp (fun _ hk => hk) trivial (Below.refl _ _) (Nat.le_refl _) (by simp) ?_; (case hd => rfl); (case hg => rfl); (case hr => first | (go_simp; done) | (go_simp; rfl)); (case hp => exact (Reps.none _ _)); intro v203 w9 ho10 hb hg_ hnew_; clear hg_ hnew_; (first | rw [← Ny202.out] at ho10 | (simp only [Int.reduceToNat] at ho10; rw [← Ny202.out] at ho10)); have n0_ := Aside0.mk (Kd.R_lower ho10 (below_size z39a)); have n1_ := Aside0.mk (below_step z39a hb); clear HB; have HO204 := n0_; have HB := n1_; clear n0_ n1_; clear hb ho10))
 go_ret
 exact ⟨_, by first | rfl | (simp [errW_none, errW_some] <;> rfl) | (simp [*, errW_none, errW_some] <;> rfl), by (with_reducible repeat (first | apply Kd.R_alloc | apply Kd.R_drewN | apply Kd.R_drew)); exact HO204.out, by repeat (first | (with_reducible first | exact HB.out | apply below_alloc | apply pw_below_drewN | apply below_drew1) | exact HB.out)⟩
 
 }
-- NOT PRINTED: function 110 (slices_Backward_Entry_1)

-- NOT PRINTED: function 98 (slices_Backward_Entry)

/-! ### slices_Reverse_Entry: function 99 -/
theorem z99a {p_ : Prop} (h_ : p_ := by simp only [Act.put, List.setIfInBounds_toArray, List.set_cons_zero, List.set_cons_succ, i64_w, i32_w]; rfl) : p_ := h_
theorem z99b {p_ : Prop} (h_ : p_ := by first | (with_reducible assumption) | assumption) : p_ := h_
def slices_Reverse_Entry.l0 : Nat → List (S88) → Int → Int → Option ((List (S88)))
 | 0, _, _, _ => none
 | k + 1, x0, x2, x3 => if x2 < x3 then (if 0 ≤ x3 then (if x3 < (x0.length : Int) then (if 0 ≤ x2 then (if x2 < (x0.length : Int) then (slices_Reverse_Entry.l0 k ((x0.set (x2 : Int).toNat (⟨(rd_T88 x0 x3).f0, (rd_T88 x0 x3).f1, (rd_T88 x0 x3).f2, (rd_T88 x0 x3).f3⟩ : S88)).set (x3 : Int).toNat (⟨(rd_T88 x0 x2).f0, (rd_T88 x0 x2).f1, (rd_T88 x0 x2).f2, (rd_T88 x0 x2).f3⟩ : S88)) (wrap64 (x2 + 1)) (wrap64 (x3 - 1))) else (none)) else (none)) else (none)) else (none)) else (some x0)
def slices_Reverse_Entry.f (k : Nat) (l0 : List (S88)) : Option ((List (S88))) := slices_Reverse_Entry.l0 k l0 0 (wrap64 ((l0.length : Int) - 1))
theorem slices_Reverse_Entry.mono_l : ∀ k, (∀ y0 y1 y2, LeO (slices_Reverse_Entry.l0 k y0 y1 y2) (slices_Reverse_Entry.l0 (k + 1) y0 y1 y2))
 | 0 => fun _ _ _ r h => by simp [slices_Reverse_Entry.l0] at h
 | k + 1 => by
  have ih0 := slices_Reverse_Entry.mono_l k
  {
  intro y0 y1 y2
  unfold slices_Reverse_Entry.l0
  repeat' first
  | (with_reducible exact ih0 _ _ _)
  | (with_reducible exact LeO.refl _)
  | (with_reducible exact LeO.none _)
  | (with_reducible refine LeO.ite ?_ ?_)
  | (with_reducible refine LeO.bind ?_ (fun _ => ?_))
  | exact ih0 _ _ _
  | exact LeO.none _
  | refine LeO.ite ?_ ?_
  | refine LeO.bind ?_ (fun _ => ?_)
  }
theorem slices_Reverse_Entry.mono : ∀ a0 k, LeO (slices_Reverse_Entry.f k a0) (slices_Reverse_Entry.f (k + 1) a0) := by
 intro a0 k
 have ih0 := slices_Reverse_Entry.mono_l k
 unfold slices_Reverse_Entry.f
 repeat' first
   | (with_reducible exact ih0 _ _ _)
   | (with_reducible exact LeO.refl _)
   | (with_reducible exact LeO.none _)
   | (with_reducible refine LeO.ite ?_ ?_)
   | (with_reducible refine LeO.bind ?_ (fun _ => ?_))
   | exact ih0 _ _ _
   | exact LeO.none _
   | refine LeO.ite ?_ ?_
   | refine LeO.bind ?_ (fun _ => ?_)
def slices_Reverse_Entry.T3 : Bool × List (List Nat × List Nat) := (true, [([], []), ([], []), ([], []), ([], []), ([], []), ([], []), ([4, 5], [4, 5]), ([6], [6]), ([], []), ([], []), ([8, 9], [8, 9]), ([10], [10]), ([0, 1, 0, 1, 4, 5, 6, 7, 11], [0, 1]), ([12, 7, 0, 1, 4, 5, 6, 7, 11], [7, 12]), ([2, 3, 0, 1, 2, 3, 4, 5, 6, 7, 8, 9, 10, 11, 12, 13], [2, 3]), ([14, 11, 13, 0, 1, 2, 3, 4, 5, 6, 7, 8, 9, 10, 11, 12, 13], [11, 14])])
def slices_Reverse_Entry.B3 : List Nat := [0, 0, 0, 0, 0, 0, 48, 112, 0, 0, 768, 1792, 4083, 8179, 16383, 32767]
theorem slices_Reverse_Entry.tab3 : rtab .any (opsOf Try.f99 3) = slices_Reverse_Entry.T3 := by kernel_rfl
theorem slices_Reverse_Entry.bits3 : waitsOk slices_Reverse_Entry.T3.2 slices_Reverse_Entry.B3 = true := by kernel_rfl
set_option maxHeartbeats 8000000 in
set_option maxRecDepth 100000 in
theorem slices_Reverse_Entry.calls (k : Nat) (P0_ : Nat → Prop) (u9000_ : Value) (l0 : List (S88)) (r : List (S88)) (w0 w : World) (hB : Below w0.heap.size w0 w) (ho0 : Kd.R k88 88 w w0.heap.size P0_ u9000_ l0) (h : slices_Reverse_Entry.f k l0 = some r) :
  Calls Try.prog 99 #[u9000_] w fun e w' => e = .returned (.tuple #[]) ∧ Kd.R k88 88 w' w0.heap.size (fun k_ => (P0_ k_ ∨ w.heap.size ≤ k_)) u9000_ r ∧ Below w0.heap.size w0 w' ∧ Kept w w' (fun k_ => P0_ k_) := by
 have hu88 := Try.underlying88
 have HO0 := Aside0.mk (show Kd.R k88 88 w w0.heap.size (fun k_ => (P0_ k_ ∨ w.heap.size ≤ k_)) u9000_ l0 from Kd.R_mono ho0 (fun k_ hk => (.inl hk)))
 have HK := Aside0.mk (Kept.refl w (fun k_ => P0_ k_))
 have HW0 := Aside0.mk hB.size
 have HB := Aside0.mk hB
 clear hB
 have H : (slices_Reverse_Entry.l0 k l0 0 (wrap64 ((l0.length : Int) - 1))) = some r := h
 clear h
 have H' := Aside0.mk H
 clear H
 obtain ⟨Ao2, co2, eo2⟩ := Kd.R_slice HO0.out
 subst eo2
 go_enter Try.func99, Try.ntmps99
 go_wp2
 go_loopg [2, 3] k (fun kq v2 v3 w' => ∃ (x0_1 : List (S88)) (x2_1 : Int) (x3_1 : Int), v2 = .int .i64 x2_1 ∧ v3 = .int .i64 x3_1 ∧ Aside0 (slices_Reverse_Entry.l0 kq x0_1 x2_1 x3_1 = some r) ∧ Aside0 (kq ≤ k) ∧ Aside0 (Kd.R k88 88 w' w0.heap.size (fun k_ => (P0_ k_ ∨ w.heap.size ≤ k_)) (.slice Ao2 l0.length co2) x0_1) ∧ Aside0 (Kept w w' (fun k_ => P0_ k_)) ∧ Aside0 (Below w0.heap.size w0 w'))
 case atStart => exact ⟨(l0), (0), (wrap64 ((l0.length : Int) - 1)), (by first | rfl | (simp; done) | (simp [*]; done)), (by first | rfl | (simp; done) | (simp [*]; done)), H', ⟨Nat.le_refl _⟩, ⟨by (with_reducible repeat (first | apply Kd.R_alloc | apply Kd.R_drewN | apply Kd.R_drew)); exact HO0.out⟩, ⟨by repeat (first | (with_reducible first | exact HK.out | apply Kept.alloc | apply Kept.drewN | apply Kept.drew) | exact HK.out)⟩, ⟨by repeat (first | (with_reducible first | exact HB.out | apply below_alloc | apply pw_below_drewN | apply below_drew1) | exact HB.out)⟩⟩
 case round =>
  clear H'
  try clear p2
  obtain ⟨x0_1, x2_1, x3_1, rfl, rfl, HA, HK1, HO_0, HK, HB⟩ := hrel
  have hl0_1 := (Kd.R_reads' HO_0.out).1
  rw [hl0_1] at HO_0
  (try simp only [hl0_1])
  cases gk with
  | zero => exact absurd HA.out (by simp [slices_Reverse_Entry.l0])
  | succ k1 =>
   have H := HA.out
   clear HA
   simp only [slices_Reverse_Entry.l0] at H
   by_cases c3 : x2_1 < x3_1
   {
   rw [if_pos c3] at H
   have c3b0 : decide (x2_1 < x3_1) = true := decide_eq_true c3
   clear c3
   by_cases c4 : 0 ≤ x3_1
   {
   rw [if_pos c4] at H
   have c4b0 : decide (0 ≤ x3_1) = true := decide_eq_true c4
   clear c4
   by_cases c5 : x3_1 < (x0_1.length : Int)
   {
   rw [if_pos c5] at H
   have c5b0 : decide (x3_1 < (x0_1.length : Int)) = true := decide_eq_true c5
   clear c5
   by_cases c6 : 0 ≤ x2_1
   {
   rw [if_pos c6] at H
   have c6b0 : decide (0 ≤ x2_1) = true := decide_eq_true c6
   clear c6
   by_cases c7 : x2_1 < (x0_1.length : Int)
   {
   rw [if_pos c7] at H
   have c7b0 : decide (x2_1 < (x0_1.length : Int)) = true := decide_eq_true c7
   clear c7
   obtain ⟨y207, hy207⟩ : ∃ y_ : List (S88), y_ = (x0_1.set (x2_1 : Int).toNat (⟨(rd_T88 x0_1 x3_1).f0, (rd_T88 x0_1 x3_1).f1, (rd_T88 x0_1 x3_1).f2, (rd_T88 x0_1 x3_1).f3⟩ : S88)) := ⟨_, rfl⟩
   replace H : (slices_Reverse_Entry.l0 k1 (y207.set (x3_1 : Int).toNat (⟨(rd_T88 x0_1 x2_1).f0, (rd_T88 x0_1 x2_1).f1, (rd_T88 x0_1 x2_1).f2, (rd_T88 x0_1 x2_1).f3⟩ : S88)) (wrap64 (x2_1 + 1)) (wrap64 (x3_1 - 1))) = some r := by first | (rw [hy207]; with_reducible exact H) | (have H2_ := (Option.bind_some _ _).symm.trans H; rw [hy207]; with_reducible exact H2_) | (have H2_ := (Option.bind_some _ _).symm.trans H; with_reducible exact H2_) | with_reducible exact H | (rw [hy207]; exact H) | exact H
   have Ny207 := Aside0.mk hy207
   clear hy207
   obtain ⟨y208, hy208⟩ : ∃ y_ : List (S88), y_ = (y207.set (x3_1 : Int).toNat (⟨(rd_T88 x0_1 x2_1).f0, (rd_T88 x0_1 x2_1).f1, (rd_T88 x0_1 x2_1).f2, (rd_T88 x0_1 x2_1).f3⟩ : S88)) := ⟨_, rfl⟩
   replace H : (slices_Reverse_Entry.l0 k1 y208 (wrap64 (x2_1 + 1)) (wrap64 (x3_1 - 1))) = some r := by first | (rw [hy208]; with_reducible exact H) | (have H2_ := (Option.bind_some _ _).symm.trans H; rw [hy208]; with_reducible exact H2_) | (have H2_ := (Option.bind_some _ _).symm.trans H; with_reducible exact H2_) | with_reducible exact H | (rw [hy208]; exact H) | exact H
   have Ny208 := Aside0.mk hy208
   clear hy208
   have H' := Aside0.mk H
   clear H
   try go_wp2
   have n0_ := Aside0.mk (Kd.R_drew HO_0.out)
   have n1_ := Aside0.mk (Kept.drew HK.out)
   have n2_ := Aside0.mk (below_drew1 HB.out)
   clear HO_0
   clear HK
   clear HB
   have HO_0 := n0_
   have HK := n1_
   have HB := n2_
   clear n0_ n1_ n2_
   have p205 : 0 ≤ (x3_1 : Int) := of_decide_eq_true z99b
   have q205 : x3_1 < (x0_1.length : Int) := of_decide_eq_true z99b
   obtain ⟨ad205, e205, hx205_0, hx205_1, hx205_2, hx205_3⟩ := at_T88 (Kd.R_reads' HO_0.out).2.2 x3_1 p205 q205
   cases e205
   replace p205 := eq_true p205
   replace q205 := eq_true q205
   have p206 : 0 ≤ (x2_1 : Int) := of_decide_eq_true z99b
   have q206 : x2_1 < (x0_1.length : Int) := of_decide_eq_true z99b
   obtain ⟨ad206, e206, hx206_0, hx206_1, hx206_2, hx206_3⟩ := at_T88 (Kd.R_reads' HO_0.out).2.2 x2_1 p206 q206
   obtain rfl : ad205 = ad206 := (by injection e206)
   replace p206 := eq_true p206
   replace q206 := eq_true q206
   have p8 : 0 ≤ (x2_1 : Int) := of_decide_eq_true z99b
   have q8 : (x2_1 : Int) < ((x0_1.length : Int) : Int) := of_decide_eq_true z99b
   obtain ⟨go8, co8, eo8, gb8, gl8, cl8, HG8⟩ := Kd.R_form HO_0.out (by omega)
   (first | cases eo8 | (injection eo8 with ea_ en_ ec_; (first | subst ea_ | (injection ea_ with ea_; subst ea_)); subst ec_; clear en_))
   have GB8 := Aside0.mk gb8
   have GG8 := Aside0.mk HG8
   clear gb8 gl8 HG8
   have HMgo8 := Aside0.mk (show (P0_ go8 ∨ w.heap.size ≤ go8) from (HO_0.out.1 _ rfl))
   (first | simp only [add_plain] at hx205_0 | skip)
   (first | simp only [add_plain] at hx205_1 | skip)
   (first | simp only [add_plain] at hx205_2 | skip)
   (first | simp only [add_plain] at hx205_3 | skip)
   (first | simp only [add_plain] at hx206_0 | skip)
   (first | simp only [add_plain] at hx206_1 | skip)
   (first | simp only [add_plain] at hx206_2 | skip)
   (first | simp only [add_plain] at hx206_3 | skip)
   obtain ⟨ce8, hcl8, hM8, hcc8, hfr8⟩ := Kd.R_elem HO_0.out z88 (x2_1 : Int) p8 q8
   obtain rfl := k88_openM hM8
   have hx8_0 : World.cell? _ ⟨go8, (x2_1 : Int).toNat * 4, none⟩ = some (.string ((rd_T88 x0_1 x2_1).f0)) := hcc8 0 _ rfl
   have hx8_1 : World.cell? _ ⟨go8, (x2_1 : Int).toNat * 4 + 1, none⟩ = some (.string ((rd_T88 x0_1 x2_1).f1)) := hcc8 1 _ rfl
   have hx8_2 : World.cell? _ ⟨go8, (x2_1 : Int).toNat * 4 + 2, none⟩ = some (.int .i64 ((rd_T88 x0_1 x2_1).f2)) := hcc8 2 _ rfl
   have hx8_3 : World.cell? _ ⟨go8, (x2_1 : Int).toNat * 4 + 3, none⟩ = some (.bool ((rd_T88 x0_1 x2_1).f3)) := hcc8 3 _ rfl
   have hf8_0 : World.frozen? _ ⟨go8, (x2_1 : Int).toNat * 4, none⟩ = false := hfr8 0
   have hf8_1 : World.frozen? _ ⟨go8, (x2_1 : Int).toNat * 4 + 1, none⟩ = false := hfr8 1
   have hf8_2 : World.frozen? _ ⟨go8, (x2_1 : Int).toNat * 4 + 2, none⟩ = false := hfr8 2
   have hf8_3 : World.frozen? _ ⟨go8, (x2_1 : Int).toNat * 4 + 3, none⟩ = false := hfr8 3
   clear hcl8 hcc8 hfr8 hM8
   replace p8 := eq_true p8
   replace q8 := eq_true q8
   obtain ⟨ce11, hcl11, hM11, hcc11, hfr11⟩ := Kd.R_elem HO_0.out z88 (x2_1 : Int) (of_decide_eq_true z99b) (by have h_ : (x2_1 : Int) < ((x0_1.length : Int) : Int) := of_decide_eq_true z99b; first | exact h_ | (have e_ := (Kd.R_reads' HO_0.out).1; omega) | simpa using h_)
   obtain rfl := k88_openM hM11
   have HP11 := (Kd.R_seg HO_0.out (x2_1 : Int) (of_decide_eq_true z99b) (by have h_ : (x2_1 : Int) < ((x0_1.length : Int) : Int) := of_decide_eq_true z99b; first | exact h_ | (have e_ := (Kd.R_reads' HO_0.out).1; omega) | simpa using h_) (seg := [.string ((rd_T88 x0_1 x3_1).f0), .string ((rd_T88 x0_1 x3_1).f1), .int .i64 ((rd_T88 x0_1 x3_1).f2), .bool ((rd_T88 x0_1 x3_1).f3)]) (j := 0) hcl11 hcc11 (show 4 ≤ 4 from (by decide)) (x' := (⟨(rd_T88 x0_1 x3_1).f0, (rd_T88 x0_1 x3_1).f1, (rd_T88 x0_1 x3_1).f2, (rd_T88 x0_1 x3_1).f3⟩ : S88)) (k88_mkM _ _ _ (⟨(rd_T88 x0_1 x3_1).f0, (rd_T88 x0_1 x3_1).f1, (rd_T88 x0_1 x3_1).f2, (rd_T88 x0_1 x3_1).f3⟩ : S88) ) (fun _ hk => hk)).1
   rw [← Ny207.out] at HP11
   have HQ11 := Aside0.mk HP11
   clear hcl11 hcc11 hfr11 hM11 HP11
   have p9 : 0 ≤ (x3_1 : Int) := of_decide_eq_true z99b
   have q9 : (x3_1 : Int) < ((x0_1.length : Int) : Int) := of_decide_eq_true z99b
   obtain ⟨ce9, hcl9, hM9, hcc9, hfr9⟩ := Kd.R_elem HQ11.out z88 (x3_1 : Int) p9 q9
   obtain rfl := k88_openM hM9
   have hx9_0 : World.cell? _ ⟨go8, (x3_1 : Int).toNat * 4, none⟩ = some (.string ((rd_T88 y207 x3_1).f0)) := hcc9 0 _ rfl
   have hx9_1 : World.cell? _ ⟨go8, (x3_1 : Int).toNat * 4 + 1, none⟩ = some (.string ((rd_T88 y207 x3_1).f1)) := hcc9 1 _ rfl
   have hx9_2 : World.cell? _ ⟨go8, (x3_1 : Int).toNat * 4 + 2, none⟩ = some (.int .i64 ((rd_T88 y207 x3_1).f2)) := hcc9 2 _ rfl
   have hx9_3 : World.cell? _ ⟨go8, (x3_1 : Int).toNat * 4 + 3, none⟩ = some (.bool ((rd_T88 y207 x3_1).f3)) := hcc9 3 _ rfl
   have hf9_0 : World.frozen? _ ⟨go8, (x3_1 : Int).toNat * 4, none⟩ = false := hfr9 0
   have hf9_1 : World.frozen? _ ⟨go8, (x3_1 : Int).toNat * 4 + 1, none⟩ = false := hfr9 1
   have hf9_2 : World.frozen? _ ⟨go8, (x3_1 : Int).toNat * 4 + 2, none⟩ = false := hfr9 2
   have hf9_3 : World.frozen? _ ⟨go8, (x3_1 : Int).toNat * 4 + 3, none⟩ = false := hfr9 3
   clear hcl9 hcc9 hfr9 hM9
   replace p9 := eq_true p9
   replace q9 := eq_true q9
   obtain ⟨ce12, hcl12, hM12, hcc12, hfr12⟩ := Kd.R_elem HQ11.out z88 (x3_1 : Int) (of_decide_eq_true z99b) (by have h_ : (x3_1 : Int) < ((x0_1.length : Int) : Int) := of_decide_eq_true z99b; first | exact h_ | (have e_ := (Kd.R_reads' HO_0.out).1; omega) | simpa using h_)
   obtain rfl := k88_openM hM12
   have HP12 := (Kd.R_seg HQ11.out (x3_1 : Int) (of_decide_eq_true z99b) (by have h_ : (x3_1 : Int) < ((x0_1.length : Int) : Int) := of_decide_eq_true z99b; first | exact h_ | (have e_ := (Kd.R_reads' HO_0.out).1; omega) | simpa using h_) (seg := [.string ((rd_T88 x0_1 x2_1).f0), .string ((rd_T88 x0_1 x2_1).f1), .int .i64 ((rd_T88 x0_1 x2_1).f2), .bool ((rd_T88 x0_1 x2_1).f3)]) (j := 0) hcl12 hcc12 (show 4 ≤ 4 from (by decide)) (x' := (⟨(rd_T88 x0_1 x2_1).f0, (rd_T88 x0_1 x2_1).f1, (rd_T88 x0_1 x2_1).f2, (rd_T88 x0_1 x2_1).f3⟩ : S88)) (k88_mkM _ _ _ (⟨(rd_T88 x0_1 x2_1).f0, (rd_T88 x0_1 x2_1).f1, (rd_T88 x0_1 x2_1).f2, (rd_T88 x0_1 x2_1).f3⟩ : S88) ) (fun _ hk => hk)).1
   rw [← Ny208.out] at HP12
   have HQ12 := Aside0.mk HP12
   clear hcl12 hcc12 hfr12 hM12 HP12
   refine start_ (n := 16) (S := fun w' => w'.cell? ⟨go8, ((x3_1).toNat * 4), none⟩ = some (.string ((rd_T88 x0_1 x3_1).f0)) ∧ w'.cell? ⟨go8, ((x3_1).toNat * 4) + 1, none⟩ = some (.string ((rd_T88 x0_1 x3_1).f1)) ∧ w'.cell? ⟨go8, ((x3_1).toNat * 4) + 2, none⟩ = some (.int .i64 ((rd_T88 x0_1 x3_1).f2)) ∧ w'.cell? ⟨go8, ((x3_1).toNat * 4) + 3, none⟩ = some (.bool ((rd_T88 x0_1 x3_1).f3)) ∧ w'.cell? ⟨go8, ((x2_1).toNat * 4), none⟩ = some (.string ((rd_T88 x0_1 x2_1).f0)) ∧ w'.cell? ⟨go8, ((x2_1).toNat * 4) + 1, none⟩ = some (.string ((rd_T88 x0_1 x2_1).f1)) ∧ w'.cell? ⟨go8, ((x2_1).toNat * 4) + 2, none⟩ = some (.int .i64 ((rd_T88 x0_1 x2_1).f2)) ∧ w'.cell? ⟨go8, ((x2_1).toNat * 4) + 3, none⟩ = some (.bool ((rd_T88 x0_1 x2_1).f3))) (ds := [13, 15]) #[false, false, false, false, false, false, false, false, false, false, false, false, false, false, false, false] (by kernel_rfl) rfl rfl ⟨hx205_0, hx205_1, hx205_2, hx205_3, hx206_0, hx206_1, hx206_2, hx206_3⟩ (fun hHeld => ?_); refine with_tabW slices_Reverse_Entry.tab3 slices_Reverse_Entry.bits3 (fun HT_ HW_ => ?_)
   generalize wr.drew = w10 at HO_0 HK HB GG8 HQ11 HQ12 hf8_0 hf8_1 hf8_2 hf8_3 hf9_0 hf9_1 hf9_2 hf9_3 hx205_0 hx205_1 hx205_2 hx205_3 hx206_0 hx206_1 hx206_2 hx206_3 hx8_0 hx8_1 hx8_2 hx8_3 hx9_0 hx9_1 hx9_2 hx9_3 hHeld ⊢
   refine pure_ (i := 0) (N := some 14) (v := _) (a' := _) #[true, false, false, false, false, false, false, false, false, false, false, false, false, false, false, false] rfl rfl (any_of HT_.out (by kernel_rfl)) (fun _ _ _ h => h) (Or.inl ⟨by rfl, (by intro w'; go_simp; with_reducible rfl)⟩) z99a ?_
   refine pure_ (i := 1) (N := some 15) (v := _) (a' := _) #[true, true, false, false, false, false, false, false, false, false, false, false, false, false, false, false] rfl rfl (any_of HT_.out (by kernel_rfl)) (fun _ _ _ h => h) (Or.inl ⟨by rfl, (by intro w'; go_simp; with_reducible rfl)⟩) z99a ?_
   refine pure_ (i := 2) (N := some 16) (v := _) (a' := _) #[true, true, true, false, false, false, false, false, false, false, false, false, false, false, false, false] rfl rfl (any_of HT_.out (by kernel_rfl)) (fun _ _ _ h => h) (Or.inl ⟨by rfl, (by intro w'; go_simp; with_reducible rfl)⟩) z99a ?_
   refine pure_ (i := 3) (N := some 17) (v := _) (a' := _) #[true, true, true, true, false, false, false, false, false, false, false, false, false, false, false, false] rfl rfl (any_of HT_.out (by kernel_rfl)) (fun _ _ _ h => h) (Or.inl ⟨by rfl, (by intro w'; go_simp; with_reducible rfl)⟩) z99a ?_
   refine pure_ (i := 4) (N := some 18) (v := _) (a' := _) #[true, true, true, true, true, false, false, false, false, false, false, false, false, false, false, false] rfl rfl (any_of HT_.out (by kernel_rfl)) (fun _ _ _ h => h) (Or.inl ⟨by rfl, (by intro w'; go_simp; with_reducible rfl)⟩) z99a ?_
   refine pure_ (i := 5) (N := some 19) (v := _) (a' := _) #[true, true, true, true, true, true, false, false, false, false, false, false, false, false, false, false] rfl rfl (any_of HT_.out (by kernel_rfl)) (fun _ _ _ h => h) (Or.inl ⟨by rfl, (by intro w'; go_simp; with_reducible rfl)⟩) z99a ?_
   refine pure_ (i := 6) (N := some 20) (v := _) (a' := _) #[true, true, true, true, true, true, true, false, false, false, false, false, false, false, false, false] rfl rfl (any_of HT_.out (by kernel_rfl)) (fun _ _ _ h => h) (Or.inl ⟨by rfl, (by intro w'; go_simp; with_reducible rfl)⟩) z99a ?_
   refine pure_ (i := 8) (N := some 22) (v := _) (a' := _) #[true, true, true, true, true, true, true, false, true, false, false, false, false, false, false, false] rfl rfl (any_of HT_.out (by kernel_rfl)) (fun _ _ _ h => h) (Or.inl ⟨by rfl, (by intro w'; go_simp; with_reducible rfl)⟩) z99a ?_
   refine pure_ (i := 9) (N := some 23) (v := _) (a' := _) #[true, true, true, true, true, true, true, false, true, true, false, false, false, false, false, false] rfl rfl (any_of HT_.out (by kernel_rfl)) (fun _ _ _ h => h) (Or.inl ⟨by rfl, (by intro w'; go_simp; with_reducible rfl)⟩) z99a ?_
   refine pure_ (i := 10) (N := some 24) (v := _) (a' := _) #[true, true, true, true, true, true, true, false, true, true, true, false, false, false, false, false] rfl rfl (any_of HT_.out (by kernel_rfl)) (fun _ _ _ h => h) (Or.inl ⟨by rfl, (by intro w'; go_simp; with_reducible rfl)⟩) z99a ?_
   refine take_ (i := 7) (N := some 21) (v := _) (a' := _) #[true, true, true, true, true, true, true, true, true, true, true, false, false, false, false, false] rfl rfl (take_ofW HT_.out HW_.out (by kernel_rfl)) (fun _ _ _ h => h) (Or.inl ⟨by rfl, (by rintro w' ⟨s0, s1, s2, s3, s4, s5, s6, s7⟩; go_simp; with_reducible rfl)⟩) hHeld z99a ?_
   refine take_ (i := 11) (N := some 25) (v := _) (a' := _) #[true, true, true, true, true, true, true, true, true, true, true, true, false, false, false, false] rfl rfl (take_ofW HT_.out HW_.out (by kernel_rfl)) (fun _ _ _ h => h) (Or.inl ⟨by rfl, (by rintro w' ⟨s0, s1, s2, s3, s4, s5, s6, s7⟩; go_simp; with_reducible rfl)⟩) hHeld z99a ?_
   refine pure_ (i := 12) (N := some 26) (v := _) (a' := _) #[true, true, true, true, true, true, true, true, true, true, true, true, true, false, false, false] rfl rfl (any_of HT_.out (by kernel_rfl)) (fun _ _ _ h => h) (Or.inl ⟨by rfl, (by intro w'; go_simp; with_reducible rfl)⟩) z99a ?_
   refine last_ (i := 13) (N := none) #[true, true, true, true, true, true, true, true, true, true, true, true, true, true, false, false] rfl rfl (one_of HT_.out (by kernel_rfl)) (by decide) (fun K hK => ?_)
   refine skip_ (w1 := ?_) (by rfl) rfl ?_ ?_
   rotate_left
   {
   go_simp
   rfl
   }
   refine hK.out _ _ ?_
   clear hK K
   refine pure_ (i := 14) (N := some 27) (v := _) (a' := _) #[true, true, true, true, true, true, true, true, true, true, true, true, true, true, true, false] rfl rfl (any_of HT_.out (by kernel_rfl)) (fun _ _ _ h => h) (Or.inl ⟨by rfl, (by intro w'; go_simp; with_reducible rfl)⟩) z99a ?_
   have hlt_ : x2_1 < x3_1 := of_decide_eq_true z99b
   have hge_ : 0 ≤ x2_1 := of_decide_eq_true z99b
   have off00_ : (x2_1.toNat * 4 = x3_1.toNat * 4) = False := eq_false (by omega)
   have off01_ : (x2_1.toNat * 4 = x3_1.toNat * 4 + 1) = False := eq_false (by omega)
   have off02_ : (x2_1.toNat * 4 = x3_1.toNat * 4 + 2) = False := eq_false (by omega)
   have off03_ : (x2_1.toNat * 4 = x3_1.toNat * 4 + 3) = False := eq_false (by omega)
   have off10_ : (x2_1.toNat * 4 + 1 = x3_1.toNat * 4) = False := eq_false (by omega)
   have off11_ : (x2_1.toNat * 4 + 1 = x3_1.toNat * 4 + 1) = False := eq_false (by omega)
   have off12_ : (x2_1.toNat * 4 + 1 = x3_1.toNat * 4 + 2) = False := eq_false (by omega)
   have off13_ : (x2_1.toNat * 4 + 1 = x3_1.toNat * 4 + 3) = False := eq_false (by omega)
   have off20_ : (x2_1.toNat * 4 + 2 = x3_1.toNat * 4) = False := eq_false (by omega)
   have off21_ : (x2_1.toNat * 4 + 2 = x3_1.toNat * 4 + 1) = False := eq_false (by omega)
   have off22_ : (x2_1.toNat * 4 + 2 = x3_1.toNat * 4 + 2) = False := eq_false (by omega)
   have off23_ : (x2_1.toNat * 4 + 2 = x3_1.toNat * 4 + 3) = False := eq_false (by omega)
   have off30_ : (x2_1.toNat * 4 + 3 = x3_1.toNat * 4) = False := eq_false (by omega)
   have off31_ : (x2_1.toNat * 4 + 3 = x3_1.toNat * 4 + 1) = False := eq_false (by omega)
   have off32_ : (x2_1.toNat * 4 + 3 = x3_1.toNat * 4 + 2) = False := eq_false (by omega)
   have off33_ : (x2_1.toNat * 4 + 3 = x3_1.toNat * 4 + 3) = False := eq_false (by omega)
   have fz0_ : w10.frozen? ⟨go8, (x3_1 : Int).toNat * 4, none⟩ = false := by first | exact hf9_0 | simpa [go_sem, World.setCells] using hf9_0
   have fz1_ : w10.frozen? ⟨go8, (x3_1 : Int).toNat * 4 + 1, none⟩ = false := by first | exact hf9_1 | simpa [go_sem, World.setCells] using hf9_1
   have fz2_ : w10.frozen? ⟨go8, (x3_1 : Int).toNat * 4 + 2, none⟩ = false := by first | exact hf9_2 | simpa [go_sem, World.setCells] using hf9_2
   have fz3_ : w10.frozen? ⟨go8, (x3_1 : Int).toNat * 4 + 3, none⟩ = false := by first | exact hf9_3 | simpa [go_sem, World.setCells] using hf9_3
   refine last_ (i := 15) (N := none) #[true, true, true, true, true, true, true, true, true, true, true, true, true, true, true, true] rfl rfl (one_of HT_.out (by kernel_rfl)) (by decide) (fun K hK => ?_)
   refine skip_ (w1 := ?_) (by rfl) rfl ?_ ?_
   rotate_left
   {
   go_simp
   rfl
   }
   refine hK.out _ _ ?_
   clear hK K
   refine done_ (done_of HT_.out (by kernel_rfl)) ?_
   try go_wp2
   (try simp only [← hl0_1])
   go_roundg k1
   case measure => have := HK1.out; omega
   case rel => exact ⟨(y208), (wrap64 (x2_1 + 1)), (wrap64 (x3_1 - 1)), (by first | rfl | (simp; done) | (simp [*]; done)), (by first | rfl | (simp; done) | (simp [*]; done)), H', ⟨by have := HK1.out; omega⟩, ⟨by (try simp only [hl0_1]); (with_reducible repeat (first | apply Kd.R_alloc | apply Kd.R_drewN | apply Kd.R_drew)); exact HQ12.out⟩, ⟨by repeat (first | (with_reducible first | exact HK.out | apply Kept.alloc | apply Kept.drewN | apply Kept.drew | refine Kept.setCell ?_ HMgo8.out _ | refine Kept.setCell ?_ HMgo8.out _ | refine Kept.setCell ?_ HMgo8.out _ | refine Kept.setCell ?_ HMgo8.out _ | refine Kept.setCell ?_ HMgo8.out _ | refine Kept.setCell ?_ HMgo8.out _ | refine Kept.setCell ?_ HMgo8.out _ | refine Kept.setCell ?_ HMgo8.out _) | exact HK.out)⟩, ⟨by repeat (first | (with_reducible first | exact HB.out | apply below_alloc | apply pw_below_drewN | apply below_drew1 | refine below_set ?_ GB8.out | refine below_set ?_ GB8.out | refine below_set ?_ GB8.out | refine below_set ?_ GB8.out | refine below_set ?_ GB8.out | refine below_set ?_ GB8.out | refine below_set ?_ GB8.out | refine below_set ?_ GB8.out) | exact HB.out)⟩⟩
   }
   {
   rw [if_neg c7] at H
   exact absurd H (by simp)
   }
   }
   {
   rw [if_neg c6] at H
   exact absurd H (by simp)
   }
   }
   {
   rw [if_neg c5] at H
   exact absurd H (by simp)
   }
   }
   {
   rw [if_neg c4] at H
   exact absurd H (by simp)
   }
   }
   {
   rw [if_neg c3] at H
   have c3b0 : decide (x2_1 < x3_1) = false := decide_eq_false c3
   clear c3
   obtain rfl := Option.some.inj H
   go_wp2
   first | go_end0 | ((try simp only [Exit.inBlock, Exit.then]); refine bodyPost_ret (results_none rfl _ _ _) rfl ?_)
   exact ⟨by first | rfl | (simp [errW_none, errW_some] <;> rfl) | (simp [*, errW_none, errW_some] <;> rfl), (by first | exact (by (with_reducible repeat (first | apply Kd.R_alloc | apply Kd.R_drewN | apply Kd.R_drew)); exact HO_0.out) | (simp only [hl0_1]; exact (by (with_reducible repeat (first | apply Kd.R_alloc | apply Kd.R_drewN | apply Kd.R_drew)); exact HO_0.out))), by repeat (first | (with_reducible first | exact HB.out | apply below_alloc | apply pw_below_drewN | apply below_drew1) | exact HB.out), by repeat (first | (with_reducible first | exact HK.out | apply Kept.alloc | apply Kept.drewN | apply Kept.drew) | exact HK.out)⟩
   
   }
end Go.Proofs.Ytajidjlbgpaaoaa.PFnSeens

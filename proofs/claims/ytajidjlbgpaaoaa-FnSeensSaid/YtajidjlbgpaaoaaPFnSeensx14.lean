-- by a program of this session (wip/print/run.py) for this claim
import Derived.Test.YtajidjlbgpaaoaaPFnSeensx0
import Derived.Test.YtajidjlbgpaaoaaPFnSeensx2
import Derived.Test.YtajidjlbgpaaoaaPFnSeensx5
import Derived.Test.YtajidjlbgpaaoaaPFnSeensx6
import Derived.Test.YtajidjlbgpaaoaaPFnSeensx7
import Derived.Test.YtajidjlbgpaaoaaPFnSeensx8
import Derived.Test.YtajidjlbgpaaoaaPFnSeensx12
import Derived.Test.YtajidjlbgpaaoaaPFnSeensx13
namespace Go.Proofs.Ytajidjlbgpaaoaa.PFnSeens
open Go.RowKit Go.Proofs.YtajidjlbgpaaoaaW.PrintWords Go.Proofs.YtajidjlbgpaaoaaW.PrintLast Go.Proofs.YtajidjlbgpaaoaaW.PrintMore
attribute [local go_sem] max2_int min2_int max_two min_two max_three min_three max_four min_four   -- for this text's walks alone
set_option linter.unusedVariables false
set_option linter.unusedSimpArgs false

/-! ### laws_FnSeens: function 10 -/
theorem z10a {p_ : Prop} (h_ : p_ := by repeat (first | (with_reducible first | exact HB.out | apply below_alloc | apply pw_below_drewN | apply below_drew1) | exact HB.out)) : p_ := h_
theorem z10b {p_ : Prop} (h_ : p_ := by (try simp only [List.map_toArray, List.map_cons, List.map_nil]); first | done | rfl | (simp only [List.length_drop, List.length_take]; rfl)) : p_ := h_
theorem z10c {p_ : Prop} (h_ : p_ := by (with_reducible repeat (first | apply Kd.R_alloc | apply Kd.R_drewN | apply Kd.R_drew)); exact HO_3.out) : p_ := h_
theorem z10d {p_ : Prop} (h_ : p_ := by (with_reducible repeat (first | apply Kd.R_alloc | apply Kd.R_drewN | apply Kd.R_drew)); exact HO_5.out) : p_ := h_
theorem z10e {p_ : Prop} (h_ : p_ := by (with_reducible repeat (first | apply Kd.R_alloc | apply Kd.R_drewN | apply Kd.R_drew)); exact HO_6.out) : p_ := h_
theorem z10f {p_ : Prop} (h_ : p_ := by (with_reducible repeat (first | apply Kd.R_alloc | apply Kd.R_drewN | apply Kd.R_drew)); exact HO_4.out) : p_ := h_
theorem z10g {p_ : Prop} (h_ : p_ := by (with_reducible repeat (first | apply Kd.R_alloc | apply Kd.R_drewN | apply Kd.R_drew)); exact HO_7.out) : p_ := h_
theorem z10h {p_ : Prop} (h_ : p_ := by repeat (first | exact (Kd.R_reads' HO_5.out).2.2 | (with_reducible refine Kd.C_alloc ?_ _) | (with_reducible refine Kd.C_drewN ?_ _) | (with_reducible refine Kd.C_drew ?_))) : p_ := h_
theorem z10i {p_ : Prop} (h_ : p_ := by repeat (first | exact (Kd.R_reads' HO_6.out).2.2 | (with_reducible refine Kd.C_alloc ?_ _) | (with_reducible refine Kd.C_drewN ?_ _) | (with_reducible refine Kd.C_drew ?_))) : p_ := h_
theorem z10j {p_ : Prop} (h_ : p_ := by (with_reducible repeat (first | apply Kd.R_alloc | apply Kd.R_drewN | apply Kd.R_drew)); exact HO469.out) : p_ := h_
theorem z10k {p_ : Prop} (h_ : p_ := by (with_reducible repeat (first | apply Kd.R_alloc | apply Kd.R_drewN | apply Kd.R_drew)); exact HO499.out) : p_ := h_
theorem z10l {p_ : Prop} (h_ : p_ := by (with_reducible repeat (first | apply Kd.R_alloc | apply Kd.R_drewN | apply Kd.R_drew)); exact HO474.out) : p_ := h_
theorem z10m {p_ : Prop} (h_ : p_ := by first | (with_reducible assumption) | assumption) : p_ := h_
theorem z10n {p_ : Prop} (h_ : p_ := by repeat (first | exact (Kd.R_reads' HO469.out).2.2 | (with_reducible refine Kd.C_alloc ?_ _) | (with_reducible refine Kd.C_drewN ?_ _) | (with_reducible refine Kd.C_drew ?_))) : p_ := h_
theorem z10o {p_ : Prop} (h_ : p_ := by repeat (first | exact (Kd.R_reads' HO471.out).2.2 | (with_reducible refine Kd.C_alloc ?_ _) | (with_reducible refine Kd.C_drewN ?_ _) | (with_reducible refine Kd.C_drew ?_))) : p_ := h_
theorem z10p {p_ : Prop} (h_ : p_ := by repeat (first | exact (Kd.R_reads' HO499.out).2.2 | (with_reducible refine Kd.C_alloc ?_ _) | (with_reducible refine Kd.C_drewN ?_ _) | (with_reducible refine Kd.C_drew ?_))) : p_ := h_
theorem z10q {p_ : Prop} (h_ : p_ := by repeat (first | exact (Kd.R_reads' HO_3.out).2.2 | (with_reducible refine Kd.C_alloc ?_ _) | (with_reducible refine Kd.C_drewN ?_ _) | (with_reducible refine Kd.C_drew ?_))) : p_ := h_
theorem z10r {p_ : Prop} (h_ : p_ := by (with_reducible repeat (first | apply Kd.R_alloc | apply Kd.R_drewN | apply Kd.R_drew)); exact HO477.out) : p_ := h_
theorem z10s {p_ : Prop} (h_ : p_ := by (with_reducible repeat (first | apply Kd.R_alloc | apply Kd.R_drewN | apply Kd.R_drew)); exact HO471.out) : p_ := h_
mutual
def laws_FnSeens.j0 : Nat → List (S88) → List Int → List (S88) → List (S88) → Bool → Option (Bool)
 | 0, _, _, _, _, _ => none
 | k + 1, x3, x4, x5, x6, x36 => if x36 = true then (some false) else ((spec_EntriesOk.f k x3).bind fun t486 => (if t486 = true then (laws_FnSeens.j1 k x3 x4 x5 x6 (decide ((x4.length : Int) > 20))) else (laws_FnSeens.j1 k x3 x4 x5 x6 true)))
def laws_FnSeens.j1 : Nat → List (S88) → List Int → List (S88) → List (S88) → Bool → Option (Bool)
 | 0, _, _, _, _, _ => none
 | k + 1, x3, x4, x5, x6, x44 => if x44 = true then (some ((wrap64 ((x5.length : Int) + (x6.length : Int))) == 0)) else ((some (([] : List Int) : List Int)).bind fun y487 => (if y487.length + x4.length < 17592186044416 then ((some (y487 ++ x4 : List Int)).bind fun y490 => (if y490.length < 17592186044416 then (laws_FnSeens.l0 k x3 x4 x5 x6 (y490 ++ [1000000]) 0) else (none))) else (none)))
def laws_FnSeens.l0 : Nat → List (S88) → List Int → List (S88) → List (S88) → List Int → Int → Option (Bool)
 | 0, _, _, _, _, _, _ => none
 | k + 1, x3, x4, x5, x6, x7, x8 => if x8 < (x7.length : Int) then (if 0 ≤ x8 then ((spec_Shown.f k x3 (rd x7 x8)).bind fun t497 => ((impl_Shown.f k x5 (rd x7 x8)).bind fun t501 => ((laws_likeEntries.f k t501 t497).bind fun t504 => (if t504 = true then ((impl_Shown.f k x6 (rd x7 x8)).bind fun t506 => ((laws_likeEntries.f k t506 t497).bind fun t509 => (if t509 = true then (laws_FnSeens.l0 k x3 x4 x5 x6 x7 (wrap64 (x8 + 1))) else (some false)))) else (some false))))) else (none)) else ((impl_EntriesOk.f k x5).bind fun t510 => (if t510 = true then ((impl_EntriesOk.f k x6).bind fun t511 => (if t511 = true then (if (x6.length : Int) ≤ (x5.length : Int) then (if (x5.length : Int) ≤ (x3.length : Int) then ((impl_Bottom.f k x6 x4).bind fun t512 => ((laws_likeEntries.f k t512 x6).bind fun t515 => (some t515))) else (some false)) else (some false)) else (some false))) else (some false)))
end
def laws_FnSeens.f (k : Nat) (l0 : List Int) : Option (Bool) := (laws_big.f l0).bind fun t465 => (if t465 = true then (some true) else ((spec_DrawSeens.f k l0).bind fun bt466 => ((impl_Seens.f k bt466.1 bt466.2).bind fun t472 => ((impl_Bottom.f k bt466.1 bt466.2).bind fun t475 => ((spec_Seens.f k bt466.1 bt466.2).bind fun t478 => ((laws_likeEntries.f k t472 t478).bind fun t481 => (if t481 = true then ((spec_Bottom.f k bt466.1 bt466.2).bind fun t482 => ((laws_likeEntries.f k t475 t482).bind fun t485 => (laws_FnSeens.j0 k bt466.1 bt466.2 t472 t475 (!t485)))) else (laws_FnSeens.j0 k bt466.1 bt466.2 t472 t475 true))))))))
theorem laws_FnSeens.mono_l : ∀ k, (∀ y0 y1 y2 y3 y4, LeO (laws_FnSeens.j0 k y0 y1 y2 y3 y4) (laws_FnSeens.j0 (k + 1) y0 y1 y2 y3 y4)) ∧ (∀ y0 y1 y2 y3 y4, LeO (laws_FnSeens.j1 k y0 y1 y2 y3 y4) (laws_FnSeens.j1 (k + 1) y0 y1 y2 y3 y4)) ∧ (∀ y0 y1 y2 y3 y4 y5, LeO (laws_FnSeens.l0 k y0 y1 y2 y3 y4 y5) (laws_FnSeens.l0 (k + 1) y0 y1 y2 y3 y4 y5))
 | 0 => ⟨fun _ _ _ _ _ r h => by simp [laws_FnSeens.j0] at h, fun _ _ _ _ _ r h => by simp [laws_FnSeens.j1] at h, fun _ _ _ _ _ _ r h => by simp [laws_FnSeens.l0] at h⟩
 | k + 1 => by
  obtain ⟨ih0, ih1, ih2⟩ := laws_FnSeens.mono_l k
  refine ⟨?_, ?_, ?_⟩
  {
  intro y0 y1 y2 y3 y4
  unfold laws_FnSeens.j0
  repeat' first
  | (with_reducible exact ih0 _ _ _ _ _)
  | (with_reducible exact ih1 _ _ _ _ _)
  | (with_reducible exact ih2 _ _ _ _ _ _)
  | (with_reducible exact impl_Bottom.mono _ _ _)
  | (with_reducible exact impl_EntriesOk.mono _ _)
  | (with_reducible exact impl_Seens.mono _ _ _)
  | (with_reducible exact impl_Shown.mono _ _ _)
  | (with_reducible exact laws_likeEntries.mono _ _ _)
  | (with_reducible exact spec_Bottom.mono _ _ _)
  | (with_reducible exact spec_DrawSeens.mono _ _)
  | (with_reducible exact spec_EntriesOk.mono _ _)
  | (with_reducible exact spec_Seens.mono _ _ _)
  | (with_reducible exact spec_Shown.mono _ _ _)
  | (with_reducible exact LeO.refl _)
  | (with_reducible exact LeO.none _)
  | (with_reducible refine LeO.ite ?_ ?_)
  | (with_reducible refine LeO.bind ?_ (fun _ => ?_))
  | exact ih0 _ _ _ _ _
  | exact ih1 _ _ _ _ _
  | exact ih2 _ _ _ _ _ _
  | exact impl_Bottom.mono _ _ _
  | exact impl_EntriesOk.mono _ _
  | exact impl_Seens.mono _ _ _
  | exact impl_Shown.mono _ _ _
  | exact laws_likeEntries.mono _ _ _
  | exact spec_Bottom.mono _ _ _
  | exact spec_DrawSeens.mono _ _
  | exact spec_EntriesOk.mono _ _
  | exact spec_Seens.mono _ _ _
  | exact spec_Shown.mono _ _ _
  | exact LeO.none _
  | refine LeO.ite ?_ ?_
  | refine LeO.bind ?_ (fun _ => ?_)
  }
  {
  intro y0 y1 y2 y3 y4
  unfold laws_FnSeens.j1
  repeat' first
  | (with_reducible exact ih0 _ _ _ _ _)
  | (with_reducible exact ih1 _ _ _ _ _)
  | (with_reducible exact ih2 _ _ _ _ _ _)
  | (with_reducible exact impl_Bottom.mono _ _ _)
  | (with_reducible exact impl_EntriesOk.mono _ _)
  | (with_reducible exact impl_Seens.mono _ _ _)
  | (with_reducible exact impl_Shown.mono _ _ _)
  | (with_reducible exact laws_likeEntries.mono _ _ _)
  | (with_reducible exact spec_Bottom.mono _ _ _)
  | (with_reducible exact spec_DrawSeens.mono _ _)
  | (with_reducible exact spec_EntriesOk.mono _ _)
  | (with_reducible exact spec_Seens.mono _ _ _)
  | (with_reducible exact spec_Shown.mono _ _ _)
  | (with_reducible exact LeO.refl _)
  | (with_reducible exact LeO.none _)
  | (with_reducible refine LeO.ite ?_ ?_)
  | (with_reducible refine LeO.bind ?_ (fun _ => ?_))
  | exact ih0 _ _ _ _ _
  | exact ih1 _ _ _ _ _
  | exact ih2 _ _ _ _ _ _
  | exact impl_Bottom.mono _ _ _
  | exact impl_EntriesOk.mono _ _
  | exact impl_Seens.mono _ _ _
  | exact impl_Shown.mono _ _ _
  | exact laws_likeEntries.mono _ _ _
  | exact spec_Bottom.mono _ _ _
  | exact spec_DrawSeens.mono _ _
  | exact spec_EntriesOk.mono _ _
  | exact spec_Seens.mono _ _ _
  | exact spec_Shown.mono _ _ _
  | exact LeO.none _
  | refine LeO.ite ?_ ?_
  | refine LeO.bind ?_ (fun _ => ?_)
  }
  {
  intro y0 y1 y2 y3 y4 y5
  unfold laws_FnSeens.l0
  repeat' first
  | (with_reducible exact ih0 _ _ _ _ _)
  | (with_reducible exact ih1 _ _ _ _ _)
  | (with_reducible exact ih2 _ _ _ _ _ _)
  | (with_reducible exact impl_Bottom.mono _ _ _)
  | (with_reducible exact impl_EntriesOk.mono _ _)
  | (with_reducible exact impl_Seens.mono _ _ _)
  | (with_reducible exact impl_Shown.mono _ _ _)
  | (with_reducible exact laws_likeEntries.mono _ _ _)
  | (with_reducible exact spec_Bottom.mono _ _ _)
  | (with_reducible exact spec_DrawSeens.mono _ _)
  | (with_reducible exact spec_EntriesOk.mono _ _)
  | (with_reducible exact spec_Seens.mono _ _ _)
  | (with_reducible exact spec_Shown.mono _ _ _)
  | (with_reducible exact LeO.refl _)
  | (with_reducible exact LeO.none _)
  | (with_reducible refine LeO.ite ?_ ?_)
  | (with_reducible refine LeO.bind ?_ (fun _ => ?_))
  | exact ih0 _ _ _ _ _
  | exact ih1 _ _ _ _ _
  | exact ih2 _ _ _ _ _ _
  | exact impl_Bottom.mono _ _ _
  | exact impl_EntriesOk.mono _ _
  | exact impl_Seens.mono _ _ _
  | exact impl_Shown.mono _ _ _
  | exact laws_likeEntries.mono _ _ _
  | exact spec_Bottom.mono _ _ _
  | exact spec_DrawSeens.mono _ _
  | exact spec_EntriesOk.mono _ _
  | exact spec_Seens.mono _ _ _
  | exact spec_Shown.mono _ _ _
  | exact LeO.none _
  | refine LeO.ite ?_ ?_
  | refine LeO.bind ?_ (fun _ => ?_)
  }
theorem laws_FnSeens.mono : ∀ a0 k, LeO (laws_FnSeens.f k a0) (laws_FnSeens.f (k + 1) a0) := by
 intro a0 k
 obtain ⟨ih0, ih1, ih2⟩ := laws_FnSeens.mono_l k
 unfold laws_FnSeens.f
 repeat' first
   | (with_reducible exact ih0 _ _ _ _ _)
   | (with_reducible exact ih1 _ _ _ _ _)
   | (with_reducible exact ih2 _ _ _ _ _ _)
   | (with_reducible exact impl_Bottom.mono _ _ _)
   | (with_reducible exact impl_EntriesOk.mono _ _)
   | (with_reducible exact impl_Seens.mono _ _ _)
   | (with_reducible exact impl_Shown.mono _ _ _)
   | (with_reducible exact laws_likeEntries.mono _ _ _)
   | (with_reducible exact spec_Bottom.mono _ _ _)
   | (with_reducible exact spec_DrawSeens.mono _ _)
   | (with_reducible exact spec_EntriesOk.mono _ _)
   | (with_reducible exact spec_Seens.mono _ _ _)
   | (with_reducible exact spec_Shown.mono _ _ _)
   | (with_reducible exact LeO.refl _)
   | (with_reducible exact LeO.none _)
   | (with_reducible refine LeO.ite ?_ ?_)
   | (with_reducible refine LeO.bind ?_ (fun _ => ?_))
   | exact ih0 _ _ _ _ _
   | exact ih1 _ _ _ _ _
   | exact ih2 _ _ _ _ _ _
   | exact impl_Bottom.mono _ _ _
   | exact impl_EntriesOk.mono _ _
   | exact impl_Seens.mono _ _ _
   | exact impl_Shown.mono _ _ _
   | exact laws_likeEntries.mono _ _ _
   | exact spec_Bottom.mono _ _ _
   | exact spec_DrawSeens.mono _ _
   | exact spec_EntriesOk.mono _ _
   | exact spec_Seens.mono _ _ _
   | exact spec_Shown.mono _ _ _
   | exact LeO.none _
   | refine LeO.ite ?_ ?_
   | refine LeO.bind ?_ (fun _ => ?_)
set_option maxHeartbeats 8000000 in
set_option maxRecDepth 100000 in
theorem laws_FnSeens.calls (k : Nat) (A0 : Option Addr) (c0 : Nat) (l0 : List Int) (r : Bool) (w : World) (hr0 : Kd.C (Kd.int .u8) w A0 l0.length l0) (hc0 : l0.length ≤ c0) (h : laws_FnSeens.f k l0 = some r) :
  Calls Try.prog 10 #[.slice A0 l0.length c0] w fun e w' => e = .returned (.bool r) ∧ Below w.heap.size w w' := by
 have HR0 := Aside0.mk hr0
 have HC0 := Aside0.mk hc0
 clear hr0 hc0
 have HB := Aside0.mk (Below.refl w.heap.size w)
 have H : ((laws_big.f l0).bind fun t465 => (if t465 = true then (some true) else ((spec_DrawSeens.f k l0).bind fun bt466 => ((impl_Seens.f k bt466.1 bt466.2).bind fun t472 => ((impl_Bottom.f k bt466.1 bt466.2).bind fun t475 => ((spec_Seens.f k bt466.1 bt466.2).bind fun t478 => ((laws_likeEntries.f k t472 t478).bind fun t481 => (if t481 = true then ((spec_Bottom.f k bt466.1 bt466.2).bind fun t482 => ((laws_likeEntries.f k t475 t482).bind fun t485 => (laws_FnSeens.j0 k bt466.1 bt466.2 t472 t475 (!t485)))) else (laws_FnSeens.j0 k bt466.1 bt466.2 t472 t475 true))))))))) = some r := h
 clear h
 replace H := Option.bind_eq_some_iff.mp H
 obtain ⟨t465, A20, H⟩ := H
 replace H : (if t465 = true then (some true) else ((spec_DrawSeens.f k l0).bind fun bt466 => ((impl_Seens.f k bt466.1 bt466.2).bind fun t472 => ((impl_Bottom.f k bt466.1 bt466.2).bind fun t475 => ((spec_Seens.f k bt466.1 bt466.2).bind fun t478 => ((laws_likeEntries.f k t472 t478).bind fun t481 => (if t481 = true then ((spec_Bottom.f k bt466.1 bt466.2).bind fun t482 => ((laws_likeEntries.f k t475 t482).bind fun t485 => (laws_FnSeens.j0 k bt466.1 bt466.2 t472 t475 (!t485)))) else (laws_FnSeens.j0 k bt466.1 bt466.2 t472 t475 true)))))))) = some r := H
 have A2 := Aside0.mk A20
 clear A20
 by_cases c3 : t465 = true
 {
 subst c3
 have H1 : (some true) = some r := by rw [if_pos rfl] at H; exact H
 clear H
 have H := H1
 clear H1
 obtain rfl := Option.some.inj H
 go_enter Try.func10, Try.ntmps10
 go_wp2_with (first | ((with_reducible refine gate_callee (f := 41) rfl ?_); refine goesL_ (some 11) rfl rfl Try.func41 (by kernel_rfl) rfl #[.slice A0 l0.length c0] rfl z10b ?_; (with_reducible refine (laws_big.calls _ _ l0 true _ ?side1 ?side2 A2.out).mono ?_); (case side1 => exact (by repeat (first | exact HR0.out | (with_reducible refine Kd.C_alloc ?_ _) | (with_reducible refine Kd.C_drewN ?_ _) | (with_reducible refine Kd.C_drew ?_)))); (case side2 => exact HC0.out); rintro e w' ⟨rfl, ⟨nd, rfl⟩⟩; refine ⟨_, rfl, ?_⟩))
 go_ret
 exact ⟨by first | rfl | (simp [errW_none, errW_some] <;> rfl) | (simp [*, errW_none, errW_some] <;> rfl), by repeat (first | (with_reducible first | exact HB.out | apply below_alloc | apply pw_below_drewN | apply below_drew1) | exact HB.out)⟩
 }
 {
 replace c3 := Bool.eq_false_iff.mpr c3
 subst c3
 have H1 : ((spec_DrawSeens.f k l0).bind fun bt466 => ((impl_Seens.f k bt466.1 bt466.2).bind fun t472 => ((impl_Bottom.f k bt466.1 bt466.2).bind fun t475 => ((spec_Seens.f k bt466.1 bt466.2).bind fun t478 => ((laws_likeEntries.f k t472 t478).bind fun t481 => (if t481 = true then ((spec_Bottom.f k bt466.1 bt466.2).bind fun t482 => ((laws_likeEntries.f k t475 t482).bind fun t485 => (laws_FnSeens.j0 k bt466.1 bt466.2 t472 t475 (!t485)))) else (laws_FnSeens.j0 k bt466.1 bt466.2 t472 t475 true))))))) = some r := by rw [if_neg (show ¬ (false = true) by decide)] at H; exact H
 clear H
 have H := H1
 clear H1
 replace H := Option.bind_eq_some_iff.mp H
 obtain ⟨⟨t466, t467⟩, A40, H⟩ := H
 replace H : ((impl_Seens.f k t466 t467).bind fun t472 => ((impl_Bottom.f k t466 t467).bind fun t475 => ((spec_Seens.f k t466 t467).bind fun t478 => ((laws_likeEntries.f k t472 t478).bind fun t481 => (if t481 = true then ((spec_Bottom.f k t466 t467).bind fun t482 => ((laws_likeEntries.f k t475 t482).bind fun t485 => (laws_FnSeens.j0 k t466 t467 t472 t475 (!t485)))) else (laws_FnSeens.j0 k t466 t467 t472 t475 true)))))) = some r := H
 have A4 := Aside0.mk A40
 clear A40
 replace H := Option.bind_eq_some_iff.mp H
 obtain ⟨t472, A50, H⟩ := H
 replace H : ((impl_Bottom.f k t466 t467).bind fun t475 => ((spec_Seens.f k t466 t467).bind fun t478 => ((laws_likeEntries.f k t472 t478).bind fun t481 => (if t481 = true then ((spec_Bottom.f k t466 t467).bind fun t482 => ((laws_likeEntries.f k t475 t482).bind fun t485 => (laws_FnSeens.j0 k t466 t467 t472 t475 (!t485)))) else (laws_FnSeens.j0 k t466 t467 t472 t475 true))))) = some r := H
 have A5 := Aside0.mk A50
 clear A50
 replace H := Option.bind_eq_some_iff.mp H
 obtain ⟨t475, A60, H⟩ := H
 replace H : ((spec_Seens.f k t466 t467).bind fun t478 => ((laws_likeEntries.f k t472 t478).bind fun t481 => (if t481 = true then ((spec_Bottom.f k t466 t467).bind fun t482 => ((laws_likeEntries.f k t475 t482).bind fun t485 => (laws_FnSeens.j0 k t466 t467 t472 t475 (!t485)))) else (laws_FnSeens.j0 k t466 t467 t472 t475 true)))) = some r := H
 have A6 := Aside0.mk A60
 clear A60
 have HC7 := Aside0.mk H
 clear H
 go_enter Try.func10, Try.ntmps10
 go_upto_region 6 with (first | ((with_reducible refine gate_callee (f := 41) rfl ?_); refine goesL_ (some 11) rfl rfl Try.func41 (by kernel_rfl) rfl #[.slice A0 l0.length c0] rfl z10b ?_; (with_reducible refine (laws_big.calls _ _ l0 false _ ?side1 ?side2 A2.out).mono ?_); (case side1 => exact (by repeat (first | exact HR0.out | (with_reducible refine Kd.C_alloc ?_ _) | (with_reducible refine Kd.C_drewN ?_ _) | (with_reducible refine Kd.C_drew ?_)))); (case side2 => exact HC0.out); rintro e w' ⟨rfl, ⟨nd, rfl⟩⟩; refine ⟨_, rfl, ?_⟩) | ((with_reducible refine gate_callee (f := 42) rfl ?_); refine goesL_ (some 14) rfl rfl Try.func42 (by kernel_rfl) rfl #[.slice A0 l0.length c0] rfl z10b ?_; (with_reducible refine (spec_DrawSeens.calls k _ _ l0 t466 t467 _ ?side1 ?side2 A4.out).mono ?_); (case side1 => exact (by repeat (first | exact HR0.out | (with_reducible refine Kd.C_alloc ?_ _) | (with_reducible refine Kd.C_drewN ?_ _) | (with_reducible refine Kd.C_drew ?_)))); (case side2 => exact HC0.out); rintro e w8 ⟨v468, v470, rfl, ho0, ho1, hb⟩; refine ⟨_, rfl, ?_⟩; have n0_ := Aside0.mk (Kd.R_lower ho0 (below_size z10a)); have n1_ := Aside0.mk (Kd.R_lower ho1 (below_size z10a)); have n2_ := Aside0.mk (below_step z10a hb); clear HB; have HO469 := n0_; have HO471 := n1_; have HB := n2_; clear n0_ n1_ n2_; (try clear hb); (try clear hb2); (try clear hk); (try clear hi); (try clear ho0); (try clear ho1); obtain ⟨Ao9, co9, eo9⟩ := Kd.R_slice HO469.out; subst eo9; obtain ⟨Ao10, co10, eo10⟩ := Kd.R_slice HO471.out; subst eo10) | ((with_reducible refine gate_callee (f := 33) rfl ?_); refine goesL_ (some 19) rfl rfl Try.func33 (by kernel_rfl) rfl #[.slice Ao9 t466.length co9, .slice Ao10 t467.length co10] rfl z10b ?_; (with_reducible refine (impl_Seens.calls k _ _ t466 _ _ t467 t472 _ ?side1 ?side2 ?side3 ?side4 A5.out).mono ?_); (case side1 => exact z10n); (case side2 => exact (Kd.R_reads' HO469.out).2.1); (case side3 => exact z10o); (case side4 => exact (Kd.R_reads' HO471.out).2.1); rintro e w11 ⟨v473, rfl, ho0, hb⟩; refine ⟨_, rfl, ?_⟩; have n0_ := Aside0.mk (Kd.R_elder' z10j (Kd.R_base ho0) hb); have n1_ := Aside0.mk (Kd.R_below z10s hb); have n2_ := Aside0.mk (Kd.R_lower (Kd.R_new' ho0 (Kd.R_lt z10j)) (below_size z10a)); have n3_ := Aside0.mk (below_step z10a hb); clear HO469; clear HO471; clear HB; have HO469 := n0_; have HO471 := n1_; have HO474 := n2_; have HB := n3_; clear n0_ n1_ n2_ n3_; (try clear hb); (try clear hb2); (try clear hk); (try clear hi); (try clear ho0)) | ((with_reducible refine gate_callee (f := 40) rfl ?_); refine goesL_ (some 22) rfl rfl Try.func40 (by kernel_rfl) rfl #[.slice Ao9 t466.length co9, .slice Ao10 t467.length co10] rfl z10b ?_; (with_reducible refine (impl_Bottom.calls k _ _ t466 _ _ t467 t475 _ ?side1 ?side2 ?side3 ?side4 A6.out).mono ?_); (case side1 => exact z10n); (case side2 => exact (Kd.R_reads' HO469.out).2.1); (case side3 => exact z10o); (case side4 => exact (Kd.R_reads' HO471.out).2.1); rintro e w12 ⟨v476, rfl, ho0, hb⟩; refine ⟨_, rfl, ?_⟩; have n0_ := Aside0.mk (Kd.R_elder' z10j (Kd.R_base ho0) hb); have n1_ := Aside0.mk (Kd.R_below z10s hb); have n2_ := Aside0.mk (Kd.R_elder' z10l (Kd.R_base ho0) hb); have n3_ := Aside0.mk (Kd.R_lower (Kd.R_new' (Kd.R_new' ho0 (Kd.R_lt z10j)) (Kd.R_lt z10l)) (below_size z10a)); have n4_ := Aside0.mk (below_step z10a hb); clear HO469; clear HO471; clear HO474; clear HB; have HO469 := n0_; have HO471 := n1_; have HO474 := n2_; have HO477 := n3_; have HB := n4_; clear n0_ n1_ n2_ n3_ n4_; (try clear hb); (try clear hb2); (try clear hk); (try clear hi); (try clear ho0)))
 (try simp only [Act.put, List.setIfInBounds_toArray, List.set_cons_zero, List.set_cons_succ])
 go_cut [36] (fun v36 wc => ∃ (kq : Nat) (x36_6 : Bool), v36 = .bool x36_6 ∧ Aside0 (laws_FnSeens.j0 kq t466 t467 t472 t475 x36_6 = some r) ∧ Aside0 (kq ≤ k) ∧ Aside0 (Kd.R k88 88 wc w.heap.size (fun k_ => some k_ ≠ (v473 : Value).ownBlock ∧ some k_ ≠ (v476 : Value).ownBlock) (.slice Ao9 t466.length co9) t466) ∧ Aside0 (Kd.R (Kd.int .i64) 2 wc w.heap.size (fun _ => True) (.slice Ao10 t467.length co10) t467) ∧ Aside0 (Kd.R k88 88 wc w.heap.size (fun k_ => some k_ ≠ ((.slice Ao9 t466.length co9) : Value).ownBlock ∧ some k_ ≠ (v476 : Value).ownBlock) v473 t472) ∧ Aside0 (Kd.R k88 88 wc w.heap.size (fun k_ => some k_ ≠ ((.slice Ao9 t466.length co9) : Value).ownBlock ∧ some k_ ≠ (v473 : Value).ownBlock) v476 t475) ∧ Aside0 (Below w.heap.size w wc))
 case first =>
  have H := HC7.out
  clear HC7
  replace H := Option.bind_eq_some_iff.mp H
  obtain ⟨t478, A130, H⟩ := H
  replace H : ((laws_likeEntries.f k t472 t478).bind fun t481 => (if t481 = true then ((spec_Bottom.f k t466 t467).bind fun t482 => ((laws_likeEntries.f k t475 t482).bind fun t485 => (laws_FnSeens.j0 k t466 t467 t472 t475 (!t485)))) else (laws_FnSeens.j0 k t466 t467 t472 t475 true))) = some r := H
  have A13 := Aside0.mk A130
  clear A130
  replace H := Option.bind_eq_some_iff.mp H
  obtain ⟨t481, A140, H⟩ := H
  replace H : (if t481 = true then ((spec_Bottom.f k t466 t467).bind fun t482 => ((laws_likeEntries.f k t475 t482).bind fun t485 => (laws_FnSeens.j0 k t466 t467 t472 t475 (!t485)))) else (laws_FnSeens.j0 k t466 t467 t472 t475 true)) = some r := H
  have A14 := Aside0.mk A140
  clear A140
  by_cases c15 : t481 = true
  {
  subst c15
  have H1 : ((spec_Bottom.f k t466 t467).bind fun t482 => ((laws_likeEntries.f k t475 t482).bind fun t485 => (laws_FnSeens.j0 k t466 t467 t472 t475 (!t485)))) = some r := by rw [if_pos rfl] at H; exact H
  clear H
  have H := H1
  clear H1
  replace H := Option.bind_eq_some_iff.mp H
  obtain ⟨t482, A160, H⟩ := H
  replace H : ((laws_likeEntries.f k t475 t482).bind fun t485 => (laws_FnSeens.j0 k t466 t467 t472 t475 (!t485))) = some r := H
  have A16 := Aside0.mk A160
  clear A160
  replace H := Option.bind_eq_some_iff.mp H
  obtain ⟨t485, A170, H⟩ := H
  replace H : (laws_FnSeens.j0 k t466 t467 t472 t475 (!t485)) = some r := H
  have A17 := Aside0.mk A170
  clear A170
  have H' := Aside0.mk H
  clear H
  go_wp2_with (first | ((with_reducible refine gate_callee (f := 30) rfl ?_); refine goesL_ (some 26) rfl rfl Try.func30 (by kernel_rfl) rfl #[.slice Ao9 t466.length co9, .slice Ao10 t467.length co10] rfl z10b ?_; (with_reducible refine (spec_Seens.calls k _ _ t466 _ _ t467 t478 _ ?side1 ?side2 ?side3 ?side4 A13.out).mono ?_); (case side1 => exact z10n); (case side2 => exact (Kd.R_reads' HO469.out).2.1); (case side3 => exact z10o); (case side4 => exact (Kd.R_reads' HO471.out).2.1); rintro e w18 ⟨v479, rfl, ho0, hb⟩; refine ⟨_, rfl, ?_⟩; have n0_ := Aside0.mk (Kd.R_elder' z10j (Kd.R_base ho0) hb); have n1_ := Aside0.mk (Kd.R_below z10s hb); have n2_ := Aside0.mk (Kd.R_elder' z10l (Kd.R_base ho0) hb); have n3_ := Aside0.mk (Kd.R_elder' z10r (Kd.R_base ho0) hb); have n4_ := Aside0.mk (Kd.R_lower (Kd.R_new' (Kd.R_new' (Kd.R_new' ho0 (Kd.R_lt z10j)) (Kd.R_lt z10l)) (Kd.R_lt z10r)) (below_size z10a)); have n5_ := Aside0.mk (below_step z10a hb); clear HO469; clear HO471; clear HO474; clear HO477; clear HB; have HO469 := n0_; have HO471 := n1_; have HO474 := n2_; have HO477 := n3_; have HO480 := n4_; have HB := n5_; clear n0_ n1_ n2_ n3_ n4_ n5_; (try clear hb); (try clear hb2); (try clear hk); (try clear hi); (try clear ho0); obtain ⟨Ao19, co19, eo19⟩ := Kd.R_slice HO474.out; subst eo19; obtain ⟨Ao20, co20, eo20⟩ := Kd.R_slice HO480.out; subst eo20) | ((with_reducible refine gate_callee (f := 43) rfl ?_); refine goesL_ (some 27) rfl rfl Try.func43 (by kernel_rfl) rfl #[.slice Ao19 t472.length co19, .slice Ao20 t478.length co20] rfl z10b ?_; (with_reducible refine (laws_likeEntries.calls k _ _ t472 _ _ t478 true _ ?side1 ?side2 ?side3 ?side4 A14.out).mono ?_); (case side1 => exact (by repeat (first | exact (Kd.R_reads' HO474.out).2.2 | (with_reducible refine Kd.C_alloc ?_ _) | (with_reducible refine Kd.C_drewN ?_ _) | (with_reducible refine Kd.C_drew ?_)))); (case side2 => exact (Kd.R_reads' HO474.out).2.1); (case side3 => exact (by repeat (first | exact (Kd.R_reads' HO480.out).2.2 | (with_reducible refine Kd.C_alloc ?_ _) | (with_reducible refine Kd.C_drewN ?_ _) | (with_reducible refine Kd.C_drew ?_)))); (case side4 => exact (Kd.R_reads' HO480.out).2.1); rintro e w' ⟨rfl, ⟨nd, rfl⟩⟩; refine ⟨_, rfl, ?_⟩) | (go_at_call 39; (with_reducible refine (spec_Bottom.calls k _ _ t466 _ _ t467 t482 _ ?side1 ?side2 ?side3 ?side4 A16.out).mono ?_); (case side1 => exact z10n); (case side2 => exact (Kd.R_reads' HO469.out).2.1); (case side3 => exact z10o); (case side4 => exact (Kd.R_reads' HO471.out).2.1); rintro e w21 ⟨v483, rfl, ho0, hb⟩; have n0_ := Aside0.mk (Kd.R_elder' z10j (Kd.R_base ho0) hb); have n1_ := Aside0.mk (Kd.R_below z10s hb); have n2_ := Aside0.mk (Kd.R_elder' z10l (Kd.R_base ho0) hb); have n3_ := Aside0.mk (Kd.R_elder' z10r (Kd.R_base ho0) hb); have n4_ := Aside0.mk (Kd.R_elder' (by (with_reducible repeat (first | apply Kd.R_alloc | apply Kd.R_drewN | apply Kd.R_drew)); exact HO480.out) (Kd.R_base ho0) hb); have n5_ := Aside0.mk (Kd.R_lower (Kd.R_new' (Kd.R_new' (Kd.R_new' (Kd.R_new' ho0 (Kd.R_lt z10j)) (Kd.R_lt z10l)) (Kd.R_lt z10r)) (Kd.R_lt (by (with_reducible repeat (first | apply Kd.R_alloc | apply Kd.R_drewN | apply Kd.R_drew)); exact HO480.out))) (below_size z10a)); have n6_ := Aside0.mk (below_step z10a hb); clear HO469; clear HO471; clear HO474; clear HO477; clear HO480; clear HB; have HO469 := n0_; have HO471 := n1_; have HO474 := n2_; have HO477 := n3_; have HO480 := n4_; have HO484 := n5_; have HB := n6_; clear n0_ n1_ n2_ n3_ n4_ n5_ n6_; (try clear hb); (try clear hb2); (try clear hk); (try clear hi); (try clear ho0); obtain ⟨Ao22, co22, eo22⟩ := Kd.R_slice HO477.out; subst eo22; obtain ⟨Ao23, co23, eo23⟩ := Kd.R_slice HO484.out; subst eo23) | (go_at_call 43; (with_reducible refine (laws_likeEntries.calls k _ _ t475 _ _ t482 t485 _ ?side1 ?side2 ?side3 ?side4 A17.out).mono ?_); (case side1 => exact (by repeat (first | exact (Kd.R_reads' HO477.out).2.2 | (with_reducible refine Kd.C_alloc ?_ _) | (with_reducible refine Kd.C_drewN ?_ _) | (with_reducible refine Kd.C_drew ?_)))); (case side2 => exact (Kd.R_reads' HO477.out).2.1); (case side3 => exact (by repeat (first | exact (Kd.R_reads' HO484.out).2.2 | (with_reducible refine Kd.C_alloc ?_ _) | (with_reducible refine Kd.C_drewN ?_ _) | (with_reducible refine Kd.C_drew ?_)))); (case side4 => exact (Kd.R_reads' HO484.out).2.1); rintro e w' ⟨rfl, ⟨nd, rfl⟩⟩))
  go_meet
  case rel => exact ⟨_, (!t485), (by first | rfl | (simp; done) | (simp [*]; done)), H', ⟨by first | omega | exact Nat.le_refl _⟩, ⟨by (with_reducible repeat (first | apply Kd.R_alloc | apply Kd.R_drewN | apply Kd.R_drew)); exact Kd.R_mono HO469.out (fun _ hk => ⟨hk.1.1.1.2, hk.1.1.2⟩)⟩, ⟨by (with_reducible repeat (first | apply Kd.R_alloc | apply Kd.R_drewN | apply Kd.R_drew)); exact HO471.out⟩, ⟨by (with_reducible repeat (first | apply Kd.R_alloc | apply Kd.R_drewN | apply Kd.R_drew)); exact Kd.R_mono HO474.out (fun _ hk => ⟨hk.1.1.1.2, hk.1.1.2⟩)⟩, ⟨by (with_reducible repeat (first | apply Kd.R_alloc | apply Kd.R_drewN | apply Kd.R_drew)); exact Kd.R_mono HO477.out (fun _ hk => ⟨hk.1.1.1.2, hk.1.1.2⟩)⟩, ⟨by repeat (first | (with_reducible first | exact HB.out | apply below_alloc | apply pw_below_drewN | apply below_drew1) | exact HB.out)⟩⟩
  }
  {
  replace c15 := Bool.eq_false_iff.mpr c15
  subst c15
  have H1 : (laws_FnSeens.j0 k t466 t467 t472 t475 true) = some r := by rw [if_neg (show ¬ (false = true) by decide)] at H; exact H
  clear H
  have H := H1
  clear H1
  have H' := Aside0.mk H
  clear H
  go_wp2_with (first | ((with_reducible refine gate_callee (f := 30) rfl ?_); refine goesL_ (some 26) rfl rfl Try.func30 (by kernel_rfl) rfl #[.slice Ao9 t466.length co9, .slice Ao10 t467.length co10] rfl z10b ?_; (with_reducible refine (spec_Seens.calls k _ _ t466 _ _ t467 t478 _ ?side1 ?side2 ?side3 ?side4 A13.out).mono ?_); (case side1 => exact z10n); (case side2 => exact (Kd.R_reads' HO469.out).2.1); (case side3 => exact z10o); (case side4 => exact (Kd.R_reads' HO471.out).2.1); rintro e w24 ⟨v479, rfl, ho0, hb⟩; refine ⟨_, rfl, ?_⟩; have n0_ := Aside0.mk (Kd.R_elder' z10j (Kd.R_base ho0) hb); have n1_ := Aside0.mk (Kd.R_below z10s hb); have n2_ := Aside0.mk (Kd.R_elder' z10l (Kd.R_base ho0) hb); have n3_ := Aside0.mk (Kd.R_elder' z10r (Kd.R_base ho0) hb); have n4_ := Aside0.mk (Kd.R_lower (Kd.R_new' (Kd.R_new' (Kd.R_new' ho0 (Kd.R_lt z10j)) (Kd.R_lt z10l)) (Kd.R_lt z10r)) (below_size z10a)); have n5_ := Aside0.mk (below_step z10a hb); clear HO469; clear HO471; clear HO474; clear HO477; clear HB; have HO469 := n0_; have HO471 := n1_; have HO474 := n2_; have HO477 := n3_; have HO480 := n4_; have HB := n5_; clear n0_ n1_ n2_ n3_ n4_ n5_; (try clear hb); (try clear hb2); (try clear hk); (try clear hi); (try clear ho0); obtain ⟨Ao25, co25, eo25⟩ := Kd.R_slice HO474.out; subst eo25; obtain ⟨Ao26, co26, eo26⟩ := Kd.R_slice HO480.out; subst eo26) | ((with_reducible refine gate_callee (f := 43) rfl ?_); refine goesL_ (some 27) rfl rfl Try.func43 (by kernel_rfl) rfl #[.slice Ao25 t472.length co25, .slice Ao26 t478.length co26] rfl z10b ?_; (with_reducible refine (laws_likeEntries.calls k _ _ t472 _ _ t478 false _ ?side1 ?side2 ?side3 ?side4 A14.out).mono ?_); (case side1 => exact (by repeat (first | exact (Kd.R_reads' HO474.out).2.2 | (with_reducible refine Kd.C_alloc ?_ _) | (with_reducible refine Kd.C_drewN ?_ _) | (with_reducible refine Kd.C_drew ?_)))); (case side2 => exact (Kd.R_reads' HO474.out).2.1); (case side3 => exact (by repeat (first | exact (Kd.R_reads' HO480.out).2.2 | (with_reducible refine Kd.C_alloc ?_ _) | (with_reducible refine Kd.C_drewN ?_ _) | (with_reducible refine Kd.C_drew ?_)))); (case side4 => exact (Kd.R_reads' HO480.out).2.1); rintro e w' ⟨rfl, ⟨nd, rfl⟩⟩; refine ⟨_, rfl, ?_⟩))
  go_meet
  case rel => exact ⟨_, (true), (by first | rfl | (simp; done) | (simp [*]; done)), H', ⟨by first | omega | exact Nat.le_refl _⟩, ⟨by (with_reducible repeat (first | apply Kd.R_alloc | apply Kd.R_drewN | apply Kd.R_drew)); exact Kd.R_mono HO469.out (fun _ hk => ⟨hk.1.1.2, hk.1.2⟩)⟩, ⟨by (with_reducible repeat (first | apply Kd.R_alloc | apply Kd.R_drewN | apply Kd.R_drew)); exact HO471.out⟩, ⟨by (with_reducible repeat (first | apply Kd.R_alloc | apply Kd.R_drewN | apply Kd.R_drew)); exact Kd.R_mono HO474.out (fun _ hk => ⟨hk.1.1.2, hk.1.2⟩)⟩, ⟨by (with_reducible repeat (first | apply Kd.R_alloc | apply Kd.R_drewN | apply Kd.R_drew)); exact Kd.R_mono HO477.out (fun _ hk => ⟨hk.1.1.2, hk.1.2⟩)⟩, ⟨by repeat (first | (with_reducible first | exact HB.out | apply below_alloc | apply pw_below_drewN | apply below_drew1) | exact HB.out)⟩⟩
  }
 case rest =>
  clear HC7
  try clear c1
  try clear p2
  try clear c3
  try clear c4
  try clear c10
  try clear c15
  obtain ⟨kq, x36_6, rfl, HA, HJ6, HO_3, HO_4, HO_5, HO_6, HB⟩ := hcut
  cases kq with
  | zero => exact absurd HA.out (by simp [laws_FnSeens.j0])
  | succ kj6 =>
   have H := HA.out
   clear HA
   simp only [laws_FnSeens.j0] at H
   by_cases c27 : x36_6 = true
   {
   subst c27
   have H1 : (some false) = some r := by rw [if_pos rfl] at H; exact H
   clear H
   have H := H1
   clear H1
   obtain rfl := Option.some.inj H
   go_wp2
   go_ret
   exact ⟨by first | rfl | (simp [errW_none, errW_some] <;> rfl) | (simp [*, errW_none, errW_some] <;> rfl), by repeat (first | (with_reducible first | exact HB.out | apply below_alloc | apply pw_below_drewN | apply below_drew1) | exact HB.out)⟩
   }
   {
   replace c27 := Bool.eq_false_iff.mpr c27
   subst c27
   have H1 : ((spec_EntriesOk.f kj6 t466).bind fun t486 => (if t486 = true then (laws_FnSeens.j1 kj6 t466 t467 t472 t475 (decide ((t467.length : Int) > 20))) else (laws_FnSeens.j1 kj6 t466 t467 t472 t475 true))) = some r := by rw [if_neg (show ¬ (false = true) by decide)] at H; exact H
   clear H
   have H := H1
   clear H1
   have HC28 := Aside0.mk H
   clear H
   go_upto_region 8 with (fail)
   go_cut [44] (fun v44 wc => ∃ (kq : Nat) (x44_27 : Bool), v44 = .bool x44_27 ∧ Aside0 (laws_FnSeens.j1 kq t466 t467 t472 t475 x44_27 = some r) ∧ Aside0 (kq ≤ kj6) ∧ Aside0 (Kd.R k88 88 wc w.heap.size (fun k_ => some k_ ≠ (v473 : Value).ownBlock ∧ some k_ ≠ (v476 : Value).ownBlock) (.slice Ao9 t466.length co9) t466) ∧ Aside0 (Kd.R (Kd.int .i64) 2 wc w.heap.size (fun _ => True) (.slice Ao10 t467.length co10) t467) ∧ Aside0 (Kd.R k88 88 wc w.heap.size (fun k_ => some k_ ≠ ((.slice Ao9 t466.length co9) : Value).ownBlock ∧ some k_ ≠ (v476 : Value).ownBlock) v473 t472) ∧ Aside0 (Kd.R k88 88 wc w.heap.size (fun k_ => some k_ ≠ ((.slice Ao9 t466.length co9) : Value).ownBlock ∧ some k_ ≠ (v473 : Value).ownBlock) v476 t475) ∧ Aside0 (Below w.heap.size w wc))
   case first =>
    have H := HC28.out
    clear HC28
    replace H := Option.bind_eq_some_iff.mp H
    obtain ⟨t486, A290, H⟩ := H
    replace H : (if t486 = true then (laws_FnSeens.j1 kj6 t466 t467 t472 t475 (decide ((t467.length : Int) > 20))) else (laws_FnSeens.j1 kj6 t466 t467 t472 t475 true)) = some r := H
    have A29 := Aside0.mk A290
    clear A290
    by_cases c30 : t486 = true
    {
    subst c30
    have H1 : (laws_FnSeens.j1 kj6 t466 t467 t472 t475 (decide ((t467.length : Int) > 20))) = some r := by rw [if_pos rfl] at H; exact H
    clear H
    have H := H1
    clear H1
    have H' := Aside0.mk H
    clear H
    go_wp2_with (first | ((with_reducible refine gate_callee (f := 44) rfl ?_); refine goesL_ (some 38) rfl rfl Try.func44 (by kernel_rfl) rfl #[.slice Ao9 t466.length co9] rfl z10b ?_; (with_reducible refine (spec_EntriesOk.calls kj6 _ _ t466 true _ ?side1 ?side2 A29.out).mono ?_); (case side1 => exact z10q); (case side2 => exact (Kd.R_reads' HO_3.out).2.1); rintro e w31 ⟨rfl, hb⟩; refine ⟨_, rfl, ?_⟩; have n0_ := Aside0.mk (Kd.R_below z10c hb); have n1_ := Aside0.mk (Kd.R_below z10f hb); have n2_ := Aside0.mk (Kd.R_below z10d hb); have n3_ := Aside0.mk (Kd.R_below z10e hb); have n4_ := Aside0.mk (below_step z10a hb); clear HO_3; clear HO_4; clear HO_5; clear HO_6; clear HB; have HO_3 := n0_; have HO_4 := n1_; have HO_5 := n2_; have HO_6 := n3_; have HB := n4_; clear n0_ n1_ n2_ n3_ n4_; (try clear hb); (try clear hb2); (try clear hk); (try clear hi)))
    go_meet
    case rel => exact ⟨_, (decide ((t467.length : Int) > 20)), (by first | rfl | (simp; done) | (simp [*]; done)), H', ⟨by have := HJ6.out; first | omega | exact Nat.le_refl _⟩, ⟨by (with_reducible repeat (first | apply Kd.R_alloc | apply Kd.R_drewN | apply Kd.R_drew)); exact HO_3.out⟩, ⟨by (with_reducible repeat (first | apply Kd.R_alloc | apply Kd.R_drewN | apply Kd.R_drew)); exact HO_4.out⟩, ⟨by (with_reducible repeat (first | apply Kd.R_alloc | apply Kd.R_drewN | apply Kd.R_drew)); exact HO_5.out⟩, ⟨by (with_reducible repeat (first | apply Kd.R_alloc | apply Kd.R_drewN | apply Kd.R_drew)); exact HO_6.out⟩, ⟨by repeat (first | (with_reducible first | exact HB.out | apply below_alloc | apply pw_below_drewN | apply below_drew1) | exact HB.out)⟩⟩
    }
    {
    replace c30 := Bool.eq_false_iff.mpr c30
    subst c30
    have H1 : (laws_FnSeens.j1 kj6 t466 t467 t472 t475 true) = some r := by rw [if_neg (show ¬ (false = true) by decide)] at H; exact H
    clear H
    have H := H1
    clear H1
    have H' := Aside0.mk H
    clear H
    go_wp2_with (first | ((with_reducible refine gate_callee (f := 44) rfl ?_); refine goesL_ (some 38) rfl rfl Try.func44 (by kernel_rfl) rfl #[.slice Ao9 t466.length co9] rfl z10b ?_; (with_reducible refine (spec_EntriesOk.calls kj6 _ _ t466 false _ ?side1 ?side2 A29.out).mono ?_); (case side1 => exact z10q); (case side2 => exact (Kd.R_reads' HO_3.out).2.1); rintro e w32 ⟨rfl, hb⟩; refine ⟨_, rfl, ?_⟩; have n0_ := Aside0.mk (Kd.R_below z10c hb); have n1_ := Aside0.mk (Kd.R_below z10f hb); have n2_ := Aside0.mk (Kd.R_below z10d hb); have n3_ := Aside0.mk (Kd.R_below z10e hb); have n4_ := Aside0.mk (below_step z10a hb); clear HO_3; clear HO_4; clear HO_5; clear HO_6; clear HB; have HO_3 := n0_; have HO_4 := n1_; have HO_5 := n2_; have HO_6 := n3_; have HB := n4_; clear n0_ n1_ n2_ n3_ n4_; (try clear hb); (try clear hb2); (try clear hk); (try clear hi)))
    go_meet
    case rel => exact ⟨_, (true), (by first | rfl | (simp; done) | (simp [*]; done)), H', ⟨by have := HJ6.out; first | omega | exact Nat.le_refl _⟩, ⟨by (with_reducible repeat (first | apply Kd.R_alloc | apply Kd.R_drewN | apply Kd.R_drew)); exact HO_3.out⟩, ⟨by (with_reducible repeat (first | apply Kd.R_alloc | apply Kd.R_drewN | apply Kd.R_drew)); exact HO_4.out⟩, ⟨by (with_reducible repeat (first | apply Kd.R_alloc | apply Kd.R_drewN | apply Kd.R_drew)); exact HO_5.out⟩, ⟨by (with_reducible repeat (first | apply Kd.R_alloc | apply Kd.R_drewN | apply Kd.R_drew)); exact HO_6.out⟩, ⟨by repeat (first | (with_reducible first | exact HB.out | apply below_alloc | apply pw_below_drewN | apply below_drew1) | exact HB.out)⟩⟩
    }
   case rest =>
    clear HC28
    try clear c1
    try clear c2
    try clear p2
    try clear c3
    try clear c4
    try clear c10
    try clear c15
    try clear c27
    try clear c30
    try clear p2
    obtain ⟨kq, x44_27, rfl, HA, HJ27, HO_3, HO_4, HO_5, HO_6, HB⟩ := hcut
    cases kq with
    | zero => exact absurd HA.out (by simp [laws_FnSeens.j1])
    | succ kj27 =>
     have H := HA.out
     clear HA
     simp only [laws_FnSeens.j1] at H
     by_cases c33 : x44_27 = true
     {
     subst c33
     have H1 : (some ((wrap64 ((t472.length : Int) + (t475.length : Int))) == 0)) = some r := by rw [if_pos rfl] at H; exact H
     clear H
     have H := H1
     clear H1
     obtain rfl := Option.some.inj H
     obtain ⟨Ao34, co34, eo34⟩ := Kd.R_slice HO_5.out
     subst eo34
     obtain ⟨Ao35, co35, eo35⟩ := Kd.R_slice HO_6.out
     subst eo35
     go_wp2
     go_ret
     exact ⟨by first | rfl | (simp [errW_none, errW_some] <;> rfl) | (simp [*, errW_none, errW_some] <;> rfl), by repeat (first | (with_reducible first | exact HB.out | apply below_alloc | apply pw_below_drewN | apply below_drew1) | exact HB.out)⟩
     }
     {
     replace c33 := Bool.eq_false_iff.mpr c33
     subst c33
     have H1 : ((some (([] : List Int) : List Int)).bind fun y487 => (if y487.length + t467.length < 17592186044416 then ((some (y487 ++ t467 : List Int)).bind fun y490 => (if y490.length < 17592186044416 then (laws_FnSeens.l0 kj27 t466 t467 t472 t475 (y490 ++ [1000000]) 0) else (none))) else (none))) = some r := by rw [if_neg (show ¬ (false = true) by decide)] at H; exact H
     clear H
     have H := H1
     clear H1
     obtain ⟨y487, hy487⟩ : ∃ y_ : List Int, y_ = (([] : List Int)) := ⟨_, rfl⟩
     replace H : (if y487.length + t467.length < 17592186044416 then ((some (y487 ++ t467 : List Int)).bind fun y490 => (if y490.length < 17592186044416 then (laws_FnSeens.l0 kj27 t466 t467 t472 t475 (y490 ++ [1000000]) 0) else (none))) else (none)) = some r := by first | (rw [hy487]; with_reducible exact H) | (have H2_ := (Option.bind_some _ _).symm.trans H; rw [hy487]; with_reducible exact H2_) | (have H2_ := (Option.bind_some _ _).symm.trans H; with_reducible exact H2_) | with_reducible exact H | (rw [hy487]; exact H) | exact H
     have Ny487 := Aside0.mk hy487
     clear hy487
     by_cases c36 : y487.length + t467.length < 17592186044416
     {
     rw [if_pos c36] at H
     have LMc36 := Aside0.mk c36
     clear c36
     obtain ⟨y490, hy490⟩ : ∃ y_ : List Int, y_ = (y487 ++ t467) := ⟨_, rfl⟩
     replace H : (if y490.length < 17592186044416 then (laws_FnSeens.l0 kj27 t466 t467 t472 t475 (y490 ++ [1000000]) 0) else (none)) = some r := by first | (rw [hy490]; with_reducible exact H) | (have H2_ := (Option.bind_some _ _).symm.trans H; rw [hy490]; with_reducible exact H2_) | (have H2_ := (Option.bind_some _ _).symm.trans H; with_reducible exact H2_) | with_reducible exact H | (rw [hy490]; exact H) | exact H
     have Ny490 := Aside0.mk hy490
     clear hy490
     by_cases c37 : y490.length < 17592186044416
     {
     rw [if_pos c37] at H
     have LMc37 := Aside0.mk c37
     clear c37
     obtain ⟨y493, hy493⟩ : ∃ y_ : List Int, y_ = (y490 ++ [1000000]) := ⟨_, rfl⟩
     replace H : (laws_FnSeens.l0 kj27 t466 t467 t472 t475 y493 0) = some r := by first | (rw [hy493]; with_reducible exact H) | (have H2_ := (Option.bind_some _ _).symm.trans H; rw [hy493]; with_reducible exact H2_) | (have H2_ := (Option.bind_some _ _).symm.trans H; with_reducible exact H2_) | with_reducible exact H | (rw [hy493]; exact H) | exact H
     have Ny493 := Aside0.mk hy493
     clear hy493
     have H' := Aside0.mk H
     clear H
     go_wp2_with (first | ((with_reducible refine gate_dst (N := 51) rfl ?_); (try (refine gate_guard (by rfl) ?_; dsimp only)); refine Kd.R_lit (Kd.int .i64) _ 2 ?hg (N := 51) ?hd (xs := ([] : List Int)) (inner := []) (ok := fun _ => True) (okp := fun _ => True) ?hr ?hp (fun _ hk => hk) trivial (Below.refl _ _) (Nat.le_refl _) (by simp) ?_; (case hd => rfl); (case hg => rfl); (case hr => first | (go_simp; done) | (go_simp; rfl)); (case hp => exact (Reps.none _ _)); intro v488 w38 ho39 hb hg_ hnew_; clear hg_ hnew_; (first | rw [← Ny487.out] at ho39 | (simp only [Int.reduceToNat] at ho39; rw [← Ny487.out] at ho39)); have n0_ := Aside0.mk (Kd.R_below z10c hb); have n1_ := Aside0.mk (Kd.R_elder' z10f (Kd.R_base ho39) hb); have n2_ := Aside0.mk (Kd.R_below z10d hb); have n3_ := Aside0.mk (Kd.R_below z10e hb); have n4_ := Aside0.mk (Kd.R_lower (Kd.R_new' ho39 (Kd.R_lt z10f)) (below_size z10a)); have n5_ := Aside0.mk (below_step z10a hb); clear HO_3; clear HO_4; clear HO_5; clear HO_6; clear HB; have HO_3 := n0_; have HO_4 := n1_; have HO_5 := n2_; have HO_6 := n3_; have HO489 := n4_; have HB := n5_; clear n0_ n1_ n2_ n3_ n4_ n5_; clear hb ho39) | ((with_reducible refine gate_builtin (b := .append) (xs := #[.tmp 51, .tmp 52]) rfl ?_); (try (refine gate_guard (by rfl) ?_; dsimp only)); at_builtin; refine Kd.R_append_rows (Kd.int .i64) (w0 := w) w.heap.size rfl (.tmp 51) (.tmp 52) 48 2 (.int .i64 0) 8 rfl Try.underlying48 info2 rfl (by decide) (by omega) v488 y487 t467 _ _ _ (fun k_ => some k_ ≠ (.slice Ao10 t467.length co10 : Value).ownBlock) (fun _ => False) rfl rfl ?aO ?aR (fun _ _ h => h) (fun _ h => h.elim) ?aF ?aB ?aS ?aL ?_; (case aR => exact (by repeat (first | exact (Kd.R_reads' HO_4.out).2.2 | (with_reducible refine Kd.C_alloc ?_ _) | (with_reducible refine Kd.C_drewN ?_ _) | (with_reducible refine Kd.C_drew ?_)))); (case aB => exact z10a); (case aF => exact (fun k_ hk => Kd.fresh' (Kd.R_lt z10f) k_ hk)); (case aO => exact (by (with_reducible repeat (first | apply Kd.R_alloc | apply Kd.R_drewN | apply Kd.R_drew)); exact Kd.R_mono HO489.out (fun _ hk => hk.2))); (case aS => exact (below_size z10a)); (case aL => have := LMc36.out; omega); intro v491 w40 ho hb hg hat; rw [← Ny490.out] at ho; have n0_ := Aside0.mk (Kd.R_over' z10c (Kd.R_typed (by (with_reducible repeat (first | apply Kd.R_alloc | apply Kd.R_drewN | apply Kd.R_drew)); exact HO489.out)) (by decide) hg); have n1_ := Aside0.mk (Kd.R_after (ok := (fun _ => True)) z10f hg hat); have n2_ := Aside0.mk (Kd.R_over' z10d (Kd.R_typed (by (with_reducible repeat (first | apply Kd.R_alloc | apply Kd.R_drewN | apply Kd.R_drew)); exact HO489.out)) (by decide) hg); have n3_ := Aside0.mk (Kd.R_over' z10e (Kd.R_typed (by (with_reducible repeat (first | apply Kd.R_alloc | apply Kd.R_drewN | apply Kd.R_drew)); exact HO489.out)) (by decide) hg); have n4_ := Aside0.mk (hb); have n5_ := Aside0.mk (ho); clear HO_3; clear HO_4; clear HO_5; clear HO_6; clear HB; clear HO489; have HO_3 := n0_; have HO_4 := n1_; have HO_5 := n2_; have HO_6 := n3_; have HB := n4_; have HO492 := n5_; clear n0_ n1_ n2_ n3_ n4_ n5_; clear ho hb hg hat) | ((with_reducible refine gate_builtin (b := .append) (xs := #[.tmp 53, .tmp 54]) rfl ?_); (try (refine gate_guard (by rfl) ?_; dsimp only)); at_builtin; refine Kd.R_append (Kd.int .i64) (w0 := w) w.heap.size rfl (.tmp 53) (.tmp 54) 48 2 (.int .i64 0) 8 rfl Try.underlying48 info2 rfl (by decide) (by omega) v491 y490 1000000 [.int .i64 1000000] (fun k_ => some k_ ≠ (.slice Ao10 t467.length co10 : Value).ownBlock) (fun _ => False) rfl rfl ?aP (fun _ hk => hk.elim) ?aF ?aO ?aB ?aS ?aL ?_; (case aP => exact rfl); (case aB => exact z10a); (case aF => exact (fun k_ hk => Kd.fresh' (Kd.R_lt z10f) k_ hk)); (case aO => exact (by (with_reducible repeat (first | apply Kd.R_alloc | apply Kd.R_drewN | apply Kd.R_drew)); exact HO492.out)); (case aS => exact (below_size z10a)); (case aL => have := LMc37.out; omega); intro v494 w41 ho hb hg hat; rw [← Ny493.out] at ho; have n0_ := Aside0.mk (Kd.R_over' z10c (Kd.R_typed (by (with_reducible repeat (first | apply Kd.R_alloc | apply Kd.R_drewN | apply Kd.R_drew)); exact HO492.out)) (by decide) hg); have n1_ := Aside0.mk (Kd.R_after (ok := (fun _ => True)) z10f hg hat); have n2_ := Aside0.mk (Kd.R_over' z10d (Kd.R_typed (by (with_reducible repeat (first | apply Kd.R_alloc | apply Kd.R_drewN | apply Kd.R_drew)); exact HO492.out)) (by decide) hg); have n3_ := Aside0.mk (Kd.R_over' z10e (Kd.R_typed (by (with_reducible repeat (first | apply Kd.R_alloc | apply Kd.R_drewN | apply Kd.R_drew)); exact HO492.out)) (by decide) hg); have n4_ := Aside0.mk (hb); have n5_ := Aside0.mk (ho); clear HO_3; clear HO_4; clear HO_5; clear HO_6; clear HB; clear HO492; have HO_3 := n0_; have HO_4 := n1_; have HO_5 := n2_; have HO_6 := n3_; have HB := n4_; have HO495 := n5_; clear n0_ n1_ n2_ n3_ n4_ n5_; clear ho hb hg hat))
     go_loopg [8] kj27 (fun kq v8 w' => ∃ (x8_3 : Int), v8 = .int .i64 x8_3 ∧ Aside0 (laws_FnSeens.l0 kq t466 t467 t472 t475 y493 x8_3 = some r) ∧ Aside0 (kq ≤ kj27) ∧ Aside0 (Kd.R k88 88 w' w.heap.size (fun k_ => some k_ ≠ (v473 : Value).ownBlock ∧ some k_ ≠ (v476 : Value).ownBlock) (.slice Ao9 t466.length co9) t466) ∧ Aside0 (Kd.R (Kd.int .i64) 2 w' w.heap.size (fun k_ => some k_ ≠ (v494 : Value).ownBlock) (.slice Ao10 t467.length co10) t467) ∧ Aside0 (Kd.R k88 88 w' w.heap.size (fun k_ => some k_ ≠ ((.slice Ao9 t466.length co9) : Value).ownBlock ∧ some k_ ≠ (v476 : Value).ownBlock) v473 t472) ∧ Aside0 (Kd.R k88 88 w' w.heap.size (fun k_ => some k_ ≠ ((.slice Ao9 t466.length co9) : Value).ownBlock ∧ some k_ ≠ (v473 : Value).ownBlock) v476 t475) ∧ Aside0 (Kd.R (Kd.int .i64) 2 w' w.heap.size (fun k_ => some k_ ≠ ((.slice Ao10 t467.length co10) : Value).ownBlock) v494 y493) ∧ Aside0 (Below w.heap.size w w'))
     case atStart => exact ⟨(0), (by first | rfl | (simp; done) | (simp [*]; done)), H', ⟨Nat.le_refl _⟩, ⟨by (with_reducible repeat (first | apply Kd.R_alloc | apply Kd.R_drewN | apply Kd.R_drew)); exact HO_3.out⟩, ⟨by (with_reducible repeat (first | apply Kd.R_alloc | apply Kd.R_drewN | apply Kd.R_drew)); exact Kd.R_mono HO_4.out (fun _ hk => hk.2)⟩, ⟨by (with_reducible repeat (first | apply Kd.R_alloc | apply Kd.R_drewN | apply Kd.R_drew)); exact HO_5.out⟩, ⟨by (with_reducible repeat (first | apply Kd.R_alloc | apply Kd.R_drewN | apply Kd.R_drew)); exact HO_6.out⟩, ⟨by (with_reducible repeat (first | apply Kd.R_alloc | apply Kd.R_drewN | apply Kd.R_drew)); exact HO495.out⟩, ⟨by repeat (first | (with_reducible first | exact HB.out | apply below_alloc | apply pw_below_drewN | apply below_drew1) | exact HB.out)⟩⟩
     case round =>
      clear H'
      try clear c1
      try clear c2
      try clear p2
      try clear c3
      try clear c4
      try clear p6
      try clear c10
      try clear c15
      try clear c27
      try clear c30
      try clear c33
      try clear c36
      try clear c37
      try clear c40
      try clear c41
      try clear p2
      obtain ⟨x8_3, rfl, HA, HK3, HO_3, HO_4, HO_5, HO_6, HO_7, HB⟩ := hrel
      cases gk with
      | zero => exact absurd HA.out (by simp [laws_FnSeens.l0])
      | succ k3 =>
       have H := HA.out
       clear HA
       simp only [laws_FnSeens.l0] at H
       by_cases c42 : x8_3 < (y493.length : Int)
       {
       rw [if_pos c42] at H
       have c42b0 : decide (x8_3 < (y493.length : Int)) = true := decide_eq_true c42
       clear c42
       by_cases c43 : 0 ≤ x8_3
       {
       rw [if_pos c43] at H
       have c43b0 : decide (0 ≤ x8_3) = true := decide_eq_true c43
       clear c43
       replace H := Option.bind_eq_some_iff.mp H
       obtain ⟨t497, A440, H⟩ := H
       replace H : ((impl_Shown.f k3 t472 (rd y493 x8_3)).bind fun t501 => ((laws_likeEntries.f k3 t501 t497).bind fun t504 => (if t504 = true then ((impl_Shown.f k3 t475 (rd y493 x8_3)).bind fun t506 => ((laws_likeEntries.f k3 t506 t497).bind fun t509 => (if t509 = true then (laws_FnSeens.l0 k3 t466 t467 t472 t475 y493 (wrap64 (x8_3 + 1))) else (some false)))) else (some false)))) = some r := H
       have A44 := Aside0.mk A440
       clear A440
       replace H := Option.bind_eq_some_iff.mp H
       obtain ⟨t501, A450, H⟩ := H
       replace H : ((laws_likeEntries.f k3 t501 t497).bind fun t504 => (if t504 = true then ((impl_Shown.f k3 t475 (rd y493 x8_3)).bind fun t506 => ((laws_likeEntries.f k3 t506 t497).bind fun t509 => (if t509 = true then (laws_FnSeens.l0 k3 t466 t467 t472 t475 y493 (wrap64 (x8_3 + 1))) else (some false)))) else (some false))) = some r := H
       have A45 := Aside0.mk A450
       clear A450
       replace H := Option.bind_eq_some_iff.mp H
       obtain ⟨t504, A460, H⟩ := H
       replace H : (if t504 = true then ((impl_Shown.f k3 t475 (rd y493 x8_3)).bind fun t506 => ((laws_likeEntries.f k3 t506 t497).bind fun t509 => (if t509 = true then (laws_FnSeens.l0 k3 t466 t467 t472 t475 y493 (wrap64 (x8_3 + 1))) else (some false)))) else (some false)) = some r := H
       have A46 := Aside0.mk A460
       clear A460
       by_cases c47 : t504 = true
       {
       subst c47
       have H1 : ((impl_Shown.f k3 t475 (rd y493 x8_3)).bind fun t506 => ((laws_likeEntries.f k3 t506 t497).bind fun t509 => (if t509 = true then (laws_FnSeens.l0 k3 t466 t467 t472 t475 y493 (wrap64 (x8_3 + 1))) else (some false)))) = some r := by rw [if_pos rfl] at H; exact H
       clear H
       have H := H1
       clear H1
       replace H := Option.bind_eq_some_iff.mp H
       obtain ⟨t506, A480, H⟩ := H
       replace H : ((laws_likeEntries.f k3 t506 t497).bind fun t509 => (if t509 = true then (laws_FnSeens.l0 k3 t466 t467 t472 t475 y493 (wrap64 (x8_3 + 1))) else (some false))) = some r := H
       have A48 := Aside0.mk A480
       clear A480
       replace H := Option.bind_eq_some_iff.mp H
       obtain ⟨t509, A490, H⟩ := H
       replace H : (if t509 = true then (laws_FnSeens.l0 k3 t466 t467 t472 t475 y493 (wrap64 (x8_3 + 1))) else (some false)) = some r := H
       have A49 := Aside0.mk A490
       clear A490
       by_cases c50 : t509 = true
       {
       subst c50
       have H1 : (laws_FnSeens.l0 k3 t466 t467 t472 t475 y493 (wrap64 (x8_3 + 1))) = some r := by rw [if_pos rfl] at H; exact H
       clear H
       have H := H1
       clear H1
       have H' := Aside0.mk H
       clear H
       obtain ⟨Ao51, co51, eo51⟩ := Kd.R_slice HO_7.out
       subst eo51
       have p496 : 0 ≤ (x8_3 : Int) := of_decide_eq_true z10m
       have q496 : x8_3 < (y493.length : Int) := of_decide_eq_true z10m
       obtain ⟨ad496, e496, hx496_0⟩ := Kd.at_int (Kd.R_reads' HO_7.out).2.2 x8_3 p496 q496
       cases e496
       replace p496 := eq_true p496
       replace q496 := eq_true q496
       go_wp2_with (first | ((with_reducible refine gate_callee (f := 45) rfl ?_); refine goesL_ (some 67) rfl rfl Try.func45 (by kernel_rfl) rfl #[.slice Ao9 t466.length co9, .int .i64 (rd y493 x8_3)] rfl z10b ?_; (with_reducible refine (spec_Shown.calls k3 _ _ t466 (rd y493 x8_3) t497 _ ?side1 ?side2 A44.out).mono ?_); (case side1 => exact z10q); (case side2 => exact (Kd.R_reads' HO_3.out).2.1); rintro e w52 ⟨v498, rfl, ho0, hb⟩; refine ⟨_, rfl, ?_⟩; have n0_ := Aside0.mk (Kd.R_elder' z10c (Kd.R_base ho0) hb); have n1_ := Aside0.mk (Kd.R_below z10f hb); have n2_ := Aside0.mk (Kd.R_elder' z10d (Kd.R_base ho0) hb); have n3_ := Aside0.mk (Kd.R_elder' z10e (Kd.R_base ho0) hb); have n4_ := Aside0.mk (Kd.R_below z10g hb); have n5_ := Aside0.mk (Kd.R_lower (Kd.R_new' (Kd.R_new' (Kd.R_new' ho0 (Kd.R_lt z10c)) (Kd.R_lt z10d)) (Kd.R_lt z10e)) (below_size z10a)); have n6_ := Aside0.mk (below_step z10a hb); clear HO_3; clear HO_4; clear HO_5; clear HO_6; clear HO_7; clear HB; have HO_3 := n0_; have HO_4 := n1_; have HO_5 := n2_; have HO_6 := n3_; have HO_7 := n4_; have HO499 := n5_; have HB := n6_; clear n0_ n1_ n2_ n3_ n4_ n5_ n6_; (try clear hb); (try clear hb2); (try clear hk); (try clear hi); (try clear ho0); have p500 : 0 ≤ (x8_3 : Int) := of_decide_eq_true z10m; have q500 : x8_3 < (y493.length : Int) := of_decide_eq_true z10m; obtain ⟨ad500, e500, hx500_0⟩ := Kd.at_int (Kd.R_reads' HO_7.out).2.2 x8_3 p500 q500; obtain rfl : ad496 = ad500 := (by injection e500); replace p500 := eq_true p500; replace q500 := eq_true q500; obtain ⟨Ao53, co53, eo53⟩ := Kd.R_slice HO_5.out; subst eo53) | ((with_reducible refine gate_callee (f := 46) rfl ?_); refine goesL_ (some 73) rfl rfl Try.func46 (by kernel_rfl) rfl #[.slice Ao53 t472.length co53, .int .i64 (rd y493 x8_3)] rfl z10b ?_; (with_reducible refine (impl_Shown.calls k3 _ _ t472 (rd y493 x8_3) t501 _ ?side1 ?side2 A45.out).mono ?_); (case side1 => exact z10h); (case side2 => exact (Kd.R_reads' HO_5.out).2.1); rintro e w54 ⟨v502, rfl, ho0, hb⟩; refine ⟨_, rfl, ?_⟩; have n0_ := Aside0.mk (Kd.R_elder' z10c (Kd.R_base ho0) hb); have n1_ := Aside0.mk (Kd.R_below z10f hb); have n2_ := Aside0.mk (Kd.R_elder' z10d (Kd.R_base ho0) hb); have n3_ := Aside0.mk (Kd.R_elder' z10e (Kd.R_base ho0) hb); have n4_ := Aside0.mk (Kd.R_below z10g hb); have n5_ := Aside0.mk (Kd.R_elder' z10k (Kd.R_base ho0) hb); have n6_ := Aside0.mk (Kd.R_lower (Kd.R_new' (Kd.R_new' (Kd.R_new' (Kd.R_new' ho0 (Kd.R_lt z10c)) (Kd.R_lt z10d)) (Kd.R_lt z10e)) (Kd.R_lt z10k)) (below_size z10a)); have n7_ := Aside0.mk (below_step z10a hb); clear HO_3; clear HO_4; clear HO_5; clear HO_6; clear HO_7; clear HO499; clear HB; have HO_3 := n0_; have HO_4 := n1_; have HO_5 := n2_; have HO_6 := n3_; have HO_7 := n4_; have HO499 := n5_; have HO503 := n6_; have HB := n7_; clear n0_ n1_ n2_ n3_ n4_ n5_ n6_ n7_; (try clear hb); (try clear hb2); (try clear hk); (try clear hi); (try clear ho0); obtain ⟨Ao55, co55, eo55⟩ := Kd.R_slice HO503.out; subst eo55; obtain ⟨Ao56, co56, eo56⟩ := Kd.R_slice HO499.out; subst eo56) | ((with_reducible refine gate_callee (f := 43) rfl ?_); refine goesL_ (some 75) rfl rfl Try.func43 (by kernel_rfl) rfl #[.slice Ao55 t501.length co55, .slice Ao56 t497.length co56] rfl z10b ?_; (with_reducible refine (laws_likeEntries.calls k3 _ _ t501 _ _ t497 true _ ?side1 ?side2 ?side3 ?side4 A46.out).mono ?_); (case side1 => exact (by repeat (first | exact (Kd.R_reads' HO503.out).2.2 | (with_reducible refine Kd.C_alloc ?_ _) | (with_reducible refine Kd.C_drewN ?_ _) | (with_reducible refine Kd.C_drew ?_)))); (case side2 => exact (Kd.R_reads' HO503.out).2.1); (case side3 => exact z10p); (case side4 => exact (Kd.R_reads' HO499.out).2.1); rintro e w' ⟨rfl, ⟨nd, rfl⟩⟩; refine ⟨_, rfl, ?_⟩; have p505 : 0 ≤ (x8_3 : Int) := of_decide_eq_true z10m; have q505 : x8_3 < (y493.length : Int) := of_decide_eq_true z10m; obtain ⟨ad505, e505, hx505_0⟩ := Kd.at_int (Kd.R_reads' HO_7.out).2.2 x8_3 p505 q505; obtain rfl : ad496 = ad505 := (by injection e505); replace p505 := eq_true p505; replace q505 := eq_true q505; obtain ⟨Ao57, co57, eo57⟩ := Kd.R_slice HO_6.out; subst eo57) | (go_at_call 46; (with_reducible refine (impl_Shown.calls k3 _ _ t475 (rd y493 x8_3) t506 _ ?side1 ?side2 A48.out).mono ?_); (case side1 => exact z10i); (case side2 => exact (Kd.R_reads' HO_6.out).2.1); rintro e w58 ⟨v507, rfl, ho0, hb⟩; have n0_ := Aside0.mk (Kd.R_elder' z10c (Kd.R_base ho0) hb); have n1_ := Aside0.mk (Kd.R_below z10f hb); have n2_ := Aside0.mk (Kd.R_elder' z10d (Kd.R_base ho0) hb); have n3_ := Aside0.mk (Kd.R_elder' z10e (Kd.R_base ho0) hb); have n4_ := Aside0.mk (Kd.R_below z10g hb); have n5_ := Aside0.mk (Kd.R_elder' z10k (Kd.R_base ho0) hb); have n6_ := Aside0.mk (Kd.R_elder' (by (with_reducible repeat (first | apply Kd.R_alloc | apply Kd.R_drewN | apply Kd.R_drew)); exact HO503.out) (Kd.R_base ho0) hb); have n7_ := Aside0.mk (Kd.R_lower (Kd.R_new' (Kd.R_new' (Kd.R_new' (Kd.R_new' (Kd.R_new' ho0 (Kd.R_lt z10c)) (Kd.R_lt z10d)) (Kd.R_lt z10e)) (Kd.R_lt z10k)) (Kd.R_lt (by (with_reducible repeat (first | apply Kd.R_alloc | apply Kd.R_drewN | apply Kd.R_drew)); exact HO503.out))) (below_size z10a)); have n8_ := Aside0.mk (below_step z10a hb); clear HO_3; clear HO_4; clear HO_5; clear HO_6; clear HO_7; clear HO499; clear HO503; clear HB; have HO_3 := n0_; have HO_4 := n1_; have HO_5 := n2_; have HO_6 := n3_; have HO_7 := n4_; have HO499 := n5_; have HO503 := n6_; have HO508 := n7_; have HB := n8_; clear n0_ n1_ n2_ n3_ n4_ n5_ n6_ n7_ n8_; (try clear hb); (try clear hb2); (try clear hk); (try clear hi); (try clear ho0); obtain ⟨Ao59, co59, eo59⟩ := Kd.R_slice HO508.out; subst eo59) | (go_at_call 43; (with_reducible refine (laws_likeEntries.calls k3 _ _ t506 _ _ t497 true _ ?side1 ?side2 ?side3 ?side4 A49.out).mono ?_); (case side1 => exact (by repeat (first | exact (Kd.R_reads' HO508.out).2.2 | (with_reducible refine Kd.C_alloc ?_ _) | (with_reducible refine Kd.C_drewN ?_ _) | (with_reducible refine Kd.C_drew ?_)))); (case side2 => exact (Kd.R_reads' HO508.out).2.1); (case side3 => exact z10p); (case side4 => exact (Kd.R_reads' HO499.out).2.1); rintro e w' ⟨rfl, ⟨nd, rfl⟩⟩))
       go_roundg k3
       case measure => have := HJ6.out; have := HJ27.out; have := HK3.out; omega
       case rel => exact ⟨(wrap64 (x8_3 + 1)), (by first | rfl | (simp; done) | (simp [*]; done)), H', ⟨by have := HJ6.out; have := HJ27.out; have := HK3.out; omega⟩, ⟨by (with_reducible repeat (first | apply Kd.R_alloc | apply Kd.R_drewN | apply Kd.R_drew)); exact Kd.R_mono HO_3.out (fun _ hk => ⟨hk.1.1.1.1, hk.1.1.1.2⟩)⟩, ⟨by (with_reducible repeat (first | apply Kd.R_alloc | apply Kd.R_drewN | apply Kd.R_drew)); exact HO_4.out⟩, ⟨by (with_reducible repeat (first | apply Kd.R_alloc | apply Kd.R_drewN | apply Kd.R_drew)); exact Kd.R_mono HO_5.out (fun _ hk => ⟨hk.1.1.1.1, hk.1.1.1.2⟩)⟩, ⟨by (with_reducible repeat (first | apply Kd.R_alloc | apply Kd.R_drewN | apply Kd.R_drew)); exact Kd.R_mono HO_6.out (fun _ hk => ⟨hk.1.1.1.1, hk.1.1.1.2⟩)⟩, ⟨by (with_reducible repeat (first | apply Kd.R_alloc | apply Kd.R_drewN | apply Kd.R_drew)); exact HO_7.out⟩, ⟨by repeat (first | (with_reducible first | exact HB.out | apply below_alloc | apply pw_below_drewN | apply below_drew1) | exact HB.out)⟩⟩
       }
       {
       replace c50 := Bool.eq_false_iff.mpr c50
       subst c50
       have H1 : (some false) = some r := by rw [if_neg (show ¬ (false = true) by decide)] at H; exact H
       clear H
       have H := H1
       clear H1
       obtain rfl := Option.some.inj H
       obtain ⟨Ao60, co60, eo60⟩ := Kd.R_slice HO_7.out
       subst eo60
       have p496 : 0 ≤ (x8_3 : Int) := of_decide_eq_true z10m
       have q496 : x8_3 < (y493.length : Int) := of_decide_eq_true z10m
       obtain ⟨ad496, e496, hx496_0⟩ := Kd.at_int (Kd.R_reads' HO_7.out).2.2 x8_3 p496 q496
       cases e496
       replace p496 := eq_true p496
       replace q496 := eq_true q496
       go_wp2_with (first | ((with_reducible refine gate_callee (f := 45) rfl ?_); refine goesL_ (some 67) rfl rfl Try.func45 (by kernel_rfl) rfl #[.slice Ao9 t466.length co9, .int .i64 (rd y493 x8_3)] rfl z10b ?_; (with_reducible refine (spec_Shown.calls k3 _ _ t466 (rd y493 x8_3) t497 _ ?side1 ?side2 A44.out).mono ?_); (case side1 => exact z10q); (case side2 => exact (Kd.R_reads' HO_3.out).2.1); rintro e w61 ⟨v498, rfl, ho0, hb⟩; refine ⟨_, rfl, ?_⟩; have n0_ := Aside0.mk (Kd.R_elder' z10c (Kd.R_base ho0) hb); have n1_ := Aside0.mk (Kd.R_below z10f hb); have n2_ := Aside0.mk (Kd.R_elder' z10d (Kd.R_base ho0) hb); have n3_ := Aside0.mk (Kd.R_elder' z10e (Kd.R_base ho0) hb); have n4_ := Aside0.mk (Kd.R_below z10g hb); have n5_ := Aside0.mk (Kd.R_lower (Kd.R_new' (Kd.R_new' (Kd.R_new' ho0 (Kd.R_lt z10c)) (Kd.R_lt z10d)) (Kd.R_lt z10e)) (below_size z10a)); have n6_ := Aside0.mk (below_step z10a hb); clear HO_3; clear HO_4; clear HO_5; clear HO_6; clear HO_7; clear HB; have HO_3 := n0_; have HO_4 := n1_; have HO_5 := n2_; have HO_6 := n3_; have HO_7 := n4_; have HO499 := n5_; have HB := n6_; clear n0_ n1_ n2_ n3_ n4_ n5_ n6_; (try clear hb); (try clear hb2); (try clear hk); (try clear hi); (try clear ho0); have p500 : 0 ≤ (x8_3 : Int) := of_decide_eq_true z10m; have q500 : x8_3 < (y493.length : Int) := of_decide_eq_true z10m; obtain ⟨ad500, e500, hx500_0⟩ := Kd.at_int (Kd.R_reads' HO_7.out).2.2 x8_3 p500 q500; obtain rfl : ad496 = ad500 := (by injection e500); replace p500 := eq_true p500; replace q500 := eq_true q500; obtain ⟨Ao62, co62, eo62⟩ := Kd.R_slice HO_5.out; subst eo62) | ((with_reducible refine gate_callee (f := 46) rfl ?_); refine goesL_ (some 73) rfl rfl Try.func46 (by kernel_rfl) rfl #[.slice Ao62 t472.length co62, .int .i64 (rd y493 x8_3)] rfl z10b ?_; (with_reducible refine (impl_Shown.calls k3 _ _ t472 (rd y493 x8_3) t501 _ ?side1 ?side2 A45.out).mono ?_); (case side1 => exact z10h); (case side2 => exact (Kd.R_reads' HO_5.out).2.1); rintro e w63 ⟨v502, rfl, ho0, hb⟩; refine ⟨_, rfl, ?_⟩; have n0_ := Aside0.mk (Kd.R_elder' z10c (Kd.R_base ho0) hb); have n1_ := Aside0.mk (Kd.R_below z10f hb); have n2_ := Aside0.mk (Kd.R_elder' z10d (Kd.R_base ho0) hb); have n3_ := Aside0.mk (Kd.R_elder' z10e (Kd.R_base ho0) hb); have n4_ := Aside0.mk (Kd.R_below z10g hb); have n5_ := Aside0.mk (Kd.R_elder' z10k (Kd.R_base ho0) hb); have n6_ := Aside0.mk (Kd.R_lower (Kd.R_new' (Kd.R_new' (Kd.R_new' (Kd.R_new' ho0 (Kd.R_lt z10c)) (Kd.R_lt z10d)) (Kd.R_lt z10e)) (Kd.R_lt z10k)) (below_size z10a)); have n7_ := Aside0.mk (below_step z10a hb); clear HO_3; clear HO_4; clear HO_5; clear HO_6; clear HO_7; clear HO499; clear HB; have HO_3 := n0_; have HO_4 := n1_; have HO_5 := n2_; have HO_6 := n3_; have HO_7 := n4_; have HO499 := n5_; have HO503 := n6_; have HB := n7_; clear n0_ n1_ n2_ n3_ n4_ n5_ n6_ n7_; (try clear hb); (try clear hb2); (try clear hk); (try clear hi); (try clear ho0); obtain ⟨Ao64, co64, eo64⟩ := Kd.R_slice HO503.out; subst eo64; obtain ⟨Ao65, co65, eo65⟩ := Kd.R_slice HO499.out; subst eo65) | ((with_reducible refine gate_callee (f := 43) rfl ?_); refine goesL_ (some 75) rfl rfl Try.func43 (by kernel_rfl) rfl #[.slice Ao64 t501.length co64, .slice Ao65 t497.length co65] rfl z10b ?_; (with_reducible refine (laws_likeEntries.calls k3 _ _ t501 _ _ t497 true _ ?side1 ?side2 ?side3 ?side4 A46.out).mono ?_); (case side1 => exact (by repeat (first | exact (Kd.R_reads' HO503.out).2.2 | (with_reducible refine Kd.C_alloc ?_ _) | (with_reducible refine Kd.C_drewN ?_ _) | (with_reducible refine Kd.C_drew ?_)))); (case side2 => exact (Kd.R_reads' HO503.out).2.1); (case side3 => exact z10p); (case side4 => exact (Kd.R_reads' HO499.out).2.1); rintro e w' ⟨rfl, ⟨nd, rfl⟩⟩; refine ⟨_, rfl, ?_⟩; have p505 : 0 ≤ (x8_3 : Int) := of_decide_eq_true z10m; have q505 : x8_3 < (y493.length : Int) := of_decide_eq_true z10m; obtain ⟨ad505, e505, hx505_0⟩ := Kd.at_int (Kd.R_reads' HO_7.out).2.2 x8_3 p505 q505; obtain rfl : ad496 = ad505 := (by injection e505); replace p505 := eq_true p505; replace q505 := eq_true q505; obtain ⟨Ao66, co66, eo66⟩ := Kd.R_slice HO_6.out; subst eo66) | (go_at_call 46; (with_reducible refine (impl_Shown.calls k3 _ _ t475 (rd y493 x8_3) t506 _ ?side1 ?side2 A48.out).mono ?_); (case side1 => exact z10i); (case side2 => exact (Kd.R_reads' HO_6.out).2.1); rintro e w67 ⟨v507, rfl, ho0, hb⟩; have n0_ := Aside0.mk (Kd.R_elder' z10c (Kd.R_base ho0) hb); have n1_ := Aside0.mk (Kd.R_below z10f hb); have n2_ := Aside0.mk (Kd.R_elder' z10d (Kd.R_base ho0) hb); have n3_ := Aside0.mk (Kd.R_elder' z10e (Kd.R_base ho0) hb); have n4_ := Aside0.mk (Kd.R_below z10g hb); have n5_ := Aside0.mk (Kd.R_elder' z10k (Kd.R_base ho0) hb); have n6_ := Aside0.mk (Kd.R_elder' (by (with_reducible repeat (first | apply Kd.R_alloc | apply Kd.R_drewN | apply Kd.R_drew)); exact HO503.out) (Kd.R_base ho0) hb); have n7_ := Aside0.mk (Kd.R_lower (Kd.R_new' (Kd.R_new' (Kd.R_new' (Kd.R_new' (Kd.R_new' ho0 (Kd.R_lt z10c)) (Kd.R_lt z10d)) (Kd.R_lt z10e)) (Kd.R_lt z10k)) (Kd.R_lt (by (with_reducible repeat (first | apply Kd.R_alloc | apply Kd.R_drewN | apply Kd.R_drew)); exact HO503.out))) (below_size z10a)); have n8_ := Aside0.mk (below_step z10a hb); clear HO_3; clear HO_4; clear HO_5; clear HO_6; clear HO_7; clear HO499; clear HO503; clear HB; have HO_3 := n0_; have HO_4 := n1_; have HO_5 := n2_; have HO_6 := n3_; have HO_7 := n4_; have HO499 := n5_; have HO503 := n6_; have HO508 := n7_; have HB := n8_; clear n0_ n1_ n2_ n3_ n4_ n5_ n6_ n7_ n8_; (try clear hb); (try clear hb2); (try clear hk); (try clear hi); (try clear ho0); obtain ⟨Ao68, co68, eo68⟩ := Kd.R_slice HO508.out; subst eo68) | (go_at_call 43; (with_reducible refine (laws_likeEntries.calls k3 _ _ t506 _ _ t497 false _ ?side1 ?side2 ?side3 ?side4 A49.out).mono ?_); (case side1 => exact (by repeat (first | exact (Kd.R_reads' HO508.out).2.2 | (with_reducible refine Kd.C_alloc ?_ _) | (with_reducible refine Kd.C_drewN ?_ _) | (with_reducible refine Kd.C_drew ?_)))); (case side2 => exact (Kd.R_reads' HO508.out).2.1); (case side3 => exact z10p); (case side4 => exact (Kd.R_reads' HO499.out).2.1); rintro e w' ⟨rfl, ⟨nd, rfl⟩⟩))
       go_ret
       exact ⟨by first | rfl | (simp [errW_none, errW_some] <;> rfl) | (simp [*, errW_none, errW_some] <;> rfl), by repeat (first | (with_reducible first | exact HB.out | apply below_alloc | apply pw_below_drewN | apply below_drew1) | exact HB.out)⟩
       }
       }
       {
       replace c47 := Bool.eq_false_iff.mpr c47
       subst c47
       have H1 : (some false) = some r := by rw [if_neg (show ¬ (false = true) by decide)] at H; exact H
       clear H
       have H := H1
       clear H1
       obtain rfl := Option.some.inj H
       obtain ⟨Ao69, co69, eo69⟩ := Kd.R_slice HO_7.out
       subst eo69
       have p496 : 0 ≤ (x8_3 : Int) := of_decide_eq_true z10m
       have q496 : x8_3 < (y493.length : Int) := of_decide_eq_true z10m
       obtain ⟨ad496, e496, hx496_0⟩ := Kd.at_int (Kd.R_reads' HO_7.out).2.2 x8_3 p496 q496
       cases e496
       replace p496 := eq_true p496
       replace q496 := eq_true q496
       go_wp2_with (first | ((with_reducible refine gate_callee (f := 45) rfl ?_); refine goesL_ (some 67) rfl rfl Try.func45 (by kernel_rfl) rfl #[.slice Ao9 t466.length co9, .int .i64 (rd y493 x8_3)] rfl z10b ?_; (with_reducible refine (spec_Shown.calls k3 _ _ t466 (rd y493 x8_3) t497 _ ?side1 ?side2 A44.out).mono ?_); (case side1 => exact z10q); (case side2 => exact (Kd.R_reads' HO_3.out).2.1); rintro e w70 ⟨v498, rfl, ho0, hb⟩; refine ⟨_, rfl, ?_⟩; have n0_ := Aside0.mk (Kd.R_elder' z10c (Kd.R_base ho0) hb); have n1_ := Aside0.mk (Kd.R_below z10f hb); have n2_ := Aside0.mk (Kd.R_elder' z10d (Kd.R_base ho0) hb); have n3_ := Aside0.mk (Kd.R_elder' z10e (Kd.R_base ho0) hb); have n4_ := Aside0.mk (Kd.R_below z10g hb); have n5_ := Aside0.mk (Kd.R_lower (Kd.R_new' (Kd.R_new' (Kd.R_new' ho0 (Kd.R_lt z10c)) (Kd.R_lt z10d)) (Kd.R_lt z10e)) (below_size z10a)); have n6_ := Aside0.mk (below_step z10a hb); clear HO_3; clear HO_4; clear HO_5; clear HO_6; clear HO_7; clear HB; have HO_3 := n0_; have HO_4 := n1_; have HO_5 := n2_; have HO_6 := n3_; have HO_7 := n4_; have HO499 := n5_; have HB := n6_; clear n0_ n1_ n2_ n3_ n4_ n5_ n6_; (try clear hb); (try clear hb2); (try clear hk); (try clear hi); (try clear ho0); have p500 : 0 ≤ (x8_3 : Int) := of_decide_eq_true z10m; have q500 : x8_3 < (y493.length : Int) := of_decide_eq_true z10m; obtain ⟨ad500, e500, hx500_0⟩ := Kd.at_int (Kd.R_reads' HO_7.out).2.2 x8_3 p500 q500; obtain rfl : ad496 = ad500 := (by injection e500); replace p500 := eq_true p500; replace q500 := eq_true q500; obtain ⟨Ao71, co71, eo71⟩ := Kd.R_slice HO_5.out; subst eo71) | ((with_reducible refine gate_callee (f := 46) rfl ?_); refine goesL_ (some 73) rfl rfl Try.func46 (by kernel_rfl) rfl #[.slice Ao71 t472.length co71, .int .i64 (rd y493 x8_3)] rfl z10b ?_; (with_reducible refine (impl_Shown.calls k3 _ _ t472 (rd y493 x8_3) t501 _ ?side1 ?side2 A45.out).mono ?_); (case side1 => exact z10h); (case side2 => exact (Kd.R_reads' HO_5.out).2.1); rintro e w72 ⟨v502, rfl, ho0, hb⟩; refine ⟨_, rfl, ?_⟩; have n0_ := Aside0.mk (Kd.R_elder' z10c (Kd.R_base ho0) hb); have n1_ := Aside0.mk (Kd.R_below z10f hb); have n2_ := Aside0.mk (Kd.R_elder' z10d (Kd.R_base ho0) hb); have n3_ := Aside0.mk (Kd.R_elder' z10e (Kd.R_base ho0) hb); have n4_ := Aside0.mk (Kd.R_below z10g hb); have n5_ := Aside0.mk (Kd.R_elder' z10k (Kd.R_base ho0) hb); have n6_ := Aside0.mk (Kd.R_lower (Kd.R_new' (Kd.R_new' (Kd.R_new' (Kd.R_new' ho0 (Kd.R_lt z10c)) (Kd.R_lt z10d)) (Kd.R_lt z10e)) (Kd.R_lt z10k)) (below_size z10a)); have n7_ := Aside0.mk (below_step z10a hb); clear HO_3; clear HO_4; clear HO_5; clear HO_6; clear HO_7; clear HO499; clear HB; have HO_3 := n0_; have HO_4 := n1_; have HO_5 := n2_; have HO_6 := n3_; have HO_7 := n4_; have HO499 := n5_; have HO503 := n6_; have HB := n7_; clear n0_ n1_ n2_ n3_ n4_ n5_ n6_ n7_; (try clear hb); (try clear hb2); (try clear hk); (try clear hi); (try clear ho0); obtain ⟨Ao73, co73, eo73⟩ := Kd.R_slice HO503.out; subst eo73; obtain ⟨Ao74, co74, eo74⟩ := Kd.R_slice HO499.out; subst eo74) | ((with_reducible refine gate_callee (f := 43) rfl ?_); refine goesL_ (some 75) rfl rfl Try.func43 (by kernel_rfl) rfl #[.slice Ao73 t501.length co73, .slice Ao74 t497.length co74] rfl z10b ?_; (with_reducible refine (laws_likeEntries.calls k3 _ _ t501 _ _ t497 false _ ?side1 ?side2 ?side3 ?side4 A46.out).mono ?_); (case side1 => exact (by repeat (first | exact (Kd.R_reads' HO503.out).2.2 | (with_reducible refine Kd.C_alloc ?_ _) | (with_reducible refine Kd.C_drewN ?_ _) | (with_reducible refine Kd.C_drew ?_)))); (case side2 => exact (Kd.R_reads' HO503.out).2.1); (case side3 => exact z10p); (case side4 => exact (Kd.R_reads' HO499.out).2.1); rintro e w' ⟨rfl, ⟨nd, rfl⟩⟩; refine ⟨_, rfl, ?_⟩))
       go_ret
       exact ⟨by first | rfl | (simp [errW_none, errW_some] <;> rfl) | (simp [*, errW_none, errW_some] <;> rfl), by repeat (first | (with_reducible first | exact HB.out | apply below_alloc | apply pw_below_drewN | apply below_drew1) | exact HB.out)⟩
       }
       }
       {
       rw [if_neg c43] at H
       exact absurd H (by simp)
       }
       }
       {
       rw [if_neg c42] at H
       have c42b0 : decide (x8_3 < (y493.length : Int)) = false := decide_eq_false c42
       clear c42
       replace H := Option.bind_eq_some_iff.mp H
       obtain ⟨t510, A750, H⟩ := H
       replace H : (if t510 = true then ((impl_EntriesOk.f k3 t475).bind fun t511 => (if t511 = true then (if (t475.length : Int) ≤ (t472.length : Int) then (if (t472.length : Int) ≤ (t466.length : Int) then ((impl_Bottom.f k3 t475 t467).bind fun t512 => ((laws_likeEntries.f k3 t512 t475).bind fun t515 => (some t515))) else (some false)) else (some false)) else (some false))) else (some false)) = some r := H
       have A75 := Aside0.mk A750
       clear A750
       by_cases c76 : t510 = true
       {
       subst c76
       have H1 : ((impl_EntriesOk.f k3 t475).bind fun t511 => (if t511 = true then (if (t475.length : Int) ≤ (t472.length : Int) then (if (t472.length : Int) ≤ (t466.length : Int) then ((impl_Bottom.f k3 t475 t467).bind fun t512 => ((laws_likeEntries.f k3 t512 t475).bind fun t515 => (some t515))) else (some false)) else (some false)) else (some false))) = some r := by rw [if_pos rfl] at H; exact H
       clear H
       have H := H1
       clear H1
       replace H := Option.bind_eq_some_iff.mp H
       obtain ⟨t511, A770, H⟩ := H
       replace H : (if t511 = true then (if (t475.length : Int) ≤ (t472.length : Int) then (if (t472.length : Int) ≤ (t466.length : Int) then ((impl_Bottom.f k3 t475 t467).bind fun t512 => ((laws_likeEntries.f k3 t512 t475).bind fun t515 => (some t515))) else (some false)) else (some false)) else (some false)) = some r := H
       have A77 := Aside0.mk A770
       clear A770
       by_cases c78 : t511 = true
       {
       subst c78
       have H1 : (if (t475.length : Int) ≤ (t472.length : Int) then (if (t472.length : Int) ≤ (t466.length : Int) then ((impl_Bottom.f k3 t475 t467).bind fun t512 => ((laws_likeEntries.f k3 t512 t475).bind fun t515 => (some t515))) else (some false)) else (some false)) = some r := by rw [if_pos rfl] at H; exact H
       clear H
       have H := H1
       clear H1
       by_cases c79 : (t475.length : Int) ≤ (t472.length : Int)
       {
       rw [if_pos c79] at H
       have c79b0 : decide ((t475.length : Int) ≤ (t472.length : Int)) = true := decide_eq_true c79
       have c79b1 : decide (t475.length ≤ t472.length) = true := decide_eq_true (Int.ofNat_le.mp c79)
       clear c79
       by_cases c80 : (t472.length : Int) ≤ (t466.length : Int)
       {
       rw [if_pos c80] at H
       have c80b0 : decide ((t472.length : Int) ≤ (t466.length : Int)) = true := decide_eq_true c80
       have c80b1 : decide (t472.length ≤ t466.length) = true := decide_eq_true (Int.ofNat_le.mp c80)
       clear c80
       replace H := Option.bind_eq_some_iff.mp H
       obtain ⟨t512, A810, H⟩ := H
       replace H : ((laws_likeEntries.f k3 t512 t475).bind fun t515 => (some t515)) = some r := H
       have A81 := Aside0.mk A810
       clear A810
       replace H := Option.bind_eq_some_iff.mp H
       obtain ⟨t515, A820, H⟩ := H
       replace H : (some t515) = some r := H
       have A82 := Aside0.mk A820
       clear A820
       obtain rfl := Option.some.inj H
       obtain ⟨Ao83, co83, eo83⟩ := Kd.R_slice HO_7.out
       subst eo83
       obtain ⟨Ao84, co84, eo84⟩ := Kd.R_slice HO_5.out
       subst eo84
       go_wp2_with (first | ((with_reducible refine gate_callee (f := 47) rfl ?_); refine goesL_ (some 89) rfl rfl Try.func47 (by kernel_rfl) rfl #[.slice Ao84 t472.length co84] rfl z10b ?_; (with_reducible refine (impl_EntriesOk.calls k3 _ _ t472 true _ ?side1 ?side2 A75.out).mono ?_); (case side1 => exact z10h); (case side2 => exact (Kd.R_reads' HO_5.out).2.1); rintro e w85 ⟨rfl, hb⟩; refine ⟨_, rfl, ?_⟩; have n0_ := Aside0.mk (Kd.R_below z10c hb); have n1_ := Aside0.mk (Kd.R_below z10f hb); have n2_ := Aside0.mk (Kd.R_below z10d hb); have n3_ := Aside0.mk (Kd.R_below z10e hb); have n4_ := Aside0.mk (Kd.R_below z10g hb); have n5_ := Aside0.mk (below_step z10a hb); clear HO_3; clear HO_4; clear HO_5; clear HO_6; clear HO_7; clear HB; have HO_3 := n0_; have HO_4 := n1_; have HO_5 := n2_; have HO_6 := n3_; have HO_7 := n4_; have HB := n5_; clear n0_ n1_ n2_ n3_ n4_ n5_; (try clear hb); (try clear hb2); (try clear hk); (try clear hi); obtain ⟨Ao86, co86, eo86⟩ := Kd.R_slice HO_6.out; subst eo86) | (go_at_call 47; (with_reducible refine (impl_EntriesOk.calls k3 _ _ t475 true _ ?side1 ?side2 A77.out).mono ?_); (case side1 => exact z10i); (case side2 => exact (Kd.R_reads' HO_6.out).2.1); rintro e w87 ⟨rfl, hb⟩; have n0_ := Aside0.mk (Kd.R_below z10c hb); have n1_ := Aside0.mk (Kd.R_below z10f hb); have n2_ := Aside0.mk (Kd.R_below z10d hb); have n3_ := Aside0.mk (Kd.R_below z10e hb); have n4_ := Aside0.mk (Kd.R_below z10g hb); have n5_ := Aside0.mk (below_step z10a hb); clear HO_3; clear HO_4; clear HO_5; clear HO_6; clear HO_7; clear HB; have HO_3 := n0_; have HO_4 := n1_; have HO_5 := n2_; have HO_6 := n3_; have HO_7 := n4_; have HB := n5_; clear n0_ n1_ n2_ n3_ n4_ n5_; (try clear hb); (try clear hb2); (try clear hk); (try clear hi)) | (go_at_call 40; (with_reducible refine (impl_Bottom.calls k3 _ _ t475 _ _ t467 t512 _ ?side1 ?side2 ?side3 ?side4 A81.out).mono ?_); (case side1 => exact z10i); (case side2 => exact (Kd.R_reads' HO_6.out).2.1); (case side3 => exact (by repeat (first | exact (Kd.R_reads' HO_4.out).2.2 | (with_reducible refine Kd.C_alloc ?_ _) | (with_reducible refine Kd.C_drewN ?_ _) | (with_reducible refine Kd.C_drew ?_)))); (case side4 => exact (Kd.R_reads' HO_4.out).2.1); rintro e w88 ⟨v513, rfl, ho0, hb⟩; have n0_ := Aside0.mk (Kd.R_elder' z10c (Kd.R_base ho0) hb); have n1_ := Aside0.mk (Kd.R_below z10f hb); have n2_ := Aside0.mk (Kd.R_elder' z10d (Kd.R_base ho0) hb); have n3_ := Aside0.mk (Kd.R_elder' z10e (Kd.R_base ho0) hb); have n4_ := Aside0.mk (Kd.R_below z10g hb); have n5_ := Aside0.mk (Kd.R_lower (Kd.R_new' (Kd.R_new' (Kd.R_new' ho0 (Kd.R_lt z10c)) (Kd.R_lt z10d)) (Kd.R_lt z10e)) (below_size z10a)); have n6_ := Aside0.mk (below_step z10a hb); clear HO_3; clear HO_4; clear HO_5; clear HO_6; clear HO_7; clear HB; have HO_3 := n0_; have HO_4 := n1_; have HO_5 := n2_; have HO_6 := n3_; have HO_7 := n4_; have HO514 := n5_; have HB := n6_; clear n0_ n1_ n2_ n3_ n4_ n5_ n6_; (try clear hb); (try clear hb2); (try clear hk); (try clear hi); (try clear ho0); obtain ⟨Ao89, co89, eo89⟩ := Kd.R_slice HO514.out; subst eo89) | (go_at_call 43; (with_reducible refine (laws_likeEntries.calls k3 _ _ t512 _ _ t475 t515 _ ?side1 ?side2 ?side3 ?side4 A82.out).mono ?_); (case side1 => exact (by repeat (first | exact (Kd.R_reads' HO514.out).2.2 | (with_reducible refine Kd.C_alloc ?_ _) | (with_reducible refine Kd.C_drewN ?_ _) | (with_reducible refine Kd.C_drew ?_)))); (case side2 => exact (Kd.R_reads' HO514.out).2.1); (case side3 => exact z10i); (case side4 => exact (Kd.R_reads' HO_6.out).2.1); rintro e w' ⟨rfl, ⟨nd, rfl⟩⟩))
       go_ret
       exact ⟨by first | rfl | (simp [errW_none, errW_some] <;> rfl) | (simp [*, errW_none, errW_some] <;> rfl), by repeat (first | (with_reducible first | exact HB.out | apply below_alloc | apply pw_below_drewN | apply below_drew1) | exact HB.out)⟩
       }
       {
       rw [if_neg c80] at H
       have c80b0 : decide ((t472.length : Int) ≤ (t466.length : Int)) = false := decide_eq_false c80
       have c80b1 : decide (t472.length ≤ t466.length) = false := decide_eq_false (fun h => c80 (Int.ofNat_le.mpr h))
       clear c80
       obtain rfl := Option.some.inj H
       obtain ⟨Ao90, co90, eo90⟩ := Kd.R_slice HO_7.out
       subst eo90
       obtain ⟨Ao91, co91, eo91⟩ := Kd.R_slice HO_5.out
       subst eo91
       go_wp2_with (first | ((with_reducible refine gate_callee (f := 47) rfl ?_); refine goesL_ (some 89) rfl rfl Try.func47 (by kernel_rfl) rfl #[.slice Ao91 t472.length co91] rfl z10b ?_; (with_reducible refine (impl_EntriesOk.calls k3 _ _ t472 true _ ?side1 ?side2 A75.out).mono ?_); (case side1 => exact z10h); (case side2 => exact (Kd.R_reads' HO_5.out).2.1); rintro e w92 ⟨rfl, hb⟩; refine ⟨_, rfl, ?_⟩; have n0_ := Aside0.mk (Kd.R_below z10c hb); have n1_ := Aside0.mk (Kd.R_below z10f hb); have n2_ := Aside0.mk (Kd.R_below z10d hb); have n3_ := Aside0.mk (Kd.R_below z10e hb); have n4_ := Aside0.mk (Kd.R_below z10g hb); have n5_ := Aside0.mk (below_step z10a hb); clear HO_3; clear HO_4; clear HO_5; clear HO_6; clear HO_7; clear HB; have HO_3 := n0_; have HO_4 := n1_; have HO_5 := n2_; have HO_6 := n3_; have HO_7 := n4_; have HB := n5_; clear n0_ n1_ n2_ n3_ n4_ n5_; (try clear hb); (try clear hb2); (try clear hk); (try clear hi); obtain ⟨Ao93, co93, eo93⟩ := Kd.R_slice HO_6.out; subst eo93) | (go_at_call 47; (with_reducible refine (impl_EntriesOk.calls k3 _ _ t475 true _ ?side1 ?side2 A77.out).mono ?_); (case side1 => exact z10i); (case side2 => exact (Kd.R_reads' HO_6.out).2.1); rintro e w94 ⟨rfl, hb⟩; have n0_ := Aside0.mk (Kd.R_below z10c hb); have n1_ := Aside0.mk (Kd.R_below z10f hb); have n2_ := Aside0.mk (Kd.R_below z10d hb); have n3_ := Aside0.mk (Kd.R_below z10e hb); have n4_ := Aside0.mk (Kd.R_below z10g hb); have n5_ := Aside0.mk (below_step z10a hb); clear HO_3; clear HO_4; clear HO_5; clear HO_6; clear HO_7; clear HB; have HO_3 := n0_; have HO_4 := n1_; have HO_5 := n2_; have HO_6 := n3_; have HO_7 := n4_; have HB := n5_; clear n0_ n1_ n2_ n3_ n4_ n5_; (try clear hb); (try clear hb2); (try clear hk); (try clear hi)))
       go_ret
       exact ⟨by first | rfl | (simp [errW_none, errW_some] <;> rfl) | (simp [*, errW_none, errW_some] <;> rfl), by repeat (first | (with_reducible first | exact HB.out | apply below_alloc | apply pw_below_drewN | apply below_drew1) | exact HB.out)⟩
       }
       }
       {
       rw [if_neg c79] at H
       have c79b0 : decide ((t475.length : Int) ≤ (t472.length : Int)) = false := decide_eq_false c79
       have c79b1 : decide (t475.length ≤ t472.length) = false := decide_eq_false (fun h => c79 (Int.ofNat_le.mpr h))
       clear c79
       obtain rfl := Option.some.inj H
       obtain ⟨Ao95, co95, eo95⟩ := Kd.R_slice HO_7.out
       subst eo95
       obtain ⟨Ao96, co96, eo96⟩ := Kd.R_slice HO_5.out
       subst eo96
       go_wp2_with (first | ((with_reducible refine gate_callee (f := 47) rfl ?_); refine goesL_ (some 89) rfl rfl Try.func47 (by kernel_rfl) rfl #[.slice Ao96 t472.length co96] rfl z10b ?_; (with_reducible refine (impl_EntriesOk.calls k3 _ _ t472 true _ ?side1 ?side2 A75.out).mono ?_); (case side1 => exact z10h); (case side2 => exact (Kd.R_reads' HO_5.out).2.1); rintro e w97 ⟨rfl, hb⟩; refine ⟨_, rfl, ?_⟩; have n0_ := Aside0.mk (Kd.R_below z10c hb); have n1_ := Aside0.mk (Kd.R_below z10f hb); have n2_ := Aside0.mk (Kd.R_below z10d hb); have n3_ := Aside0.mk (Kd.R_below z10e hb); have n4_ := Aside0.mk (Kd.R_below z10g hb); have n5_ := Aside0.mk (below_step z10a hb); clear HO_3; clear HO_4; clear HO_5; clear HO_6; clear HO_7; clear HB; have HO_3 := n0_; have HO_4 := n1_; have HO_5 := n2_; have HO_6 := n3_; have HO_7 := n4_; have HB := n5_; clear n0_ n1_ n2_ n3_ n4_ n5_; (try clear hb); (try clear hb2); (try clear hk); (try clear hi); obtain ⟨Ao98, co98, eo98⟩ := Kd.R_slice HO_6.out; subst eo98) | (go_at_call 47; (with_reducible refine (impl_EntriesOk.calls k3 _ _ t475 true _ ?side1 ?side2 A77.out).mono ?_); (case side1 => exact z10i); (case side2 => exact (Kd.R_reads' HO_6.out).2.1); rintro e w99 ⟨rfl, hb⟩; have n0_ := Aside0.mk (Kd.R_below z10c hb); have n1_ := Aside0.mk (Kd.R_below z10f hb); have n2_ := Aside0.mk (Kd.R_below z10d hb); have n3_ := Aside0.mk (Kd.R_below z10e hb); have n4_ := Aside0.mk (Kd.R_below z10g hb); have n5_ := Aside0.mk (below_step z10a hb); clear HO_3; clear HO_4; clear HO_5; clear HO_6; clear HO_7; clear HB; have HO_3 := n0_; have HO_4 := n1_; have HO_5 := n2_; have HO_6 := n3_; have HO_7 := n4_; have HB := n5_; clear n0_ n1_ n2_ n3_ n4_ n5_; (try clear hb); (try clear hb2); (try clear hk); (try clear hi)))
       go_ret
       exact ⟨by first | rfl | (simp [errW_none, errW_some] <;> rfl) | (simp [*, errW_none, errW_some] <;> rfl), by repeat (first | (with_reducible first | exact HB.out | apply below_alloc | apply pw_below_drewN | apply below_drew1) | exact HB.out)⟩
       }
       }
       {
       replace c78 := Bool.eq_false_iff.mpr c78
       subst c78
       have H1 : (some false) = some r := by rw [if_neg (show ¬ (false = true) by decide)] at H; exact H
       clear H
       have H := H1
       clear H1
       obtain rfl := Option.some.inj H
       obtain ⟨Ao100, co100, eo100⟩ := Kd.R_slice HO_7.out
       subst eo100
       obtain ⟨Ao101, co101, eo101⟩ := Kd.R_slice HO_5.out
       subst eo101
       go_wp2_with (first | ((with_reducible refine gate_callee (f := 47) rfl ?_); refine goesL_ (some 89) rfl rfl Try.func47 (by kernel_rfl) rfl #[.slice Ao101 t472.length co101] rfl z10b ?_; (with_reducible refine (impl_EntriesOk.calls k3 _ _ t472 true _ ?side1 ?side2 A75.out).mono ?_); (case side1 => exact z10h); (case side2 => exact (Kd.R_reads' HO_5.out).2.1); rintro e w102 ⟨rfl, hb⟩; refine ⟨_, rfl, ?_⟩; have n0_ := Aside0.mk (Kd.R_below z10c hb); have n1_ := Aside0.mk (Kd.R_below z10f hb); have n2_ := Aside0.mk (Kd.R_below z10d hb); have n3_ := Aside0.mk (Kd.R_below z10e hb); have n4_ := Aside0.mk (Kd.R_below z10g hb); have n5_ := Aside0.mk (below_step z10a hb); clear HO_3; clear HO_4; clear HO_5; clear HO_6; clear HO_7; clear HB; have HO_3 := n0_; have HO_4 := n1_; have HO_5 := n2_; have HO_6 := n3_; have HO_7 := n4_; have HB := n5_; clear n0_ n1_ n2_ n3_ n4_ n5_; (try clear hb); (try clear hb2); (try clear hk); (try clear hi); obtain ⟨Ao103, co103, eo103⟩ := Kd.R_slice HO_6.out; subst eo103) | (go_at_call 47; (with_reducible refine (impl_EntriesOk.calls k3 _ _ t475 false _ ?side1 ?side2 A77.out).mono ?_); (case side1 => exact z10i); (case side2 => exact (Kd.R_reads' HO_6.out).2.1); rintro e w104 ⟨rfl, hb⟩; have n0_ := Aside0.mk (Kd.R_below z10c hb); have n1_ := Aside0.mk (Kd.R_below z10f hb); have n2_ := Aside0.mk (Kd.R_below z10d hb); have n3_ := Aside0.mk (Kd.R_below z10e hb); have n4_ := Aside0.mk (Kd.R_below z10g hb); have n5_ := Aside0.mk (below_step z10a hb); clear HO_3; clear HO_4; clear HO_5; clear HO_6; clear HO_7; clear HB; have HO_3 := n0_; have HO_4 := n1_; have HO_5 := n2_; have HO_6 := n3_; have HO_7 := n4_; have HB := n5_; clear n0_ n1_ n2_ n3_ n4_ n5_; (try clear hb); (try clear hb2); (try clear hk); (try clear hi)))
       go_ret
       exact ⟨by first | rfl | (simp [errW_none, errW_some] <;> rfl) | (simp [*, errW_none, errW_some] <;> rfl), by repeat (first | (with_reducible first | exact HB.out | apply below_alloc | apply pw_below_drewN | apply below_drew1) | exact HB.out)⟩
       }
       }
       {
       replace c76 := Bool.eq_false_iff.mpr c76
       subst c76
       have H1 : (some false) = some r := by rw [if_neg (show ¬ (false = true) by decide)] at H; exact H
       clear H
       have H := H1
       clear H1
       obtain rfl := Option.some.inj H
       obtain ⟨Ao105, co105, eo105⟩ := Kd.R_slice HO_7.out
       subst eo105
       obtain ⟨Ao106, co106, eo106⟩ := Kd.R_slice HO_5.out
       subst eo106
       go_wp2_with (first | ((with_reducible refine gate_callee (f := 47) rfl ?_); refine goesL_ (some 89) rfl rfl Try.func47 (by kernel_rfl) rfl #[.slice Ao106 t472.length co106] rfl z10b ?_; (with_reducible refine (impl_EntriesOk.calls k3 _ _ t472 false _ ?side1 ?side2 A75.out).mono ?_); (case side1 => exact z10h); (case side2 => exact (Kd.R_reads' HO_5.out).2.1); rintro e w107 ⟨rfl, hb⟩; refine ⟨_, rfl, ?_⟩; have n0_ := Aside0.mk (Kd.R_below z10c hb); have n1_ := Aside0.mk (Kd.R_below z10f hb); have n2_ := Aside0.mk (Kd.R_below z10d hb); have n3_ := Aside0.mk (Kd.R_below z10e hb); have n4_ := Aside0.mk (Kd.R_below z10g hb); have n5_ := Aside0.mk (below_step z10a hb); clear HO_3; clear HO_4; clear HO_5; clear HO_6; clear HO_7; clear HB; have HO_3 := n0_; have HO_4 := n1_; have HO_5 := n2_; have HO_6 := n3_; have HO_7 := n4_; have HB := n5_; clear n0_ n1_ n2_ n3_ n4_ n5_; (try clear hb); (try clear hb2); (try clear hk); (try clear hi)))
       go_ret
       exact ⟨by first | rfl | (simp [errW_none, errW_some] <;> rfl) | (simp [*, errW_none, errW_some] <;> rfl), by repeat (first | (with_reducible first | exact HB.out | apply below_alloc | apply pw_below_drewN | apply below_drew1) | exact HB.out)⟩
       }
       }
     }
     {
     rw [if_neg c37] at H
     exact absurd H (by simp)
     }
     }
     {
     rw [if_neg c36] at H
     exact absurd H (by simp)
     
     }
     }
   }
 }
/-- THE ONE PURE STATEMENT of laws_FnSeens: yours. -/
def laws_FnSeens.Pure : Prop := ∀ (l0 : List Int), l0.length ≤ maxLen → l0.length * 1 ≤ 140737488351232 → (∀ x ∈ l0, (Lit.int .u8 x).wf = true) → ∃ k, laws_FnSeens.f k l0 = some true
theorem laws_FnSeens.walk (P : laws_FnSeens.Pure) (a0 : Option Addr) (len0 cap0 : Nat) (z0 : List Int) (w : World) (w0 : (a0 = none ∧ len0 = 0 ∧ cap0 = 0 ∧ z0 = []) ∨ ∃ x, a0 = some x ∧ len0 ≤ cap0 ∧ cap0 ≤ maxLen ∧ z0.length = cap0 ∧ (∀ i, i < z0.length → w.cell? (x.add i) = some (.int .u8 (z0.getD i 0))) ∧ ∀ n ∈ z0, (Lit.int .u8 n).wf = true) (y0 : len0 * 1 ≤ 140737488351232) :
  Calls Try.prog 10 #[.slice a0 len0 cap0] w fun e w' => e = .returned (.bool true) ∧ Below w.heap.size w w' := by
 obtain ⟨l0, rfl, hr0, hm0, hw0, hc0⟩ := ReadsInt.ofRowC w0
 obtain ⟨k, h⟩ := P l0 hm0 y0 hw0
 refine (laws_FnSeens.calls k _ _ l0 true w (Kd.C_of_reads (d := (0 : Int)) (h1 := fun _ => rfl) hr0) hc0 h).mono ?_
 rintro e w' ⟨rfl, hd⟩
 exact ⟨rfl, hd⟩

end Go.Proofs.Ytajidjlbgpaaoaa.PFnSeens

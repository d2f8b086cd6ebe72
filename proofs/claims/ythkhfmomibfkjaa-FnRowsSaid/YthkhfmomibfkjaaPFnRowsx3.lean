-- by a program of this session (wip/print/run.py) for this claim
import Derived.Test.YthkhfmomibfkjaaPFnRowsx0
import Derived.Test.YthkhfmomibfkjaaPFnRowsx2
namespace Go.Proofs.Ythkhfmomibfkjaa.PFnRows
open Go.RowKit Go.Proofs.YthkhfmomibfkjaaW.PrintWords Go.Proofs.YthkhfmomibfkjaaW.PrintLast Go.Proofs.YthkhfmomibfkjaaW.PrintMore
attribute [local go_sem] max2_int min2_int max_two min_two max_three min_three max_four min_four   -- for this text's walks alone
set_option linter.unusedVariables false
set_option linter.unusedSimpArgs false

/-! ### spec_DrawNumber: function 53 -/
theorem z53a {p_ : Prop} (h_ : p_ := by repeat (first | (with_reducible first | exact HI177.out | apply IsS105.alloc | apply IsS105.drewN | apply IsS105.drew | apply IsS105.set_1 | apply IsS105.set_2) | exact HI177.out)) : p_ := h_
theorem z53b {p_ : Prop} (h_ : p_ := by repeat (first | (with_reducible first | exact HB.out | apply below_alloc | apply pw_below_drewN | apply below_drew1 | refine below_set ?_ (IsS105.ge HI177.out)) | exact HB.out)) : p_ := h_
theorem z53c {p_ : Prop} (h_ : p_ := by (try simp only [List.map_toArray, List.map_cons, List.map_nil]); first | done | rfl | (simp only [List.length_drop, List.length_take]; rfl)) : p_ := h_
def spec_DrawNumber.f (k : Nat) (l0 : List Int) : Option (Int) := (spec_l1New.f k l0).bind fun bt174 => ((spec_l1Once.f bt174.1 bt174.2.1 bt174.2.2 4).bind fun bt178 => (if bt178.1 = true then ((some (([(-1), 0, 127, 128, 16383, 16384, 1099511627776, 1099511627777, (-9223372036854775808)] : List Int) : List Int)).bind fun y181 => ((spec_l1Below.f bt174.1 bt178.2.1 bt178.2.2 9).bind fun bt184 => (if 0 ≤ bt184.1 then (if bt184.1 < (y181.length : Int) then (some (rd y181 bt184.1)) else (none)) else (none)))) else ((spec_l1Below.f bt174.1 bt178.2.1 bt178.2.2 30).bind fun bt188 => (if 0 ≤ (IntKind.u64.wrap (wrap64 (1 + bt188.1))) then ((spec_l1Below.f bt174.1 bt188.2.1 bt188.2.2 (shl .i64 1 (IntKind.u64.wrap (wrap64 (1 + bt188.1))))).bind fun bt191 => (some bt191.1)) else (none)))))
theorem spec_DrawNumber.mono : ∀ a0 k, LeO (spec_DrawNumber.f k a0) (spec_DrawNumber.f (k + 1) a0) := by
 intro a0 k
 unfold spec_DrawNumber.f
 repeat' first
   | (with_reducible exact spec_l1New.mono _ _)
   | (with_reducible exact LeO.refl _)
   | (with_reducible exact LeO.none _)
   | (with_reducible refine LeO.ite ?_ ?_)
   | (with_reducible refine LeO.bind ?_ (fun _ => ?_))
   | exact spec_l1New.mono _ _
   | exact LeO.none _
   | refine LeO.ite ?_ ?_
   | refine LeO.bind ?_ (fun _ => ?_)
set_option maxHeartbeats 8000000 in
set_option maxRecDepth 100000 in
theorem spec_DrawNumber.calls (k : Nat) (A0 : Option Addr) (c0 : Nat) (l0 : List Int) (r : Int) (w : World) (hr0 : Kd.C (Kd.int .u8) w A0 l0.length l0) (hc0 : l0.length ≤ c0) (h : spec_DrawNumber.f k l0 = some r) :
  Calls Try.prog 53 #[.slice A0 l0.length c0] w fun e w' => e = .returned (.int .i64 r) ∧ Below w.heap.size w w' := by
 have HR0 := Aside0.mk hr0
 have HC0 := Aside0.mk hc0
 clear hr0 hc0
 have HB := Aside0.mk (Below.refl w.heap.size w)
 have H : ((spec_l1New.f k l0).bind fun bt174 => ((spec_l1Once.f bt174.1 bt174.2.1 bt174.2.2 4).bind fun bt178 => (if bt178.1 = true then ((some (([(-1), 0, 127, 128, 16383, 16384, 1099511627776, 1099511627777, (-9223372036854775808)] : List Int) : List Int)).bind fun y181 => ((spec_l1Below.f bt174.1 bt178.2.1 bt178.2.2 9).bind fun bt184 => (if 0 ≤ bt184.1 then (if bt184.1 < (y181.length : Int) then (some (rd y181 bt184.1)) else (none)) else (none)))) else ((spec_l1Below.f bt174.1 bt178.2.1 bt178.2.2 30).bind fun bt188 => (if 0 ≤ (IntKind.u64.wrap (wrap64 (1 + bt188.1))) then ((spec_l1Below.f bt174.1 bt188.2.1 bt188.2.2 (shl .i64 1 (IntKind.u64.wrap (wrap64 (1 + bt188.1))))).bind fun bt191 => (some bt191.1)) else (none)))))) = some r := h
 clear h
 replace H := Option.bind_eq_some_iff.mp H
 obtain ⟨⟨t174, t175, t176⟩, A20, H⟩ := H
 replace H : ((spec_l1Once.f t174 t175 t176 4).bind fun bt178 => (if bt178.1 = true then ((some (([(-1), 0, 127, 128, 16383, 16384, 1099511627776, 1099511627777, (-9223372036854775808)] : List Int) : List Int)).bind fun y181 => ((spec_l1Below.f t174 bt178.2.1 bt178.2.2 9).bind fun bt184 => (if 0 ≤ bt184.1 then (if bt184.1 < (y181.length : Int) then (some (rd y181 bt184.1)) else (none)) else (none)))) else ((spec_l1Below.f t174 bt178.2.1 bt178.2.2 30).bind fun bt188 => (if 0 ≤ (IntKind.u64.wrap (wrap64 (1 + bt188.1))) then ((spec_l1Below.f t174 bt188.2.1 bt188.2.2 (shl .i64 1 (IntKind.u64.wrap (wrap64 (1 + bt188.1))))).bind fun bt191 => (some bt191.1)) else (none))))) = some r := H
 have A2 := Aside0.mk A20
 clear A20
 replace H := Option.bind_eq_some_iff.mp H
 obtain ⟨⟨t178, t179, t180⟩, A30, H⟩ := H
 replace H : (if t178 = true then ((some (([(-1), 0, 127, 128, 16383, 16384, 1099511627776, 1099511627777, (-9223372036854775808)] : List Int) : List Int)).bind fun y181 => ((spec_l1Below.f t174 t179 t180 9).bind fun bt184 => (if 0 ≤ bt184.1 then (if bt184.1 < (y181.length : Int) then (some (rd y181 bt184.1)) else (none)) else (none)))) else ((spec_l1Below.f t174 t179 t180 30).bind fun bt188 => (if 0 ≤ (IntKind.u64.wrap (wrap64 (1 + bt188.1))) then ((spec_l1Below.f t174 bt188.2.1 bt188.2.2 (shl .i64 1 (IntKind.u64.wrap (wrap64 (1 + bt188.1))))).bind fun bt191 => (some bt191.1)) else (none)))) = some r := H
 have A3 := Aside0.mk A30
 clear A30
 by_cases c4 : t178 = true
 {
 subst c4
 have H1 : ((some (([(-1), 0, 127, 128, 16383, 16384, 1099511627776, 1099511627777, (-9223372036854775808)] : List Int) : List Int)).bind fun y181 => ((spec_l1Below.f t174 t179 t180 9).bind fun bt184 => (if 0 ≤ bt184.1 then (if bt184.1 < (y181.length : Int) then (some (rd y181 bt184.1)) else (none)) else (none)))) = some r := by rw [if_pos rfl] at H; exact H
 clear H
 have H := H1
 clear H1
 obtain ⟨y181, hy181⟩ : ∃ y_ : List Int, y_ = (([(-1), 0, 127, 128, 16383, 16384, 1099511627776, 1099511627777, (-9223372036854775808)] : List Int)) := ⟨_, rfl⟩
 replace H : ((spec_l1Below.f t174 t179 t180 9).bind fun bt184 => (if 0 ≤ bt184.1 then (if bt184.1 < (y181.length : Int) then (some (rd y181 bt184.1)) else (none)) else (none))) = some r := by first | (rw [hy181]; with_reducible exact H) | (have H2_ := (Option.bind_some _ _).symm.trans H; rw [hy181]; with_reducible exact H2_) | (have H2_ := (Option.bind_some _ _).symm.trans H; with_reducible exact H2_) | with_reducible exact H | (rw [hy181]; exact H) | exact H
 have Ny181 := Aside0.mk hy181
 clear hy181
 replace H := Option.bind_eq_some_iff.mp H
 obtain ⟨⟨t184, t185, t186⟩, A50, H⟩ := H
 replace H : (if 0 ≤ t184 then (if t184 < (y181.length : Int) then (some (rd y181 t184)) else (none)) else (none)) = some r := H
 have A5 := Aside0.mk A50
 clear A50
 by_cases c6 : 0 ≤ t184
 {
 rw [if_pos c6] at H
 have c6b0 : decide (0 ≤ t184) = true := decide_eq_true c6
 clear c6
 by_cases c7 : t184 < (y181.length : Int)
 {
 rw [if_pos c7] at H
 have c7b0 : decide (t184 < (y181.length : Int)) = true := decide_eq_true c7
 clear c7
 obtain rfl := Option.some.inj H
 go_enter Try.func53, Try.ntmps53
 go_wp2_with (first | ((with_reducible refine gate_callee (f := 93) rfl ?_); refine goesL_ (some 5) rfl rfl Try.func93 (by kernel_rfl) rfl #[.slice A0 l0.length c0] rfl z53c ?_; (with_reducible refine (spec_l1New.calls k _ _ l0 t174 t175 t176 w _ ?side1 ?side2 ?side3 A2.out).mono ?_); (case side1 => exact (by repeat (first | (with_reducible first | exact HB.out | apply below_alloc | apply pw_below_drewN | apply below_drew1) | exact HB.out))); (case side2 => exact HR0.out); (case side3 => exact HC0.out); rintro e w8 ⟨g177, rfl, hi, hb, hb2⟩; refine ⟨_, rfl, ?_⟩; have n0_ := Aside0.mk (hb); have n1_ := Aside0.mk (hi); clear HB; have HB := n0_; have HI177 := n1_; clear n0_ n1_; (try clear hb); (try clear hb2); (try clear hk); (try clear hi)) | ((with_reducible refine gate_callee (f := 94) rfl ?_); refine goesL_ (some 7) rfl rfl Try.func94 (by kernel_rfl) rfl #[.pointer (some ⟨g177, 0, none⟩), .int .i64 4] rfl z53c ?_; (with_reducible refine (spec_l1Once.calls g177 t174 t175 t176 4 true t179 t180 w _ ?side1 ?side2 A3.out).mono ?_); (case side1 => exact z53a); (case side2 => exact z53b); rintro e w9 ⟨rfl, hi, hb, hk⟩; refine ⟨_, rfl, ?_⟩; have n0_ := Aside0.mk (hb); have n1_ := Aside0.mk (hi); clear HB; clear HI177; have HB := n0_; have HI177 := n1_; clear n0_ n1_; (try clear hb); (try clear hb2); (try clear hk); (try clear hi)) | ((with_reducible refine gate_dst (N := 8) rfl ?_); refine Kd.R_lit (Kd.int .i64) _ 2 ?hg (N := 8) ?hd (xs := ([(-1), 0, 127, 128, 16383, 16384, 1099511627776, 1099511627777, (-9223372036854775808)] : List Int)) (inner := [.int .i64 (-1), .int .i64 0, .int .i64 127, .int .i64 128, .int .i64 16383, .int .i64 16384, .int .i64 1099511627776, .int .i64 1099511627777, .int .i64 (-9223372036854775808)]) (ok := fun _ => True) (okp := fun _ => True) ?hr ?hp (fun _ hk => hk) trivial (Below.refl _ _) (Nat.le_refl _) (by simp) ?_; (case hd => rfl); (case hg => rfl); (case hr => first | (go_simp; done) | (go_simp; rfl)); (case hp => exact (Reps.one (show Kd.M (Kd.int .i64) _ _ _ (-1) [.int .i64 (-1)] from rfl) (Reps.one (show Kd.M (Kd.int .i64) _ _ _ 0 [.int .i64 0] from rfl) (Reps.one (show Kd.M (Kd.int .i64) _ _ _ 127 [.int .i64 127] from rfl) (Reps.one (show Kd.M (Kd.int .i64) _ _ _ 128 [.int .i64 128] from rfl) (Reps.one (show Kd.M (Kd.int .i64) _ _ _ 16383 [.int .i64 16383] from rfl) (Reps.one (show Kd.M (Kd.int .i64) _ _ _ 16384 [.int .i64 16384] from rfl) (Reps.one (show Kd.M (Kd.int .i64) _ _ _ 1099511627776 [.int .i64 1099511627776] from rfl) (Reps.one (show Kd.M (Kd.int .i64) _ _ _ 1099511627777 [.int .i64 1099511627777] from rfl) (Reps.one (show Kd.M (Kd.int .i64) _ _ _ (-9223372036854775808) [.int .i64 (-9223372036854775808)] from rfl) (Reps.none _ _))))))))))); intro v182 w10 ho11 hb hg_ hnew_; clear hg_ hnew_; (first | rw [← Ny181.out] at ho11 | (simp only [Int.reduceToNat] at ho11; rw [← Ny181.out] at ho11)); have n0_ := Aside0.mk (Kd.R_lower ho11 (below_size z53b)); have n1_ := Aside0.mk (IsS105.below z53a hb); have n2_ := Aside0.mk (below_step z53b hb); clear HI177; clear HB; have HO183 := n0_; have HI177 := n1_; have HB := n2_; clear n0_ n1_ n2_; clear hb ho11) | ((with_reducible refine gate_callee (f := 95) rfl ?_); refine goesL_ (some 10) rfl rfl Try.func95 (by kernel_rfl) rfl #[.pointer (some ⟨g177, 0, none⟩), .int .i64 9] rfl z53c ?_; (with_reducible refine (spec_l1Below.calls g177 t174 t179 t180 9 t184 t185 t186 w _ ?side1 ?side2 A5.out).mono ?_); (case side1 => exact z53a); (case side2 => exact z53b); rintro e w12 ⟨rfl, hi, hb, hk⟩; refine ⟨_, rfl, ?_⟩; have n0_ := Aside0.mk (Kd.R_mono (Kd.R_keep (IsS105.apart (show IsS105 w _ g177 t174 t179 t180 from z53a) (by (with_reducible repeat (first | apply Kd.R_alloc | apply Kd.R_drewN | apply Kd.R_drew)); exact HO183.out) (by decide)) hk (fun _ h => h.2)) (fun _ h => h.1)); have n1_ := Aside0.mk (hb); have n2_ := Aside0.mk (hi); clear HO183; clear HB; clear HI177; have HO183 := n0_; have HB := n1_; have HI177 := n2_; clear n0_ n1_ n2_; (try clear hb); (try clear hb2); (try clear hk); (try clear hi); obtain ⟨Ao13, co13, eo13⟩ := Kd.R_slice HO183.out; subst eo13; have p187 : 0 ≤ (t184 : Int) := of_decide_eq_true (by first | (with_reducible assumption) | assumption); have q187 : t184 < (y181.length : Int) := of_decide_eq_true (by first | (with_reducible assumption) | assumption); obtain ⟨ad187, e187, hx187_0⟩ := Kd.at_int (Kd.R_reads' HO183.out).2.2 t184 p187 q187; cases e187; replace p187 := eq_true p187; replace q187 := eq_true q187))
 go_ret
 exact ⟨by first | rfl | (simp [errW_none, errW_some] <;> rfl) | (simp [*, errW_none, errW_some] <;> rfl), by repeat (first | (with_reducible first | exact HB.out | apply below_alloc | apply pw_below_drewN | apply below_drew1 | refine below_set ?_ (IsS105.ge HI177.out)) | exact HB.out)⟩
 }
 {
 rw [if_neg c7] at H
 exact absurd H (by simp)
 }
 }
 {
 rw [if_neg c6] at H
 exact absurd H (by simp)
 }
 }
 {
 replace c4 := Bool.eq_false_iff.mpr c4
 subst c4
 have H1 : ((spec_l1Below.f t174 t179 t180 30).bind fun bt188 => (if 0 ≤ (IntKind.u64.wrap (wrap64 (1 + bt188.1))) then ((spec_l1Below.f t174 bt188.2.1 bt188.2.2 (shl .i64 1 (IntKind.u64.wrap (wrap64 (1 + bt188.1))))).bind fun bt191 => (some bt191.1)) else (none))) = some r := by rw [if_neg (show ¬ (false = true) by decide)] at H; exact H
 clear H
 have H := H1
 clear H1
 replace H := Option.bind_eq_some_iff.mp H
 obtain ⟨⟨t188, t189, t190⟩, A140, H⟩ := H
 replace H : (if 0 ≤ (IntKind.u64.wrap (wrap64 (1 + t188))) then ((spec_l1Below.f t174 t189 t190 (shl .i64 1 (IntKind.u64.wrap (wrap64 (1 + t188))))).bind fun bt191 => (some bt191.1)) else (none)) = some r := H
 have A14 := Aside0.mk A140
 clear A140
 obtain ⟨ji15, hji15⟩ : ∃ j_ : Int, (IntKind.u64.wrap (wrap64 (1 + t188))) = j_ := ⟨_, rfl⟩
 replace H : (if 0 ≤ (ji15) then ((spec_l1Below.f t174 t189 t190 (shl .i64 1 (ji15))).bind fun bt191 => (some bt191.1)) else (none)) = some r := by first | (rw [hji15] at H; exact H) | (simp only [hji15] at H ⊢; exact H)
 (try rw [hji15] at A2)
 (try rw [hji15] at A3)
 (try rw [hji15] at A14)
 by_cases c16 : 0 ≤ (ji15)
 {
 rw [if_pos c16] at H
 have c16b0 := eq_true c16
 have c16b1 : decide (0 ≤ (ji15)) = true := decide_eq_true c16
 clear c16
 obtain ⟨ji17, hji17⟩ : ∃ j_ : Int, (shl .i64 1 (ji15)) = j_ := ⟨_, rfl⟩
 replace H : ((spec_l1Below.f t174 t189 t190 (ji17)).bind fun bt191 => (some bt191.1)) = some r := by first | (rw [hji17] at H; exact H) | (simp only [hji17] at H ⊢; exact H)
 (try rw [hji17] at A2)
 (try rw [hji17] at A3)
 (try rw [hji17] at A14)
 have hji17_ : (IntKind.i64.wrap (1 * 2 ^ min (ji15).toNat 64)) = ji17 := hji17
 have hji17z : (ji15) ≤ 64 → (IntKind.i64.wrap (1 * 2 ^ (ji15).toNat)) = ji17 := shl_small hji17
 have hji17u : (IntKind.i64.wrap (2 ^ min (ji15).toNat 64)) = ji17 := by have h_ := hji17_; rw [Int.one_mul] at h_; exact h_
 have hji17v : (ji15) ≤ 64 → (IntKind.i64.wrap (2 ^ (ji15).toNat)) = ji17 := fun hle_ => by have h_ := hji17z hle_; rw [Int.one_mul] at h_; exact h_
 have hji17y : (wrap64 (1 * 2 ^ min (ji15).toNat 64)) = ji17 := (i64_w _).symm.trans hji17_
 have hji17x : (ji15) ≤ 64 → (wrap64 (1 * 2 ^ (ji15).toNat)) = ji17 := fun h_ => (i64_w _).symm.trans (hji17z h_)
 replace H := Option.bind_eq_some_iff.mp H
 obtain ⟨⟨t191, t192, t193⟩, A180, H⟩ := H
 replace H : (some t191) = some r := H
 have A18 := Aside0.mk A180
 clear A180
 obtain rfl := Option.some.inj H
 go_enter Try.func53, Try.ntmps53
 go_wp2_with (first | ((with_reducible refine gate_callee (f := 93) rfl ?_); refine goesL_ (some 5) rfl rfl Try.func93 (by kernel_rfl) rfl #[.slice A0 l0.length c0] rfl z53c ?_; (with_reducible refine (spec_l1New.calls k _ _ l0 t174 t175 t176 w _ ?side1 ?side2 ?side3 A2.out).mono ?_); (case side1 => exact (by repeat (first | (with_reducible first | exact HB.out | apply below_alloc | apply pw_below_drewN | apply below_drew1) | exact HB.out))); (case side2 => exact HR0.out); (case side3 => exact HC0.out); rintro e w19 ⟨g177, rfl, hi, hb, hb2⟩; refine ⟨_, rfl, ?_⟩; have n0_ := Aside0.mk (hb); have n1_ := Aside0.mk (hi); clear HB; have HB := n0_; have HI177 := n1_; clear n0_ n1_; (try clear hb); (try clear hb2); (try clear hk); (try clear hi)) | ((with_reducible refine gate_callee (f := 94) rfl ?_); refine goesL_ (some 7) rfl rfl Try.func94 (by kernel_rfl) rfl #[.pointer (some ⟨g177, 0, none⟩), .int .i64 4] rfl z53c ?_; (with_reducible refine (spec_l1Once.calls g177 t174 t175 t176 4 false t179 t180 w _ ?side1 ?side2 A3.out).mono ?_); (case side1 => exact z53a); (case side2 => exact z53b); rintro e w20 ⟨rfl, hi, hb, hk⟩; refine ⟨_, rfl, ?_⟩; have n0_ := Aside0.mk (hb); have n1_ := Aside0.mk (hi); clear HB; clear HI177; have HB := n0_; have HI177 := n1_; clear n0_ n1_; (try clear hb); (try clear hb2); (try clear hk); (try clear hi)) | ((with_reducible refine gate_callee (f := 95) rfl ?_); refine goesL_ (some 15) rfl rfl Try.func95 (by kernel_rfl) rfl #[.pointer (some ⟨g177, 0, none⟩), .int .i64 30] rfl z53c ?_; (with_reducible refine (spec_l1Below.calls g177 t174 t179 t180 30 t188 t189 t190 w _ ?side1 ?side2 A14.out).mono ?_); (case side1 => exact z53a); (case side2 => exact z53b); rintro e w21 ⟨rfl, hi, hb, hk⟩; refine ⟨_, rfl, ?_⟩; have n0_ := Aside0.mk (hb); have n1_ := Aside0.mk (hi); clear HB; clear HI177; have HB := n0_; have HI177 := n1_; clear n0_ n1_; (try clear hb); (try clear hb2); (try clear hk); (try clear hi)) | ((with_reducible refine gate_callee (f := 95) rfl ?_); refine goesL_ (some 19) rfl rfl Try.func95 (by kernel_rfl) rfl #[.pointer (some ⟨g177, 0, none⟩), .int .i64 ji17] rfl (by (try simp only [List.map_toArray, List.map_cons, List.map_nil]); first | done | (simp only [hji17]; rfl) | rfl | (simp only [List.length_drop, List.length_take]; rfl)) ?_; (with_reducible refine (spec_l1Below.calls g177 t174 t189 t190 ji17 t191 t192 t193 w _ ?side1 ?side2 A18.out).mono ?_); (case side1 => exact z53a); (case side2 => exact z53b); rintro e w22 ⟨rfl, hi, hb, hk⟩; refine ⟨_, rfl, ?_⟩; have n0_ := Aside0.mk (hb); have n1_ := Aside0.mk (hi); clear HB; clear HI177; have HB := n0_; have HI177 := n1_; clear n0_ n1_; (try clear hb); (try clear hb2); (try clear hk); (try clear hi)))
 go_ret
 exact ⟨by first | rfl | (simp [errW_none, errW_some] <;> rfl) | (simp only [← hji15, ← hji17]; first | rfl | (simp [errW_none, errW_some] <;> rfl)) | (simp [*, errW_none, errW_some] <;> rfl), by repeat (first | (with_reducible first | exact HB.out | apply below_alloc | apply pw_below_drewN | apply below_drew1 | refine below_set ?_ (IsS105.ge HI177.out)) | exact HB.out)⟩
 }
 {
 rw [if_neg c16] at H
 exact absurd H (by simp)
 
 }
 }
/-! ### spec_l1DrawText: function 96 -/
theorem z96a {p_ : Prop} (h_ : p_ := by repeat (first | (with_reducible first | exact HI0.out | apply IsS105.alloc | apply IsS105.drewN | apply IsS105.drew | apply IsS105.set_1 | apply IsS105.set_2) | exact HI0.out)) : p_ := h_
theorem z96b {p_ : Prop} (h_ : p_ := by repeat (first | (with_reducible first | exact HK.out | apply KeepBut.set_ | apply keep_drewN | apply keep_drew | apply keep_alloc) | exact HK.out)) : p_ := h_
theorem z96c {p_ : Prop} (h_ : p_ := by repeat (first | (with_reducible first | exact HB.out | apply below_alloc | apply pw_below_drewN | apply below_drew1 | refine below_set ?_ (IsS105.ge HI0.out)) | exact HB.out)) : p_ := h_
theorem z96d {p_ : Prop} (h_ : p_ := by (try simp only [List.map_toArray, List.map_cons, List.map_nil]); first | done | rfl | (simp only [List.length_drop, List.length_take]; rfl)) : p_ := h_
theorem z96e {p_ : Prop} (h_ : p_ := by (with_reducible repeat (first | apply Kd.R_alloc | apply Kd.R_drewN | apply Kd.R_drew)); exact HO_3.out) : p_ := h_
def spec_l1DrawText.l0 : Nat → List Int → Int → List Int → Int → Int → Option (ByteArray × Int × Int)
 | 0, _, _, _, _, _ => none
 | k + 1, x3, x4, x1000, x1001, x1002 => if x4 > 0 then ((spec_l1Below.f x1000 x1001 x1002 4).bind fun bt200 => (if x3.length < 140737488355328 then (spec_l1DrawText.l0 k (x3 ++ [(wrap64 (97 + bt200.1)) % 256]) (wrap64 (x4 - 1)) x1000 bt200.2.1 bt200.2.2) else (none))) else ((spec_l1Once.f x1000 x1001 x1002 6).bind fun bt206 => (if bt206.1 = true then ((spec_l1Byte.f x1000 bt206.2.1 bt206.2.2).bind fun bt209 => (if x3.length < 140737488355328 then (some (strOfNums (x3 ++ [(bt209.1) % 256]), bt209.2.1, bt209.2.2)) else (none))) else (some (strOfNums x3, bt206.2.1, bt206.2.2))))
def spec_l1DrawText.f (k : Nat) (s0_0 : List Int) (s0_1 : Int) (s0_2 : Int) : Option (ByteArray × Int × Int) := (spec_l1Below.f s0_0 s0_1 s0_2 8).bind fun bt197 => (spec_l1DrawText.l0 k (([] : List Int)) bt197.1 s0_0 bt197.2.1 bt197.2.2)
theorem spec_l1DrawText.mono_l : ∀ k, (∀ y0 y1 y2 y3 y4, LeO (spec_l1DrawText.l0 k y0 y1 y2 y3 y4) (spec_l1DrawText.l0 (k + 1) y0 y1 y2 y3 y4))
 | 0 => fun _ _ _ _ _ r h => by simp [spec_l1DrawText.l0] at h
 | k + 1 => by
  have ih0 := spec_l1DrawText.mono_l k
  {
  intro y0 y1 y2 y3 y4
  unfold spec_l1DrawText.l0
  repeat' first
  | (with_reducible exact ih0 _ _ _ _ _)
  | (with_reducible exact LeO.refl _)
  | (with_reducible exact LeO.none _)
  | (with_reducible refine LeO.ite ?_ ?_)
  | (with_reducible refine LeO.bind ?_ (fun _ => ?_))
  | exact ih0 _ _ _ _ _
  | exact LeO.none _
  | refine LeO.ite ?_ ?_
  | refine LeO.bind ?_ (fun _ => ?_)
  }
theorem spec_l1DrawText.mono : ∀ a0 a1 a2 k, LeO (spec_l1DrawText.f k a0 a1 a2) (spec_l1DrawText.f (k + 1) a0 a1 a2) := by
 intro a0 a1 a2 k
 have ih0 := spec_l1DrawText.mono_l k
 unfold spec_l1DrawText.f
 repeat' first
   | (with_reducible exact ih0 _ _ _ _ _)
   | (with_reducible exact LeO.refl _)
   | (with_reducible exact LeO.none _)
   | (with_reducible refine LeO.ite ?_ ?_)
   | (with_reducible refine LeO.bind ?_ (fun _ => ?_))
   | exact ih0 _ _ _ _ _
   | exact LeO.none _
   | refine LeO.ite ?_ ?_
   | refine LeO.bind ?_ (fun _ => ?_)
set_option maxHeartbeats 8000000 in
set_option maxRecDepth 100000 in
theorem spec_l1DrawText.calls (k : Nat) (g : Nat) (s0_0 : List Int) (s0_1 : Int) (s0_2 : Int) (r1 : ByteArray) (r2 : Int) (r3 : Int) (w0 w : World) (hI : IsS105 w0 w g s0_0 s0_1 s0_2) (hB : Below w0.heap.size w0 w) (h : spec_l1DrawText.f k s0_0 s0_1 s0_2 = some (r1, r2, r3)) :
  Calls Try.prog 96 #[.pointer (some ⟨g, 0, none⟩)] w fun e w' => e = .returned (.string r1) ∧ IsS105 w0 w' g s0_0 r2 r3 ∧ Below w0.heap.size w0 w' ∧ KeepBut w w' g none := by
 have HI0 := Aside0.mk hI
 have HK := Aside0.mk (KeepBut.refl w g none)
 have HL := Aside0.mk hB.size
 clear hI
 have HW0 := Aside0.mk hB.size
 have HB := Aside0.mk hB
 clear hB
 have H : ((spec_l1Below.f s0_0 s0_1 s0_2 8).bind fun bt197 => (spec_l1DrawText.l0 k (([] : List Int)) bt197.1 s0_0 bt197.2.1 bt197.2.2)) = some (r1, r2, r3) := h
 clear h
 obtain ⟨y194, hy194⟩ : ∃ y_ : List Int, y_ = (([] : List Int)) := ⟨_, rfl⟩
 replace H : ((spec_l1Below.f s0_0 s0_1 s0_2 8).bind fun bt197 => (spec_l1DrawText.l0 k y194 bt197.1 s0_0 bt197.2.1 bt197.2.2)) = some (r1, r2, r3) := by first | (rw [hy194]; with_reducible exact H) | (have H2_ := (Option.bind_some _ _).symm.trans H; rw [hy194]; with_reducible exact H2_) | (have H2_ := (Option.bind_some _ _).symm.trans H; with_reducible exact H2_) | with_reducible exact H | (rw [hy194]; exact H) | exact H
 have Ny194 := Aside0.mk hy194
 clear hy194
 replace H := Option.bind_eq_some_iff.mp H
 obtain ⟨⟨t197, t198, t199⟩, A20, H⟩ := H
 replace H : (spec_l1DrawText.l0 k y194 t197 s0_0 t198 t199) = some (r1, r2, r3) := H
 have A2 := Aside0.mk A20
 clear A20
 have H' := Aside0.mk H
 clear H
 go_enter Try.func96, Try.ntmps96
 go_wp2_with (first | ((with_reducible refine gate_dst (N := 5) rfl ?_); refine Kd.R_lit (Kd.int .u8) _ 5 ?hg (N := 5) ?hd (xs := ([] : List Int)) (inner := []) (ok := fun _ => True) (okp := fun _ => True) ?hr ?hp (fun _ hk => hk) trivial (Below.refl _ _) (Nat.le_refl _) (by simp) ?_; (case hd => rfl); (case hg => rfl); (case hr => first | (go_simp; done) | (go_simp; rfl)); (case hp => exact (Reps.none _ _)); intro v195 w3 ho4 hb hg_ hnew_; clear hg_ hnew_; (first | rw [← Ny194.out] at ho4 | (simp only [Int.reduceToNat] at ho4; rw [← Ny194.out] at ho4)); have n0_ := Aside0.mk (Kd.R_lower ho4 (keep_size (w := w) (g := g) (row := none) z96b)); have n1_ := Aside0.mk (IsS105.below z96a hb); have n2_ := Aside0.mk (KeepBut.trans z96b (KeepBut.of_below hb g none) (.inl rfl)); have n3_ := Aside0.mk (below_step z96c hb); clear HI0; clear HK; clear HB; have HO196 := n0_; have HI0 := n1_; have HK := n2_; have HB := n3_; clear n0_ n1_ n2_ n3_; clear hb ho4) | ((with_reducible refine gate_callee (f := 95) rfl ?_); refine goesL_ (some 7) rfl rfl Try.func95 (by kernel_rfl) rfl #[.pointer (some ⟨g, 0, none⟩), .int .i64 8] rfl z96d ?_; (with_reducible refine (spec_l1Below.calls g s0_0 s0_1 s0_2 8 t197 t198 t199 w0 _ ?side1 ?side2 A2.out).mono ?_); (case side1 => exact z96a); (case side2 => exact z96c); rintro e w5 ⟨rfl, hi, hb, hk⟩; refine ⟨_, rfl, ?_⟩; have n0_ := Aside0.mk (Kd.R_mono (Kd.R_keep (IsS105.apart (show IsS105 w0 _ g s0_0 s0_1 s0_2 from z96a) (by (with_reducible repeat (first | apply Kd.R_alloc | apply Kd.R_drewN | apply Kd.R_drew)); exact HO196.out) (by decide)) hk (fun _ h => h.2)) (fun _ h => h.1)); have n1_ := Aside0.mk (KeepBut.trans z96b hk (.inl rfl)); have n2_ := Aside0.mk (hb); have n3_ := Aside0.mk (hi); clear HO196; clear HK; clear HB; clear HI0; have HO196 := n0_; have HK := n1_; have HB := n2_; have HI0 := n3_; clear n0_ n1_ n2_ n3_; (try clear hb); (try clear hb2); (try clear hk); (try clear hi)))
 go_loopg [3, 4] k (fun kq v3 v4 w' => ∃ (x3_1 : List Int) (x4_1 : Int) (x1001_1 : Int) (x1002_1 : Int), v4 = .int .i64 x4_1 ∧ Aside0 (spec_l1DrawText.l0 kq x3_1 x4_1 s0_0 x1001_1 x1002_1 = some (r1, r2, r3)) ∧ Aside0 (kq ≤ k) ∧ Aside0 (Kd.R (Kd.int .u8) 5 w' w.heap.size (fun _ => True) v3 x3_1) ∧ Aside0 (IsS105 w0 w' g s0_0 x1001_1 x1002_1) ∧ Aside0 (KeepBut w w' g none) ∧ Aside0 (Below w0.heap.size w0 w'))
 case atStart => exact ⟨(y194), (t197), (t198), (t199), (by first | rfl | (simp; done) | (simp [*]; done)), H', ⟨Nat.le_refl _⟩, ⟨by (with_reducible repeat (first | apply Kd.R_alloc | apply Kd.R_drewN | apply Kd.R_drew)); exact HO196.out⟩, ⟨by repeat (first | (with_reducible first | exact HI0.out | apply IsS105.alloc | apply IsS105.drewN | apply IsS105.drew | apply IsS105.set_1 | apply IsS105.set_2) | exact HI0.out)⟩, ⟨by repeat (first | (with_reducible first | exact HK.out | apply KeepBut.set_ | apply keep_drewN | apply keep_drew | apply keep_alloc) | exact HK.out)⟩, ⟨by repeat (first | (with_reducible first | exact HB.out | apply below_alloc | apply pw_below_drewN | apply below_drew1 | refine below_set ?_ (IsS105.ge HI0.out)) | exact HB.out)⟩⟩
 case round =>
  clear H'
  try clear p2
  obtain ⟨x3_1, x4_1, x1001_1, x1002_1, rfl, HA, HK1, HO_3, HI0, HK, HB⟩ := hrel
  cases gk with
  | zero => exact absurd HA.out (by simp [spec_l1DrawText.l0])
  | succ k1 =>
   have H := HA.out
   clear HA
   simp only [spec_l1DrawText.l0] at H
   by_cases c6 : x4_1 > 0
   {
   rw [if_pos c6] at H
   have c6b0 : decide (0 < x4_1) = true := decide_eq_true c6
   clear c6
   replace H := Option.bind_eq_some_iff.mp H
   obtain ⟨⟨t200, t201, t202⟩, A70, H⟩ := H
   replace H : (if x3_1.length < 140737488355328 then (spec_l1DrawText.l0 k1 (x3_1 ++ [(wrap64 (97 + t200)) % 256]) (wrap64 (x4_1 - 1)) s0_0 t201 t202) else (none)) = some (r1, r2, r3) := H
   have A7 := Aside0.mk A70
   clear A70
   by_cases c8 : x3_1.length < 140737488355328
   {
   rw [if_pos c8] at H
   have LMc8 := Aside0.mk c8
   clear c8
   obtain ⟨y203, hy203⟩ : ∃ y_ : List Int, y_ = (x3_1 ++ [(wrap64 (97 + t200)) % 256]) := ⟨_, rfl⟩
   replace H : (spec_l1DrawText.l0 k1 y203 (wrap64 (x4_1 - 1)) s0_0 t201 t202) = some (r1, r2, r3) := by first | (rw [hy203]; with_reducible exact H) | (have H2_ := (Option.bind_some _ _).symm.trans H; rw [hy203]; with_reducible exact H2_) | (have H2_ := (Option.bind_some _ _).symm.trans H; with_reducible exact H2_) | with_reducible exact H | (rw [hy203]; exact H) | exact H
   have Ny203 := Aside0.mk hy203
   clear hy203
   have H' := Aside0.mk H
   clear H
   go_wp2_with (first | ((with_reducible refine gate_callee (f := 95) rfl ?_); refine goesL_ (some 14) rfl rfl Try.func95 (by kernel_rfl) rfl #[.pointer (some ⟨g, 0, none⟩), .int .i64 4] rfl z96d ?_; (with_reducible refine (spec_l1Below.calls g s0_0 x1001_1 x1002_1 4 t200 t201 t202 w0 _ ?side1 ?side2 A7.out).mono ?_); (case side1 => exact z96a); (case side2 => exact z96c); rintro e w9 ⟨rfl, hi, hb, hk⟩; refine ⟨_, rfl, ?_⟩; have n0_ := Aside0.mk (Kd.R_mono (Kd.R_keep (IsS105.apart (show IsS105 w0 _ g s0_0 x1001_1 x1002_1 from z96a) z96e (by decide)) hk (fun _ h => h.2)) (fun _ h => h.1)); have n1_ := Aside0.mk (KeepBut.trans z96b hk (.inl rfl)); have n2_ := Aside0.mk (hb); have n3_ := Aside0.mk (hi); clear HO_3; clear HK; clear HB; clear HI0; have HO_3 := n0_; have HK := n1_; have HB := n2_; have HI0 := n3_; clear n0_ n1_ n2_ n3_; (try clear hb); (try clear hb2); (try clear hk); (try clear hi)) | ((with_reducible refine gate_builtin (b := .append) (xs := #[.tmp 12, .tmp 17]) rfl ?_); at_builtin; refine Kd.R_append (Kd.int .u8) w.heap.size rfl (.tmp 12) (.tmp 17) 22 5 (.int .u8 0) 1 rfl Try.underlying22 info5 rfl (by decide) (by omega) u3 x3_1 ((wrap64 (97 + t200)) % 256) [.int .u8 ((wrap64 (97 + t200)) % 256)] (fun _ => True) (fun _ => False) rfl rfl ?aP (fun _ hk => hk.elim) ?aF ?aO (Below.refl _ _) ?aS ?aL ?_; (case aP => exact rfl); (case aF => exact (fun _ _ => trivial)); (case aO => exact z96e); (case aS => exact (keep_size (w := w) (g := g) (row := none) z96b)); (case aL => have := LMc8.out; omega); intro v204 w10 ho hb hg hat; rw [← Ny203.out] at ho; have n0_ := Aside0.mk (IsS105.grown z96a hg (IsS105.own_ne HI0.out HO_3.out (by decide))); have n1_ := Aside0.mk (below_weaken z96c HL.out hb); have n2_ := Aside0.mk (KeepBut.trans z96b (KeepBut.of_grown hg g) (Kd.R_base2 HO_3.out)); have n3_ := Aside0.mk (ho); clear HI0; clear HB; clear HK; clear HO_3; have HI0 := n0_; have HB := n1_; have HK := n2_; have HO205 := n3_; clear n0_ n1_ n2_ n3_; clear ho hb hg hat))
   go_roundg k1
   case measure => have := HK1.out; omega
   case rel => exact ⟨(y203), (wrap64 (x4_1 - 1)), (t201), (t202), (by first | rfl | (simp; done) | (simp [*]; done)), H', ⟨by have := HK1.out; omega⟩, ⟨by (with_reducible repeat (first | apply Kd.R_alloc | apply Kd.R_drewN | apply Kd.R_drew)); exact HO205.out⟩, ⟨by repeat (first | (with_reducible first | exact HI0.out | apply IsS105.alloc | apply IsS105.drewN | apply IsS105.drew | apply IsS105.set_1 | apply IsS105.set_2) | exact HI0.out)⟩, ⟨by repeat (first | (with_reducible first | exact HK.out | apply KeepBut.set_ | apply keep_drewN | apply keep_drew | apply keep_alloc) | exact HK.out)⟩, ⟨by repeat (first | (with_reducible first | exact HB.out | apply below_alloc | apply pw_below_drewN | apply below_drew1 | refine below_set ?_ (IsS105.ge HI0.out)) | exact HB.out)⟩⟩
   }
   {
   rw [if_neg c8] at H
   exact absurd H (by simp)
   }
   }
   {
   rw [if_neg c6] at H
   have c6b0 : decide (0 < x4_1) = false := decide_eq_false c6
   clear c6
   replace H := Option.bind_eq_some_iff.mp H
   obtain ⟨⟨t206, t207, t208⟩, A110, H⟩ := H
   replace H : (if t206 = true then ((spec_l1Byte.f s0_0 t207 t208).bind fun bt209 => (if x3_1.length < 140737488355328 then (some (strOfNums (x3_1 ++ [(bt209.1) % 256]), bt209.2.1, bt209.2.2)) else (none))) else (some (strOfNums x3_1, t207, t208))) = some (r1, r2, r3) := H
   have A11 := Aside0.mk A110
   clear A110
   by_cases c12 : t206 = true
   {
   subst c12
   have H1 : ((spec_l1Byte.f s0_0 t207 t208).bind fun bt209 => (if x3_1.length < 140737488355328 then (some (strOfNums (x3_1 ++ [(bt209.1) % 256]), bt209.2.1, bt209.2.2)) else (none))) = some (r1, r2, r3) := by rw [if_pos rfl] at H; exact H
   clear H
   have H := H1
   clear H1
   replace H := Option.bind_eq_some_iff.mp H
   obtain ⟨⟨t209, t210, t211⟩, A130, H⟩ := H
   replace H : (if x3_1.length < 140737488355328 then (some (strOfNums (x3_1 ++ [(t209) % 256]), t210, t211)) else (none)) = some (r1, r2, r3) := H
   have A13 := Aside0.mk A130
   clear A130
   by_cases c14 : x3_1.length < 140737488355328
   {
   rw [if_pos c14] at H
   have LMc14 := Aside0.mk c14
   clear c14
   obtain ⟨y212, hy212⟩ : ∃ y_ : List Int, y_ = (x3_1 ++ [(t209) % 256]) := ⟨_, rfl⟩
   replace H : (some (strOfNums y212, t210, t211)) = some (r1, r2, r3) := by first | (rw [hy212]; with_reducible exact H) | (have H2_ := (Option.bind_some _ _).symm.trans H; rw [hy212]; with_reducible exact H2_) | (have H2_ := (Option.bind_some _ _).symm.trans H; with_reducible exact H2_) | with_reducible exact H | (rw [hy212]; exact H) | exact H
   have Ny212 := Aside0.mk hy212
   clear hy212
   simp only [Option.some.injEq, Prod.mk.injEq] at H
   obtain ⟨rfl, rfl, rfl⟩ := H
   go_wp2_with (first | ((with_reducible refine gate_callee (f := 94) rfl ?_); refine goesL_ (some 20) rfl rfl Try.func94 (by kernel_rfl) rfl #[.pointer (some ⟨g, 0, none⟩), .int .i64 6] rfl z96d ?_; (with_reducible refine (spec_l1Once.calls g s0_0 x1001_1 x1002_1 6 true t207 t208 w0 _ ?side1 ?side2 A11.out).mono ?_); (case side1 => exact z96a); (case side2 => exact z96c); rintro e w15 ⟨rfl, hi, hb, hk⟩; refine ⟨_, rfl, ?_⟩; have n0_ := Aside0.mk (Kd.R_mono (Kd.R_keep (IsS105.apart (show IsS105 w0 _ g s0_0 x1001_1 x1002_1 from z96a) z96e (by decide)) hk (fun _ h => h.2)) (fun _ h => h.1)); have n1_ := Aside0.mk (KeepBut.trans z96b hk (.inl rfl)); have n2_ := Aside0.mk (hb); have n3_ := Aside0.mk (hi); clear HO_3; clear HK; clear HB; clear HI0; have HO_3 := n0_; have HK := n1_; have HB := n2_; have HI0 := n3_; clear n0_ n1_ n2_ n3_; (try clear hb); (try clear hb2); (try clear hk); (try clear hi)) | ((with_reducible refine gate_callee (f := 107) rfl ?_); refine goesL_ (some 23) rfl rfl Try.func107 (by kernel_rfl) rfl #[.pointer (some ⟨g, 0, none⟩)] rfl z96d ?_; (with_reducible refine (spec_l1Byte.calls g s0_0 t207 t208 t209 t210 t211 w0 _ ?side1 ?side2 A13.out).mono ?_); (case side1 => exact z96a); (case side2 => exact z96c); rintro e w16 ⟨rfl, hi, hb, hk⟩; refine ⟨_, rfl, ?_⟩; have n0_ := Aside0.mk (Kd.R_mono (Kd.R_keep (IsS105.apart (show IsS105 w0 _ g s0_0 t207 t208 from z96a) z96e (by decide)) hk (fun _ h => h.2)) (fun _ h => h.1)); have n1_ := Aside0.mk (KeepBut.trans z96b hk (.inl rfl)); have n2_ := Aside0.mk (hb); have n3_ := Aside0.mk (hi); clear HO_3; clear HK; clear HB; clear HI0; have HO_3 := n0_; have HK := n1_; have HB := n2_; have HI0 := n3_; clear n0_ n1_ n2_ n3_; (try clear hb); (try clear hb2); (try clear hk); (try clear hi)) | ((with_reducible refine gate_builtin (b := .append) (xs := #[.tmp 21, .tmp 25]) rfl ?_); at_builtin; refine Kd.R_append (Kd.int .u8) w.heap.size rfl (.tmp 21) (.tmp 25) 22 5 (.int .u8 0) 1 rfl Try.underlying22 info5 rfl (by decide) (by omega) u3 x3_1 ((t209) % 256) [.int .u8 ((t209) % 256)] (fun _ => True) (fun _ => False) rfl rfl ?aP (fun _ hk => hk.elim) ?aF ?aO (Below.refl _ _) ?aS ?aL ?_; (case aP => exact rfl); (case aF => exact (fun _ _ => trivial)); (case aO => exact z96e); (case aS => exact (keep_size (w := w) (g := g) (row := none) z96b)); (case aL => have := LMc14.out; omega); intro v213 w17 ho hb hg hat; rw [← Ny212.out] at ho; have n0_ := Aside0.mk (IsS105.grown z96a hg (IsS105.own_ne HI0.out HO_3.out (by decide))); have n1_ := Aside0.mk (below_weaken z96c HL.out hb); have n2_ := Aside0.mk (KeepBut.trans z96b (KeepBut.of_grown hg g) (Kd.R_base2 HO_3.out)); have n3_ := Aside0.mk (ho); clear HI0; clear HB; clear HK; clear HO_3; have HI0 := n0_; have HB := n1_; have HK := n2_; have HO214 := n3_; clear n0_ n1_ n2_ n3_; clear ho hb hg hat; have hcv18 := own_string (P := Try.prog) Try.underlying22 Try.underlying5 Try.underlying9 (Kd.own_of_R HO214.out)))
   go_ret
   exact ⟨by first | rfl | (simp [errW_none, errW_some] <;> rfl) | (simp [*, errW_none, errW_some] <;> rfl), by repeat (first | (with_reducible first | exact HI0.out | apply IsS105.alloc | apply IsS105.drewN | apply IsS105.drew | apply IsS105.set_1 | apply IsS105.set_2) | exact HI0.out), by repeat (first | (with_reducible first | exact HB.out | apply below_alloc | apply pw_below_drewN | apply below_drew1 | refine below_set ?_ (IsS105.ge HI0.out)) | exact HB.out), by repeat (first | (with_reducible first | exact HK.out | apply KeepBut.set_ | apply keep_drewN | apply keep_drew | apply keep_alloc) | exact HK.out)⟩
   }
   {
   rw [if_neg c14] at H
   exact absurd H (by simp)
   }
   }
   {
   replace c12 := Bool.eq_false_iff.mpr c12
   subst c12
   have H1 : (some (strOfNums x3_1, t207, t208)) = some (r1, r2, r3) := by rw [if_neg (show ¬ (false = true) by decide)] at H; exact H
   clear H
   have H := H1
   clear H1
   simp only [Option.some.injEq, Prod.mk.injEq] at H
   obtain ⟨rfl, rfl, rfl⟩ := H
   go_wp2_with (first | ((with_reducible refine gate_callee (f := 94) rfl ?_); refine goesL_ (some 20) rfl rfl Try.func94 (by kernel_rfl) rfl #[.pointer (some ⟨g, 0, none⟩), .int .i64 6] rfl z96d ?_; (with_reducible refine (spec_l1Once.calls g s0_0 x1001_1 x1002_1 6 false t207 t208 w0 _ ?side1 ?side2 A11.out).mono ?_); (case side1 => exact z96a); (case side2 => exact z96c); rintro e w19 ⟨rfl, hi, hb, hk⟩; refine ⟨_, rfl, ?_⟩; have n0_ := Aside0.mk (Kd.R_mono (Kd.R_keep (IsS105.apart (show IsS105 w0 _ g s0_0 x1001_1 x1002_1 from z96a) z96e (by decide)) hk (fun _ h => h.2)) (fun _ h => h.1)); have n1_ := Aside0.mk (KeepBut.trans z96b hk (.inl rfl)); have n2_ := Aside0.mk (hb); have n3_ := Aside0.mk (hi); clear HO_3; clear HK; clear HB; clear HI0; have HO_3 := n0_; have HK := n1_; have HB := n2_; have HI0 := n3_; clear n0_ n1_ n2_ n3_; (try clear hb); (try clear hb2); (try clear hk); (try clear hi); have hcv20 := own_string (P := Try.prog) Try.underlying22 Try.underlying5 Try.underlying9 (Kd.own_of_R HO_3.out)))
   go_ret
   exact ⟨by first | rfl | (simp [errW_none, errW_some] <;> rfl) | (simp [*, errW_none, errW_some] <;> rfl), by repeat (first | (with_reducible first | exact HI0.out | apply IsS105.alloc | apply IsS105.drewN | apply IsS105.drew | apply IsS105.set_1 | apply IsS105.set_2) | exact HI0.out), by repeat (first | (with_reducible first | exact HB.out | apply below_alloc | apply pw_below_drewN | apply below_drew1 | refine below_set ?_ (IsS105.ge HI0.out)) | exact HB.out), by repeat (first | (with_reducible first | exact HK.out | apply KeepBut.set_ | apply keep_drewN | apply keep_drew | apply keep_alloc) | exact HK.out)⟩
   
   }
   }
end Go.Proofs.Ythkhfmomibfkjaa.PFnRows

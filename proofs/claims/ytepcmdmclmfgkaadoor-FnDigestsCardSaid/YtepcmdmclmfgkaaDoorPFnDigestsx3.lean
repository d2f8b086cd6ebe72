-- by a program of this session (wip/print/run.py) for this claim
import Derived.Test.YtepcmdmclmfgkaaDoorPFnDigestsx0
import Derived.Test.YtepcmdmclmfgkaaDoorPFnDigestsx1
import Derived.Test.YtepcmdmclmfgkaaDoorPFnDigestsx2
namespace Go.Proofs.YtepcmdmclmfgkaaDoor.PFnDigests
open Go.RowKit Go.Proofs.YtepcmdmclmfgkaaDoorW.PrintWords Go.Proofs.YtepcmdmclmfgkaaDoorW.PrintLast Go.Proofs.YtepcmdmclmfgkaaDoorW.PrintMore
attribute [local go_sem] max2_int min2_int max_two min_two max_three min_three max_four min_four   -- for this text's walks alone
set_option linter.unusedVariables false
set_option linter.unusedSimpArgs false

/-! ### spec_DrawPair: function 23 -/
def spec_DrawPair.f (k : Nat) (l0 : List Int) : Option (Int × Int) := (spec_l1New.f k l0).bind fun bt234 => ((spec_l1From.f bt234.1 bt234.2.1 bt234.2.2 (-5) 2000).bind fun bt238 => ((spec_l1Below.f bt234.1 bt238.2.1 bt238.2.2 5000).bind fun bt241 => ((some (([(-1), 0, 7, 4611686018427387904, (-9223372036854775808), bt241.1] : List Int) : List Int)).bind fun y244 => ((spec_l1Below.f bt234.1 bt241.2.1 bt241.2.2 6).bind fun bt247 => (if 0 ≤ bt247.1 then (if bt247.1 < (y244.length : Int) then (some (bt238.1, rd y244 bt247.1)) else (none)) else (none))))))
theorem spec_DrawPair.mono : ∀ a0 k, LeO (spec_DrawPair.f k a0) (spec_DrawPair.f (k + 1) a0) := by
  intro a0 k
  unfold spec_DrawPair.f
  repeat' first
      | (with_reducible exact spec_l1New.mono _ _)
      | (with_reducible exact LeO.refl _)
      | (with_reducible exact LeO.none _)
      | (with_reducible refine LeO.ite ?_ ?_)
      | (with_reducible refine LeO.bind ?_ (fun _ => ?_))
      | exact spec_l1New.mono _ _
      | exact LeO.none _
      | refine LeO.ite ?_ ?_
      | refine LeO.bind ?_ (fun _ => ?_)
def spec_DrawPair.T3 : Bool × List (List Nat × List Nat) := (true, [([], []), ([], []), ([1], [1]), ([2], [2]), ([], []), ([4, 2], [4]), ([3, 5], [3, 5]), ([6], [6]), ([0, 5, 0], [0]), ([7, 8, 0, 1, 2, 3, 4, 5, 6, 7, 8], [7])])
def spec_DrawPair.B3 : List Nat := [0, 0, 2, 6, 0, 22, 62, 126, 55, 511]
theorem spec_DrawPair.tab3 : rtab .any (opsOf Tryd.f23 3) = spec_DrawPair.T3 := by kernel_rfl
theorem spec_DrawPair.bits3 : waitsOk spec_DrawPair.T3.2 spec_DrawPair.B3 = true := by kernel_rfl
set_option maxHeartbeats 8000000 in
set_option maxRecDepth 100000 in
theorem spec_DrawPair.calls (k : Nat) (A0 : Option Addr) (c0 : Nat) (l0 : List Int) (r1 : Int) (r2 : Int) (w : World) (hr0 : Kd.C (Kd.int .u8) w A0 l0.length l0) (hc0 : l0.length ≤ c0) (h : spec_DrawPair.f k l0 = some (r1, r2)) :
    Calls Tryd.prog 23 #[.slice A0 l0.length c0] w fun e w' => e = .returned (.tuple #[.int .i64 r1, .int .i64 r2]) ∧ Below w.heap.size w w' := by
  have HR0 := Aside0.mk hr0
  have HC0 := Aside0.mk hc0
  clear hr0 hc0
  have HB := Aside0.mk (Below.refl w.heap.size w)
  have H : ((spec_l1New.f k l0).bind fun bt234 => ((spec_l1From.f bt234.1 bt234.2.1 bt234.2.2 (-5) 2000).bind fun bt238 => ((spec_l1Below.f bt234.1 bt238.2.1 bt238.2.2 5000).bind fun bt241 => ((some (([(-1), 0, 7, 4611686018427387904, (-9223372036854775808), bt241.1] : List Int) : List Int)).bind fun y244 => ((spec_l1Below.f bt234.1 bt241.2.1 bt241.2.2 6).bind fun bt247 => (if 0 ≤ bt247.1 then (if bt247.1 < (y244.length : Int) then (some (bt238.1, rd y244 bt247.1)) else (none)) else (none))))))) = some (r1, r2) := h
  clear h
  replace H := Option.bind_eq_some_iff.mp H
  obtain ⟨⟨t234, t235, t236⟩, A20, H⟩ := H
  replace H : ((spec_l1From.f t234 t235 t236 (-5) 2000).bind fun bt238 => ((spec_l1Below.f t234 bt238.2.1 bt238.2.2 5000).bind fun bt241 => ((some (([(-1), 0, 7, 4611686018427387904, (-9223372036854775808), bt241.1] : List Int) : List Int)).bind fun y244 => ((spec_l1Below.f t234 bt241.2.1 bt241.2.2 6).bind fun bt247 => (if 0 ≤ bt247.1 then (if bt247.1 < (y244.length : Int) then (some (bt238.1, rd y244 bt247.1)) else (none)) else (none)))))) = some (r1, r2) := H
  have A2 := Aside0.mk A20
  clear A20
  replace H := Option.bind_eq_some_iff.mp H
  obtain ⟨⟨t238, t239, t240⟩, A30, H⟩ := H
  replace H : ((spec_l1Below.f t234 t239 t240 5000).bind fun bt241 => ((some (([(-1), 0, 7, 4611686018427387904, (-9223372036854775808), bt241.1] : List Int) : List Int)).bind fun y244 => ((spec_l1Below.f t234 bt241.2.1 bt241.2.2 6).bind fun bt247 => (if 0 ≤ bt247.1 then (if bt247.1 < (y244.length : Int) then (some (t238, rd y244 bt247.1)) else (none)) else (none))))) = some (r1, r2) := H
  have A3 := Aside0.mk A30
  clear A30
  replace H := Option.bind_eq_some_iff.mp H
  obtain ⟨⟨t241, t242, t243⟩, A40, H⟩ := H
  replace H : ((some (([(-1), 0, 7, 4611686018427387904, (-9223372036854775808), t241] : List Int) : List Int)).bind fun y244 => ((spec_l1Below.f t234 t242 t243 6).bind fun bt247 => (if 0 ≤ bt247.1 then (if bt247.1 < (y244.length : Int) then (some (t238, rd y244 bt247.1)) else (none)) else (none)))) = some (r1, r2) := H
  have A4 := Aside0.mk A40
  clear A40
  obtain ⟨y244, hy244⟩ : ∃ y_ : List Int, y_ = (([(-1), 0, 7, 4611686018427387904, (-9223372036854775808), t241] : List Int)) := ⟨_, rfl⟩
  replace H : ((spec_l1Below.f t234 t242 t243 6).bind fun bt247 => (if 0 ≤ bt247.1 then (if bt247.1 < (y244.length : Int) then (some (t238, rd y244 bt247.1)) else (none)) else (none))) = some (r1, r2) := by first | (rw [hy244]; with_reducible exact H) | (have H2_ := (Option.bind_some _ _).symm.trans H; rw [hy244]; with_reducible exact H2_) | (have H2_ := (Option.bind_some _ _).symm.trans H; with_reducible exact H2_) | with_reducible exact H | (rw [hy244]; exact H) | exact H
  have Ny244 := Aside0.mk hy244
  clear hy244
  replace H := Option.bind_eq_some_iff.mp H
  obtain ⟨⟨t247, t248, t249⟩, A50, H⟩ := H
  replace H : (if 0 ≤ t247 then (if t247 < (y244.length : Int) then (some (t238, rd y244 t247)) else (none)) else (none)) = some (r1, r2) := H
  have A5 := Aside0.mk A50
  clear A50
  by_cases c6 : 0 ≤ t247
  · rw [if_pos c6] at H
    have c6b0 : decide (0 ≤ t247) = true := decide_eq_true c6
    clear c6
    by_cases c7 : t247 < (y244.length : Int)
    · rw [if_pos c7] at H
      have c7b0 : decide (t247 < (y244.length : Int)) = true := decide_eq_true c7
      clear c7
      simp only [Option.some.injEq, Prod.mk.injEq] at H
      obtain ⟨rfl, rfl⟩ := H
      go_enter Tryd.func23, Tryd.ntmps23
      try go_wp2_with (first | ((with_reducible refine gate_callee (f := 40) rfl ?_); refine goesL_ (some 7) rfl rfl Tryd.func40 (by kernel_rfl) rfl #[.slice A0 l0.length c0] rfl (by (try simp only [List.map_toArray, List.map_cons, List.map_nil]); first | done | rfl | (simp only [List.length_drop, List.length_take]; rfl)) ?_; (with_reducible refine (spec_l1New.calls k _ _ l0 t234 t235 t236 w _ ?side1 ?side2 ?side3 A2.out).mono ?_); (case side1 => repeat (first | (with_reducible first | exact HB.out | apply below_alloc | apply pw_below_drewN | apply below_drew1) | exact HB.out)); (case side2 => exact HR0.out); (case side3 => exact HC0.out); rintro e w8 ⟨g237, rfl, hi, hb, hb2⟩; refine ⟨_, rfl, ?_⟩; have n0_ := Aside0.mk (hb); have n1_ := Aside0.mk (hi); clear HB; have HB := n0_; have HI237 := n1_; clear n0_ n1_; (try clear hb); (try clear hb2); (try clear hk); (try clear hi)) | ((with_reducible refine gate_callee (f := 45) rfl ?_); refine goesL_ (some 9) rfl rfl Tryd.func45 (by kernel_rfl) rfl #[.pointer (some ⟨g237, 0, none⟩), .int .i64 (-5), .int .i64 2000] rfl (by (try simp only [List.map_toArray, List.map_cons, List.map_nil]); first | done | rfl | (simp only [List.length_drop, List.length_take]; rfl)) ?_; (with_reducible refine (spec_l1From.calls g237 t234 t235 t236 (-5) 2000 t238 t239 t240 w _ ?side1 ?side2 A3.out).mono ?_); (case side1 => repeat (first | (with_reducible first | exact HI237.out | apply IsS83.alloc | apply IsS83.drewN | apply IsS83.drew | apply IsS83.set_1 | apply IsS83.set_2) | exact HI237.out)); (case side2 => repeat (first | (with_reducible first | exact HB.out | apply below_alloc | apply pw_below_drewN | apply below_drew1 | refine below_set ?_ (IsS83.ge HI237.out)) | exact HB.out)); rintro e w9 ⟨rfl, hi, hb, hk⟩; refine ⟨_, rfl, ?_⟩; have n0_ := Aside0.mk (hb); have n1_ := Aside0.mk (hi); clear HB; clear HI237; have HB := n0_; have HI237 := n1_; clear n0_ n1_; (try clear hb); (try clear hb2); (try clear hk); (try clear hi)))
      have pi250 : (0 ≤ (t247 : Int)) = True := eq_true (of_decide_eq_true (by first | (with_reducible assumption) | assumption))
      have qi250 : (t247 < (y244.length : Int)) = True := eq_true (of_decide_eq_true (by first | (with_reducible assumption) | assumption))
      have n0_ := Aside0.mk (IsS83.drew HI237.out)
      have n1_ := Aside0.mk (below_drew1 HB.out)
      clear HI237
      clear HB
      have HI237 := n0_
      have HB := n1_
      clear n0_ n1_
      refine start_ (n := 10) (S := fun w' => True) (ds := []) #[false, false, false, false, false, false, false, false, false, false] (by kernel_rfl) rfl rfl trivial (fun hHeld => ?_); refine with_tabW spec_DrawPair.tab3 spec_DrawPair.bits3 (fun HT_ HW_ => ?_)
      generalize w9.drew = w10 at HI237 HB hHeld ⊢
      refine pure_ (i := 0) (N := some 10) (v := ?_) (a' := ?_) #[true, false, false, false, false, false, false, false, false, false] rfl rfl (any_of HT_.out (by kernel_rfl)) (fun _ _ _ h => h) (Or.inl ⟨by rfl, ?_⟩) ?_ ?_
      rotate_left
      · intro w'
        go_simp
        with_reducible rfl
      rotate_left
      · simp only [Act.put, List.setIfInBounds_toArray, List.set_cons_zero, List.set_cons_succ, i64_w, i32_w]
        rfl
      refine pure_ (i := 1) (N := some 11) (v := ?_) (a' := ?_) #[true, true, false, false, false, false, false, false, false, false] rfl rfl (any_of HT_.out (by kernel_rfl)) (fun _ _ _ h => h) (Or.inl ⟨by rfl, ?_⟩) ?_ ?_
      rotate_left
      · intro w'
        go_simp
        with_reducible rfl
      rotate_left
      · simp only [Act.put, List.setIfInBounds_toArray, List.set_cons_zero, List.set_cons_succ, i64_w, i32_w]
        rfl
      refine pure_ (i := 4) (N := some 14) (v := ?_) (a' := ?_) #[true, true, false, false, true, false, false, false, false, false] rfl rfl (any_of HT_.out (by kernel_rfl)) (fun _ _ _ h => h) (Or.inl ⟨by rfl, ?_⟩) ?_ ?_
      rotate_left
      · intro w'
        go_simp
        with_reducible rfl
      rotate_left
      · simp only [Act.put, List.setIfInBounds_toArray, List.set_cons_zero, List.set_cons_succ, i64_w, i32_w]
        rfl
      refine inv_at [2, 3, 5, 6, 7, 8, 9] (fun a0_ b a w' => ∃ (v245 : Value) (adz_v245 : Addr) (m6_ : Value), a = putSel a0_ b [(2, 12, .int .i64 t241), (3, 13, v245), (5, 15, .int .i64 t247), (6, 16, m6_), (7, 17, .int .i64 (rd y244 t247)), (8, 2, .int .i64 t238), (9, 3, .int .i64 (rd y244 t247))] ∧ (b 2 = false → IsS83 w w' g237 t234 t239 t240) ∧ (Below w.heap.size w w') ∧ (b 2 = true → b 5 = false → IsS83 w w' g237 t234 t242 t243) ∧ (b 3 = true → Kd.R (Kd.int .i64) 2 w' w.heap.size (fun _ => True) v245 y244) ∧ (b 3 = true → ∃ c_, (v245 : Value) = .slice (some adz_v245) y244.length c_) ∧ (b 5 = true → IsS83 w w' g237 t234 t248 t249) ∧ (b 6 = true → (m6_ : Value) = .pointer (some (adz_v245.add (t247).toNat)))) HT_.out HW_.out (by kernel_rfl) (by kernel_rfl) ?_ ?_ ?_
      · exact ⟨.bool false, ⟨0, 0, none⟩, .bool false, by simp only [putSel, Bool.false_eq_true, if_false], fun _ => HI237.out, HB.out, fun h_ => absurd h_ (by decide), fun h_ => absurd h_ (by decide), fun h_ => absurd h_ (by decide), fun h_ => absurd h_ (by decide), fun h_ => absurd h_ (by decide)⟩
      · skip
        clear HB HI237
        refine steps_cons ?_ ?_
        · rintro b a w' ⟨v245, adz_v245, m6_, ha, Q_HI237, Q_HB, Q_HI237_e2, Q_HO246, Q_HA_HO246, Q_HI237_e5, Q_X6_⟩ hb_ hon hoff
          refine ⟨_, rfl, fun K hK => ?_⟩
          have e11 : a.tmps[11]? = some (.pointer (some ⟨g237, 0, none⟩)) := by rw [ha]; exact (putSel_off rfl).trans rfl
          replace ha := Aside0.mk ha
          have HI237 := Aside0.mk (Q_HI237 hb_)
          have HB := Aside0.mk Q_HB
          refine goes_ Tryd.func44 (by kernel_rfl) rfl #[.pointer (some ⟨g237, 0, none⟩), .int .i64 5000] (by rfl) rfl rfl (by first | (simp only [List.map_toArray, List.map_cons, List.map_nil, Act.eval, Array.getD_eq_getD_getElem?, Option.getD_some, e11]; done) | (simp only [List.map_toArray, List.map_cons, List.map_nil, Act.eval, Array.getD_eq_getD_getElem?, Option.getD_some, e11]; rfl)) ?_
          with_reducible refine (spec_l1Below.calls g237 t234 t239 t240 5000 t241 t242 t243 w _ ?side1 ?side2 A4.out).mono ?_
          (case side1 => repeat (first | (with_reducible first | exact HI237.out | apply IsS83.alloc | apply IsS83.drewN | apply IsS83.drew | apply IsS83.set_1 | apply IsS83.set_2) | exact HI237.out))
          (case side2 => repeat (first | (with_reducible first | exact HB.out | apply below_alloc | apply pw_below_drewN | apply below_drew1 | refine below_set ?_ (IsS83.ge HI237.out)) | exact HB.out))
          rintro e w11 ⟨rfl, hi, hb, hk⟩
          refine ⟨_, rfl, ?_⟩
          have n0_ := Aside0.mk (hb)
          have n1_ := Aside0.mk (hi)
          clear HB
          clear HI237
          have HB := n0_
          have HI237 := n1_
          clear n0_ n1_
          (try clear hb)
          (try clear hb2)
          (try clear hk)
          (try clear hi)
          refine hK.out _ _ ⟨v245, adz_v245, m6_, (by rw [ha.out]; exact putSel_upk 0 hb_ rfl rfl rfl), fun h0_ => absurd ((up_self b 2).symm.trans h0_) (by decide), (by repeat (first | (with_reducible first | exact HB.out | apply below_alloc | apply pw_below_drewN | apply below_drew1 | refine below_set ?_ (IsS83.ge HI237.out)) | exact HB.out)), fun _ _ => (by repeat (first | (with_reducible first | exact HI237.out | apply IsS83.alloc | apply IsS83.drewN | apply IsS83.drew | apply IsS83.set_1 | apply IsS83.set_2) | exact HI237.out)), fun h0_ => absurd ((hoff 3 (by kernel_rfl)).symm.trans h0_) (by decide), fun h0_ => absurd ((hoff 3 (by kernel_rfl)).symm.trans h0_) (by decide), fun h0_ => absurd ((hoff 5 (by kernel_rfl)).symm.trans h0_) (by decide), fun h0_ => absurd ((hoff 6 (by kernel_rfl)).symm.trans h0_) (by decide)⟩
        refine steps_cons ?_ ?_
        · rintro b a w' ⟨v245, adz_v245, m6_, ha, Q_HI237, Q_HB, Q_HI237_e2, Q_HO246, Q_HA_HO246, Q_HI237_e5, Q_X6_⟩ hb_ hon hoff
          refine ⟨_, rfl, fun K hK => ?_⟩
          have e12 : a.tmps[12]? = some (.int .i64 t241) := by rw [ha]; exact putSel_on (e := (2, 12, .int .i64 t241)) 0 rfl rfl (hon 2 (by kernel_rfl)) rfl
          replace ha := Aside0.mk ha
          have HB := Aside0.mk Q_HB
          refine Kd.R_lit_step (Kd.int .i64) _ 2 ?hg (N := 13) ?hd (xs := ([(-1), 0, 7, 4611686018427387904, (-9223372036854775808), t241] : List Int)) (inner := [.int .i64 (-1), .int .i64 0, .int .i64 7, .int .i64 4611686018427387904, .int .i64 (-9223372036854775808), .int .i64 t241]) (ok := fun _ => True) (okp := fun _ => True) ?hr ?hp (fun _ hk => hk) trivial (Below.refl _ _) (Nat.le_refl _) (by simp) ?_; (case hd => rfl); (case hg => rfl); (case hr => first | (go_simp; done) | (go_simp; rfl)); (case hp => exact (Reps.one (show Kd.M (Kd.int .i64) _ _ _ (-1) [.int .i64 (-1)] from rfl) (Reps.one (show Kd.M (Kd.int .i64) _ _ _ 0 [.int .i64 0] from rfl) (Reps.one (show Kd.M (Kd.int .i64) _ _ _ 7 [.int .i64 7] from rfl) (Reps.one (show Kd.M (Kd.int .i64) _ _ _ 4611686018427387904 [.int .i64 4611686018427387904] from rfl) (Reps.one (show Kd.M (Kd.int .i64) _ _ _ (-9223372036854775808) [.int .i64 (-9223372036854775808)] from rfl) (Reps.one (show Kd.M (Kd.int .i64) _ _ _ t241 [.int .i64 t241] from rfl) (Reps.none _ _))))))))
          intro v245 w13 ho14 hb hg_ hnew_
          clear hg_ hnew_
          (first | rw [← Ny244.out] at ho14 | (simp only [Int.reduceToNat] at ho14; rw [← Ny244.out] at ho14))
          have n0_ := Aside0.mk (Kd.R_lower ho14 (below_size (by repeat (first | (with_reducible first | exact HB.out | apply below_alloc | apply pw_below_drewN | apply below_drew1) | exact HB.out))))
          have n2_ := Aside0.mk (below_step (by repeat (first | (with_reducible first | exact HB.out | apply below_alloc | apply pw_below_drewN | apply below_drew1) | exact HB.out)) hb)
          have z_HI237_e2 := fun (h0_ : b 2 = true) (h1_ : b 5 = false) => (show IsS83 w w13 g237 t234 t242 t243 from by first | exact (IsS83.below (by repeat (first | (with_reducible first | exact (Q_HI237_e2 h0_ h1_) | apply IsS83.alloc | apply IsS83.drewN | apply IsS83.drew | apply IsS83.set_1 | apply IsS83.set_2) | exact (Q_HI237_e2 h0_ h1_))) hb))
          have z_HI237_e5 := fun (h0_ : b 5 = true) => (show IsS83 w w13 g237 t234 t248 t249 from by first | exact (IsS83.below (by repeat (first | (with_reducible first | exact (Q_HI237_e5 h0_) | apply IsS83.alloc | apply IsS83.drewN | apply IsS83.drew | apply IsS83.set_1 | apply IsS83.set_2) | exact (Q_HI237_e5 h0_))) hb))
          clear HB
          have HO246 := n0_
          have HB := n2_
          clear n0_ n2_
          clear hb ho14
          obtain ⟨Ao15, co15, eo15⟩ := Kd.R_slice HO246.out
          subst eo15
          obtain ⟨ado15, fo15, _⟩ := Kd.at_int (Kd.R_reads' HO246.out).2.2 0 (by decide) (by rw [Ny244.out]; simp)
          cases fo15
          refine hK.out _ _ ⟨.slice (some ado15) y244.length co15, ado15, m6_, (by rw [ha.out]; exact putSel_upk 1 hb_ rfl rfl rfl), fun h0_ => absurd ((hon 2 (by kernel_rfl)).symm.trans h0_) (by decide), (by repeat (first | (with_reducible first | exact HB.out | apply below_alloc | apply pw_below_drewN | apply below_drew1) | exact HB.out)), z_HI237_e2, fun _ => (by (with_reducible repeat (first | apply Kd.R_alloc | apply Kd.R_drewN | apply Kd.R_drew)); exact HO246.out), fun _ => ⟨_, rfl⟩, z_HI237_e5, fun h0_ => absurd ((hoff 6 (by kernel_rfl)).symm.trans h0_) (by decide)⟩
        refine steps_cons ?_ ?_
        · rintro b a w' ⟨v245, adz_v245, m6_, ha, Q_HI237, Q_HB, Q_HI237_e2, Q_HO246, Q_HA_HO246, Q_HI237_e5, Q_X6_⟩ hb_ hon hoff
          refine ⟨_, rfl, fun K hK => ?_⟩
          have e14 : a.tmps[14]? = some (.pointer (some ⟨g237, 0, none⟩)) := by rw [ha]; exact (putSel_off rfl).trans rfl
          replace ha := Aside0.mk ha
          have HB := Aside0.mk Q_HB
          have HI237 := Aside0.mk (Q_HI237_e2 (hon 2 (by kernel_rfl)) hb_)
          refine goes_ Tryd.func44 (by kernel_rfl) rfl #[.pointer (some ⟨g237, 0, none⟩), .int .i64 6] (by rfl) rfl rfl (by first | (simp only [List.map_toArray, List.map_cons, List.map_nil, Act.eval, Array.getD_eq_getD_getElem?, Option.getD_some, e14]; done) | (simp only [List.map_toArray, List.map_cons, List.map_nil, Act.eval, Array.getD_eq_getD_getElem?, Option.getD_some, e14]; rfl)) ?_
          with_reducible refine (spec_l1Below.calls g237 t234 t242 t243 6 t247 t248 t249 w _ ?side1 ?side2 A5.out).mono ?_
          (case side1 => repeat (first | (with_reducible first | exact HI237.out | apply IsS83.alloc | apply IsS83.drewN | apply IsS83.drew | apply IsS83.set_1 | apply IsS83.set_2) | exact HI237.out))
          (case side2 => repeat (first | (with_reducible first | exact HB.out | apply below_alloc | apply pw_below_drewN | apply below_drew1 | refine below_set ?_ (IsS83.ge HI237.out)) | exact HB.out))
          rintro e w13 ⟨rfl, hi, hb, hk⟩
          refine ⟨_, rfl, ?_⟩
          have n0_ := Aside0.mk (hb)
          have n1_ := Aside0.mk (hi)
          have z_HO246 := fun (h0_ : b 3 = true) => (show Kd.R (Kd.int .i64) 2 w13 w.heap.size (fun _ => True) v245 y244 from by first | exact (Kd.R_mono (Kd.R_keep (IsS83.apart (show IsS83 w _ g237 t234 t242 t243 from by repeat (first | (with_reducible first | exact HI237.out | apply IsS83.alloc | apply IsS83.drewN | apply IsS83.drew | apply IsS83.set_1 | apply IsS83.set_2) | exact HI237.out)) (by (with_reducible repeat (first | apply Kd.R_alloc | apply Kd.R_drewN | apply Kd.R_drew)); exact (Q_HO246 h0_)) (by decide)) hk (fun _ h => h.2)) (fun _ h => h.1)) | exact Kd.R_mono (Kd.R_mono (Kd.R_keep (IsS83.apart (show IsS83 w _ g237 t234 t242 t243 from by repeat (first | (with_reducible first | exact HI237.out | apply IsS83.alloc | apply IsS83.drewN | apply IsS83.drew | apply IsS83.set_1 | apply IsS83.set_2) | exact HI237.out)) (by (with_reducible repeat (first | apply Kd.R_alloc | apply Kd.R_drewN | apply Kd.R_drew)); exact (Q_HO246 h0_)) (by decide)) hk (fun _ h => h.2)) (fun _ h => h.1)) (fun _ h_ => by first | trivial | exact h_ | exact h_.1))
          clear HB
          clear HI237
          have HB := n0_
          have HI237 := n1_
          clear n0_ n1_
          (try clear hb)
          (try clear hb2)
          (try clear hk)
          (try clear hi)
          refine hK.out _ _ ⟨v245, adz_v245, m6_, (by rw [ha.out]; exact putSel_upk 2 hb_ rfl rfl rfl), fun h0_ => absurd ((hon 2 (by kernel_rfl)).symm.trans h0_) (by decide), (by repeat (first | (with_reducible first | exact HB.out | apply below_alloc | apply pw_below_drewN | apply below_drew1 | refine below_set ?_ (IsS83.ge HI237.out)) | exact HB.out)), fun _ h1_ => absurd ((up_self b 5).symm.trans h1_) (by decide), z_HO246, Q_HA_HO246, fun _ => (by repeat (first | (with_reducible first | exact HI237.out | apply IsS83.alloc | apply IsS83.drewN | apply IsS83.drew | apply IsS83.set_1 | apply IsS83.set_2) | exact HI237.out)), fun h0_ => absurd ((hoff 6 (by kernel_rfl)).symm.trans h0_) (by decide)⟩
        refine steps_cons ?_ ?_
        · rintro b a w' ⟨v245, adz_v245, m6_, ha, Q_HI237, Q_HB, Q_HI237_e2, Q_HO246, Q_HA_HO246, Q_HI237_e5, Q_X6_⟩ hb_ hon hoff
          refine ⟨_, rfl, fun K hK => ?_⟩
          have e13 : a.tmps[13]? = some (v245) := by rw [ha]; exact putSel_on (e := (3, 13, v245)) 1 rfl rfl (hon 3 (by kernel_rfl)) rfl
          have e15 : a.tmps[15]? = some (.int .i64 t247) := by rw [ha]; exact putSel_on (e := (5, 15, .int .i64 t247)) 2 rfl rfl (hon 5 (by kernel_rfl)) rfl
          replace ha := Aside0.mk ha
          have HB := Aside0.mk Q_HB
          have HO246 := Aside0.mk (Q_HO246 (hon 3 (by kernel_rfl)))
          have HA_HO246 := Aside0.mk (Q_HA_HO246 (hon 3 (by kernel_rfl)))
          have HI237 := Aside0.mk (Q_HI237_e5 (hon 5 (by kernel_rfl)))
          obtain ⟨c_, hv_⟩ := HA_HO246.out
          rw [hv_] at e13
          refine value_ (w1 := w') (v := .pointer (some (adz_v245.add (t247).toNat))) (by rfl) rfl ?_ ?_
          · go_simp
            (try simp only [i64_w])
            try rfl
          refine hK.out _ _ ⟨v245, adz_v245, (.pointer (some (adz_v245.add (t247).toNat))), (by rw [ha.out]; exact putSel_upk 3 hb_ rfl rfl rfl), fun h0_ => absurd ((hon 2 (by kernel_rfl)).symm.trans h0_) (by decide), Q_HB, fun _ h1_ => absurd ((hon 5 (by kernel_rfl)).symm.trans h1_) (by decide), Q_HO246, Q_HA_HO246, Q_HI237_e5, fun _ => rfl⟩
        refine steps_cons ?_ ?_
        · rintro b a w' ⟨v245, adz_v245, m6_, ha, Q_HI237, Q_HB, Q_HI237_e2, Q_HO246, Q_HA_HO246, Q_HI237_e5, Q_X6_⟩ hb_ hon hoff
          refine ⟨_, rfl, fun K hK => ?_⟩
          have e16 : a.tmps[16]? = some (m6_) := by rw [ha]; exact putSel_on (e := (6, 16, m6_)) 3 rfl rfl (hon 6 (by kernel_rfl)) rfl
          rw [Q_X6_ (hon 6 (by kernel_rfl))] at e16
          replace ha := Aside0.mk ha
          have HB := Aside0.mk Q_HB
          have HO246 := Aside0.mk (Q_HO246 (hon 3 (by kernel_rfl)))
          have HA_HO246 := Aside0.mk (Q_HA_HO246 (hon 3 (by kernel_rfl)))
          have HI237 := Aside0.mk (Q_HI237_e5 (hon 5 (by kernel_rfl)))
          obtain ⟨c_, hv_⟩ := HA_HO246.out
          have hF_ := HO246.out
          rw [hv_] at hF_
          obtain ⟨ad_, ea_, hx_⟩ := Kd.at_int (Kd.R_reads' hF_).2.2 t247 (of_eq_true pi250) (of_eq_true qi250)
          cases ea_
          refine value_ (w1 := w') (v := .int .i64 (rd y244 t247)) (by rfl) rfl ?_ ?_
          · go_simp
            (try simp only [i64_w])
            try rfl
          refine hK.out _ _ ⟨v245, adz_v245, m6_, (by rw [ha.out]; exact putSel_upk 4 hb_ rfl rfl rfl), fun h0_ => absurd ((hon 2 (by kernel_rfl)).symm.trans h0_) (by decide), Q_HB, fun _ h1_ => absurd ((hon 5 (by kernel_rfl)).symm.trans h1_) (by decide), Q_HO246, Q_HA_HO246, Q_HI237_e5, Q_X6_⟩
        refine steps_cons ?_ ?_
        · rintro b a w' ⟨v245, adz_v245, m6_, ha, Q_HI237, Q_HB, Q_HI237_e2, Q_HO246, Q_HA_HO246, Q_HI237_e5, Q_X6_⟩ hb_ hon hoff
          refine ⟨_, rfl, fun K hK => ?_⟩
          have e10 : a.tmps[10]? = some (.int .i64 t238) := by rw [ha]; exact (putSel_off rfl).trans rfl
          replace ha := Aside0.mk ha
          have HB := Aside0.mk Q_HB
          have HI237 := Aside0.mk (Q_HI237_e5 (hon 5 (by kernel_rfl)))
          refine value_ (w1 := w') (v := .int .i64 t238) (by rfl) rfl ?_ ?_
          · go_simp
            (try simp only [i64_w])
            try rfl
          refine hK.out _ _ ⟨v245, adz_v245, m6_, (by rw [ha.out]; exact putSel_upk 5 hb_ rfl rfl rfl), fun h0_ => absurd ((hon 2 (by kernel_rfl)).symm.trans h0_) (by decide), Q_HB, fun _ h1_ => absurd ((hon 5 (by kernel_rfl)).symm.trans h1_) (by decide), Q_HO246, Q_HA_HO246, Q_HI237_e5, Q_X6_⟩
        refine steps_cons ?_ ?_
        · rintro b a w' ⟨v245, adz_v245, m6_, ha, Q_HI237, Q_HB, Q_HI237_e2, Q_HO246, Q_HA_HO246, Q_HI237_e5, Q_X6_⟩ hb_ hon hoff
          refine ⟨_, rfl, fun K hK => ?_⟩
          have e17 : a.tmps[17]? = some (.int .i64 (rd y244 t247)) := by rw [ha]; exact putSel_on (e := (7, 17, .int .i64 (rd y244 t247))) 4 rfl rfl (hon 7 (by kernel_rfl)) rfl
          replace ha := Aside0.mk ha
          have HB := Aside0.mk Q_HB
          have HO246 := Aside0.mk (Q_HO246 (hon 3 (by kernel_rfl)))
          have HA_HO246 := Aside0.mk (Q_HA_HO246 (hon 3 (by kernel_rfl)))
          have HI237 := Aside0.mk (Q_HI237_e5 (hon 5 (by kernel_rfl)))
          refine value_ (w1 := w') (v := .int .i64 (rd y244 t247)) (by rfl) rfl ?_ ?_
          · go_simp
            (try simp only [i64_w])
            try rfl
          refine hK.out _ _ ⟨v245, adz_v245, m6_, (by rw [ha.out]; exact putSel_upk 6 hb_ rfl rfl rfl), fun h0_ => absurd ((hon 2 (by kernel_rfl)).symm.trans h0_) (by decide), Q_HB, fun _ h1_ => absurd ((hon 5 (by kernel_rfl)).symm.trans h1_) (by decide), Q_HO246, Q_HA_HO246, Q_HI237_e5, Q_X6_⟩
        exact steps_nil
      rintro b a w16 hall ⟨v245, adz_v245, m6_, ha, Q_HI237, Q_HB, Q_HI237_e2, Q_HO246, Q_HA_HO246, Q_HI237_e5, Q_X6_⟩
      clear HB HI237
      have hb2_ := hall 2 (by kernel_rfl)
      have hb3_ := hall 3 (by kernel_rfl)
      have hb5_ := hall 5 (by kernel_rfl)
      have hb6_ := hall 6 (by kernel_rfl)
      have hb7_ := hall 7 (by kernel_rfl)
      have hb8_ := hall 8 (by kernel_rfl)
      have hb9_ := hall 9 (by kernel_rfl)
      subst ha
      obtain rfl := Q_X6_ hb6_
      simp only [putSel, hb2_, hb3_, hb5_, hb6_, hb7_, hb8_, hb9_, if_true, Act.put, List.setIfInBounds_toArray, List.set_cons_zero, List.set_cons_succ]
      clear Q_HI237
      have HB := Aside0.mk Q_HB
      clear Q_HB
      clear Q_HI237_e2
      have HO246 := Aside0.mk (Q_HO246 hb3_)
      clear Q_HO246
      have HA_HO246 := Aside0.mk (Q_HA_HO246 hb3_)
      clear Q_HA_HO246
      have HI237 := Aside0.mk (Q_HI237_e5 hb5_)
      clear Q_HI237_e5
      clear hall hb2_ hb3_ hb5_ hb6_ hb7_ hb8_ hb9_
      obtain ⟨co17, eo17⟩ := HA_HO246.out
      clear HA_HO246
      subst eo17
      try go_wp2
      go_ret2
      exact ⟨by first | rfl | (simp [errW_none, errW_some] <;> rfl) | (simp [*, errW_none, errW_some] <;> rfl), by repeat (first | (with_reducible first | exact HB.out | apply below_alloc | apply pw_below_drewN | apply below_drew1 | refine below_set ?_ (IsS83.ge HI237.out)) | exact HB.out)⟩
    · rw [if_neg c7] at H
      exact absurd H (by simp)
  · rw [if_neg c6] at H
    exact absurd H (by simp)

/-! ### spec_Clash: function 24 -/
def spec_Clash.f (k : Nat) (a0 : ByteArray) (a1 : ByteArray) : Option (Bool) := if a0.toList = a1.toList then (some false) else ((spec_Digest.f k a0).bind fun t251 => ((spec_Digest.f k a1).bind fun t252 => (some (t251 == t252))))
theorem spec_Clash.mono : ∀ a0 a1 k, LeO (spec_Clash.f k a0 a1) (spec_Clash.f (k + 1) a0 a1) := by
  intro a0 a1 k
  unfold spec_Clash.f
  repeat' first
      | (with_reducible exact spec_Digest.mono _ _)
      | (with_reducible exact LeO.refl _)
      | (with_reducible exact LeO.none _)
      | (with_reducible refine LeO.ite ?_ ?_)
      | (with_reducible refine LeO.bind ?_ (fun _ => ?_))
      | exact spec_Digest.mono _ _
      | exact LeO.none _
      | refine LeO.ite ?_ ?_
      | refine LeO.bind ?_ (fun _ => ?_)
set_option maxHeartbeats 8000000 in
set_option maxRecDepth 100000 in
theorem spec_Clash.calls (k : Nat) (a0 : ByteArray) (a1 : ByteArray) (r : Bool) (w : World) (h : spec_Clash.f k a0 a1 = some r) :
    Calls Tryd.prog 24 #[.string a0, .string a1] w fun e w' => e = .returned (.bool r) ∧ Drawn0 w w' := by
  have H : (if a0.toList = a1.toList then (some false) else ((spec_Digest.f k a0).bind fun t251 => ((spec_Digest.f k a1).bind fun t252 => (some (t251 == t252))))) = some r := h
  clear h
  by_cases c3 : a0.toList = a1.toList
  · rw [if_pos c3] at H
    have c3b0 : (a0.toList == a1.toList) = true := beq_iff_eq.mpr c3
    have c3b1 : (a0.toList != a1.toList) = false := bne_eq_false_iff_eq.mpr c3
    clear c3
    obtain rfl := Option.some.inj H
    go_enter Tryd.func24, Tryd.ntmps24
    go_wp2
    go_ret
    exact ⟨by first | rfl | (simp; done) | (simp [*]; done), by repeat (first | exact Drawn0.refl _ | apply Drawn0.step)⟩
  · rw [if_neg c3] at H
    have c3b0 : (a0.toList == a1.toList) = false := beq_eq_false_iff_ne.mpr c3
    have c3b1 : (a0.toList != a1.toList) = true := bne_iff_ne.mpr c3
    replace H := Option.bind_eq_some_iff.mp H
    obtain ⟨t251, A40, H⟩ := H
    replace H : ((spec_Digest.f k a1).bind fun t252 => (some (t251 == t252))) = some r := H
    have A4 := Aside0.mk A40
    clear A40
    replace H := Option.bind_eq_some_iff.mp H
    obtain ⟨t252, A50, H⟩ := H
    replace H : (some (t251 == t252)) = some r := H
    have A5 := Aside0.mk A50
    clear A50
    obtain rfl := Option.some.inj H
    go_enter Tryd.func24, Tryd.ntmps24
    go_wp2_with (first | (go_at_call 26; (with_reducible refine (spec_Digest.calls k a0 t251 _ A4.out).mono ?_); rintro e w' ⟨rfl, ⟨nd, rfl⟩⟩) | (go_at_call 26; (with_reducible refine (spec_Digest.calls k a1 t252 _ A5.out).mono ?_); rintro e w' ⟨rfl, ⟨nd, rfl⟩⟩))
    go_ret
    exact ⟨by first | rfl | (simp; done) | (simp [*]; done), by repeat (first | exact Drawn0.refl _ | apply Drawn0.step)⟩

end Go.Proofs.YtepcmdmclmfgkaaDoor.PFnDigests

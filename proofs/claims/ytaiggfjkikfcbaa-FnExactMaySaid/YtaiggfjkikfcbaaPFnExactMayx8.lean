-- by a program of this session (wip/print/run.py) for this claim
import Derived.Test.YtaiggfjkikfcbaaLibPu
import Derived.Test.YtaiggfjkikfcbaaPFnExactMayx0
namespace Go.Proofs.Ytaiggfjkikfcbaa.PFnExactMay
open Go.Proofs.Ytaiggfjkikfcbaa.Lib Go.RowKit Go.Proofs.YtaiggfjkikfcbaaW.PrintWords Go.Proofs.YtaiggfjkikfcbaaW.PrintLast Go.Proofs.YtaiggfjkikfcbaaW.PrintMore
attribute [local go_sem] max2_int min2_int max_two min_two max_three min_three max_four min_four   -- for this text's walks alone
set_option linter.unusedVariables false
set_option linter.unusedSimpArgs false

theorem z117a {p_ : Prop} (h_ : p_ := by (with_reducible repeat (first | apply Kd.R_alloc | apply Kd.R_drewN | apply Kd.R_drew)); exact HO_0.out) : p_ := h_
theorem z117b {p_ : Prop} (h_ : p_ := by repeat (first | (with_reducible first | exact HB.out | apply below_alloc | apply pw_below_drewN | apply below_drew1) | exact HB.out)) : p_ := h_
theorem z117c {p_ : Prop} (h_ : p_ := by repeat (first | (with_reducible first | exact HK.out | apply Kept.alloc | apply Kept.drewN | apply Kept.drew) | exact HK.out)) : p_ := h_
theorem z117e {p_ : Prop} (h_ : p_ := by first | (with_reducible assumption) | assumption) : p_ := h_
theorem z117f {p_ : Prop} (h_ : p_ := by first | exact HK.out.1 | exact (show Kept w _ (fun k_ => P0_ k_) from z117c).1) : p_ := h_
def spec_l5Put.l0 : Nat → List Int → Int → Int → Option (List Int)
 | 0, _, _, _ => none
 | k + 1, x0, x1, x5 => if x5 < (x0.length : Int) then (if 0 ≤ x5 then (if (rd x0 x5) < x1 then (spec_l5Put.l0 k x0 x1 (wrap64 (x5 + 1))) else (if (rd x0 x5) = x1 then (some x0) else ((some (([] : List Int) : List Int)).bind fun y263 => (if x5 ≤ (x0.length : Int) then ((some (x0.take (x5 : Int).toNat : List Int)).bind fun y266 => (if y263.length + y266.length < 17592186044416 then ((some (y263 ++ y266 : List Int)).bind fun y270 => (if y270.length < 17592186044416 then ((some (y270 ++ [x1] : List Int)).bind fun y273 => ((some (x0.drop (x5 : Int).toNat : List Int)).bind fun y276 => (if y273.length + y276.length < 17592186044416 then (some (y273 ++ y276)) else (none)))) else (none))) else (none))) else (none))))) else (none)) else ((some (([] : List Int) : List Int)).bind fun y283 => (if 0 ≤ x5 then (if x5 ≤ (x0.length : Int) then ((some (x0.take (x5 : Int).toNat : List Int)).bind fun y286 => (if y283.length + y286.length < 17592186044416 then ((some (y283 ++ y286 : List Int)).bind fun y290 => (if y290.length < 17592186044416 then ((some (y290 ++ [x1] : List Int)).bind fun y293 => ((some (x0.drop (x5 : Int).toNat : List Int)).bind fun y296 => (if y293.length + y296.length < 17592186044416 then (some (y293 ++ y296)) else (none)))) else (none))) else (none))) else (none)) else (none)))
def spec_l5Put.f (k : Nat) (l0 : List Int) (a1 : Int) : Option (List Int) := spec_l5Put.l0 k l0 a1 0
def spec_l5Put.T7 : Bool × List (List Nat × List Nat) := (true, [([], []), ([], []), ([1], [1]), ([0, 2], [0, 2]), ([], []), ([], []), ([4, 5], [4, 5]), ([3, 6, 3], [3, 6]), ([7, 7, 0, 1, 2, 3, 4, 5, 6, 7], [7])])
def spec_l5Put.B7 : List Nat := [0, 0, 2, 7, 0, 0, 48, 127, 255]
theorem spec_l5Put.tab7 : rtab .any (opsOf Try.f117 7) = spec_l5Put.T7 := by kernel_rfl
theorem spec_l5Put.bits7 : waitsOk spec_l5Put.T7.2 spec_l5Put.B7 = true := by kernel_rfl
set_option maxHeartbeats 8000000 in
set_option maxRecDepth 100000 in
theorem spec_l5Put.calls (k : Nat) (P0_ : Nat → Prop) (u9000_ : Value) (l0 : List Int) (a1 : Int) (r : List Int) (w0 w : World) (hB : Below w0.heap.size w0 w) (ho0 : Kd.R (Kd.int .i64) 2 w w0.heap.size P0_ u9000_ l0) (h : spec_l5Put.f k l0 a1 = some r) :
  Calls Try.prog 117 #[u9000_, .int .i64 a1] w fun e w' => ∃ v0_ : Value, e = .returned (v0_) ∧ Kd.R (Kd.int .i64) 2 w' w0.heap.size (fun k_ => (P0_ k_ ∨ w.heap.size ≤ k_)) v0_ r ∧ Below w0.heap.size w0 w' ∧ Kept w w' (fun k_ => P0_ k_) := by
 have HO0 := A_ (show Kd.R (Kd.int .i64) 2 w w0.heap.size (fun k_ => (P0_ k_ ∨ w.heap.size ≤ k_)) u9000_ l0 from Kd.R_mono ho0 (fun k_ hk => (.inl hk)))
 have HK := A_ (Kept.refl w (fun k_ => P0_ k_))
 have HW0 := A_ hB.size
 have HB := A_ hB
 clear hB
 have H : (spec_l5Put.l0 k l0 a1 0) = some r := h
 clear h
 have H' := A_ H
 clear H
 go_enter Try.func117, Try.ntmps117
 go_wp2
 go_loopg [5] k (fun kq v5 w' => ∃ (x5_1 : Int), v5 = .int .i64 x5_1 ∧ Aside0 (spec_l5Put.l0 kq l0 a1 x5_1 = some r) ∧ Aside0 (kq ≤ k) ∧ Aside0 (Kd.R (Kd.int .i64) 2 w' w0.heap.size (fun k_ => (P0_ k_ ∨ w.heap.size ≤ k_)) u9000_ l0) ∧ Aside0 (Kept w w' (fun k_ => P0_ k_)) ∧ Aside0 (Below w0.heap.size w0 w'))
 case atStart => exact ⟨(0), (by first | rfl | (simp; done) | (simp [*]; done)), H', ⟨Nat.le_refl _⟩, ⟨by (with_reducible repeat (first | apply Kd.R_alloc | apply Kd.R_drewN | apply Kd.R_drew)); exact HO0.out⟩, ⟨by repeat (first | (with_reducible first | exact HK.out | apply Kept.alloc | apply Kept.drewN | apply Kept.drew) | exact HK.out)⟩, ⟨by repeat (first | (with_reducible first | exact HB.out | apply below_alloc | apply pw_below_drewN | apply below_drew1) | exact HB.out)⟩⟩
 case round =>
  clear H'
  try clear c1
  try clear p2
  obtain ⟨x5_1, rfl, HA, HK1, HO_0, HK, HB⟩ := hrel
  cases gk with
  | zero => exact absurd HA.out (by simp [spec_l5Put.l0])
  | succ k1 =>
   have H := HA.out
   clear HA
   simp only [spec_l5Put.l0] at H
   by_cases c3 : x5_1 < (l0.length : Int)
   {
   rw [if_pos c3] at H
   have c3b0 : decide (x5_1 < (l0.length : Int)) = true := decide_eq_true c3
   clear c3
   by_cases c4 : 0 ≤ x5_1
   {
   rw [if_pos c4] at H
   have c4b0 : decide (0 ≤ x5_1) = true := decide_eq_true c4
   clear c4
   by_cases c5 : (rd l0 x5_1) < a1
   {
   rw [if_pos c5] at H
   have c5b0 : decide ((rd l0 x5_1) < a1) = true := decide_eq_true c5
   clear c5
   have H' := A_ H
   clear H
   obtain ⟨Ao6, co6, eo6⟩ := Kd.R_slice HO_0.out
   subst eo6
   have p261 : 0 ≤ (x5_1 : Int) := of_decide_eq_true z117e
   have q261 : x5_1 < (l0.length : Int) := of_decide_eq_true z117e
   obtain ⟨ad261, e261, hx261_0⟩ := Kd.at_int (Kd.R_reads' HO_0.out).2.2 x5_1 p261 q261
   cases e261
   replace p261 := eq_true p261
   replace q261 := eq_true q261
   go_wp2
   go_roundg k1
   case measure => have := HK1.out; omega
   case rel => exact ⟨(wrap64 (x5_1 + 1)), (by first | rfl | (simp; done) | (simp [*]; done)), H', ⟨by have := HK1.out; omega⟩, ⟨by (with_reducible repeat (first | apply Kd.R_alloc | apply Kd.R_drewN | apply Kd.R_drew)); exact HO_0.out⟩, ⟨by repeat (first | (with_reducible first | exact HK.out | apply Kept.alloc | apply Kept.drewN | apply Kept.drew) | exact HK.out)⟩, ⟨by repeat (first | (with_reducible first | exact HB.out | apply below_alloc | apply pw_below_drewN | apply below_drew1) | exact HB.out)⟩⟩
   }
   {
   rw [if_neg c5] at H
   have c5b0 : decide ((rd l0 x5_1) < a1) = false := decide_eq_false c5
   clear c5
   by_cases c7 : (rd l0 x5_1) = a1
   {
   rw [if_pos c7] at H
   have c7b0 : ((rd l0 x5_1) == a1) = true := beq_iff_eq.mpr c7
   have c7b1 : ((rd l0 x5_1) != a1) = false := bne_eq_false_iff_eq.mpr c7
   clear c7
   obtain rfl := Option.some.inj H
   obtain ⟨Ao8, co8, eo8⟩ := Kd.R_slice HO_0.out
   subst eo8
   have p261 : 0 ≤ (x5_1 : Int) := of_decide_eq_true z117e
   have q261 : x5_1 < (l0.length : Int) := of_decide_eq_true z117e
   obtain ⟨ad261, e261, hx261_0⟩ := Kd.at_int (Kd.R_reads' HO_0.out).2.2 x5_1 p261 q261
   cases e261
   replace p261 := eq_true p261
   replace q261 := eq_true q261
   have p262 : 0 ≤ (x5_1 : Int) := of_decide_eq_true z117e
   have q262 : x5_1 < (l0.length : Int) := of_decide_eq_true z117e
   obtain ⟨ad262, e262, hx262_0⟩ := Kd.at_int (Kd.R_reads' HO_0.out).2.2 x5_1 p262 q262
   obtain rfl : ad261 = ad262 := (by injection e262)
   replace p262 := eq_true p262
   replace q262 := eq_true q262
   go_wp2
   go_ret
   exact ⟨_, by first | rfl | (simp [errW_none, errW_some] <;> rfl) | (simp [*, errW_none, errW_some] <;> rfl), by (with_reducible repeat (first | apply Kd.R_alloc | apply Kd.R_drewN | apply Kd.R_drew)); exact HO_0.out, by repeat (first | (with_reducible first | exact HB.out | apply below_alloc | apply pw_below_drewN | apply below_drew1) | exact HB.out), by repeat (first | (with_reducible first | exact HK.out | apply Kept.alloc | apply Kept.drewN | apply Kept.drew) | exact HK.out)⟩
   }
   {
   rw [if_neg c7] at H
   have c7b0 : ((rd l0 x5_1) == a1) = false := beq_eq_false_iff_ne.mpr c7
   have c7b1 : ((rd l0 x5_1) != a1) = true := bne_iff_ne.mpr c7
   obtain ⟨y263, hy263⟩ : ∃ y_ : List Int, y_ = (([] : List Int)) := ⟨_, rfl⟩
   replace H : (if x5_1 ≤ (l0.length : Int) then ((some (l0.take (x5_1 : Int).toNat : List Int)).bind fun y266 => (if y263.length + y266.length < 17592186044416 then ((some (y263 ++ y266 : List Int)).bind fun y270 => (if y270.length < 17592186044416 then ((some (y270 ++ [a1] : List Int)).bind fun y273 => ((some (l0.drop (x5_1 : Int).toNat : List Int)).bind fun y276 => (if y273.length + y276.length < 17592186044416 then (some (y273 ++ y276)) else (none)))) else (none))) else (none))) else (none)) = some r := by first | (rw [hy263]; with_reducible exact H) | (have H2_ := (Option.bind_some _ _).symm.trans H; rw [hy263]; with_reducible exact H2_) | (have H2_ := (Option.bind_some _ _).symm.trans H; with_reducible exact H2_) | with_reducible exact H | (rw [hy263]; exact H) | exact H
   have Ny263 := A_ hy263
   clear hy263
   have c9b0 := eq_true (of_decide_eq_true z117e : 0 ≤ x5_1)
   by_cases c10 : x5_1 ≤ (l0.length : Int)
   {
   rw [if_pos c10] at H
   have c10b0 := eq_true c10
   have c10b1 : decide (x5_1 ≤ (l0.length : Int)) = true := decide_eq_true c10
   clear c10
   obtain ⟨y266, hy266⟩ : ∃ y_ : List Int, y_ = (l0.take (x5_1 : Int).toNat) := ⟨_, rfl⟩
   replace H : (if y263.length + y266.length < 17592186044416 then ((some (y263 ++ y266 : List Int)).bind fun y270 => (if y270.length < 17592186044416 then ((some (y270 ++ [a1] : List Int)).bind fun y273 => ((some (l0.drop (x5_1 : Int).toNat : List Int)).bind fun y276 => (if y273.length + y276.length < 17592186044416 then (some (y273 ++ y276)) else (none)))) else (none))) else (none)) = some r := by first | (rw [hy266]; with_reducible exact H) | (have H2_ := (Option.bind_some _ _).symm.trans H; rw [hy266]; with_reducible exact H2_) | (have H2_ := (Option.bind_some _ _).symm.trans H; with_reducible exact H2_) | with_reducible exact H | (rw [hy266]; exact H) | exact H
   have Ny266 := A_ hy266
   clear hy266
   by_cases c11 : y263.length + y266.length < 17592186044416
   {
   rw [if_pos c11] at H
   have LMc11 := A_ c11
   clear c11
   obtain ⟨y270, hy270⟩ : ∃ y_ : List Int, y_ = (y263 ++ y266) := ⟨_, rfl⟩
   replace H : (if y270.length < 17592186044416 then ((some (y270 ++ [a1] : List Int)).bind fun y273 => ((some (l0.drop (x5_1 : Int).toNat : List Int)).bind fun y276 => (if y273.length + y276.length < 17592186044416 then (some (y273 ++ y276)) else (none)))) else (none)) = some r := by first | (rw [hy270]; with_reducible exact H) | (have H2_ := (Option.bind_some _ _).symm.trans H; rw [hy270]; with_reducible exact H2_) | (have H2_ := (Option.bind_some _ _).symm.trans H; with_reducible exact H2_) | with_reducible exact H | (rw [hy270]; exact H) | exact H
   have Ny270 := A_ hy270
   clear hy270
   by_cases c12 : y270.length < 17592186044416
   {
   rw [if_pos c12] at H
   have LMc12 := A_ c12
   clear c12
   obtain ⟨y273, hy273⟩ : ∃ y_ : List Int, y_ = (y270 ++ [a1]) := ⟨_, rfl⟩
   replace H : ((some (l0.drop (x5_1 : Int).toNat : List Int)).bind fun y276 => (if y273.length + y276.length < 17592186044416 then (some (y273 ++ y276)) else (none))) = some r := by first | (rw [hy273]; with_reducible exact H) | (have H2_ := (Option.bind_some _ _).symm.trans H; rw [hy273]; with_reducible exact H2_) | (have H2_ := (Option.bind_some _ _).symm.trans H; with_reducible exact H2_) | with_reducible exact H | (rw [hy273]; exact H) | exact H
   have Ny273 := A_ hy273
   clear hy273
   have c13b0 := eq_true (of_decide_eq_true z117e : 0 ≤ x5_1)
   have c14b0 := eq_true (of_decide_eq_true z117e : x5_1 ≤ (l0.length : Int))
   obtain ⟨y276, hy276⟩ : ∃ y_ : List Int, y_ = (l0.drop (x5_1 : Int).toNat) := ⟨_, rfl⟩
   replace H : (if y273.length + y276.length < 17592186044416 then (some (y273 ++ y276)) else (none)) = some r := by first | (rw [hy276]; with_reducible exact H) | (have H2_ := (Option.bind_some _ _).symm.trans H; rw [hy276]; with_reducible exact H2_) | (have H2_ := (Option.bind_some _ _).symm.trans H; with_reducible exact H2_) | with_reducible exact H | (rw [hy276]; exact H) | exact H
   have Ny276 := A_ hy276
   clear hy276
   by_cases c15 : y273.length + y276.length < 17592186044416
   {
   rw [if_pos c15] at H
   have LMc15 := A_ c15
   clear c15
   obtain ⟨y280, hy280⟩ : ∃ y_ : List Int, y_ = (y273 ++ y276) := ⟨_, rfl⟩
   replace H : (some y280) = some r := by first | (rw [hy280]; with_reducible exact H) | (have H2_ := (Option.bind_some _ _).symm.trans H; rw [hy280]; with_reducible exact H2_) | (have H2_ := (Option.bind_some _ _).symm.trans H; with_reducible exact H2_) | with_reducible exact H | (rw [hy280]; exact H) | exact H
   have Ny280 := A_ hy280
   clear hy280
   obtain rfl := Option.some.inj H
   obtain ⟨Ao16, co16, eo16⟩ := Kd.R_slice HO_0.out
   subst eo16
   have p261 : 0 ≤ (x5_1 : Int) := of_decide_eq_true z117e
   have q261 : x5_1 < (l0.length : Int) := of_decide_eq_true z117e
   obtain ⟨ad261, e261, hx261_0⟩ := Kd.at_int (Kd.R_reads' HO_0.out).2.2 x5_1 p261 q261
   cases e261
   replace p261 := eq_true p261
   replace q261 := eq_true q261
   have p262 : 0 ≤ (x5_1 : Int) := of_decide_eq_true z117e
   have q262 : x5_1 < (l0.length : Int) := of_decide_eq_true z117e
   obtain ⟨ad262, e262, hx262_0⟩ := Kd.at_int (Kd.R_reads' HO_0.out).2.2 x5_1 p262 q262
   obtain rfl : ad261 = ad262 := (by injection e262)
   replace p262 := eq_true p262
   replace q262 := eq_true q262
   try go_wp2_with (first | ((with_reducible refine gate_dst (N := 34) rfl ?_); refine Kd.R_lit (Kd.int .i64) _ 2 ?hg (N := 34) ?hd (xs := ([] : List Int)) (inner := []) (ok := fun _ => True) (okp := fun _ => True) ?hr ?hp (fun _ hk => hk) trivial (Below.refl _ _) (Nat.le_refl _) (by simp) ?_; (case hd => rfl); (case hg => rfl); (case hr => first | (go_simp; done) | (go_simp; rfl)); (case hp => exact (Reps.none _ _)); intro v264 w17 ho18 hb hg_ hnew_; clear hg_ hnew_; (first | rw [← Ny263.out] at ho18 | (simp only [Int.reduceToNat] at ho18; rw [← Ny263.out] at ho18)); have n0_ := A_ (Kd.R_elder' z117a (Kd.R_base ho18) hb); have n1_ := A_ (Kd.R_lower (Kd.R_new' (Kd.R_newM (M := fun k_ => (P0_ k_ ∨ w.heap.size ≤ k_)) ho18 z117f (fun k_ h_ => .inr h_)) (Kd.R_lt z117a)) (below_size z117b)); have n2_ := A_ (Kept.below (S := (fun k_ => P0_ k_)) z117c hb); have n3_ := A_ (below_step z117b hb); clear HO_0; clear HK; clear HB; have HO_0 := n0_; have HO265 := n1_; have HK := n2_; have HB := n3_; clear n0_ n1_ n2_ n3_; clear hb ho18; have q19 : (x5_1 : Int) ≤ ((l0.length : Int) : Int) := of_decide_eq_true z117e; obtain ⟨i019, hi019, _, hsz19, _⟩ := info_parts info2; have hroom19 : l0.length ≤ co16 := (Kd.R_reads' HO_0.out).2.1; have hC19 : Kd.C (Kd.int .i64) _ (some ad261) l0.length l0 := (Kd.R_reads' HO_0.out).2.2; have hcut19 := cut_to (P := Try.prog) 54 2 .i64 Try.underlying54 hi019 (some ad261) l0.length co16 x5_1 (of_decide_eq_true z117e) q19 hroom19; have hr19 := Kd.C_take (m := (x5_1 : Int).toNat) hC19 (by omega); have hy19 : y266.length = (x5_1 : Int).toNat := (by rw [Ny266.out, List.length_take]; omega); rw [← Ny266.out] at hr19; rw [← hy19] at hcut19; have HR269 := A_ hr19; have HC269 := A_ (show y266.length ≤ co16 from (by omega)); clear hr19 hC19 hroom19 hi019 hsz19; have KY19 := A_ hy19; clear hy19; have KL19 := A_ (show (x5_1 : Int).toNat ≤ l0.length from (by omega)); replace q19 := eq_true q19) | ((with_reducible refine gate_builtin (b := .append) (xs := #[.tmp 34, .tmp 37]) rfl ?_); at_builtin; refine Kd.R_append_rows (Kd.int .i64) (w0 := w0) w0.heap.size rfl (.tmp 34) (.tmp 37) 54 2 (.int .i64 0) 8 rfl Try.underlying54 info2 rfl (by decide) (by omega) v264 y263 y266 _ _ _ (fun k_ => (P0_ k_ ∨ w.heap.size ≤ k_) ∧ some k_ ≠ (.slice (some ad261) l0.length co16 : Value).ownBlock) (fun _ => False) rfl rfl ?aO ?aR (fun _ _ h => h) (fun _ h => h.elim) ?aF ?aB ?aS ?aL ?_; (case aR => repeat (first | exact (by repeat (first | (with_reducible exact HR269.out) | (with_reducible refine Kd.C_alloc ?_ _) | (with_reducible refine Kd.C_drewN ?_ _) | (with_reducible refine Kd.C_drew ?_) | exact HR269.out)) | (with_reducible refine Kd.C_alloc ?_ _) | (with_reducible refine Kd.C_drewN ?_ _) | (with_reducible refine Kd.C_drew ?_))); (case aB => exact z117b); (case aF => exact (fun k_ hk => ⟨(.inr (Nat.le_trans z117f hk)), Kd.fresh' (Kd.R_lt z117a) k_ hk⟩)); (case aO => exact (by (with_reducible repeat (first | apply Kd.R_alloc | apply Kd.R_drewN | apply Kd.R_drew)); exact Kd.R_mono HO265.out (fun _ hk => ⟨hk.1.1, hk.2⟩))); (case aS => exact (below_size z117b)); (case aL => have := LMc11.out; omega); intro v271 w20 ho hb hg hat; rw [← Ny270.out] at ho; have n0_ := A_ (Kd.R_after (ok := (fun k_ => (P0_ k_ ∨ w.heap.size ≤ k_))) z117a hg hat); have n1_ := A_ (hb); have n2_ := A_ (Kept.of_grown (S := (fun k_ => P0_ k_)) hg z117c (fun k_ e_ => (HO265.out.1 k_ e_).1.1)); have n3_ := A_ ((show Kd.C (Kd.int .i64) w20 (some ad261) y266.length y266 from (by rw [Ny266.out]; exact Kd.C_take (m := (x5_1 : Int).toNat) ((Kd.R_reads' (Kd.R_after (ok := (fun k_ => (P0_ k_ ∨ w.heap.size ≤ k_))) z117a hg hat)).2.2) KL19.out))); have n4_ := A_ (ho); clear HO_0; clear HB; clear HK; clear HR269; clear HO265; have HO_0 := n0_; have HB := n1_; have HK := n2_; have HR269 := n3_; have HO272 := n4_; clear n0_ n1_ n2_ n3_ n4_; clear ho hb hg hat))
   replace HO_0 := A_ (Kd.R_drew HO_0.out)
   replace HO272 := A_ (Kd.R_drew HO272.out)
   replace HR269 := A_ (Kd.C_drew HR269.out)
   replace HK := A_ (Kept.drew HK.out)
   replace HB := A_ (below_drew1 HB.out)
   have q22 : (x5_1 : Int) ≤ ((l0.length : Int) : Int) := of_decide_eq_true z117e
   obtain ⟨i022, hi022, _, hsz22, _⟩ := info_parts info2
   have hroom22 : l0.length ≤ co16 := (Kd.R_reads' HO_0.out).2.1
   have hC22 : Kd.C (Kd.int .i64) _ (some ad261) l0.length l0 := (Kd.R_reads' HO_0.out).2.2
   have q022 : (0 : Int) ≤ (x5_1 : Int) := of_decide_eq_true z117e
   have hcut22 := cut_from (P := Try.prog) 54 2 .i64 Try.underlying54 hi022 1 hsz22 (some ad261) l0.length co16 x5_1 q022 q22
   have hr22 := Kd.C_drop (m := (x5_1 : Int).toNat) (c := co16) hC22 (by omega) hroom22
   obtain ⟨A22, hA22⟩ : ∃ A1, A1 = (if co16 = (x5_1 : Int).toNat then (some ad261) else ((some ad261) : Option Addr).map (·.add ((x5_1 : Int).toNat * 1))) := ⟨_, rfl⟩
   obtain ⟨c22, hc22⟩ : ∃ c1, c1 = co16 - (x5_1 : Int).toNat := ⟨_, rfl⟩
   have hy22 : y276.length = l0.length - (x5_1 : Int).toNat := (by rw [Ny276.out, List.length_drop] <;> omega)
   rw [show (l0).drop (x5_1 : Int).toNat = y276 from Ny276.out.symm] at hr22
   replace hr22 : Kd.C (Kd.int .i64) _ A22 y276.length y276 := (by rw [hA22]; exact hr22)
   rw [← hy22, ← hA22, ← hc22] at hcut22
   have HR279 := A_ hr22
   have HC279 := A_ (show y276.length ≤ c22 from (by rw [hy22, hc22]; exact Nat.sub_le_sub_right hroom22 _))
   clear hr22 hC22 hroom22 hi022 hsz22 hc22
   have KY22 := A_ hy22
   have KA22 := A_ hA22
   clear hy22 hA22
   have KL22 := A_ (show (x5_1 : Int).toNat ≤ l0.length from (by omega))
   replace q22 := eq_true q22
   refine start_ (n := 9) (S := fun w' => True) (ds := []) (yx 0 9) (by kernel_rfl) rfl rfl trivial (fun hHeld => ?_); refine with_tabW spec_l5Put.tab7 spec_l5Put.bits7 (fun HT_ HW_ => ?_)
   generalize w20.drew = w21 at HO_0 HO272 HR269 HK HB HR279 hHeld ⊢
   refine pu_ 0 (some 39) (yx 1 8) ?_
   refine pu_ 1 (some 40) (yx 2 7) ?_
   refine pu_ 4 (some 43) (bs "YYXXYXXXX") ?_
   refine pu_ 5 (some 44) (bs "YYXXYYXXX") ?_
   refine pu_ 6 (some 45) (bs "YYXXYYYXX") ?_
   refine one_ (i := 2) (N := some 41) (bs "YYYXYYYXX") rfl rfl (one_of HT_.out (by kernel_rfl)) (by decide) (fun K hK => ?_)
   refine value_ (w1 := ?_) (v := ?_) (by rfl) rfl ?_ ?_
   rotate_left 2
   {
   go_simp
   constructor
   {
   rfl
   }
   {
   rfl
   }
   }
   refine hK.out _ _ trivial (fun hHeld => ?_)
   clear hK K
   refine norm_ (nz_ 41) ?_
   refine one_ (i := 3) (N := some 42) (yx 7 2) rfl rfl (one_of HT_.out (by kernel_rfl)) (by decide) (fun K hK => ?_)
   refine Kd.R_append_step (Kd.int .i64) (w0 := w0) w0.heap.size (by rfl) (.tmp 39) (.tmp 41) 54 2 (.int .i64 0) 8 rfl Try.underlying54 info2 rfl (by decide) (by omega) v271 y270 a1 [.int .i64 a1] (fun k_ => (P0_ k_ ∨ w.heap.size ≤ k_) ∧ some k_ ≠ (.slice (some ad261) l0.length co16 : Value).ownBlock) (fun _ => False) rfl rfl ?aP (fun _ hk => hk.elim) ?aF ?aO ?aB ?aS ?aL ?_
   (case aP => exact rfl)
   (case aB => exact z117b)
   (case aF => exact (fun k_ hk => ⟨(.inr (Nat.le_trans z117f hk)), Kd.fresh' (Kd.R_lt z117a) k_ hk⟩))
   (case aO => exact (by (with_reducible repeat (first | apply Kd.R_alloc | apply Kd.R_drewN | apply Kd.R_drew)); exact HO272.out))
   (case aS => exact (below_size z117b))
   (case aL => have := LMc12.out; omega)
   intro v274 w23 ho hb hg hat
   rw [← Ny273.out] at ho
   have n0_ := A_ (Kd.R_after (ok := (fun k_ => (P0_ k_ ∨ w.heap.size ≤ k_))) z117a hg hat)
   have n1_ := A_ (hb)
   have n2_ := A_ (Kept.of_grown (S := (fun k_ => P0_ k_)) hg z117c (fun k_ e_ => (HO272.out.1 k_ e_).1))
   have n3_ := A_ ((show Kd.C (Kd.int .i64) w23 (some ad261) y266.length y266 from (by rw [Ny266.out]; exact Kd.C_take (m := (x5_1 : Int).toNat) ((Kd.R_reads' (Kd.R_after (ok := (fun k_ => (P0_ k_ ∨ w.heap.size ≤ k_))) z117a hg hat)).2.2) KL19.out)))
   have n4_ := A_ ((show Kd.C (Kd.int .i64) w23 A22 y276.length y276 from (by rw [Ny276.out, KA22.out]; exact Kd.C_drop (m := (x5_1 : Int).toNat) (c := co16) ((Kd.R_reads' (Kd.R_after (ok := (fun k_ => (P0_ k_ ∨ w.heap.size ≤ k_))) z117a hg hat)).2.2) KL22.out ((Kd.R_reads' (Kd.R_after (ok := (fun k_ => (P0_ k_ ∨ w.heap.size ≤ k_))) z117a hg hat)).2.1))))
   have n5_ := A_ (ho)
   clear HO_0
   clear HB
   clear HK
   clear HR269
   clear HR279
   clear HO272
   have HO_0 := n0_
   have HB := n1_
   have HK := n2_
   have HR269 := n3_
   have HR279 := n4_
   have HO275 := n5_
   clear n0_ n1_ n2_ n3_ n4_ n5_
   clear ho hb hg hat
   refine hK.out _ _ trivial (fun hHeld => ?_)
   clear hK K
   refine norm_ (nz_ 42) ?_
   refine one_ (i := 7) (N := some 46) (yx 8 1) rfl rfl (one_of HT_.out (by kernel_rfl)) (by decide) (fun K hK => ?_)
   refine Kd.R_append_rows_step (Kd.int .i64) (w0 := w0) w0.heap.size (by rfl) (.tmp 42) (.tmp 45) 54 2 (.int .i64 0) 8 rfl Try.underlying54 info2 rfl (by decide) (by omega) v274 y273 y276 _ _ _ (fun k_ => (P0_ k_ ∨ w.heap.size ≤ k_) ∧ some k_ ≠ (.slice (some ad261) l0.length co16 : Value).ownBlock) (fun _ => False) rfl rfl ?aO ?aR (fun _ _ h => h) (fun _ h => h.elim) ?aF ?aB ?aS ?aL ?_
   (case aR => repeat (first | exact (by repeat (first | (with_reducible exact HR279.out) | (with_reducible refine Kd.C_alloc ?_ _) | (with_reducible refine Kd.C_drewN ?_ _) | (with_reducible refine Kd.C_drew ?_) | exact HR279.out)) | (with_reducible refine Kd.C_alloc ?_ _) | (with_reducible refine Kd.C_drewN ?_ _) | (with_reducible refine Kd.C_drew ?_)))
   (case aB => exact z117b)
   (case aF => exact (fun k_ hk => ⟨(.inr (Nat.le_trans z117f hk)), Kd.fresh' (Kd.R_lt z117a) k_ hk⟩))
   (case aO => exact (by (with_reducible repeat (first | apply Kd.R_alloc | apply Kd.R_drewN | apply Kd.R_drew)); exact HO275.out))
   (case aS => exact (below_size z117b))
   (case aL => have := LMc15.out; omega)
   intro v281 w24 ho hb hg hat
   rw [← Ny280.out] at ho
   have n0_ := A_ (Kd.R_after (ok := (fun k_ => (P0_ k_ ∨ w.heap.size ≤ k_))) z117a hg hat)
   have n1_ := A_ (hb)
   have n2_ := A_ (Kept.of_grown (S := (fun k_ => P0_ k_)) hg z117c (fun k_ e_ => (HO275.out.1 k_ e_).1))
   have n3_ := A_ ((show Kd.C (Kd.int .i64) w24 (some ad261) y266.length y266 from (by rw [Ny266.out]; exact Kd.C_take (m := (x5_1 : Int).toNat) ((Kd.R_reads' (Kd.R_after (ok := (fun k_ => (P0_ k_ ∨ w.heap.size ≤ k_))) z117a hg hat)).2.2) KL19.out)))
   have n4_ := A_ ((show Kd.C (Kd.int .i64) w24 A22 y276.length y276 from (by rw [Ny276.out, KA22.out]; exact Kd.C_drop (m := (x5_1 : Int).toNat) (c := co16) ((Kd.R_reads' (Kd.R_after (ok := (fun k_ => (P0_ k_ ∨ w.heap.size ≤ k_))) z117a hg hat)).2.2) KL22.out ((Kd.R_reads' (Kd.R_after (ok := (fun k_ => (P0_ k_ ∨ w.heap.size ≤ k_))) z117a hg hat)).2.1))))
   have n5_ := A_ (ho)
   clear HO_0
   clear HB
   clear HK
   clear HR269
   clear HR279
   clear HO275
   have HO_0 := n0_
   have HB := n1_
   have HK := n2_
   have HR269 := n3_
   have HR279 := n4_
   have HO282 := n5_
   clear n0_ n1_ n2_ n3_ n4_ n5_
   clear ho hb hg hat
   refine hK.out _ _ trivial (fun hHeld => ?_)
   clear hK K
   refine norm_ (nz_ 46) ?_
   refine pu_ 8 (some 4) (yx 9 0) ?_
   refine done_ (done_of HT_.out (by kernel_rfl)) ?_
   try go_wp2
   go_ret
   exact ⟨_, by first | rfl | (simp [errW_none, errW_some] <;> rfl) | (simp [*, errW_none, errW_some] <;> rfl), by (with_reducible repeat (first | apply Kd.R_alloc | apply Kd.R_drewN | apply Kd.R_drew)); exact Kd.R_mono HO282.out (fun _ hk => hk.1), by repeat (first | (with_reducible first | exact HB.out | apply below_alloc | apply pw_below_drewN | apply below_drew1) | exact HB.out), by repeat (first | (with_reducible first | exact HK.out | apply Kept.alloc | apply Kept.drewN | apply Kept.drew) | exact HK.out)⟩
   }
   {
   rw [if_neg c15] at H
   exact absurd H (by simp)
   }
   }
   {
   rw [if_neg c12] at H
   exact absurd H (by simp)
   }
   }
   {
   rw [if_neg c11] at H
   exact absurd H (by simp)
   }
   }
   {
   rw [if_neg c10] at H
   exact absurd H (by simp)
   }
   }
   }
   }
   {
   rw [if_neg c4] at H
   exact absurd H (by simp)
   }
   }
   {
   rw [if_neg c3] at H
   have c3b0 : decide (x5_1 < (l0.length : Int)) = false := decide_eq_false c3
   clear c3
   obtain ⟨y283, hy283⟩ : ∃ y_ : List Int, y_ = (([] : List Int)) := ⟨_, rfl⟩
   replace H : (if 0 ≤ x5_1 then (if x5_1 ≤ (l0.length : Int) then ((some (l0.take (x5_1 : Int).toNat : List Int)).bind fun y286 => (if y283.length + y286.length < 17592186044416 then ((some (y283 ++ y286 : List Int)).bind fun y290 => (if y290.length < 17592186044416 then ((some (y290 ++ [a1] : List Int)).bind fun y293 => ((some (l0.drop (x5_1 : Int).toNat : List Int)).bind fun y296 => (if y293.length + y296.length < 17592186044416 then (some (y293 ++ y296)) else (none)))) else (none))) else (none))) else (none)) else (none)) = some r := by first | (rw [hy283]; with_reducible exact H) | (have H2_ := (Option.bind_some _ _).symm.trans H; rw [hy283]; with_reducible exact H2_) | (have H2_ := (Option.bind_some _ _).symm.trans H; with_reducible exact H2_) | with_reducible exact H | (rw [hy283]; exact H) | exact H
   have Ny283 := A_ hy283
   clear hy283
   by_cases c25 : 0 ≤ x5_1
   {
   rw [if_pos c25] at H
   have c25b0 := eq_true c25
   have c25b1 : decide (0 ≤ x5_1) = true := decide_eq_true c25
   clear c25
   by_cases c26 : x5_1 ≤ (l0.length : Int)
   {
   rw [if_pos c26] at H
   have c26b0 := eq_true c26
   have c26b1 : decide (x5_1 ≤ (l0.length : Int)) = true := decide_eq_true c26
   clear c26
   obtain ⟨y286, hy286⟩ : ∃ y_ : List Int, y_ = (l0.take (x5_1 : Int).toNat) := ⟨_, rfl⟩
   replace H : (if y283.length + y286.length < 17592186044416 then ((some (y283 ++ y286 : List Int)).bind fun y290 => (if y290.length < 17592186044416 then ((some (y290 ++ [a1] : List Int)).bind fun y293 => ((some (l0.drop (x5_1 : Int).toNat : List Int)).bind fun y296 => (if y293.length + y296.length < 17592186044416 then (some (y293 ++ y296)) else (none)))) else (none))) else (none)) = some r := by first | (rw [hy286]; with_reducible exact H) | (have H2_ := (Option.bind_some _ _).symm.trans H; rw [hy286]; with_reducible exact H2_) | (have H2_ := (Option.bind_some _ _).symm.trans H; with_reducible exact H2_) | with_reducible exact H | (rw [hy286]; exact H) | exact H
   have Ny286 := A_ hy286
   clear hy286
   by_cases c27 : y283.length + y286.length < 17592186044416
   {
   rw [if_pos c27] at H
   have LMc27 := A_ c27
   clear c27
   obtain ⟨y290, hy290⟩ : ∃ y_ : List Int, y_ = (y283 ++ y286) := ⟨_, rfl⟩
   replace H : (if y290.length < 17592186044416 then ((some (y290 ++ [a1] : List Int)).bind fun y293 => ((some (l0.drop (x5_1 : Int).toNat : List Int)).bind fun y296 => (if y293.length + y296.length < 17592186044416 then (some (y293 ++ y296)) else (none)))) else (none)) = some r := by first | (rw [hy290]; with_reducible exact H) | (have H2_ := (Option.bind_some _ _).symm.trans H; rw [hy290]; with_reducible exact H2_) | (have H2_ := (Option.bind_some _ _).symm.trans H; with_reducible exact H2_) | with_reducible exact H | (rw [hy290]; exact H) | exact H
   have Ny290 := A_ hy290
   clear hy290
   by_cases c28 : y290.length < 17592186044416
   {
   rw [if_pos c28] at H
   have LMc28 := A_ c28
   clear c28
   obtain ⟨y293, hy293⟩ : ∃ y_ : List Int, y_ = (y290 ++ [a1]) := ⟨_, rfl⟩
   replace H : ((some (l0.drop (x5_1 : Int).toNat : List Int)).bind fun y296 => (if y293.length + y296.length < 17592186044416 then (some (y293 ++ y296)) else (none))) = some r := by first | (rw [hy293]; with_reducible exact H) | (have H2_ := (Option.bind_some _ _).symm.trans H; rw [hy293]; with_reducible exact H2_) | (have H2_ := (Option.bind_some _ _).symm.trans H; with_reducible exact H2_) | with_reducible exact H | (rw [hy293]; exact H) | exact H
   have Ny293 := A_ hy293
   clear hy293
   have c29b0 := eq_true (of_decide_eq_true z117e : 0 ≤ x5_1)
   have c30b0 := eq_true (of_decide_eq_true z117e : x5_1 ≤ (l0.length : Int))
   obtain ⟨y296, hy296⟩ : ∃ y_ : List Int, y_ = (l0.drop (x5_1 : Int).toNat) := ⟨_, rfl⟩
   replace H : (if y293.length + y296.length < 17592186044416 then (some (y293 ++ y296)) else (none)) = some r := by first | (rw [hy296]; with_reducible exact H) | (have H2_ := (Option.bind_some _ _).symm.trans H; rw [hy296]; with_reducible exact H2_) | (have H2_ := (Option.bind_some _ _).symm.trans H; with_reducible exact H2_) | with_reducible exact H | (rw [hy296]; exact H) | exact H
   have Ny296 := A_ hy296
   clear hy296
   by_cases c31 : y293.length + y296.length < 17592186044416
   {
   rw [if_pos c31] at H
   have LMc31 := A_ c31
   clear c31
   obtain ⟨y300, hy300⟩ : ∃ y_ : List Int, y_ = (y293 ++ y296) := ⟨_, rfl⟩
   replace H : (some y300) = some r := by first | (rw [hy300]; with_reducible exact H) | (have H2_ := (Option.bind_some _ _).symm.trans H; rw [hy300]; with_reducible exact H2_) | (have H2_ := (Option.bind_some _ _).symm.trans H; with_reducible exact H2_) | with_reducible exact H | (rw [hy300]; exact H) | exact H
   have Ny300 := A_ hy300
   clear hy300
   obtain rfl := Option.some.inj H
   obtain ⟨Ao32, co32, eo32⟩ := Kd.R_slice HO_0.out
   subst eo32
   try go_wp2_with (first | ((with_reducible refine gate_dst (N := 34) rfl ?_); refine Kd.R_lit (Kd.int .i64) _ 2 ?hg (N := 34) ?hd (xs := ([] : List Int)) (inner := []) (ok := fun _ => True) (okp := fun _ => True) ?hr ?hp (fun _ hk => hk) trivial (Below.refl _ _) (Nat.le_refl _) (by simp) ?_; (case hd => rfl); (case hg => rfl); (case hr => first | (go_simp; done) | (go_simp; rfl)); (case hp => exact (Reps.none _ _)); intro v284 w33 ho34 hb hg_ hnew_; clear hg_ hnew_; (first | rw [← Ny283.out] at ho34 | (simp only [Int.reduceToNat] at ho34; rw [← Ny283.out] at ho34)); have n0_ := A_ (Kd.R_elder' z117a (Kd.R_base ho34) hb); have n1_ := A_ (Kd.R_lower (Kd.R_new' (Kd.R_newM (M := fun k_ => (P0_ k_ ∨ w.heap.size ≤ k_)) ho34 z117f (fun k_ h_ => .inr h_)) (Kd.R_lt z117a)) (below_size z117b)); have n2_ := A_ (Kept.below (S := (fun k_ => P0_ k_)) z117c hb); have n3_ := A_ (below_step z117b hb); clear HO_0; clear HK; clear HB; have HO_0 := n0_; have HO285 := n1_; have HK := n2_; have HB := n3_; clear n0_ n1_ n2_ n3_; clear hb ho34; have q35 : (x5_1 : Int) ≤ ((l0.length : Int) : Int) := of_decide_eq_true z117e; obtain ⟨i035, hi035, _, hsz35, _⟩ := info_parts info2; have hroom35 : l0.length ≤ co32 := (Kd.R_reads' HO_0.out).2.1; have hC35 : Kd.C (Kd.int .i64) _ Ao32 l0.length l0 := (Kd.R_reads' HO_0.out).2.2; have hcut35 := cut_to (P := Try.prog) 54 2 .i64 Try.underlying54 hi035 Ao32 l0.length co32 x5_1 (of_decide_eq_true z117e) q35 hroom35; have hr35 := Kd.C_take (m := (x5_1 : Int).toNat) hC35 (by omega); have hy35 : y286.length = (x5_1 : Int).toNat := (by rw [Ny286.out, List.length_take]; omega); rw [← Ny286.out] at hr35; rw [← hy35] at hcut35; have HR289 := A_ hr35; have HC289 := A_ (show y286.length ≤ co32 from (by omega)); clear hr35 hC35 hroom35 hi035 hsz35; have KY35 := A_ hy35; clear hy35; have KL35 := A_ (show (x5_1 : Int).toNat ≤ l0.length from (by omega)); replace q35 := eq_true q35) | ((with_reducible refine gate_builtin (b := .append) (xs := #[.tmp 34, .tmp 37]) rfl ?_); at_builtin; refine Kd.R_append_rows (Kd.int .i64) (w0 := w0) w0.heap.size rfl (.tmp 34) (.tmp 37) 54 2 (.int .i64 0) 8 rfl Try.underlying54 info2 rfl (by decide) (by omega) v284 y283 y286 _ _ _ (fun k_ => (P0_ k_ ∨ w.heap.size ≤ k_) ∧ some k_ ≠ (.slice Ao32 l0.length co32 : Value).ownBlock) (fun _ => False) rfl rfl ?aO ?aR (fun _ _ h => h) (fun _ h => h.elim) ?aF ?aB ?aS ?aL ?_; (case aR => repeat (first | exact (by repeat (first | (with_reducible exact HR289.out) | (with_reducible refine Kd.C_alloc ?_ _) | (with_reducible refine Kd.C_drewN ?_ _) | (with_reducible refine Kd.C_drew ?_) | exact HR289.out)) | (with_reducible refine Kd.C_alloc ?_ _) | (with_reducible refine Kd.C_drewN ?_ _) | (with_reducible refine Kd.C_drew ?_))); (case aB => exact z117b); (case aF => exact (fun k_ hk => ⟨(.inr (Nat.le_trans z117f hk)), Kd.fresh' (Kd.R_lt z117a) k_ hk⟩)); (case aO => exact (by (with_reducible repeat (first | apply Kd.R_alloc | apply Kd.R_drewN | apply Kd.R_drew)); exact Kd.R_mono HO285.out (fun _ hk => ⟨hk.1.1, hk.2⟩))); (case aS => exact (below_size z117b)); (case aL => have := LMc27.out; omega); intro v291 w36 ho hb hg hat; rw [← Ny290.out] at ho; have n0_ := A_ (Kd.R_after (ok := (fun k_ => (P0_ k_ ∨ w.heap.size ≤ k_))) z117a hg hat); have n1_ := A_ (hb); have n2_ := A_ (Kept.of_grown (S := (fun k_ => P0_ k_)) hg z117c (fun k_ e_ => (HO285.out.1 k_ e_).1.1)); have n3_ := A_ ((show Kd.C (Kd.int .i64) w36 Ao32 y286.length y286 from (by rw [Ny286.out]; exact Kd.C_take (m := (x5_1 : Int).toNat) ((Kd.R_reads' (Kd.R_after (ok := (fun k_ => (P0_ k_ ∨ w.heap.size ≤ k_))) z117a hg hat)).2.2) KL35.out))); have n4_ := A_ (ho); clear HO_0; clear HB; clear HK; clear HR289; clear HO285; have HO_0 := n0_; have HB := n1_; have HK := n2_; have HR289 := n3_; have HO292 := n4_; clear n0_ n1_ n2_ n3_ n4_; clear ho hb hg hat))
   replace HO_0 := A_ (Kd.R_drew HO_0.out)
   replace HO292 := A_ (Kd.R_drew HO292.out)
   replace HR289 := A_ (Kd.C_drew HR289.out)
   replace HK := A_ (Kept.drew HK.out)
   replace HB := A_ (below_drew1 HB.out)
   have q38 : (x5_1 : Int) ≤ ((l0.length : Int) : Int) := of_decide_eq_true z117e
   obtain ⟨i038, hi038, _, hsz38, _⟩ := info_parts info2
   have hroom38 : l0.length ≤ co32 := (Kd.R_reads' HO_0.out).2.1
   have hC38 : Kd.C (Kd.int .i64) _ Ao32 l0.length l0 := (Kd.R_reads' HO_0.out).2.2
   have q038 : (0 : Int) ≤ (x5_1 : Int) := of_decide_eq_true z117e
   have hcut38 := cut_from (P := Try.prog) 54 2 .i64 Try.underlying54 hi038 1 hsz38 Ao32 l0.length co32 x5_1 q038 q38
   have hr38 := Kd.C_drop (m := (x5_1 : Int).toNat) (c := co32) hC38 (by omega) hroom38
   obtain ⟨A38, hA38⟩ : ∃ A1, A1 = (if co32 = (x5_1 : Int).toNat then Ao32 else (Ao32 : Option Addr).map (·.add ((x5_1 : Int).toNat * 1))) := ⟨_, rfl⟩
   obtain ⟨c38, hc38⟩ : ∃ c1, c1 = co32 - (x5_1 : Int).toNat := ⟨_, rfl⟩
   have hy38 : y296.length = l0.length - (x5_1 : Int).toNat := (by rw [Ny296.out, List.length_drop] <;> omega)
   rw [show (l0).drop (x5_1 : Int).toNat = y296 from Ny296.out.symm] at hr38
   replace hr38 : Kd.C (Kd.int .i64) _ A38 y296.length y296 := (by rw [hA38]; exact hr38)
   rw [← hy38, ← hA38, ← hc38] at hcut38
   have HR299 := A_ hr38
   have HC299 := A_ (show y296.length ≤ c38 from (by rw [hy38, hc38]; exact Nat.sub_le_sub_right hroom38 _))
   clear hr38 hC38 hroom38 hi038 hsz38 hc38
   have KY38 := A_ hy38
   have KA38 := A_ hA38
   clear hy38 hA38
   have KL38 := A_ (show (x5_1 : Int).toNat ≤ l0.length from (by omega))
   replace q38 := eq_true q38
   refine start_ (n := 9) (S := fun w' => True) (ds := []) (yx 0 9) (by kernel_rfl) rfl rfl trivial (fun hHeld => ?_); refine with_tabW spec_l5Put.tab7 spec_l5Put.bits7 (fun HT_ HW_ => ?_)
   generalize w36.drew = w37 at HO_0 HO292 HR289 HK HB HR299 hHeld ⊢
   refine pu_ 0 (some 39) (yx 1 8) ?_
   refine pu_ 1 (some 40) (yx 2 7) ?_
   refine pu_ 4 (some 43) (bs "YYXXYXXXX") ?_
   refine pu_ 5 (some 44) (bs "YYXXYYXXX") ?_
   refine pu_ 6 (some 45) (bs "YYXXYYYXX") ?_
   refine one_ (i := 2) (N := some 41) (bs "YYYXYYYXX") rfl rfl (one_of HT_.out (by kernel_rfl)) (by decide) (fun K hK => ?_)
   refine value_ (w1 := ?_) (v := ?_) (by rfl) rfl ?_ ?_
   rotate_left 2
   {
   go_simp
   constructor
   {
   rfl
   }
   {
   rfl
   }
   }
   refine hK.out _ _ trivial (fun hHeld => ?_)
   clear hK K
   refine norm_ (nz_ 41) ?_
   refine one_ (i := 3) (N := some 42) (yx 7 2) rfl rfl (one_of HT_.out (by kernel_rfl)) (by decide) (fun K hK => ?_)
   refine Kd.R_append_step (Kd.int .i64) (w0 := w0) w0.heap.size (by rfl) (.tmp 39) (.tmp 41) 54 2 (.int .i64 0) 8 rfl Try.underlying54 info2 rfl (by decide) (by omega) v291 y290 a1 [.int .i64 a1] (fun k_ => (P0_ k_ ∨ w.heap.size ≤ k_) ∧ some k_ ≠ (.slice Ao32 l0.length co32 : Value).ownBlock) (fun _ => False) rfl rfl ?aP (fun _ hk => hk.elim) ?aF ?aO ?aB ?aS ?aL ?_
   (case aP => exact rfl)
   (case aB => exact z117b)
   (case aF => exact (fun k_ hk => ⟨(.inr (Nat.le_trans z117f hk)), Kd.fresh' (Kd.R_lt z117a) k_ hk⟩))
   (case aO => exact (by (with_reducible repeat (first | apply Kd.R_alloc | apply Kd.R_drewN | apply Kd.R_drew)); exact HO292.out))
   (case aS => exact (below_size z117b))
   (case aL => have := LMc28.out; omega)
   intro v294 w39 ho hb hg hat
   rw [← Ny293.out] at ho
   have n0_ := A_ (Kd.R_after (ok := (fun k_ => (P0_ k_ ∨ w.heap.size ≤ k_))) z117a hg hat)
   have n1_ := A_ (hb)
   have n2_ := A_ (Kept.of_grown (S := (fun k_ => P0_ k_)) hg z117c (fun k_ e_ => (HO292.out.1 k_ e_).1))
   have n3_ := A_ ((show Kd.C (Kd.int .i64) w39 Ao32 y286.length y286 from (by rw [Ny286.out]; exact Kd.C_take (m := (x5_1 : Int).toNat) ((Kd.R_reads' (Kd.R_after (ok := (fun k_ => (P0_ k_ ∨ w.heap.size ≤ k_))) z117a hg hat)).2.2) KL35.out)))
   have n4_ := A_ ((show Kd.C (Kd.int .i64) w39 A38 y296.length y296 from (by rw [Ny296.out, KA38.out]; exact Kd.C_drop (m := (x5_1 : Int).toNat) (c := co32) ((Kd.R_reads' (Kd.R_after (ok := (fun k_ => (P0_ k_ ∨ w.heap.size ≤ k_))) z117a hg hat)).2.2) KL38.out ((Kd.R_reads' (Kd.R_after (ok := (fun k_ => (P0_ k_ ∨ w.heap.size ≤ k_))) z117a hg hat)).2.1))))
   have n5_ := A_ (ho)
   clear HO_0
   clear HB
   clear HK
   clear HR289
   clear HR299
   clear HO292
   have HO_0 := n0_
   have HB := n1_
   have HK := n2_
   have HR289 := n3_
   have HR299 := n4_
   have HO295 := n5_
   clear n0_ n1_ n2_ n3_ n4_ n5_
   clear ho hb hg hat
   refine hK.out _ _ trivial (fun hHeld => ?_)
   clear hK K
   refine norm_ (nz_ 42) ?_
   refine one_ (i := 7) (N := some 46) (yx 8 1) rfl rfl (one_of HT_.out (by kernel_rfl)) (by decide) (fun K hK => ?_)
   refine Kd.R_append_rows_step (Kd.int .i64) (w0 := w0) w0.heap.size (by rfl) (.tmp 42) (.tmp 45) 54 2 (.int .i64 0) 8 rfl Try.underlying54 info2 rfl (by decide) (by omega) v294 y293 y296 _ _ _ (fun k_ => (P0_ k_ ∨ w.heap.size ≤ k_) ∧ some k_ ≠ (.slice Ao32 l0.length co32 : Value).ownBlock) (fun _ => False) rfl rfl ?aO ?aR (fun _ _ h => h) (fun _ h => h.elim) ?aF ?aB ?aS ?aL ?_
   (case aR => repeat (first | exact (by repeat (first | (with_reducible exact HR299.out) | (with_reducible refine Kd.C_alloc ?_ _) | (with_reducible refine Kd.C_drewN ?_ _) | (with_reducible refine Kd.C_drew ?_) | exact HR299.out)) | (with_reducible refine Kd.C_alloc ?_ _) | (with_reducible refine Kd.C_drewN ?_ _) | (with_reducible refine Kd.C_drew ?_)))
   (case aB => exact z117b)
   (case aF => exact (fun k_ hk => ⟨(.inr (Nat.le_trans z117f hk)), Kd.fresh' (Kd.R_lt z117a) k_ hk⟩))
   (case aO => exact (by (with_reducible repeat (first | apply Kd.R_alloc | apply Kd.R_drewN | apply Kd.R_drew)); exact HO295.out))
   (case aS => exact (below_size z117b))
   (case aL => have := LMc31.out; omega)
   intro v301 w40 ho hb hg hat
   rw [← Ny300.out] at ho
   have n0_ := A_ (Kd.R_after (ok := (fun k_ => (P0_ k_ ∨ w.heap.size ≤ k_))) z117a hg hat)
   have n1_ := A_ (hb)
   have n2_ := A_ (Kept.of_grown (S := (fun k_ => P0_ k_)) hg z117c (fun k_ e_ => (HO295.out.1 k_ e_).1))
   have n3_ := A_ ((show Kd.C (Kd.int .i64) w40 Ao32 y286.length y286 from (by rw [Ny286.out]; exact Kd.C_take (m := (x5_1 : Int).toNat) ((Kd.R_reads' (Kd.R_after (ok := (fun k_ => (P0_ k_ ∨ w.heap.size ≤ k_))) z117a hg hat)).2.2) KL35.out)))
   have n4_ := A_ ((show Kd.C (Kd.int .i64) w40 A38 y296.length y296 from (by rw [Ny296.out, KA38.out]; exact Kd.C_drop (m := (x5_1 : Int).toNat) (c := co32) ((Kd.R_reads' (Kd.R_after (ok := (fun k_ => (P0_ k_ ∨ w.heap.size ≤ k_))) z117a hg hat)).2.2) KL38.out ((Kd.R_reads' (Kd.R_after (ok := (fun k_ => (P0_ k_ ∨ w.heap.size ≤ k_))) z117a hg hat)).2.1))))
   have n5_ := A_ (ho)
   clear HO_0
   clear HB
   clear HK
   clear HR289
   clear HR299
   clear HO295
   have HO_0 := n0_
   have HB := n1_
   have HK := n2_
   have HR289 := n3_
   have HR299 := n4_
   have HO302 := n5_
   clear n0_ n1_ n2_ n3_ n4_ n5_
   clear ho hb hg hat
   refine hK.out _ _ trivial (fun hHeld => ?_)
   clear hK K
   refine norm_ (nz_ 46) ?_
   refine pu_ 8 (some 4) (yx 9 0) ?_
   refine done_ (done_of HT_.out (by kernel_rfl)) ?_
   try go_wp2
   go_ret
   exact ⟨_, by first | rfl | (simp [errW_none, errW_some] <;> rfl) | (simp [*, errW_none, errW_some] <;> rfl), by (with_reducible repeat (first | apply Kd.R_alloc | apply Kd.R_drewN | apply Kd.R_drew)); exact Kd.R_mono HO302.out (fun _ hk => hk.1), by repeat (first | (with_reducible first | exact HB.out | apply below_alloc | apply pw_below_drewN | apply below_drew1) | exact HB.out), by repeat (first | (with_reducible first | exact HK.out | apply Kept.alloc | apply Kept.drewN | apply Kept.drew) | exact HK.out)⟩
   }
   {
   rw [if_neg c31] at H
   exact absurd H (by simp)
   }
   }
   {
   rw [if_neg c28] at H
   exact absurd H (by simp)
   }
   }
   {
   rw [if_neg c27] at H
   exact absurd H (by simp)
   }
   }
   {
   rw [if_neg c26] at H
   exact absurd H (by simp)
   }
   }
   {
   rw [if_neg c25] at H
   exact absurd H (by simp)
   
   }
   }
def spec_Digest.l0 : Nat → ByteArray → Int → Int → Option (Int)
 | 0, _, _, _ => none
 | k + 1, x0, x3, x4 => if x4 < (x0.size : Int) then (if 0 ≤ x4 then (spec_Digest.l0 k x0 (Int.tmod (wrap64 ((wrap64 ((wrap64 (x3 * 1000003)) + (wrap64 (bt x0 x4)))) + 1)) 2147483647) (wrap64 (x4 + 1))) else (none)) else (some x3)
def spec_Digest.f (k : Nat) (a0 : ByteArray) : Option (Int) := spec_Digest.l0 k a0 1 0
set_option maxHeartbeats 8000000 in
set_option maxRecDepth 100000 in
theorem spec_Digest.calls (k : Nat) (a0 : ByteArray) (r : Int) (w : World) (h : spec_Digest.f k a0 = some r) :
  Calls Try.prog 120 #[.string a0] w fun e w' => e = .returned (.int .i64 r) ∧ Drawn0 w w' := by
 have H : (spec_Digest.l0 k a0 1 0) = some r := h
 clear h
 have H' := A_ H
 clear H
 go_enter Try.func120, Try.ntmps120
 go_wp2
 go_loopg [3, 4] k (fun kq v3 v4 w' => ∃ (x3_1 : Int) (x4_1 : Int), v3 = .int .i64 x3_1 ∧ v4 = .int .i64 x4_1 ∧ Aside0 (spec_Digest.l0 kq a0 x3_1 x4_1 = some r) ∧ Aside0 (kq ≤ k) ∧ Drawn0 w w')
 case atStart => exact ⟨(1), (0), (by first | rfl | (simp; done) | (simp [*]; done)), (by first | rfl | (simp; done) | (simp [*]; done)), H', ⟨Nat.le_refl _⟩, by repeat (first | exact Drawn0.refl _ | apply Drawn0.step)⟩
 case round =>
  clear H'
  try clear c1
  obtain ⟨x3_1, x4_1, rfl, rfl, HA, HK1, ⟨m1, rfl⟩⟩ := hrel
  cases gk with
  | zero => exact absurd HA.out (by simp [spec_Digest.l0])
  | succ k1 =>
   have H := HA.out
   clear HA
   simp only [spec_Digest.l0] at H
   by_cases c2 : x4_1 < (a0.size : Int)
   {
   rw [if_pos c2] at H
   have c2b0 : decide (x4_1 < (a0.size : Int)) = true := decide_eq_true c2
   clear c2
   by_cases c3 : 0 ≤ x4_1
   {
   rw [if_pos c3] at H
   have c3b0 : decide (0 ≤ x4_1) = true := decide_eq_true c3
   clear c3
   have H' := A_ H
   clear H
   have p4 : 0 ≤ (x4_1 : Int) := of_decide_eq_true (by first | (with_reducible assumption) | assumption)
   have q4 : x4_1 < (a0.size : Int) := of_decide_eq_true (by first | (with_reducible assumption) | assumption)
   have hx4 := bt_at a0 x4_1
   replace p4 := eq_true p4
   replace q4 := eq_true q4
   go_wp2
   go_roundg k1
   case measure => have := HK1.out; omega
   case rel => exact ⟨(Int.tmod (wrap64 ((wrap64 ((wrap64 (x3_1 * 1000003)) + (wrap64 (bt a0 x4_1)))) + 1)) 2147483647), (wrap64 (x4_1 + 1)), (by first | rfl | (simp; done) | (simp [*]; done)), (by first | rfl | (simp; done) | (simp [*]; done)), H', ⟨by have := HK1.out; omega⟩, by repeat (first | exact Drawn0.refl _ | apply Drawn0.step)⟩
   }
   {
   rw [if_neg c3] at H
   exact absurd H (by simp)
   }
   }
   {
   rw [if_neg c2] at H
   have c2b0 : decide (x4_1 < (a0.size : Int)) = false := decide_eq_false c2
   clear c2
   obtain rfl := Option.some.inj H
   go_wp2
   go_ret
   exact ⟨by first | rfl | (simp; done) | (simp [*]; done), by repeat (first | exact Drawn0.refl _ | apply Drawn0.step)⟩
   
   }
def spec_l5Marks.f (k : Nat) (a0 : ByteArray) : Option (List Int) := (spec_Digest.f k a0).bind fun t303 => (if a0.size + 1 ≤ 9223372036854775807 then ((spec_Digest.f k (a0 ++ (⟨#[42]⟩ : ByteArray))).bind fun t307 => ((spec_l5Put.f k (([Int.tmod t303 256] : List Int)) (Int.tmod t307 256)).bind fun t308 => (some t308))) else (none))
set_option maxHeartbeats 8000000 in
set_option maxRecDepth 100000 in
theorem spec_l5Marks.calls (k : Nat) (a0 : ByteArray) (r : List Int) (w : World) (h : spec_l5Marks.f k a0 = some r) :
  Calls Try.prog 89 #[.string a0] w fun e w' => ∃ v0_ : Value, e = .returned (v0_) ∧ Kd.R (Kd.int .i64) 2 w' w.heap.size (fun _ => True) v0_ r ∧ Below w.heap.size w w' := by
 have HB := A_ (Below.refl w.heap.size w)
 have H : ((spec_Digest.f k a0).bind fun t303 => (if a0.size + 1 ≤ 9223372036854775807 then ((spec_Digest.f k (a0 ++ (⟨#[42]⟩ : ByteArray))).bind fun t307 => ((spec_l5Put.f k (([Int.tmod t303 256] : List Int)) (Int.tmod t307 256)).bind fun t308 => (some t308))) else (none))) = some r := h
 clear h
 replace H := Option.bind_eq_some_iff.mp H
 obtain ⟨t303, A20, H⟩ := H
 (try dsimp only at H)
 have A2 := A_ A20
 clear A20
 obtain ⟨y304, hy304⟩ : ∃ y_ : List Int, y_ = (([Int.tmod t303 256] : List Int)) := ⟨_, rfl⟩
 replace H : (if a0.size + 1 ≤ 9223372036854775807 then ((spec_Digest.f k (a0 ++ (⟨#[42]⟩ : ByteArray))).bind fun t307 => ((spec_l5Put.f k y304 (Int.tmod t307 256)).bind fun t308 => (some t308))) else (none)) = some r := by first | (rw [hy304]; with_reducible exact H) | (have H2_ := (Option.bind_some _ _).symm.trans H; rw [hy304]; with_reducible exact H2_) | (have H2_ := (Option.bind_some _ _).symm.trans H; with_reducible exact H2_) | with_reducible exact H | (rw [hy304]; exact H) | exact H
 have Ny304 := A_ hy304
 clear hy304
 by_cases c3 : a0.size + 1 ≤ 9223372036854775807
 {
 rw [if_pos c3] at H
 have c3b0 := eq_true c3
 have c3b1 : decide (a0.size + 1 ≤ 9223372036854775807) = true := decide_eq_true c3
 try have c3b2 : (9223372036854775807 < a0.size + 1) = False := eq_false (Nat.not_lt.2 c3)
 replace H := Option.bind_eq_some_iff.mp H
 obtain ⟨t307, A40, H⟩ := H
 (try dsimp only at H)
 have A4 := A_ A40
 clear A40
 replace H := Option.bind_eq_some_iff.mp H
 obtain ⟨t308, A50, H⟩ := H
 (try dsimp only at H)
 have A5 := A_ A50
 clear A50
 obtain rfl := Option.some.inj H
 go_enter Try.func89, Try.ntmps89
 go_wp2_with (first | ((with_reducible refine gate_callee (f := 120) rfl ?_); refine goesL_ (some 4) rfl rfl Try.func120 (by kernel_rfl) rfl #[.string a0] rfl (by (try simp only [List.map_toArray, List.map_cons, List.map_nil]); first | done | rfl | (simp only [List.length_drop, List.length_take]; rfl)) ?_; (with_reducible refine (spec_Digest.calls k a0 t303 _ A2.out).mono ?_); rintro e w' ⟨rfl, ⟨nd, rfl⟩⟩; refine ⟨_, rfl, ?_⟩) | ((with_reducible refine gate_dst (N := 6) rfl ?_); refine Kd.R_lit (Kd.int .i64) _ 2 ?hg (N := 6) ?hd (xs := ([Int.tmod t303 256] : List Int)) (inner := [.int .i64 (Int.tmod t303 256)]) (ok := fun _ => True) (okp := fun _ => True) ?hr ?hp (fun _ hk => hk) trivial (Below.refl _ _) (Nat.le_refl _) (by simp) ?_; (case hd => rfl); (case hg => rfl); (case hr => first | (go_simp; done) | (go_simp; rfl)); (case hp => exact (Reps.one (show Kd.M (Kd.int .i64) _ _ _ (Int.tmod t303 256) [.int .i64 (Int.tmod t303 256)] from rfl) (Reps.none _ _))); intro v305 w6 ho7 hb hg_ hnew_; clear hg_ hnew_; (first | rw [← Ny304.out] at ho7 | (simp only [Int.reduceToNat] at ho7; rw [← Ny304.out] at ho7)); have n0_ := A_ (Kd.R_lower ho7 (below_size (by repeat (first | (with_reducible first | exact HB.out | apply below_alloc | apply pw_below_drewN | apply below_drew1) | exact HB.out)))); have n1_ := A_ (below_step (by repeat (first | (with_reducible first | exact HB.out | apply below_alloc | apply pw_below_drewN | apply below_drew1) | exact HB.out)) hb); clear HB; have HO306 := n0_; have HB := n1_; clear n0_ n1_; clear hb ho7) | ((with_reducible refine gate_callee (f := 120) rfl ?_); refine goesL_ (some 9) rfl rfl Try.func120 (by kernel_rfl) rfl #[.string (a0 ++ (⟨#[42]⟩ : ByteArray))] rfl (by (try simp only [List.map_toArray, List.map_cons, List.map_nil]); first | done | rfl | (simp only [List.length_drop, List.length_take]; rfl)) ?_; (with_reducible refine (spec_Digest.calls k (a0 ++ (⟨#[42]⟩ : ByteArray)) t307 _ A4.out).mono ?_); rintro e w' ⟨rfl, ⟨nd, rfl⟩⟩; refine ⟨_, rfl, ?_⟩; obtain ⟨Ao8, co8, eo8⟩ := Kd.R_slice HO306.out; subst eo8) | ((with_reducible refine gate_callee (f := 117) rfl ?_); refine goesL_ (some 11) rfl rfl Try.func117 (by kernel_rfl) rfl #[.slice Ao8 y304.length co8, .int .i64 (Int.tmod t307 256)] rfl (by (try simp only [List.map_toArray, List.map_cons, List.map_nil]); first | done | rfl | (simp only [List.length_drop, List.length_take]; rfl)) ?_; (with_reducible refine (spec_l5Put.calls k (fun k_ => some k_ = (.slice Ao8 y304.length co8 : Value).ownBlock) (.slice Ao8 y304.length co8) y304 (Int.tmod t307 256) t308 w _ ?side1 ?side2 A5.out).mono ?_); (case side1 => exact (by repeat (first | (with_reducible first | exact HB.out | apply below_alloc | apply pw_below_drewN | apply below_drew1) | exact HB.out))); (case side2 => exact Kd.R_tight rfl HO306.out); rintro e w9 ⟨v309, rfl, ho0, hb, hkp⟩; refine ⟨_, rfl, ?_⟩; have n0_ := A_ (Kd.R_mono (ok' := fun k_ => True) ho0 (fun k_ hk_ => trivial)); have n1_ := A_ (hb); clear HB; clear HO306; have HO310 := n0_; have HB := n1_; clear n0_ n1_; (try clear hkp)))
 go_ret
 exact ⟨_, by first | rfl | (simp [errW_none, errW_some] <;> rfl) | (simp [*, errW_none, errW_some] <;> rfl), by (with_reducible repeat (first | apply Kd.R_alloc | apply Kd.R_drewN | apply Kd.R_drew)); exact HO310.out, by repeat (first | (with_reducible first | exact HB.out | apply below_alloc | apply pw_below_drewN | apply below_drew1) | exact HB.out)⟩
 }
 {
 rw [if_neg c3] at H
 exact absurd H (by simp)
 
 }
end Go.Proofs.Ytaiggfjkikfcbaa.PFnExactMay

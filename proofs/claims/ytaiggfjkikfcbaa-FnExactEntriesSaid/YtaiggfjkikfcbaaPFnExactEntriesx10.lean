-- by a program of this session (wip/print/run.py) for this claim
import Derived.Test.YtaiggfjkikfcbaaLibPu
import Derived.Test.YtaiggfjkikfcbaaPFnExactEntriesx0
namespace Go.Proofs.Ytaiggfjkikfcbaa.PFnExactEntries
open Go.Proofs.Ytaiggfjkikfcbaa.Lib Go.RowKit Go.Proofs.YtaiggfjkikfcbaaW.PrintWords Go.Proofs.YtaiggfjkikfcbaaW.PrintLast Go.Proofs.YtaiggfjkikfcbaaW.PrintMore
attribute [local go_sem] max2_int min2_int max_two min_two max_three min_three max_four min_four   -- for this text's walks alone
set_option linter.unusedVariables false
set_option linter.unusedSimpArgs false

theorem z117f {p_ : Prop} (h_ : p_ := by first | exact HK.out.1 | exact (show Kept w _ (fun k_ => P0_ k_) from zg3).1) : p_ := h_
def spec_l5Put.l0 : Nat → List Int → Int → Int → Option (List Int)
 | 0, _, _, _ => none
 | k + 1, x0, x1, x5 => if x5 < (x0.length : Int) then (if 0 ≤ x5 then (if (rd x0 x5) < x1 then (spec_l5Put.l0 k x0 x1 (wrap64 (x5 + 1))) else (if (rd x0 x5) = x1 then (some x0) else ((some (([] : List Int) : List Int)).bind fun y291 => (if x5 ≤ (x0.length : Int) then ((some (x0.take (x5 : Int).toNat : List Int)).bind fun y294 => (if y291.length + y294.length < 17592186044416 then ((some (y291 ++ y294 : List Int)).bind fun y298 => (if y298.length < 17592186044416 then ((some (y298 ++ [x1] : List Int)).bind fun y301 => ((some (x0.drop (x5 : Int).toNat : List Int)).bind fun y304 => (if y301.length + y304.length < 17592186044416 then (some (y301 ++ y304)) else (none)))) else (none))) else (none))) else (none))))) else (none)) else ((some (([] : List Int) : List Int)).bind fun y311 => (if 0 ≤ x5 then (if x5 ≤ (x0.length : Int) then ((some (x0.take (x5 : Int).toNat : List Int)).bind fun y314 => (if y311.length + y314.length < 17592186044416 then ((some (y311 ++ y314 : List Int)).bind fun y318 => (if y318.length < 17592186044416 then ((some (y318 ++ [x1] : List Int)).bind fun y321 => ((some (x0.drop (x5 : Int).toNat : List Int)).bind fun y324 => (if y321.length + y324.length < 17592186044416 then (some (y321 ++ y324)) else (none)))) else (none))) else (none))) else (none)) else (none)))
def spec_l5Put.f (k : Nat) (l0 : List Int) (a1 : Int) : Option (List Int) := spec_l5Put.l0 k l0 a1 0
def spec_l5Put.T7 : Bool × List (List Nat × List Nat) := (true, [([], []), ([], []), ([1], [1]), ([0, 2], [0, 2]), ([], []), ([], []), ([4, 5], [4, 5]), ([3, 6, 3], [3, 6]), ([7, 7, 0, 1, 2, 3, 4, 5, 6, 7], [7])])
def spec_l5Put.B7 : List Nat := [0, 0, 2, 7, 0, 0, 48, 127, 255]
theorem spec_l5Put.tab7 : rtab .any (opsOf Try.f117 7) = spec_l5Put.T7 := by kernel_rfl
theorem spec_l5Put.bits7 : waitsOk spec_l5Put.T7.2 spec_l5Put.B7 = true := by kernel_rfl
set_option maxHeartbeats 8000000 in
set_option maxRecDepth 100000 in
theorem spec_l5Put.calls (k : Nat) (P0_ : Nat → Prop) (u9000_ : Value) (l0 : List Int) (a1 : Int) (r : List Int) (w0 w : World) (hB : Below w0.heap.size w0 w) (ho0 : Kd.R (Kd.int .i64) 2 w w0.heap.size P0_ u9000_ l0) (h : spec_l5Put.f k l0 a1 = some r) :
  Calls Try.prog 117 #[u9000_, .int .i64 a1] w fun e w' => ∃ v0_ : Value, e = .returned (v0_) ∧ Kd.R (Kd.int .i64) 2 w' w0.heap.size (fun k_ => (P0_ k_ ∨ w.heap.size ≤ k_)) v0_ r ∧ Below w0.heap.size w0 w' ∧ Kept w w' (fun k_ => P0_ k_) := by
 have HO0 := A_ (show Kd.R (Kd.int .i64) 2 w w0.heap.size (fun k_ => (P0_ k_ ∨ w.heap.size ≤ k_)) u9000_ l0 from Kd.R_mono ho0 (fun k_ hk => (.inl hk)))
 have HK := A_ (Kept.refl w (fun k_ => P0_ k_))
 have HW0 := A_ hB.size
 have HB := A_ hB
 clear hB
 have H : (spec_l5Put.l0 k l0 a1 0) = some r := h
 clear h
 have H' := A_ H
 clear H
 go_enter Try.func117, Try.ntmps117
 go_wp2
 go_loopg [5] k (fun kq v5 w' => ∃ (x5_1 : Int), v5 = .int .i64 x5_1 ∧ Aside0 (spec_l5Put.l0 kq l0 a1 x5_1 = some r) ∧ Aside0 (kq ≤ k) ∧ Aside0 (Kd.R (Kd.int .i64) 2 w' w0.heap.size (fun k_ => (P0_ k_ ∨ w.heap.size ≤ k_)) u9000_ l0) ∧ Aside0 (Kept w w' (fun k_ => P0_ k_)) ∧ Aside0 (Below w0.heap.size w0 w'))
 case atStart => exact ⟨(0), (zs), H', ⟨Nat.le_refl _⟩, ⟨by (with_reducible repeat (first | apply Kd.R_alloc | apply Kd.R_drewN | apply Kd.R_drew)); exact HO0.out⟩, ⟨zg3⟩, ⟨zg0⟩⟩
 case round =>
  clear H'
  try clear c1
  try clear p2
  obtain ⟨x5_1, rfl, HA, HK1, HO_0, HK, HB⟩ := hrel
  cases gk with
  | zero => exact absurd HA.out (by simp [spec_l5Put.l0])
  | succ k1 =>
   have H := HA.out
   clear HA
   simp only [spec_l5Put.l0] at H
   by_cases c3 : x5_1 < (l0.length : Int)
   {
   rw [if_pos c3] at H
   have c3b0 : decide (x5_1 < (l0.length : Int)) = true := decide_eq_true c3
   clear c3
   by_cases c4 : 0 ≤ x5_1
   {
   rw [if_pos c4] at H
   have c4b0 : decide (0 ≤ x5_1) = true := decide_eq_true c4
   clear c4
   by_cases c5 : (rd l0 x5_1) < a1
   {
   rw [if_pos c5] at H
   have c5b0 : decide ((rd l0 x5_1) < a1) = true := decide_eq_true c5
   clear c5
   have H' := A_ H
   clear H
   obtain ⟨Ao6, co6, eo6⟩ := Kd.R_slice HO_0.out
   subst eo6
   have p289 : 0 ≤ (x5_1 : Int) := of_decide_eq_true zg2
   have q289 : x5_1 < (l0.length : Int) := of_decide_eq_true zg2
   obtain ⟨ad289, e289, hx289_0⟩ := Kd.at_int (Kd.R_reads' HO_0.out).2.2 x5_1 p289 q289
   cases e289
   replace p289 := eq_true p289
   replace q289 := eq_true q289
   go_wp2
   go_roundg k1
   case measure => have := HK1.out; omega
   case rel => exact ⟨(wrap64 (x5_1 + 1)), (zs), H', ⟨by have := HK1.out; omega⟩, ⟨by (with_reducible repeat (first | apply Kd.R_alloc | apply Kd.R_drewN | apply Kd.R_drew)); exact HO_0.out⟩, ⟨zg3⟩, ⟨zg0⟩⟩
   }
   {
   rw [if_neg c5] at H
   have c5b0 : decide ((rd l0 x5_1) < a1) = false := decide_eq_false c5
   clear c5
   by_cases c7 : (rd l0 x5_1) = a1
   {
   rw [if_pos c7] at H
   have c7b0 : ((rd l0 x5_1) == a1) = true := beq_iff_eq.mpr c7
   have c7b1 : ((rd l0 x5_1) != a1) = false := bne_eq_false_iff_eq.mpr c7
   clear c7
   obtain rfl := Option.some.inj H
   obtain ⟨Ao8, co8, eo8⟩ := Kd.R_slice HO_0.out
   subst eo8
   have p289 : 0 ≤ (x5_1 : Int) := of_decide_eq_true zg2
   have q289 : x5_1 < (l0.length : Int) := of_decide_eq_true zg2
   obtain ⟨ad289, e289, hx289_0⟩ := Kd.at_int (Kd.R_reads' HO_0.out).2.2 x5_1 p289 q289
   cases e289
   replace p289 := eq_true p289
   replace q289 := eq_true q289
   have p290 : 0 ≤ (x5_1 : Int) := of_decide_eq_true zg2
   have q290 : x5_1 < (l0.length : Int) := of_decide_eq_true zg2
   obtain ⟨ad290, e290, hx290_0⟩ := Kd.at_int (Kd.R_reads' HO_0.out).2.2 x5_1 p290 q290
   obtain rfl : ad289 = ad290 := (by injection e290)
   replace p290 := eq_true p290
   replace q290 := eq_true q290
   go_wp2
   go_ret
   exact ⟨_, zr, by (with_reducible repeat (first | apply Kd.R_alloc | apply Kd.R_drewN | apply Kd.R_drew)); exact HO_0.out, by repeat (first | (with_reducible first | exact HB.out | apply below_alloc | apply pw_below_drewN | apply below_drew1) | exact HB.out), zg3⟩
   }
   {
   rw [if_neg c7] at H
   have c7b0 : ((rd l0 x5_1) == a1) = false := beq_eq_false_iff_ne.mpr c7
   have c7b1 : ((rd l0 x5_1) != a1) = true := bne_iff_ne.mpr c7
   obtain ⟨y291, hy291⟩ : ∃ y_ : List Int, y_ = (([] : List Int)) := ⟨_, rfl⟩
   replace H : (if x5_1 ≤ (l0.length : Int) then ((some (l0.take (x5_1 : Int).toNat : List Int)).bind fun y294 => (if y291.length + y294.length < 17592186044416 then ((some (y291 ++ y294 : List Int)).bind fun y298 => (if y298.length < 17592186044416 then ((some (y298 ++ [a1] : List Int)).bind fun y301 => ((some (l0.drop (x5_1 : Int).toNat : List Int)).bind fun y304 => (if y301.length + y304.length < 17592186044416 then (some (y301 ++ y304)) else (none)))) else (none))) else (none))) else (none)) = some r := by first | (rw [hy291]; with_reducible exact H) | (have H2_ := (Option.bind_some _ _).symm.trans H; rw [hy291]; with_reducible exact H2_) | (have H2_ := (Option.bind_some _ _).symm.trans H; with_reducible exact H2_) | with_reducible exact H | (rw [hy291]; exact H) | exact H
   have Ny291 := A_ hy291
   clear hy291
   have c9b0 := eq_true (of_decide_eq_true zg2 : 0 ≤ x5_1)
   by_cases c10 : x5_1 ≤ (l0.length : Int)
   {
   rw [if_pos c10] at H
   have c10b0 := eq_true c10
   have c10b1 : decide (x5_1 ≤ (l0.length : Int)) = true := decide_eq_true c10
   clear c10
   obtain ⟨y294, hy294⟩ : ∃ y_ : List Int, y_ = (l0.take (x5_1 : Int).toNat) := ⟨_, rfl⟩
   replace H : (if y291.length + y294.length < 17592186044416 then ((some (y291 ++ y294 : List Int)).bind fun y298 => (if y298.length < 17592186044416 then ((some (y298 ++ [a1] : List Int)).bind fun y301 => ((some (l0.drop (x5_1 : Int).toNat : List Int)).bind fun y304 => (if y301.length + y304.length < 17592186044416 then (some (y301 ++ y304)) else (none)))) else (none))) else (none)) = some r := by first | (rw [hy294]; with_reducible exact H) | (have H2_ := (Option.bind_some _ _).symm.trans H; rw [hy294]; with_reducible exact H2_) | (have H2_ := (Option.bind_some _ _).symm.trans H; with_reducible exact H2_) | with_reducible exact H | (rw [hy294]; exact H) | exact H
   have Ny294 := A_ hy294
   clear hy294
   by_cases c11 : y291.length + y294.length < 17592186044416
   {
   rw [if_pos c11] at H
   have LMc11 := A_ c11
   clear c11
   obtain ⟨y298, hy298⟩ : ∃ y_ : List Int, y_ = (y291 ++ y294) := ⟨_, rfl⟩
   replace H : (if y298.length < 17592186044416 then ((some (y298 ++ [a1] : List Int)).bind fun y301 => ((some (l0.drop (x5_1 : Int).toNat : List Int)).bind fun y304 => (if y301.length + y304.length < 17592186044416 then (some (y301 ++ y304)) else (none)))) else (none)) = some r := by first | (rw [hy298]; with_reducible exact H) | (have H2_ := (Option.bind_some _ _).symm.trans H; rw [hy298]; with_reducible exact H2_) | (have H2_ := (Option.bind_some _ _).symm.trans H; with_reducible exact H2_) | with_reducible exact H | (rw [hy298]; exact H) | exact H
   have Ny298 := A_ hy298
   clear hy298
   by_cases c12 : y298.length < 17592186044416
   {
   rw [if_pos c12] at H
   have LMc12 := A_ c12
   clear c12
   obtain ⟨y301, hy301⟩ : ∃ y_ : List Int, y_ = (y298 ++ [a1]) := ⟨_, rfl⟩
   replace H : ((some (l0.drop (x5_1 : Int).toNat : List Int)).bind fun y304 => (if y301.length + y304.length < 17592186044416 then (some (y301 ++ y304)) else (none))) = some r := by first | (rw [hy301]; with_reducible exact H) | (have H2_ := (Option.bind_some _ _).symm.trans H; rw [hy301]; with_reducible exact H2_) | (have H2_ := (Option.bind_some _ _).symm.trans H; with_reducible exact H2_) | with_reducible exact H | (rw [hy301]; exact H) | exact H
   have Ny301 := A_ hy301
   clear hy301
   have c13b0 := eq_true (of_decide_eq_true zg2 : 0 ≤ x5_1)
   have c14b0 := eq_true (of_decide_eq_true zg2 : x5_1 ≤ (l0.length : Int))
   obtain ⟨y304, hy304⟩ : ∃ y_ : List Int, y_ = (l0.drop (x5_1 : Int).toNat) := ⟨_, rfl⟩
   replace H : (if y301.length + y304.length < 17592186044416 then (some (y301 ++ y304)) else (none)) = some r := by first | (rw [hy304]; with_reducible exact H) | (have H2_ := (Option.bind_some _ _).symm.trans H; rw [hy304]; with_reducible exact H2_) | (have H2_ := (Option.bind_some _ _).symm.trans H; with_reducible exact H2_) | with_reducible exact H | (rw [hy304]; exact H) | exact H
   have Ny304 := A_ hy304
   clear hy304
   by_cases c15 : y301.length + y304.length < 17592186044416
   {
   rw [if_pos c15] at H
   have LMc15 := A_ c15
   clear c15
   obtain ⟨y308, hy308⟩ : ∃ y_ : List Int, y_ = (y301 ++ y304) := ⟨_, rfl⟩
   replace H : (some y308) = some r := by first | (rw [hy308]; with_reducible exact H) | (have H2_ := (Option.bind_some _ _).symm.trans H; rw [hy308]; with_reducible exact H2_) | (have H2_ := (Option.bind_some _ _).symm.trans H; with_reducible exact H2_) | with_reducible exact H | (rw [hy308]; exact H) | exact H
   have Ny308 := A_ hy308
   clear hy308
   obtain rfl := Option.some.inj H
   obtain ⟨Ao16, co16, eo16⟩ := Kd.R_slice HO_0.out
   subst eo16
   have p289 : 0 ≤ (x5_1 : Int) := of_decide_eq_true zg2
   have q289 : x5_1 < (l0.length : Int) := of_decide_eq_true zg2
   obtain ⟨ad289, e289, hx289_0⟩ := Kd.at_int (Kd.R_reads' HO_0.out).2.2 x5_1 p289 q289
   cases e289
   replace p289 := eq_true p289
   replace q289 := eq_true q289
   have p290 : 0 ≤ (x5_1 : Int) := of_decide_eq_true zg2
   have q290 : x5_1 < (l0.length : Int) := of_decide_eq_true zg2
   obtain ⟨ad290, e290, hx290_0⟩ := Kd.at_int (Kd.R_reads' HO_0.out).2.2 x5_1 p290 q290
   obtain rfl : ad289 = ad290 := (by injection e290)
   replace p290 := eq_true p290
   replace q290 := eq_true q290
   try go_wp2_with (first | ((with_reducible refine gate_dst (N := 34) rfl ?_); refine Kd.R_lit (Kd.int .i64) _ 2 ?hg (N := 34) ?hd (xs := ([] : List Int)) (inner := []) (ok := fun _ => True) (okp := fun _ => True) ?hr ?hp (fun _ hk => hk) trivial (Below.refl _ _) (Nat.le_refl _) (by simp) ?_; (case hd => rfl); (case hg => rfl); (case hr => first | (go_simp; done) | (go_simp; rfl)); (case hp => exact (Reps.none _ _)); intro v292 w17 ho18 hb hg_ hnew_; clear hg_ hnew_; (first | rw [← Ny291.out] at ho18 | (simp only [Int.reduceToNat] at ho18; rw [← Ny291.out] at ho18)); have n0_ := A_ (Kd.R_elder' zg4 (Kd.R_base ho18) hb); have n1_ := A_ (Kd.R_lower (Kd.R_new' (Kd.R_newM (M := fun k_ => (P0_ k_ ∨ w.heap.size ≤ k_)) ho18 z117f (fun k_ h_ => .inr h_)) (Kd.R_lt zg4)) (below_size zg0)); have n2_ := A_ (Kept.below (S := (fun k_ => P0_ k_)) zg3 hb); have n3_ := A_ (below_step zg0 hb); clear HO_0; clear HK; clear HB; have HO_0 := n0_; have HO293 := n1_; have HK := n2_; have HB := n3_; clear n0_ n1_ n2_ n3_; clear hb ho18; have q19 : (x5_1 : Int) ≤ ((l0.length : Int) : Int) := of_decide_eq_true zg2; obtain ⟨i019, hi019, _, hsz19, _⟩ := info_parts info2; have hroom19 : l0.length ≤ co16 := (Kd.R_reads' HO_0.out).2.1; have hC19 : Kd.C (Kd.int .i64) _ (some ad289) l0.length l0 := (Kd.R_reads' HO_0.out).2.2; have hcut19 := cut_to (P := Try.prog) 54 2 .i64 Try.underlying54 hi019 (some ad289) l0.length co16 x5_1 (of_decide_eq_true zg2) q19 hroom19; have hr19 := Kd.C_take (m := (x5_1 : Int).toNat) hC19 (by omega); have hy19 : y294.length = (x5_1 : Int).toNat := (by rw [Ny294.out, List.length_take]; omega); rw [← Ny294.out] at hr19; rw [← hy19] at hcut19; have HR297 := A_ hr19; have HC297 := A_ (show y294.length ≤ co16 from (by omega)); clear hr19 hC19 hroom19 hi019 hsz19; have KY19 := A_ hy19; clear hy19; have KL19 := A_ (show (x5_1 : Int).toNat ≤ l0.length from (by omega)); replace q19 := eq_true q19) | ((with_reducible refine gate_builtin (b := .append) (xs := #[.tmp 34, .tmp 37]) rfl ?_); at_builtin; refine Kd.R_append_rows (Kd.int .i64) (w0 := w0) w0.heap.size rfl (.tmp 34) (.tmp 37) 54 2 (.int .i64 0) 8 rfl Try.underlying54 info2 rfl (by decide) (by omega) v292 y291 y294 _ _ _ (fun k_ => (P0_ k_ ∨ w.heap.size ≤ k_) ∧ some k_ ≠ (.slice (some ad289) l0.length co16 : Value).ownBlock) (fun _ => False) rfl rfl ?aO ?aR (fun _ _ h => h) (fun _ h => h.elim) ?aF ?aB ?aS ?aL ?_; (case aR => repeat (first | exact (by repeat (first | (with_reducible exact HR297.out) | (with_reducible refine Kd.C_alloc ?_ _) | (with_reducible refine Kd.C_drewN ?_ _) | (with_reducible refine Kd.C_drew ?_) | exact HR297.out)) | (with_reducible refine Kd.C_alloc ?_ _) | (with_reducible refine Kd.C_drewN ?_ _) | (with_reducible refine Kd.C_drew ?_))); (case aB => exact zg0); (case aF => exact (fun k_ hk => ⟨(.inr (Nat.le_trans z117f hk)), Kd.fresh' (Kd.R_lt zg4) k_ hk⟩)); (case aO => exact (by (with_reducible repeat (first | apply Kd.R_alloc | apply Kd.R_drewN | apply Kd.R_drew)); exact Kd.R_mono HO293.out (fun _ hk => ⟨hk.1.1, hk.2⟩))); (case aS => exact (below_size zg0)); (case aL => have := LMc11.out; omega); intro v299 w20 ho hb hg hat; rw [← Ny298.out] at ho; have n0_ := A_ (Kd.R_after (ok := (fun k_ => (P0_ k_ ∨ w.heap.size ≤ k_))) zg4 hg hat); have n1_ := A_ (hb); have n2_ := A_ (Kept.of_grown (S := (fun k_ => P0_ k_)) hg zg3 (fun k_ e_ => (HO293.out.1 k_ e_).1.1)); have n3_ := A_ ((show Kd.C (Kd.int .i64) w20 (some ad289) y294.length y294 from (by rw [Ny294.out]; exact Kd.C_take (m := (x5_1 : Int).toNat) ((Kd.R_reads' (Kd.R_after (ok := (fun k_ => (P0_ k_ ∨ w.heap.size ≤ k_))) zg4 hg hat)).2.2) KL19.out))); have n4_ := A_ (ho); clear HO_0; clear HB; clear HK; clear HR297; clear HO293; have HO_0 := n0_; have HB := n1_; have HK := n2_; have HR297 := n3_; have HO300 := n4_; clear n0_ n1_ n2_ n3_ n4_; clear ho hb hg hat))
   replace HO_0 := A_ (Kd.R_drew HO_0.out)
   replace HO300 := A_ (Kd.R_drew HO300.out)
   replace HR297 := A_ (Kd.C_drew HR297.out)
   replace HK := A_ (Kept.drew HK.out)
   replace HB := A_ (below_drew1 HB.out)
   have q22 : (x5_1 : Int) ≤ ((l0.length : Int) : Int) := of_decide_eq_true zg2
   obtain ⟨i022, hi022, _, hsz22, _⟩ := info_parts info2
   have hroom22 : l0.length ≤ co16 := (Kd.R_reads' HO_0.out).2.1
   have hC22 : Kd.C (Kd.int .i64) _ (some ad289) l0.length l0 := (Kd.R_reads' HO_0.out).2.2
   have q022 : (0 : Int) ≤ (x5_1 : Int) := of_decide_eq_true zg2
   have hcut22 := cut_from (P := Try.prog) 54 2 .i64 Try.underlying54 hi022 1 hsz22 (some ad289) l0.length co16 x5_1 q022 q22
   have hr22 := Kd.C_drop (m := (x5_1 : Int).toNat) (c := co16) hC22 (by omega) hroom22
   obtain ⟨A22, hA22⟩ : ∃ A1, A1 = (if co16 = (x5_1 : Int).toNat then (some ad289) else ((some ad289) : Option Addr).map (·.add ((x5_1 : Int).toNat * 1))) := ⟨_, rfl⟩
   obtain ⟨c22, hc22⟩ : ∃ c1, c1 = co16 - (x5_1 : Int).toNat := ⟨_, rfl⟩
   have hy22 : y304.length = l0.length - (x5_1 : Int).toNat := (by rw [Ny304.out, List.length_drop] <;> omega)
   rw [show (l0).drop (x5_1 : Int).toNat = y304 from Ny304.out.symm] at hr22
   replace hr22 : Kd.C (Kd.int .i64) _ A22 y304.length y304 := (by rw [hA22]; exact hr22)
   rw [← hy22, ← hA22, ← hc22] at hcut22
   have HR307 := A_ hr22
   have HC307 := A_ (show y304.length ≤ c22 from (by rw [hy22, hc22]; exact Nat.sub_le_sub_right hroom22 _))
   clear hr22 hC22 hroom22 hi022 hsz22 hc22
   have KY22 := A_ hy22
   have KA22 := A_ hA22
   clear hy22 hA22
   have KL22 := A_ (show (x5_1 : Int).toNat ≤ l0.length from (by omega))
   replace q22 := eq_true q22
   refine start_ (n := 9) (S := fun w' => True) (ds := []) (yx 0 9) (by kernel_rfl) rfl rfl trivial (fun hHeld => ?_); refine with_tabW spec_l5Put.tab7 spec_l5Put.bits7 (fun HT_ HW_ => ?_)
   generalize w20.drew = w21 at HO_0 HO300 HR297 HK HB HR307 hHeld ⊢
   refine pu_ 0 (some 39) (yx 1 8) ?_
   refine pu_ 1 (some 40) (yx 2 7) ?_
   refine pu_ 4 (some 43) (bs "YYXXYXXXX") ?_
   refine pu_ 5 (some 44) (bs "YYXXYYXXX") ?_
   refine pu_ 6 (some 45) (bs "YYXXYYYXX") ?_
   refine one_ (i := 2) (N := some 41) (bs "YYYXYYYXX") rfl rfl (one_of HT_.out (by kernel_rfl)) (by decide) (fun K hK => ?_)
   refine value_ (w1 := ?_) (v := ?_) (by rfl) rfl ?_ ?_
   rotate_left 2
   {
   go_simp
   constructor
   {
   rfl
   }
   {
   rfl
   }
   }
   refine hK.out _ _ trivial (fun hHeld => ?_)
   clear hK K
   refine norm_ (nz_ 41) ?_
   refine one_ (i := 3) (N := some 42) (yx 7 2) rfl rfl (one_of HT_.out (by kernel_rfl)) (by decide) (fun K hK => ?_)
   refine Kd.R_append_step (Kd.int .i64) (w0 := w0) w0.heap.size (by rfl) (.tmp 39) (.tmp 41) 54 2 (.int .i64 0) 8 rfl Try.underlying54 info2 rfl (by decide) (by omega) v299 y298 a1 [.int .i64 a1] (fun k_ => (P0_ k_ ∨ w.heap.size ≤ k_) ∧ some k_ ≠ (.slice (some ad289) l0.length co16 : Value).ownBlock) (fun _ => False) rfl rfl ?aP (fun _ hk => hk.elim) ?aF ?aO ?aB ?aS ?aL ?_
   (case aP => exact rfl)
   (case aB => exact zg0)
   (case aF => exact (fun k_ hk => ⟨(.inr (Nat.le_trans z117f hk)), Kd.fresh' (Kd.R_lt zg4) k_ hk⟩))
   (case aO => exact (by (with_reducible repeat (first | apply Kd.R_alloc | apply Kd.R_drewN | apply Kd.R_drew)); exact HO300.out))
   (case aS => exact (below_size zg0))
   (case aL => have := LMc12.out; omega)
   intro v302 w23 ho hb hg hat
   rw [← Ny301.out] at ho
   have n0_ := A_ (Kd.R_after (ok := (fun k_ => (P0_ k_ ∨ w.heap.size ≤ k_))) zg4 hg hat)
   have n1_ := A_ (hb)
   have n2_ := A_ (Kept.of_grown (S := (fun k_ => P0_ k_)) hg zg3 (fun k_ e_ => (HO300.out.1 k_ e_).1))
   have n3_ := A_ ((show Kd.C (Kd.int .i64) w23 (some ad289) y294.length y294 from (by rw [Ny294.out]; exact Kd.C_take (m := (x5_1 : Int).toNat) ((Kd.R_reads' (Kd.R_after (ok := (fun k_ => (P0_ k_ ∨ w.heap.size ≤ k_))) zg4 hg hat)).2.2) KL19.out)))
   have n4_ := A_ ((show Kd.C (Kd.int .i64) w23 A22 y304.length y304 from (by rw [Ny304.out, KA22.out]; exact Kd.C_drop (m := (x5_1 : Int).toNat) (c := co16) ((Kd.R_reads' (Kd.R_after (ok := (fun k_ => (P0_ k_ ∨ w.heap.size ≤ k_))) zg4 hg hat)).2.2) KL22.out ((Kd.R_reads' (Kd.R_after (ok := (fun k_ => (P0_ k_ ∨ w.heap.size ≤ k_))) zg4 hg hat)).2.1))))
   have n5_ := A_ (ho)
   clear HO_0
   clear HB
   clear HK
   clear HR297
   clear HR307
   clear HO300
   have HO_0 := n0_
   have HB := n1_
   have HK := n2_
   have HR297 := n3_
   have HR307 := n4_
   have HO303 := n5_
   clear n0_ n1_ n2_ n3_ n4_ n5_
   clear ho hb hg hat
   refine hK.out _ _ trivial (fun hHeld => ?_)
   clear hK K
   refine norm_ (nz_ 42) ?_
   refine one_ (i := 7) (N := some 46) (yx 8 1) rfl rfl (one_of HT_.out (by kernel_rfl)) (by decide) (fun K hK => ?_)
   refine Kd.R_append_rows_step (Kd.int .i64) (w0 := w0) w0.heap.size (by rfl) (.tmp 42) (.tmp 45) 54 2 (.int .i64 0) 8 rfl Try.underlying54 info2 rfl (by decide) (by omega) v302 y301 y304 _ _ _ (fun k_ => (P0_ k_ ∨ w.heap.size ≤ k_) ∧ some k_ ≠ (.slice (some ad289) l0.length co16 : Value).ownBlock) (fun _ => False) rfl rfl ?aO ?aR (fun _ _ h => h) (fun _ h => h.elim) ?aF ?aB ?aS ?aL ?_
   (case aR => repeat (first | exact (by repeat (first | (with_reducible exact HR307.out) | (with_reducible refine Kd.C_alloc ?_ _) | (with_reducible refine Kd.C_drewN ?_ _) | (with_reducible refine Kd.C_drew ?_) | exact HR307.out)) | (with_reducible refine Kd.C_alloc ?_ _) | (with_reducible refine Kd.C_drewN ?_ _) | (with_reducible refine Kd.C_drew ?_)))
   (case aB => exact zg0)
   (case aF => exact (fun k_ hk => ⟨(.inr (Nat.le_trans z117f hk)), Kd.fresh' (Kd.R_lt zg4) k_ hk⟩))
   (case aO => exact (by (with_reducible repeat (first | apply Kd.R_alloc | apply Kd.R_drewN | apply Kd.R_drew)); exact HO303.out))
   (case aS => exact (below_size zg0))
   (case aL => have := LMc15.out; omega)
   intro v309 w24 ho hb hg hat
   rw [← Ny308.out] at ho
   have n0_ := A_ (Kd.R_after (ok := (fun k_ => (P0_ k_ ∨ w.heap.size ≤ k_))) zg4 hg hat)
   have n1_ := A_ (hb)
   have n2_ := A_ (Kept.of_grown (S := (fun k_ => P0_ k_)) hg zg3 (fun k_ e_ => (HO303.out.1 k_ e_).1))
   have n3_ := A_ ((show Kd.C (Kd.int .i64) w24 (some ad289) y294.length y294 from (by rw [Ny294.out]; exact Kd.C_take (m := (x5_1 : Int).toNat) ((Kd.R_reads' (Kd.R_after (ok := (fun k_ => (P0_ k_ ∨ w.heap.size ≤ k_))) zg4 hg hat)).2.2) KL19.out)))
   have n4_ := A_ ((show Kd.C (Kd.int .i64) w24 A22 y304.length y304 from (by rw [Ny304.out, KA22.out]; exact Kd.C_drop (m := (x5_1 : Int).toNat) (c := co16) ((Kd.R_reads' (Kd.R_after (ok := (fun k_ => (P0_ k_ ∨ w.heap.size ≤ k_))) zg4 hg hat)).2.2) KL22.out ((Kd.R_reads' (Kd.R_after (ok := (fun k_ => (P0_ k_ ∨ w.heap.size ≤ k_))) zg4 hg hat)).2.1))))
   have n5_ := A_ (ho)
   clear HO_0
   clear HB
   clear HK
   clear HR297
   clear HR307
   clear HO303
   have HO_0 := n0_
   have HB := n1_
   have HK := n2_
   have HR297 := n3_
   have HR307 := n4_
   have HO310 := n5_
   clear n0_ n1_ n2_ n3_ n4_ n5_
   clear ho hb hg hat
   refine hK.out _ _ trivial (fun hHeld => ?_)
   clear hK K
   refine norm_ (nz_ 46) ?_
   refine pu_ 8 (some 4) (yx 9 0) ?_
   refine done_ (done_of HT_.out (by kernel_rfl)) ?_
   try go_wp2
   go_ret
   exact ⟨_, zr, by (with_reducible repeat (first | apply Kd.R_alloc | apply Kd.R_drewN | apply Kd.R_drew)); exact Kd.R_mono HO310.out (fun _ hk => hk.1), by repeat (first | (with_reducible first | exact HB.out | apply below_alloc | apply pw_below_drewN | apply below_drew1) | exact HB.out), zg3⟩
   }
   {
   rw [if_neg c15] at H
   exact absurd H (by simp)
   }
   }
   {
   rw [if_neg c12] at H
   exact absurd H (by simp)
   }
   }
   {
   rw [if_neg c11] at H
   exact absurd H (by simp)
   }
   }
   {
   rw [if_neg c10] at H
   exact absurd H (by simp)
   }
   }
   }
   }
   {
   rw [if_neg c4] at H
   exact absurd H (by simp)
   }
   }
   {
   rw [if_neg c3] at H
   have c3b0 : decide (x5_1 < (l0.length : Int)) = false := decide_eq_false c3
   clear c3
   obtain ⟨y311, hy311⟩ : ∃ y_ : List Int, y_ = (([] : List Int)) := ⟨_, rfl⟩
   replace H : (if 0 ≤ x5_1 then (if x5_1 ≤ (l0.length : Int) then ((some (l0.take (x5_1 : Int).toNat : List Int)).bind fun y314 => (if y311.length + y314.length < 17592186044416 then ((some (y311 ++ y314 : List Int)).bind fun y318 => (if y318.length < 17592186044416 then ((some (y318 ++ [a1] : List Int)).bind fun y321 => ((some (l0.drop (x5_1 : Int).toNat : List Int)).bind fun y324 => (if y321.length + y324.length < 17592186044416 then (some (y321 ++ y324)) else (none)))) else (none))) else (none))) else (none)) else (none)) = some r := by first | (rw [hy311]; with_reducible exact H) | (have H2_ := (Option.bind_some _ _).symm.trans H; rw [hy311]; with_reducible exact H2_) | (have H2_ := (Option.bind_some _ _).symm.trans H; with_reducible exact H2_) | with_reducible exact H | (rw [hy311]; exact H) | exact H
   have Ny311 := A_ hy311
   clear hy311
   by_cases c25 : 0 ≤ x5_1
   {
   rw [if_pos c25] at H
   have c25b0 := eq_true c25
   have c25b1 : decide (0 ≤ x5_1) = true := decide_eq_true c25
   clear c25
   by_cases c26 : x5_1 ≤ (l0.length : Int)
   {
   rw [if_pos c26] at H
   have c26b0 := eq_true c26
   have c26b1 : decide (x5_1 ≤ (l0.length : Int)) = true := decide_eq_true c26
   clear c26
   obtain ⟨y314, hy314⟩ : ∃ y_ : List Int, y_ = (l0.take (x5_1 : Int).toNat) := ⟨_, rfl⟩
   replace H : (if y311.length + y314.length < 17592186044416 then ((some (y311 ++ y314 : List Int)).bind fun y318 => (if y318.length < 17592186044416 then ((some (y318 ++ [a1] : List Int)).bind fun y321 => ((some (l0.drop (x5_1 : Int).toNat : List Int)).bind fun y324 => (if y321.length + y324.length < 17592186044416 then (some (y321 ++ y324)) else (none)))) else (none))) else (none)) = some r := by first | (rw [hy314]; with_reducible exact H) | (have H2_ := (Option.bind_some _ _).symm.trans H; rw [hy314]; with_reducible exact H2_) | (have H2_ := (Option.bind_some _ _).symm.trans H; with_reducible exact H2_) | with_reducible exact H | (rw [hy314]; exact H) | exact H
   have Ny314 := A_ hy314
   clear hy314
   by_cases c27 : y311.length + y314.length < 17592186044416
   {
   rw [if_pos c27] at H
   have LMc27 := A_ c27
   clear c27
   obtain ⟨y318, hy318⟩ : ∃ y_ : List Int, y_ = (y311 ++ y314) := ⟨_, rfl⟩
   replace H : (if y318.length < 17592186044416 then ((some (y318 ++ [a1] : List Int)).bind fun y321 => ((some (l0.drop (x5_1 : Int).toNat : List Int)).bind fun y324 => (if y321.length + y324.length < 17592186044416 then (some (y321 ++ y324)) else (none)))) else (none)) = some r := by first | (rw [hy318]; with_reducible exact H) | (have H2_ := (Option.bind_some _ _).symm.trans H; rw [hy318]; with_reducible exact H2_) | (have H2_ := (Option.bind_some _ _).symm.trans H; with_reducible exact H2_) | with_reducible exact H | (rw [hy318]; exact H) | exact H
   have Ny318 := A_ hy318
   clear hy318
   by_cases c28 : y318.length < 17592186044416
   {
   rw [if_pos c28] at H
   have LMc28 := A_ c28
   clear c28
   obtain ⟨y321, hy321⟩ : ∃ y_ : List Int, y_ = (y318 ++ [a1]) := ⟨_, rfl⟩
   replace H : ((some (l0.drop (x5_1 : Int).toNat : List Int)).bind fun y324 => (if y321.length + y324.length < 17592186044416 then (some (y321 ++ y324)) else (none))) = some r := by first | (rw [hy321]; with_reducible exact H) | (have H2_ := (Option.bind_some _ _).symm.trans H; rw [hy321]; with_reducible exact H2_) | (have H2_ := (Option.bind_some _ _).symm.trans H; with_reducible exact H2_) | with_reducible exact H | (rw [hy321]; exact H) | exact H
   have Ny321 := A_ hy321
   clear hy321
   have c29b0 := eq_true (of_decide_eq_true zg2 : 0 ≤ x5_1)
   have c30b0 := eq_true (of_decide_eq_true zg2 : x5_1 ≤ (l0.length : Int))
   obtain ⟨y324, hy324⟩ : ∃ y_ : List Int, y_ = (l0.drop (x5_1 : Int).toNat) := ⟨_, rfl⟩
   replace H : (if y321.length + y324.length < 17592186044416 then (some (y321 ++ y324)) else (none)) = some r := by first | (rw [hy324]; with_reducible exact H) | (have H2_ := (Option.bind_some _ _).symm.trans H; rw [hy324]; with_reducible exact H2_) | (have H2_ := (Option.bind_some _ _).symm.trans H; with_reducible exact H2_) | with_reducible exact H | (rw [hy324]; exact H) | exact H
   have Ny324 := A_ hy324
   clear hy324
   by_cases c31 : y321.length + y324.length < 17592186044416
   {
   rw [if_pos c31] at H
   have LMc31 := A_ c31
   clear c31
   obtain ⟨y328, hy328⟩ : ∃ y_ : List Int, y_ = (y321 ++ y324) := ⟨_, rfl⟩
   replace H : (some y328) = some r := by first | (rw [hy328]; with_reducible exact H) | (have H2_ := (Option.bind_some _ _).symm.trans H; rw [hy328]; with_reducible exact H2_) | (have H2_ := (Option.bind_some _ _).symm.trans H; with_reducible exact H2_) | with_reducible exact H | (rw [hy328]; exact H) | exact H
   have Ny328 := A_ hy328
   clear hy328
   obtain rfl := Option.some.inj H
   obtain ⟨Ao32, co32, eo32⟩ := Kd.R_slice HO_0.out
   subst eo32
   try go_wp2_with (first | ((with_reducible refine gate_dst (N := 34) rfl ?_); refine Kd.R_lit (Kd.int .i64) _ 2 ?hg (N := 34) ?hd (xs := ([] : List Int)) (inner := []) (ok := fun _ => True) (okp := fun _ => True) ?hr ?hp (fun _ hk => hk) trivial (Below.refl _ _) (Nat.le_refl _) (by simp) ?_; (case hd => rfl); (case hg => rfl); (case hr => first | (go_simp; done) | (go_simp; rfl)); (case hp => exact (Reps.none _ _)); intro v312 w33 ho34 hb hg_ hnew_; clear hg_ hnew_; (first | rw [← Ny311.out] at ho34 | (simp only [Int.reduceToNat] at ho34; rw [← Ny311.out] at ho34)); have n0_ := A_ (Kd.R_elder' zg4 (Kd.R_base ho34) hb); have n1_ := A_ (Kd.R_lower (Kd.R_new' (Kd.R_newM (M := fun k_ => (P0_ k_ ∨ w.heap.size ≤ k_)) ho34 z117f (fun k_ h_ => .inr h_)) (Kd.R_lt zg4)) (below_size zg0)); have n2_ := A_ (Kept.below (S := (fun k_ => P0_ k_)) zg3 hb); have n3_ := A_ (below_step zg0 hb); clear HO_0; clear HK; clear HB; have HO_0 := n0_; have HO313 := n1_; have HK := n2_; have HB := n3_; clear n0_ n1_ n2_ n3_; clear hb ho34; have q35 : (x5_1 : Int) ≤ ((l0.length : Int) : Int) := of_decide_eq_true zg2; obtain ⟨i035, hi035, _, hsz35, _⟩ := info_parts info2; have hroom35 : l0.length ≤ co32 := (Kd.R_reads' HO_0.out).2.1; have hC35 : Kd.C (Kd.int .i64) _ Ao32 l0.length l0 := (Kd.R_reads' HO_0.out).2.2; have hcut35 := cut_to (P := Try.prog) 54 2 .i64 Try.underlying54 hi035 Ao32 l0.length co32 x5_1 (of_decide_eq_true zg2) q35 hroom35; have hr35 := Kd.C_take (m := (x5_1 : Int).toNat) hC35 (by omega); have hy35 : y314.length = (x5_1 : Int).toNat := (by rw [Ny314.out, List.length_take]; omega); rw [← Ny314.out] at hr35; rw [← hy35] at hcut35; have HR317 := A_ hr35; have HC317 := A_ (show y314.length ≤ co32 from (by omega)); clear hr35 hC35 hroom35 hi035 hsz35; have KY35 := A_ hy35; clear hy35; have KL35 := A_ (show (x5_1 : Int).toNat ≤ l0.length from (by omega)); replace q35 := eq_true q35) | ((with_reducible refine gate_builtin (b := .append) (xs := #[.tmp 34, .tmp 37]) rfl ?_); at_builtin; refine Kd.R_append_rows (Kd.int .i64) (w0 := w0) w0.heap.size rfl (.tmp 34) (.tmp 37) 54 2 (.int .i64 0) 8 rfl Try.underlying54 info2 rfl (by decide) (by omega) v312 y311 y314 _ _ _ (fun k_ => (P0_ k_ ∨ w.heap.size ≤ k_) ∧ some k_ ≠ (.slice Ao32 l0.length co32 : Value).ownBlock) (fun _ => False) rfl rfl ?aO ?aR (fun _ _ h => h) (fun _ h => h.elim) ?aF ?aB ?aS ?aL ?_; (case aR => repeat (first | exact (by repeat (first | (with_reducible exact HR317.out) | (with_reducible refine Kd.C_alloc ?_ _) | (with_reducible refine Kd.C_drewN ?_ _) | (with_reducible refine Kd.C_drew ?_) | exact HR317.out)) | (with_reducible refine Kd.C_alloc ?_ _) | (with_reducible refine Kd.C_drewN ?_ _) | (with_reducible refine Kd.C_drew ?_))); (case aB => exact zg0); (case aF => exact (fun k_ hk => ⟨(.inr (Nat.le_trans z117f hk)), Kd.fresh' (Kd.R_lt zg4) k_ hk⟩)); (case aO => exact (by (with_reducible repeat (first | apply Kd.R_alloc | apply Kd.R_drewN | apply Kd.R_drew)); exact Kd.R_mono HO313.out (fun _ hk => ⟨hk.1.1, hk.2⟩))); (case aS => exact (below_size zg0)); (case aL => have := LMc27.out; omega); intro v319 w36 ho hb hg hat; rw [← Ny318.out] at ho; have n0_ := A_ (Kd.R_after (ok := (fun k_ => (P0_ k_ ∨ w.heap.size ≤ k_))) zg4 hg hat); have n1_ := A_ (hb); have n2_ := A_ (Kept.of_grown (S := (fun k_ => P0_ k_)) hg zg3 (fun k_ e_ => (HO313.out.1 k_ e_).1.1)); have n3_ := A_ ((show Kd.C (Kd.int .i64) w36 Ao32 y314.length y314 from (by rw [Ny314.out]; exact Kd.C_take (m := (x5_1 : Int).toNat) ((Kd.R_reads' (Kd.R_after (ok := (fun k_ => (P0_ k_ ∨ w.heap.size ≤ k_))) zg4 hg hat)).2.2) KL35.out))); have n4_ := A_ (ho); clear HO_0; clear HB; clear HK; clear HR317; clear HO313; have HO_0 := n0_; have HB := n1_; have HK := n2_; have HR317 := n3_; have HO320 := n4_; clear n0_ n1_ n2_ n3_ n4_; clear ho hb hg hat))
   replace HO_0 := A_ (Kd.R_drew HO_0.out)
   replace HO320 := A_ (Kd.R_drew HO320.out)
   replace HR317 := A_ (Kd.C_drew HR317.out)
   replace HK := A_ (Kept.drew HK.out)
   replace HB := A_ (below_drew1 HB.out)
   have q38 : (x5_1 : Int) ≤ ((l0.length : Int) : Int) := of_decide_eq_true zg2
   obtain ⟨i038, hi038, _, hsz38, _⟩ := info_parts info2
   have hroom38 : l0.length ≤ co32 := (Kd.R_reads' HO_0.out).2.1
   have hC38 : Kd.C (Kd.int .i64) _ Ao32 l0.length l0 := (Kd.R_reads' HO_0.out).2.2
   have q038 : (0 : Int) ≤ (x5_1 : Int) := of_decide_eq_true zg2
   have hcut38 := cut_from (P := Try.prog) 54 2 .i64 Try.underlying54 hi038 1 hsz38 Ao32 l0.length co32 x5_1 q038 q38
   have hr38 := Kd.C_drop (m := (x5_1 : Int).toNat) (c := co32) hC38 (by omega) hroom38
   obtain ⟨A38, hA38⟩ : ∃ A1, A1 = (if co32 = (x5_1 : Int).toNat then Ao32 else (Ao32 : Option Addr).map (·.add ((x5_1 : Int).toNat * 1))) := ⟨_, rfl⟩
   obtain ⟨c38, hc38⟩ : ∃ c1, c1 = co32 - (x5_1 : Int).toNat := ⟨_, rfl⟩
   have hy38 : y324.length = l0.length - (x5_1 : Int).toNat := (by rw [Ny324.out, List.length_drop] <;> omega)
   rw [show (l0).drop (x5_1 : Int).toNat = y324 from Ny324.out.symm] at hr38
   replace hr38 : Kd.C (Kd.int .i64) _ A38 y324.length y324 := (by rw [hA38]; exact hr38)
   rw [← hy38, ← hA38, ← hc38] at hcut38
   have HR327 := A_ hr38
   have HC327 := A_ (show y324.length ≤ c38 from (by rw [hy38, hc38]; exact Nat.sub_le_sub_right hroom38 _))
   clear hr38 hC38 hroom38 hi038 hsz38 hc38
   have KY38 := A_ hy38
   have KA38 := A_ hA38
   clear hy38 hA38
   have KL38 := A_ (show (x5_1 : Int).toNat ≤ l0.length from (by omega))
   replace q38 := eq_true q38
   refine start_ (n := 9) (S := fun w' => True) (ds := []) (yx 0 9) (by kernel_rfl) rfl rfl trivial (fun hHeld => ?_); refine with_tabW spec_l5Put.tab7 spec_l5Put.bits7 (fun HT_ HW_ => ?_)
   generalize w36.drew = w37 at HO_0 HO320 HR317 HK HB HR327 hHeld ⊢
   refine pu_ 0 (some 39) (yx 1 8) ?_
   refine pu_ 1 (some 40) (yx 2 7) ?_
   refine pu_ 4 (some 43) (bs "YYXXYXXXX") ?_
   refine pu_ 5 (some 44) (bs "YYXXYYXXX") ?_
   refine pu_ 6 (some 45) (bs "YYXXYYYXX") ?_
   refine one_ (i := 2) (N := some 41) (bs "YYYXYYYXX") rfl rfl (one_of HT_.out (by kernel_rfl)) (by decide) (fun K hK => ?_)
   refine value_ (w1 := ?_) (v := ?_) (by rfl) rfl ?_ ?_
   rotate_left 2
   {
   go_simp
   constructor
   {
   rfl
   }
   {
   rfl
   }
   }
   refine hK.out _ _ trivial (fun hHeld => ?_)
   clear hK K
   refine norm_ (nz_ 41) ?_
   refine one_ (i := 3) (N := some 42) (yx 7 2) rfl rfl (one_of HT_.out (by kernel_rfl)) (by decide) (fun K hK => ?_)
   refine Kd.R_append_step (Kd.int .i64) (w0 := w0) w0.heap.size (by rfl) (.tmp 39) (.tmp 41) 54 2 (.int .i64 0) 8 rfl Try.underlying54 info2 rfl (by decide) (by omega) v319 y318 a1 [.int .i64 a1] (fun k_ => (P0_ k_ ∨ w.heap.size ≤ k_) ∧ some k_ ≠ (.slice Ao32 l0.length co32 : Value).ownBlock) (fun _ => False) rfl rfl ?aP (fun _ hk => hk.elim) ?aF ?aO ?aB ?aS ?aL ?_
   (case aP => exact rfl)
   (case aB => exact zg0)
   (case aF => exact (fun k_ hk => ⟨(.inr (Nat.le_trans z117f hk)), Kd.fresh' (Kd.R_lt zg4) k_ hk⟩))
   (case aO => exact (by (with_reducible repeat (first | apply Kd.R_alloc | apply Kd.R_drewN | apply Kd.R_drew)); exact HO320.out))
   (case aS => exact (below_size zg0))
   (case aL => have := LMc28.out; omega)
   intro v322 w39 ho hb hg hat
   rw [← Ny321.out] at ho
   have n0_ := A_ (Kd.R_after (ok := (fun k_ => (P0_ k_ ∨ w.heap.size ≤ k_))) zg4 hg hat)
   have n1_ := A_ (hb)
   have n2_ := A_ (Kept.of_grown (S := (fun k_ => P0_ k_)) hg zg3 (fun k_ e_ => (HO320.out.1 k_ e_).1))
   have n3_ := A_ ((show Kd.C (Kd.int .i64) w39 Ao32 y314.length y314 from (by rw [Ny314.out]; exact Kd.C_take (m := (x5_1 : Int).toNat) ((Kd.R_reads' (Kd.R_after (ok := (fun k_ => (P0_ k_ ∨ w.heap.size ≤ k_))) zg4 hg hat)).2.2) KL35.out)))
   have n4_ := A_ ((show Kd.C (Kd.int .i64) w39 A38 y324.length y324 from (by rw [Ny324.out, KA38.out]; exact Kd.C_drop (m := (x5_1 : Int).toNat) (c := co32) ((Kd.R_reads' (Kd.R_after (ok := (fun k_ => (P0_ k_ ∨ w.heap.size ≤ k_))) zg4 hg hat)).2.2) KL38.out ((Kd.R_reads' (Kd.R_after (ok := (fun k_ => (P0_ k_ ∨ w.heap.size ≤ k_))) zg4 hg hat)).2.1))))
   have n5_ := A_ (ho)
   clear HO_0
   clear HB
   clear HK
   clear HR317
   clear HR327
   clear HO320
   have HO_0 := n0_
   have HB := n1_
   have HK := n2_
   have HR317 := n3_
   have HR327 := n4_
   have HO323 := n5_
   clear n0_ n1_ n2_ n3_ n4_ n5_
   clear ho hb hg hat
   refine hK.out _ _ trivial (fun hHeld => ?_)
   clear hK K
   refine norm_ (nz_ 42) ?_
   refine one_ (i := 7) (N := some 46) (yx 8 1) rfl rfl (one_of HT_.out (by kernel_rfl)) (by decide) (fun K hK => ?_)
   refine Kd.R_append_rows_step (Kd.int .i64) (w0 := w0) w0.heap.size (by rfl) (.tmp 42) (.tmp 45) 54 2 (.int .i64 0) 8 rfl Try.underlying54 info2 rfl (by decide) (by omega) v322 y321 y324 _ _ _ (fun k_ => (P0_ k_ ∨ w.heap.size ≤ k_) ∧ some k_ ≠ (.slice Ao32 l0.length co32 : Value).ownBlock) (fun _ => False) rfl rfl ?aO ?aR (fun _ _ h => h) (fun _ h => h.elim) ?aF ?aB ?aS ?aL ?_
   (case aR => repeat (first | exact (by repeat (first | (with_reducible exact HR327.out) | (with_reducible refine Kd.C_alloc ?_ _) | (with_reducible refine Kd.C_drewN ?_ _) | (with_reducible refine Kd.C_drew ?_) | exact HR327.out)) | (with_reducible refine Kd.C_alloc ?_ _) | (with_reducible refine Kd.C_drewN ?_ _) | (with_reducible refine Kd.C_drew ?_)))
   (case aB => exact zg0)
   (case aF => exact (fun k_ hk => ⟨(.inr (Nat.le_trans z117f hk)), Kd.fresh' (Kd.R_lt zg4) k_ hk⟩))
   (case aO => exact (by (with_reducible repeat (first | apply Kd.R_alloc | apply Kd.R_drewN | apply Kd.R_drew)); exact HO323.out))
   (case aS => exact (below_size zg0))
   (case aL => have := LMc31.out; omega)
   intro v329 w40 ho hb hg hat
   rw [← Ny328.out] at ho
   have n0_ := A_ (Kd.R_after (ok := (fun k_ => (P0_ k_ ∨ w.heap.size ≤ k_))) zg4 hg hat)
   have n1_ := A_ (hb)
   have n2_ := A_ (Kept.of_grown (S := (fun k_ => P0_ k_)) hg zg3 (fun k_ e_ => (HO323.out.1 k_ e_).1))
   have n3_ := A_ ((show Kd.C (Kd.int .i64) w40 Ao32 y314.length y314 from (by rw [Ny314.out]; exact Kd.C_take (m := (x5_1 : Int).toNat) ((Kd.R_reads' (Kd.R_after (ok := (fun k_ => (P0_ k_ ∨ w.heap.size ≤ k_))) zg4 hg hat)).2.2) KL35.out)))
   have n4_ := A_ ((show Kd.C (Kd.int .i64) w40 A38 y324.length y324 from (by rw [Ny324.out, KA38.out]; exact Kd.C_drop (m := (x5_1 : Int).toNat) (c := co32) ((Kd.R_reads' (Kd.R_after (ok := (fun k_ => (P0_ k_ ∨ w.heap.size ≤ k_))) zg4 hg hat)).2.2) KL38.out ((Kd.R_reads' (Kd.R_after (ok := (fun k_ => (P0_ k_ ∨ w.heap.size ≤ k_))) zg4 hg hat)).2.1))))
   have n5_ := A_ (ho)
   clear HO_0
   clear HB
   clear HK
   clear HR317
   clear HR327
   clear HO323
   have HO_0 := n0_
   have HB := n1_
   have HK := n2_
   have HR317 := n3_
   have HR327 := n4_
   have HO330 := n5_
   clear n0_ n1_ n2_ n3_ n4_ n5_
   clear ho hb hg hat
   refine hK.out _ _ trivial (fun hHeld => ?_)
   clear hK K
   refine norm_ (nz_ 46) ?_
   refine pu_ 8 (some 4) (yx 9 0) ?_
   refine done_ (done_of HT_.out (by kernel_rfl)) ?_
   try go_wp2
   go_ret
   exact ⟨_, zr, by (with_reducible repeat (first | apply Kd.R_alloc | apply Kd.R_drewN | apply Kd.R_drew)); exact Kd.R_mono HO330.out (fun _ hk => hk.1), by repeat (first | (with_reducible first | exact HB.out | apply below_alloc | apply pw_below_drewN | apply below_drew1) | exact HB.out), zg3⟩
   }
   {
   rw [if_neg c31] at H
   exact absurd H (by simp)
   }
   }
   {
   rw [if_neg c28] at H
   exact absurd H (by simp)
   }
   }
   {
   rw [if_neg c27] at H
   exact absurd H (by simp)
   }
   }
   {
   rw [if_neg c26] at H
   exact absurd H (by simp)
   }
   }
   {
   rw [if_neg c25] at H
   exact absurd H (by simp)
   
   }
   }
def spec_Digest.l0 : Nat → ByteArray → Int → Int → Option (Int)
 | 0, _, _, _ => none
 | k + 1, x0, x3, x4 => if x4 < (x0.size : Int) then (if 0 ≤ x4 then (spec_Digest.l0 k x0 (Int.tmod (wrap64 ((wrap64 ((wrap64 (x3 * 1000003)) + (wrap64 (bt x0 x4)))) + 1)) 2147483647) (wrap64 (x4 + 1))) else (none)) else (some x3)
def spec_Digest.f (k : Nat) (a0 : ByteArray) : Option (Int) := spec_Digest.l0 k a0 1 0
set_option maxHeartbeats 8000000 in
set_option maxRecDepth 100000 in
theorem spec_Digest.calls (k : Nat) (a0 : ByteArray) (r : Int) (w : World) (h : spec_Digest.f k a0 = some r) :
  Calls Try.prog 120 #[.string a0] w fun e w' => e = .returned (.int .i64 r) ∧ Drawn0 w w' := by
 have H : (spec_Digest.l0 k a0 1 0) = some r := h
 clear h
 have H' := A_ H
 clear H
 go_enter Try.func120, Try.ntmps120
 go_wp2
 go_loopg [3, 4] k (fun kq v3 v4 w' => ∃ (x3_1 : Int) (x4_1 : Int), v3 = .int .i64 x3_1 ∧ v4 = .int .i64 x4_1 ∧ Aside0 (spec_Digest.l0 kq a0 x3_1 x4_1 = some r) ∧ Aside0 (kq ≤ k) ∧ Drawn0 w w')
 case atStart => exact ⟨(1), (0), (zs), (zs), H', ⟨Nat.le_refl _⟩, by repeat (first | exact Drawn0.refl _ | apply Drawn0.step)⟩
 case round =>
  clear H'
  try clear c1
  obtain ⟨x3_1, x4_1, rfl, rfl, HA, HK1, ⟨m1, rfl⟩⟩ := hrel
  cases gk with
  | zero => exact absurd HA.out (by simp [spec_Digest.l0])
  | succ k1 =>
   have H := HA.out
   clear HA
   simp only [spec_Digest.l0] at H
   by_cases c2 : x4_1 < (a0.size : Int)
   {
   rw [if_pos c2] at H
   have c2b0 : decide (x4_1 < (a0.size : Int)) = true := decide_eq_true c2
   clear c2
   by_cases c3 : 0 ≤ x4_1
   {
   rw [if_pos c3] at H
   have c3b0 : decide (0 ≤ x4_1) = true := decide_eq_true c3
   clear c3
   have H' := A_ H
   clear H
   have p4 : 0 ≤ (x4_1 : Int) := of_decide_eq_true zg2
   have q4 : x4_1 < (a0.size : Int) := of_decide_eq_true zg2
   have hx4 := bt_at a0 x4_1
   replace p4 := eq_true p4
   replace q4 := eq_true q4
   go_wp2
   go_roundg k1
   case measure => have := HK1.out; omega
   case rel => exact ⟨(Int.tmod (wrap64 ((wrap64 ((wrap64 (x3_1 * 1000003)) + (wrap64 (bt a0 x4_1)))) + 1)) 2147483647), (wrap64 (x4_1 + 1)), (zs), (zs), H', ⟨by have := HK1.out; omega⟩, by repeat (first | exact Drawn0.refl _ | apply Drawn0.step)⟩
   }
   {
   rw [if_neg c3] at H
   exact absurd H (by simp)
   }
   }
   {
   rw [if_neg c2] at H
   have c2b0 : decide (x4_1 < (a0.size : Int)) = false := decide_eq_false c2
   clear c2
   obtain rfl := Option.some.inj H
   go_wp2
   go_ret
   exact ⟨zs, by repeat (first | exact Drawn0.refl _ | apply Drawn0.step)⟩
   
   }
def spec_l5Marks.f (k : Nat) (a0 : ByteArray) : Option (List Int) := (spec_Digest.f k a0).bind fun t331 => (if a0.size + 1 ≤ 9223372036854775807 then ((spec_Digest.f k (a0 ++ (⟨#[42]⟩ : ByteArray))).bind fun t335 => ((spec_l5Put.f k (([Int.tmod t331 256] : List Int)) (Int.tmod t335 256)).bind fun t336 => (some t336))) else (none))
set_option maxHeartbeats 8000000 in
set_option maxRecDepth 100000 in
theorem spec_l5Marks.calls (k : Nat) (a0 : ByteArray) (r : List Int) (w : World) (h : spec_l5Marks.f k a0 = some r) :
  Calls Try.prog 89 #[.string a0] w fun e w' => ∃ v0_ : Value, e = .returned (v0_) ∧ Kd.R (Kd.int .i64) 2 w' w.heap.size (fun _ => True) v0_ r ∧ Below w.heap.size w w' := by
 have HB := A_ (Below.refl w.heap.size w)
 have H : ((spec_Digest.f k a0).bind fun t331 => (if a0.size + 1 ≤ 9223372036854775807 then ((spec_Digest.f k (a0 ++ (⟨#[42]⟩ : ByteArray))).bind fun t335 => ((spec_l5Put.f k (([Int.tmod t331 256] : List Int)) (Int.tmod t335 256)).bind fun t336 => (some t336))) else (none))) = some r := h
 clear h
 replace H := Option.bind_eq_some_iff.mp H
 obtain ⟨t331, A20, H⟩ := H
 (try dsimp only at H)
 have A2 := A_ A20
 clear A20
 obtain ⟨y332, hy332⟩ : ∃ y_ : List Int, y_ = (([Int.tmod t331 256] : List Int)) := ⟨_, rfl⟩
 replace H : (if a0.size + 1 ≤ 9223372036854775807 then ((spec_Digest.f k (a0 ++ (⟨#[42]⟩ : ByteArray))).bind fun t335 => ((spec_l5Put.f k y332 (Int.tmod t335 256)).bind fun t336 => (some t336))) else (none)) = some r := by first | (rw [hy332]; with_reducible exact H) | (have H2_ := (Option.bind_some _ _).symm.trans H; rw [hy332]; with_reducible exact H2_) | (have H2_ := (Option.bind_some _ _).symm.trans H; with_reducible exact H2_) | with_reducible exact H | (rw [hy332]; exact H) | exact H
 have Ny332 := A_ hy332
 clear hy332
 by_cases c3 : a0.size + 1 ≤ 9223372036854775807
 {
 rw [if_pos c3] at H
 have c3b0 := eq_true c3
 have c3b1 : decide (a0.size + 1 ≤ 9223372036854775807) = true := decide_eq_true c3
 try have c3b2 : (9223372036854775807 < a0.size + 1) = False := eq_false (Nat.not_lt.2 c3)
 replace H := Option.bind_eq_some_iff.mp H
 obtain ⟨t335, A40, H⟩ := H
 (try dsimp only at H)
 have A4 := A_ A40
 clear A40
 replace H := Option.bind_eq_some_iff.mp H
 obtain ⟨t336, A50, H⟩ := H
 (try dsimp only at H)
 have A5 := A_ A50
 clear A50
 obtain rfl := Option.some.inj H
 go_enter Try.func89, Try.ntmps89
 go_wp2_with (first | ((with_reducible refine gate_callee (f := 120) rfl ?_); refine goesL_ (some 4) rfl rfl Try.func120 (by kernel_rfl) rfl #[.string a0] rfl (by (try simp only [List.map_toArray, List.map_cons, List.map_nil]); first | done | rfl | (simp only [List.length_drop, List.length_take]; rfl)) ?_; (with_reducible refine (spec_Digest.calls k a0 t331 _ A2.out).mono ?_); rintro e w' ⟨rfl, ⟨nd, rfl⟩⟩; refine ⟨_, rfl, ?_⟩) | ((with_reducible refine gate_dst (N := 6) rfl ?_); refine Kd.R_lit (Kd.int .i64) _ 2 ?hg (N := 6) ?hd (xs := ([Int.tmod t331 256] : List Int)) (inner := [.int .i64 (Int.tmod t331 256)]) (ok := fun _ => True) (okp := fun _ => True) ?hr ?hp (fun _ hk => hk) trivial (Below.refl _ _) (Nat.le_refl _) (by simp) ?_; (case hd => rfl); (case hg => rfl); (case hr => first | (go_simp; done) | (go_simp; rfl)); (case hp => exact (Reps.one (show Kd.M (Kd.int .i64) _ _ _ (Int.tmod t331 256) [.int .i64 (Int.tmod t331 256)] from rfl) (Reps.none _ _))); intro v333 w6 ho7 hb hg_ hnew_; clear hg_ hnew_; (first | rw [← Ny332.out] at ho7 | (simp only [Int.reduceToNat] at ho7; rw [← Ny332.out] at ho7)); have n0_ := A_ (Kd.R_lower ho7 (below_size zg0)); have n1_ := A_ (below_step zg0 hb); clear HB; have HO334 := n0_; have HB := n1_; clear n0_ n1_; clear hb ho7) | ((with_reducible refine gate_callee (f := 120) rfl ?_); refine goesL_ (some 9) rfl rfl Try.func120 (by kernel_rfl) rfl #[.string (a0 ++ (⟨#[42]⟩ : ByteArray))] rfl (by (try simp only [List.map_toArray, List.map_cons, List.map_nil]); first | done | rfl | (simp only [List.length_drop, List.length_take]; rfl)) ?_; (with_reducible refine (spec_Digest.calls k (a0 ++ (⟨#[42]⟩ : ByteArray)) t335 _ A4.out).mono ?_); rintro e w' ⟨rfl, ⟨nd, rfl⟩⟩; refine ⟨_, rfl, ?_⟩; obtain ⟨Ao8, co8, eo8⟩ := Kd.R_slice HO334.out; subst eo8) | ((with_reducible refine gate_callee (f := 117) rfl ?_); refine goesL_ (some 11) rfl rfl Try.func117 (by kernel_rfl) rfl #[.slice Ao8 y332.length co8, .int .i64 (Int.tmod t335 256)] rfl (by (try simp only [List.map_toArray, List.map_cons, List.map_nil]); first | done | rfl | (simp only [List.length_drop, List.length_take]; rfl)) ?_; (with_reducible refine (spec_l5Put.calls k (fun k_ => some k_ = (.slice Ao8 y332.length co8 : Value).ownBlock) (.slice Ao8 y332.length co8) y332 (Int.tmod t335 256) t336 w _ ?side1 ?side2 A5.out).mono ?_); (case side1 => exact zg0); (case side2 => exact Kd.R_tight rfl HO334.out); rintro e w9 ⟨v337, rfl, ho0, hb, hkp⟩; refine ⟨_, rfl, ?_⟩; have n0_ := A_ (Kd.R_mono (ok' := fun k_ => True) ho0 (fun k_ hk_ => trivial)); have n1_ := A_ (hb); clear HB; clear HO334; have HO338 := n0_; have HB := n1_; clear n0_ n1_; (try clear hkp)))
 go_ret
 exact ⟨_, zr, by (with_reducible repeat (first | apply Kd.R_alloc | apply Kd.R_drewN | apply Kd.R_drew)); exact HO338.out, zg0⟩
 }
 {
 rw [if_neg c3] at H
 exact absurd H (by simp)
 
 }
end Go.Proofs.Ytaiggfjkikfcbaa.PFnExactEntries

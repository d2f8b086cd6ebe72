-- by a program of this session (wip/print/run.py) for this claim
import Derived.Test.YtaiggfjkikfcbaaLibPu
import Derived.Test.YtaiggfjkikfcbaaPFnExactEntriesx0
import Derived.Test.YtaiggfjkikfcbaaPFnExactEntriesx6
import Derived.Test.YtaiggfjkikfcbaaPFnExactEntriesx7
namespace Go.Proofs.Ytaiggfjkikfcbaa.PFnExactEntries
open Go.Proofs.Ytaiggfjkikfcbaa.Lib Go.RowKit Go.Proofs.YtaiggfjkikfcbaaW.PrintWords Go.Proofs.YtaiggfjkikfcbaaW.PrintLast Go.Proofs.YtaiggfjkikfcbaaW.PrintMore
attribute [local go_sem] max2_int min2_int max_two min_two max_three min_three max_four min_four   -- for this text's walks alone
set_option linter.unusedVariables false
set_option linter.unusedSimpArgs false

theorem z116e {p_ : Prop} (h_ : p_ := by (try simp only [List.map_toArray, List.map_cons, List.map_nil]); first | done | (rw [show (l0.drop ((ji27) : Int).toNat).length = (l0.length - (ji27).toNat) from List.length_drop] <;> rfl) | (simp only [hji27]; rfl) | rfl | (simp only [List.length_drop, List.length_take]; rfl)) : p_ := h_
theorem z116f {p_ : Prop} (h_ : p_ := by (try simp only [List.map_toArray, List.map_cons, List.map_nil]); first | done | (rw [show (l0.drop ((ji31) : Int).toNat).length = (l0.length - (ji31).toNat) from List.length_drop] <;> rfl) | (simp only [hji31]; rfl) | rfl | (simp only [List.length_drop, List.length_take]; rfl)) : p_ := h_
mutual
def spec_Unpacked.j0 : Nat → List Int → Int → Int → List (S31) → Bool → Option ((List (S31)) × Bool)
 | 0, _, _, _, _, _ => none
 | k + 1, x0, x4, x5, x6, x27 => if x27 = true then (some (x6, false)) else (spec_Unpacked.l0 k x0 x4 x5 x6 (⟨#[]⟩ : ByteArray))
def spec_Unpacked.l0 : Nat → List Int → Int → Int → List (S31) → ByteArray → Option ((List (S31)) × Bool)
 | 0, _, _, _, _, _ => none
 | k + 1, x0, x4, x5, x6, x7 => if x4 > 0 then (if ((x6.length : Int) % 8) = 0 then (spec_Unpacked.j2 k x0 x4 x5 x6 (⟨#[]⟩ : ByteArray)) else (spec_Unpacked.j2 k x0 x4 x5 x6 x7)) else ((spec_Packed.f k x6).bind fun t232 => (if (strOfNums t232).toList = (strOfNums x0).toList then (some (x6, true)) else (some ((([] : List (S31))), false))))
def spec_Unpacked.j2 : Nat → List Int → Int → Int → List (S31) → ByteArray → Option ((List (S31)) × Bool)
 | 0, _, _, _, _, _ => none
 | k + 1, x0, x4, x5, x6, x7 => if 0 ≤ x5 then (if x5 ≤ (x0.length : Int) then ((spec_ReadNumber.f k (x0.drop (x5 : Int).toNat)).bind fun bt239 => (if 0 ≤ (wrap64 (x5 + bt239.2)) then (if (wrap64 (x5 + bt239.2)) ≤ (x0.length : Int) then ((spec_ReadText.f k (x0.drop ((wrap64 (x5 + bt239.2)) : Int).toNat)).bind fun bt242 => (if bt239.2 = 0 then (spec_Unpacked.j3 k x0 x4 x5 x6 x7 bt239.1 bt239.2 bt242.1 bt242.2 true) else (if bt242.2 = 0 then (spec_Unpacked.j3 k x0 x4 x5 x6 x7 bt239.1 bt239.2 bt242.1 bt242.2 true) else (spec_Unpacked.j3 k x0 x4 x5 x6 x7 bt239.1 bt239.2 bt242.1 bt242.2 (decide (bt239.1 > (x7.size : Int))))))) else (none)) else (none))) else (none)) else (none)
def spec_Unpacked.j3 : Nat → List Int → Int → Int → List (S31) → ByteArray → Int → Int → ByteArray → Int → Bool → Option ((List (S31)) × Bool)
 | 0, _, _, _, _, _, _, _, _, _, _ => none
 | k + 1, x0, x4, x5, x6, x7, x8, x9, x10, x11, x64 => if x64 = true then (some ((([] : List (S31))), false)) else (if 0 ≤ (wrap64 ((wrap64 (x5 + x9)) + x11)) then (if (wrap64 ((wrap64 (x5 + x9)) + x11)) ≤ (x0.length : Int) then ((spec_ReadNumber.f k (x0.drop ((wrap64 ((wrap64 (x5 + x9)) + x11)) : Int).toNat)).bind fun bt248 => (if 0 ≤ (wrap64 ((wrap64 ((wrap64 (x5 + x9)) + x11)) + bt248.2)) then (if (wrap64 ((wrap64 ((wrap64 (x5 + x9)) + x11)) + bt248.2)) ≤ (x0.length : Int) then ((spec_ReadText.f k (x0.drop ((wrap64 ((wrap64 ((wrap64 (x5 + x9)) + x11)) + bt248.2)) : Int).toNat)).bind fun bt251 => (if bt248.2 = 0 then (some ((([] : List (S31))), false)) else (if bt251.2 = 0 then (some ((([] : List (S31))), false)) else (if 0 ≤ x8 then (if x8 ≤ (x7.size : Int) then (if (x7.extract 0 (x8 : Int).toNat).size + x10.size ≤ 9223372036854775807 then (if x6.length < 2932031007402 then (spec_Unpacked.l0 k x0 (wrap64 (x4 - 1)) (wrap64 ((wrap64 ((wrap64 ((wrap64 (x5 + x9)) + x11)) + bt248.2)) + bt251.2)) (x6 ++ [(⟨(x7.extract 0 (x8 : Int).toNat) ++ x10, bt251.1, wrap64 (Int.tdiv bt248.1 2), ((Int.tmod bt248.1 2) == 1)⟩ : S31)]) ((x7.extract 0 (x8 : Int).toNat) ++ x10)) else (none)) else (none)) else (none)) else (none))))) else (none)) else (none))) else (none)) else (none))
end
def spec_Unpacked.f (k : Nat) (l0 : List Int) : Option ((List (S31)) × Bool) := (spec_ReadNumber.f k l0).bind fun bt227 => ((some (([] : List (S31)) : List (S31))).bind fun y229 => (if bt227.2 = 0 then (spec_Unpacked.j0 k l0 bt227.1 bt227.2 y229 true) else (spec_Unpacked.j0 k l0 bt227.1 bt227.2 y229 (decide (bt227.1 > 300)))))
set_option maxHeartbeats 8000000 in
set_option maxRecDepth 100000 in
theorem spec_Unpacked.calls (k : Nat) (A0 : Option Addr) (c0 : Nat) (l0 : List Int) (r1 : List (S31)) (r2 : Bool) (w : World) (hr0 : Kd.C (Kd.int .u8) w A0 l0.length l0) (hc0 : l0.length ≤ c0) (h : spec_Unpacked.f k l0 = some (r1, r2)) :
  Calls Try.prog 116 #[.slice A0 l0.length c0] w fun e w' => ∃ v0_ : Value, e = .returned (.tuple #[v0_, .bool r2]) ∧ Kd.R k31 31 w' w.heap.size (fun _ => True) v0_ r1 ∧ Below w.heap.size w w' := by
 have hu31 := Try.underlying31
 have HR0 := A_ hr0
 have HC0 := A_ hc0
 clear hr0 hc0
 have HB := A_ (Below.refl w.heap.size w)
 have H : ((spec_ReadNumber.f k l0).bind fun bt227 => ((some (([] : List (S31)) : List (S31))).bind fun y229 => (if bt227.2 = 0 then (spec_Unpacked.j0 k l0 bt227.1 bt227.2 y229 true) else (spec_Unpacked.j0 k l0 bt227.1 bt227.2 y229 (decide (bt227.1 > 300)))))) = some (r1, r2) := h
 clear h
 replace H := Option.bind_eq_some_iff.mp H
 obtain ⟨⟨t227, t228⟩, A20, H⟩ := H
 (try dsimp only at H)
 have A2 := A_ A20
 clear A20
 obtain ⟨y229, hy229⟩ : ∃ y_ : List (S31), y_ = (([] : List (S31))) := ⟨_, rfl⟩
 replace H : (if t228 = 0 then (spec_Unpacked.j0 k l0 t227 t228 y229 true) else (spec_Unpacked.j0 k l0 t227 t228 y229 (decide (t227 > 300)))) = some (r1, r2) := by first | (rw [hy229]; with_reducible exact H) | (have H2_ := (Option.bind_some _ _).symm.trans H; rw [hy229]; with_reducible exact H2_) | (have H2_ := (Option.bind_some _ _).symm.trans H; with_reducible exact H2_) | with_reducible exact H | (rw [hy229]; exact H) | exact H
 have Ny229 := A_ hy229
 clear hy229
 have HC3 := A_ H
 clear H
 go_enter Try.func116, Try.ntmps116
 go_upto_region 3 with (first | ((with_reducible refine gate_callee (f := 140) rfl ?_); refine goesL_ (some 18) rfl rfl Try.func140 (by kernel_rfl) rfl #[.slice A0 l0.length c0] rfl (by (try simp only [List.map_toArray, List.map_cons, List.map_nil]); first | done | rfl | (simp only [List.length_drop, List.length_take]; rfl)) ?_; (with_reducible refine (spec_ReadNumber.calls k _ _ l0 t227 t228 _ ?side1 ?side2 A2.out).mono ?_); (case side1 => exact zg9); (case side2 => exact HC0.out); rintro e w' ⟨rfl, ⟨nd, rfl⟩⟩; refine ⟨_, rfl, ?_⟩) | ((with_reducible refine gate_dst (N := 21) rfl ?_); (try (refine gate_guard (by rfl) ?_; dsimp only)); refine Kd.R_lit k31 _ 31 ?hg (N := 21) ?hd (xs := ([] : List (S31))) (inner := []) (ok := fun _ => True) (okp := fun _ => True) ?hr ?hp (fun _ hk => hk) trivial (Below.refl _ _) (Nat.le_refl _) (by simp) ?_; (case hd => rfl); (case hg => rfl); (case hr => first | (go_simp; done) | (go_simp; rfl)); (case hp => exact (Reps.none _ _)); intro v230 w4 ho5 hb hg_ hnew_; clear hg_ hnew_; (first | rw [← Ny229.out] at ho5 | (simp only [Int.reduceToNat] at ho5; rw [← Ny229.out] at ho5)); have n0_ := A_ (Kd.R_lower ho5 (below_size zg0)); have n1_ := A_ (below_step zg0 hb); clear HB; have HO231 := n0_; have HB := n1_; clear n0_ n1_; clear hb ho5))
 (try simp only [Act.put, List.setIfInBounds_toArray, List.set_cons_zero, List.set_cons_succ])
 (try (rw [drewN_self w4]; generalize hq_ : World.drewN w4 _ = w4; have n0_ := A_ (Kd.R_drewN HO231.out nd); have n1_ := A_ (pw_below_drewN HB.out nd); rw [hq_] at n0_; rw [hq_] at n1_; clear hq_ HO231 HB; have HO231 := n0_; have HB := n1_; clear n0_ n1_))
 go_cut [27] (fun v27 wc => ∃ (kq : Nat) (x27_2 : Bool), v27 = .bool x27_2 ∧ Aside0 (spec_Unpacked.j0 kq l0 t227 t228 y229 x27_2 = some (r1, r2)) ∧ Aside0 (kq ≤ k) ∧ Aside0 (Kd.R k31 31 wc w.heap.size (fun _ => True) v230 y229) ∧ Aside0 (Below w.heap.size w wc))
 case first =>
  have H := HC3.out
  clear HC3
  by_cases c6 : t228 = 0
  {
  rw [if_pos c6] at H
  have c6b0 : (t228 == 0) = true := beq_iff_eq.mpr c6
  have c6b1 : (t228 != 0) = false := bne_eq_false_iff_eq.mpr c6
  clear c6
  (first | rw [c6b0] | (simp only [i64_w, i32_w]; rw [c6b0]) | skip)
  have H' := A_ H
  clear H
  go_wp2
  go_meet
  case rel => exact ⟨_, (true), zs, H', ⟨by first | omega | exact Nat.le_refl _⟩, ⟨by (with_reducible repeat (first | apply Kd.R_alloc | apply Kd.R_drewN | apply Kd.R_drew)); exact HO231.out⟩, ⟨zg0⟩⟩
  }
  {
  rw [if_neg c6] at H
  have c6b0 : (t228 == 0) = false := beq_eq_false_iff_ne.mpr c6
  have c6b1 : (t228 != 0) = true := bne_iff_ne.mpr c6
  (first | rw [c6b0] | (simp only [i64_w, i32_w]; rw [c6b0]) | skip)
  have H' := A_ H
  clear H
  go_wp2
  go_meet
  case rel => exact ⟨_, (decide (t227 > 300)), zs, H', ⟨by first | omega | exact Nat.le_refl _⟩, ⟨by (with_reducible repeat (first | apply Kd.R_alloc | apply Kd.R_drewN | apply Kd.R_drew)); exact HO231.out⟩, ⟨zg0⟩⟩
  }
 case rest =>
  clear HC3
  try clear c1
  try clear p2
  try clear c6
  try clear c6b0
  try clear c6b1
  obtain ⟨kq, x27_2, rfl, HA, HJ2, HO_6, HB⟩ := hcut
  cases kq with
  | zero => exact absurd HA.out (by simp [spec_Unpacked.j0])
  | succ kj2 =>
   have H := HA.out
   clear HA
   simp only [spec_Unpacked.j0] at H
   by_cases c7 : x27_2 = true
   {
   subst c7
   rw [if_pos rfl] at H
   simp only [Option.some.injEq, Prod.mk.injEq] at H
   obtain ⟨rfl, rfl⟩ := H
   go_wp2
   go_ret2
   exact ⟨_, zr, by (with_reducible repeat (first | apply Kd.R_alloc | apply Kd.R_drewN | apply Kd.R_drew)); exact HO_6.out, zg0⟩
   }
   {
   replace c7 := Bool.eq_false_iff.mpr c7
   subst c7
   rw [if_neg Bool.false_ne_true] at H
   have H' := A_ H
   clear H
   go_wp2
   go_loopg [4, 5, 6, 7] kj2 (fun kq v4 v5 v6 v7 w' => ∃ (x4_2 : Int) (x5_2 : Int) (x6_2 : List (S31)) (x7_2 : ByteArray), v4 = .int .i64 x4_2 ∧ v5 = .int .i64 x5_2 ∧ v7 = .string x7_2 ∧ Aside0 (spec_Unpacked.l0 kq l0 x4_2 x5_2 x6_2 x7_2 = some (r1, r2)) ∧ Aside0 (kq ≤ kj2) ∧ Aside0 (Kd.R k31 31 w' w.heap.size (fun _ => True) v6 x6_2) ∧ Aside0 (Below w.heap.size w w'))
   case atStart => exact ⟨(t227), (t228), (y229), ((⟨#[]⟩ : ByteArray)), zs, zs, zs, H', ⟨Nat.le_refl _⟩, ⟨by (with_reducible repeat (first | apply Kd.R_alloc | apply Kd.R_drewN | apply Kd.R_drew)); exact HO_6.out⟩, ⟨zg0⟩⟩
   case round =>
    clear H'
    try clear c1
    try clear p2
    try clear c6
    try clear c6b0
    try clear c6b1
    try clear c7
    try clear p2
    obtain ⟨x4_2, x5_2, x6_2, x7_2, rfl, rfl, rfl, HA, HK2, HO_6, HB⟩ := hrel
    cases gk with
    | zero => exact absurd HA.out (by simp [spec_Unpacked.l0])
    | succ k2 =>
     have H := HA.out
     clear HA
     simp only [spec_Unpacked.l0] at H
     by_cases c8 : x4_2 > 0
     {
     rw [if_pos c8] at H
     have c8b0 : decide (0 < x4_2) = true := decide_eq_true c8
     clear c8
     have HC9 := A_ H
     clear H
     obtain ⟨Ao10, co10, eo10⟩ := Kd.R_slice HO_6.out
     subst eo10
     go_upto_if 36 with (fail)
     go_cut [7] (fun v7 wc => ∃ (kq : Nat) (x7_8 : ByteArray), v7 = .string x7_8 ∧ Aside0 (spec_Unpacked.j2 kq l0 x4_2 x5_2 x6_2 x7_8 = some (r1, r2)) ∧ Aside0 (kq ≤ k2) ∧ Aside0 (Kd.R k31 31 wc w.heap.size (fun _ => True) (.slice Ao10 x6_2.length co10) x6_2) ∧ Aside0 (Below w.heap.size w wc))
     case first =>
      have H := HC9.out
      clear HC9
      by_cases c11 : ((x6_2.length : Int) % 8) = 0
      {
      rw [if_pos c11] at H
      have c11b0 : (((x6_2.length : Int) % 8) == 0) = true := beq_iff_eq.mpr c11
      have c11b1 : (((x6_2.length : Int) % 8) != 0) = false := bne_eq_false_iff_eq.mpr c11
      clear c11
      (first | rw [c11b0] | (simp only [i64_w, i32_w]; rw [c11b0]) | skip)
      have H' := A_ H
      clear H
      go_wp2
      go_meet
      case rel => exact ⟨_, ((⟨#[]⟩ : ByteArray)), zs, H', ⟨by have := HJ2.out; have := HK2.out; first | omega | exact Nat.le_refl _⟩, ⟨by (with_reducible repeat (first | apply Kd.R_alloc | apply Kd.R_drewN | apply Kd.R_drew)); exact HO_6.out⟩, ⟨zg0⟩⟩
      }
      {
      rw [if_neg c11] at H
      have c11b0 : (((x6_2.length : Int) % 8) == 0) = false := beq_eq_false_iff_ne.mpr c11
      have c11b1 : (((x6_2.length : Int) % 8) != 0) = true := bne_iff_ne.mpr c11
      (first | rw [c11b0] | (simp only [i64_w, i32_w]; rw [c11b0]) | skip)
      have H' := A_ H
      clear H
      go_wp2
      go_meet
      case rel => exact ⟨_, (x7_2), zs, H', ⟨by have := HJ2.out; have := HK2.out; first | omega | exact Nat.le_refl _⟩, ⟨by (with_reducible repeat (first | apply Kd.R_alloc | apply Kd.R_drewN | apply Kd.R_drew)); exact HO_6.out⟩, ⟨zg0⟩⟩
      }
     case rest =>
      clear HC9
      try clear c1
      try clear p2
      try clear c6
      try clear c6b0
      try clear c6b1
      try clear c7
      try clear c8
      try clear c8b0
      try clear c11
      try clear c11b0
      try clear c11b1
      try clear p2
      obtain ⟨kq, x7_8, rfl, HA, HJ8, HO_6, HB⟩ := hcut
      cases kq with
      | zero => exact absurd HA.out (by simp [spec_Unpacked.j2])
      | succ kj8 =>
       have H := HA.out
       clear HA
       simp only [spec_Unpacked.j2] at H
       by_cases c12 : 0 ≤ x5_2
       {
       rw [if_pos c12] at H
       have c12b0 := eq_true c12
       have c12b1 : decide (0 ≤ x5_2) = true := decide_eq_true c12
       clear c12
       by_cases c13 : x5_2 ≤ (l0.length : Int)
       {
       rw [if_pos c13] at H
       have c13b0 := eq_true c13
       have c13b1 : decide (x5_2 ≤ (l0.length : Int)) = true := decide_eq_true c13
       clear c13
       replace H := Option.bind_eq_some_iff.mp H
       obtain ⟨⟨t239, t240⟩, A140, H⟩ := H
       (try dsimp only at H)
       have A14 := A_ A140
       clear A140
       obtain ⟨ji15, hji15⟩ : ∃ j_ : Int, (wrap64 (x5_2 + t240)) = j_ := ⟨_, rfl⟩
       replace H : (if 0 ≤ (ji15) then (if (ji15) ≤ (l0.length : Int) then ((spec_ReadText.f kj8 (l0.drop ((ji15) : Int).toNat)).bind fun bt242 => (if t240 = 0 then (spec_Unpacked.j3 kj8 l0 x4_2 x5_2 x6_2 x7_8 t239 t240 bt242.1 bt242.2 true) else (if bt242.2 = 0 then (spec_Unpacked.j3 kj8 l0 x4_2 x5_2 x6_2 x7_8 t239 t240 bt242.1 bt242.2 true) else (spec_Unpacked.j3 kj8 l0 x4_2 x5_2 x6_2 x7_8 t239 t240 bt242.1 bt242.2 (decide (t239 > (x7_8.size : Int))))))) else (none)) else (none)) = some (r1, r2) := by first | (rw [hji15] at H; exact H) | (simp only [hji15] at H ⊢; exact H)
       (try rw [hji15])
       (try rw [hji15] at A14)
       have hji15w : (IntKind.i64.wrap (x5_2 + t240)) = ji15 := (i64_w _).trans hji15
       by_cases c16 : 0 ≤ (ji15)
       {
       rw [if_pos c16] at H
       have c16b0 := eq_true c16
       have c16b1 : decide (0 ≤ (ji15)) = true := decide_eq_true c16
       clear c16
       by_cases c17 : (ji15) ≤ (l0.length : Int)
       {
       rw [if_pos c17] at H
       have c17b0 := eq_true c17
       have c17b1 : decide ((ji15) ≤ (l0.length : Int)) = true := decide_eq_true c17
       clear c17
       replace H := Option.bind_eq_some_iff.mp H
       obtain ⟨⟨t242, t243⟩, A180, H⟩ := H
       (try dsimp only at H)
       have A18 := A_ A180
       clear A180
       have HC19 := A_ H
       clear H
       obtain ⟨i020, hi020, _, hsz20, _⟩ := info_parts info5
       obtain ⟨A20, hcut20, hA20, hC20⟩ := print_drop_of (P := Try.prog) (Value.int .u8) 0 36 5 .i64 Try.underlying36 hi020 hsz20 A0 c0 l0 x5_2 (of_decide_eq_true zg2) (of_decide_eq_true zg2) HC0.out
       have HR238 := A_ (Kd.C_of_reads (h1 := fun _ => rfl) (hA20 _ (Kd.reads_of_C HR0.out)))
       have HC238 := A_ hC20
       clear hA20 hC20 hi020 hsz20
       go_upto_region 12 with (first | ((with_reducible refine gate_callee (f := 140) rfl ?_); refine goesL_ (some 41) rfl rfl Try.func140 (by kernel_rfl) rfl #[.slice A20 (l0.drop (x5_2 : Int).toNat).length (c0 - x5_2.toNat)] rfl (by (try simp only [List.map_toArray, List.map_cons, List.map_nil]); first | done | (rw [show (l0.drop (x5_2 : Int).toNat).length = (l0.length - x5_2.toNat) from List.length_drop] <;> rfl) | rfl | (simp only [List.length_drop, List.length_take]; rfl)) ?_; (with_reducible refine (spec_ReadNumber.calls kj8 _ _ (l0.drop (x5_2 : Int).toNat) t239 t240 _ ?side1 ?side2 A14.out).mono ?_); (case side1 => exact (by repeat (first | exact (Kd.C_below HR238.out HB.out) | (with_reducible refine Kd.C_alloc ?_ _) | (with_reducible refine Kd.C_drewN ?_ _) | (with_reducible refine Kd.C_drew ?_)))); (case side2 => exact HC238.out); rintro e w' ⟨rfl, ⟨nd, rfl⟩⟩; refine ⟨_, rfl, ?_⟩; obtain ⟨i021, hi021, _, hsz21, _⟩ := info_parts info5; obtain ⟨A21, hcut21, hA21, hC21⟩ := print_drop_of (P := Try.prog) (Value.int .u8) 0 36 5 .i64 Try.underlying36 hi021 hsz21 A0 c0 l0 (ji15) (of_decide_eq_true zg2) (of_decide_eq_true zg2) HC0.out; have HR241 := A_ (Kd.C_of_reads (h1 := fun _ => rfl) (hA21 _ (Kd.reads_of_C HR0.out))); have HC241 := A_ hC21; clear hA21 hC21 hi021 hsz21) | ((with_reducible refine gate_callee (f := 141) rfl ?_); refine goesL_ (some 50) rfl rfl Try.func141 (by kernel_rfl) rfl #[.slice A21 (l0.drop ((ji15) : Int).toNat).length (c0 - (ji15).toNat)] rfl (by (try simp only [List.map_toArray, List.map_cons, List.map_nil]); first | done | (rw [show (l0.drop ((ji15) : Int).toNat).length = (l0.length - (ji15).toNat) from List.length_drop] <;> rfl) | (simp only [hji15]; rfl) | rfl | (simp only [List.length_drop, List.length_take]; rfl)) ?_; (with_reducible refine (spec_ReadText.calls kj8 _ _ (l0.drop ((ji15) : Int).toNat) t242 t243 _ ?side1 ?side2 A18.out).mono ?_); (case side1 => repeat (first | exact (Kd.C_below HR241.out zg0) | (with_reducible refine Kd.C_alloc ?_ _) | (with_reducible refine Kd.C_drewN ?_ _) | (with_reducible refine Kd.C_drew ?_))); (case side2 => exact HC241.out); rintro e w' ⟨rfl, ⟨nd, rfl⟩⟩; refine ⟨_, rfl, ?_⟩))
       (try simp only [Act.put, List.setIfInBounds_toArray, List.set_cons_zero, List.set_cons_succ])
       (try (rw [drewN_self wc]; generalize hq_ : World.drewN wc _ = wc; have n0_ := A_ (Kd.R_drewN HO_6.out nd); have n1_ := A_ (pw_below_drewN HB.out nd); rw [hq_] at n0_; rw [hq_] at n1_; clear hq_ HO_6 HB; have HO_6 := n0_; have HB := n1_; clear n0_ n1_))
       go_cut [64] (fun v64 wc => ∃ (kq : Nat) (x64_18 : Bool), v64 = .bool x64_18 ∧ Aside0 (spec_Unpacked.j3 kq l0 x4_2 x5_2 x6_2 x7_8 t239 t240 t242 t243 x64_18 = some (r1, r2)) ∧ Aside0 (kq ≤ kj8) ∧ Aside0 (Kd.R k31 31 wc w.heap.size (fun _ => True) (.slice Ao10 x6_2.length co10) x6_2) ∧ Aside0 (Below w.heap.size w wc))
       case first =>
        have H := HC19.out
        clear HC19
        by_cases c22 : t240 = 0
        {
        rw [if_pos c22] at H
        have c22b0 : (t240 == 0) = true := beq_iff_eq.mpr c22
        have c22b1 : (t240 != 0) = false := bne_eq_false_iff_eq.mpr c22
        clear c22
        (first | rw [c22b0] | (simp only [i64_w, i32_w]; rw [c22b0]) | skip)
        have H' := A_ H
        clear H
        go_wp2
        go_meet
        case rel => exact ⟨_, (true), zs, H', ⟨by have := HJ2.out; have := HK2.out; have := HJ8.out; first | omega | exact Nat.le_refl _⟩, ⟨by (with_reducible repeat (first | apply Kd.R_alloc | apply Kd.R_drewN | apply Kd.R_drew)); exact HO_6.out⟩, ⟨zg0⟩⟩
        }
        {
        rw [if_neg c22] at H
        have c22b0 : (t240 == 0) = false := beq_eq_false_iff_ne.mpr c22
        have c22b1 : (t240 != 0) = true := bne_iff_ne.mpr c22
        (first | rw [c22b0] | (simp only [i64_w, i32_w]; rw [c22b0]) | skip)
        by_cases c23 : t243 = 0
        {
        rw [if_pos c23] at H
        have c23b0 : (t243 == 0) = true := beq_iff_eq.mpr c23
        have c23b1 : (t243 != 0) = false := bne_eq_false_iff_eq.mpr c23
        clear c23
        have H' := A_ H
        clear H
        go_wp2
        go_meet
        case rel => exact ⟨_, (true), zs, H', ⟨by have := HJ2.out; have := HK2.out; have := HJ8.out; first | omega | exact Nat.le_refl _⟩, ⟨by (with_reducible repeat (first | apply Kd.R_alloc | apply Kd.R_drewN | apply Kd.R_drew)); exact HO_6.out⟩, ⟨zg0⟩⟩
        }
        {
        rw [if_neg c23] at H
        have c23b0 : (t243 == 0) = false := beq_eq_false_iff_ne.mpr c23
        have c23b1 : (t243 != 0) = true := bne_iff_ne.mpr c23
        have H' := A_ H
        clear H
        go_wp2
        go_meet
        case rel => exact ⟨_, (decide (t239 > (x7_8.size : Int))), zs, H', ⟨by have := HJ2.out; have := HK2.out; have := HJ8.out; first | omega | exact Nat.le_refl _⟩, ⟨by (with_reducible repeat (first | apply Kd.R_alloc | apply Kd.R_drewN | apply Kd.R_drew)); exact HO_6.out⟩, ⟨zg0⟩⟩
        }
        }
       case rest =>
        clear HC19
        try clear c1
        try clear c2
        try clear p2
        try clear c6
        try clear c6b0
        try clear c6b1
        try clear p6
        try clear c7
        try clear c8
        try clear c8b0
        try clear c11
        try clear c11b0
        try clear c11b1
        try clear c12
        try clear c12b0
        try clear c12b1
        try clear c13
        try clear c13b0
        try clear c13b1
        try clear c14
        try clear c16
        try clear c16b0
        try clear c16b1
        try clear c17
        try clear c17b0
        try clear c17b1
        try clear c22
        try clear c22b0
        try clear c22b1
        try clear c23
        try clear c23b0
        try clear c23b1
        try clear p2
        obtain ⟨kq, x64_18, rfl, HA, HJ18, HO_6, HB⟩ := hcut
        cases kq with
        | zero => exact absurd HA.out (by simp [spec_Unpacked.j3])
        | succ kj18 =>
         have H := HA.out
         clear HA
         simp only [spec_Unpacked.j3] at H
         by_cases c24 : x64_18 = true
         {
         subst c24
         rw [if_pos rfl] at H
         obtain ⟨y244, hy244⟩ : ∃ y_ : List (S31), y_ = (([] : List (S31))) := ⟨_, rfl⟩
         replace H : (some (y244, false)) = some (r1, r2) := by first | (rw [hy244]; with_reducible exact H) | (have H2_ := (Option.bind_some _ _).symm.trans H; rw [hy244]; with_reducible exact H2_) | (have H2_ := (Option.bind_some _ _).symm.trans H; with_reducible exact H2_) | with_reducible exact H | (rw [hy244]; exact H) | exact H
         have Ny244 := A_ hy244
         clear hy244
         simp only [Option.some.injEq, Prod.mk.injEq] at H
         obtain ⟨rfl, rfl⟩ := H
         go_wp2_with (first | ((with_reducible refine gate_dst (N := 65) rfl ?_); (try (refine gate_guard (by rfl) ?_; dsimp only)); refine Kd.R_lit k31 _ 31 ?hg (N := 65) ?hd (xs := ([] : List (S31))) (inner := []) (ok := fun _ => True) (okp := fun _ => True) ?hr ?hp (fun _ hk => hk) trivial (Below.refl _ _) (Nat.le_refl _) (by simp) ?_; (case hd => rfl); (case hg => rfl); (case hr => first | (go_simp; done) | (go_simp; rfl)); (case hp => exact (Reps.none _ _)); intro v245 w25 ho26 hb hg_ hnew_; clear hg_ hnew_; (first | rw [← Ny244.out] at ho26 | (simp only [Int.reduceToNat] at ho26; rw [← Ny244.out] at ho26)); have n0_ := A_ (Kd.R_elder' zg12 (Kd.R_base ho26) hb); have n1_ := A_ (Kd.R_lower (Kd.R_new' ho26 (Kd.R_lt zg12)) (below_size zg0)); have n2_ := A_ (below_step zg0 hb); clear HO_6; clear HB; have HO_6 := n0_; have HO246 := n1_; have HB := n2_; clear n0_ n1_ n2_; clear hb ho26))
         go_ret2
         exact ⟨_, by first | rfl | (simp [errW_none, errW_some] <;> rfl) | (simp only [← hji15]; first | rfl | (simp [errW_none, errW_some] <;> rfl)) | (simp [*, errW_none, errW_some] <;> rfl), by (with_reducible repeat (first | apply Kd.R_alloc | apply Kd.R_drewN | apply Kd.R_drew)); exact Kd.R_mono HO246.out (fun _ hk => trivial), zg0⟩
         }
         {
         replace c24 := Bool.eq_false_iff.mpr c24
         subst c24
         rw [if_neg Bool.false_ne_true] at H
         obtain ⟨ji27, hji27⟩ : ∃ j_ : Int, (wrap64 ((wrap64 (x5_2 + t240)) + t243)) = j_ := ⟨_, rfl⟩
         replace H : (if 0 ≤ (ji27) then (if (ji27) ≤ (l0.length : Int) then ((spec_ReadNumber.f kj18 (l0.drop ((ji27) : Int).toNat)).bind fun bt248 => (if 0 ≤ (wrap64 ((ji27) + bt248.2)) then (if (wrap64 ((ji27) + bt248.2)) ≤ (l0.length : Int) then ((spec_ReadText.f kj18 (l0.drop ((wrap64 ((ji27) + bt248.2)) : Int).toNat)).bind fun bt251 => (if bt248.2 = 0 then (some ((([] : List (S31))), false)) else (if bt251.2 = 0 then (some ((([] : List (S31))), false)) else (if 0 ≤ t239 then (if t239 ≤ (x7_8.size : Int) then (if (x7_8.extract 0 (t239 : Int).toNat).size + t242.size ≤ 9223372036854775807 then (if x6_2.length < 2932031007402 then (spec_Unpacked.l0 kj18 l0 (wrap64 (x4_2 - 1)) (wrap64 ((wrap64 ((ji27) + bt248.2)) + bt251.2)) (x6_2 ++ [(⟨(x7_8.extract 0 (t239 : Int).toNat) ++ t242, bt251.1, wrap64 (Int.tdiv bt248.1 2), ((Int.tmod bt248.1 2) == 1)⟩ : S31)]) ((x7_8.extract 0 (t239 : Int).toNat) ++ t242)) else (none)) else (none)) else (none)) else (none))))) else (none)) else (none))) else (none)) else (none)) = some (r1, r2) := by first | (rw [hji27] at H; exact H) | (simp only [hji27] at H ⊢; exact H)
         have hji27r := hji27
         (try rw [hji15] at hji27r)
         (try rw [hji27r])
         have hji27w : (IntKind.i64.wrap ((wrap64 (x5_2 + t240)) + t243)) = ji27 := (i64_w _).trans hji27
         by_cases c28 : 0 ≤ (ji27)
         {
         rw [if_pos c28] at H
         have c28b0 := eq_true c28
         have c28b1 : decide (0 ≤ (ji27)) = true := decide_eq_true c28
         clear c28
         by_cases c29 : (ji27) ≤ (l0.length : Int)
         {
         rw [if_pos c29] at H
         have c29b0 := eq_true c29
         have c29b1 : decide ((ji27) ≤ (l0.length : Int)) = true := decide_eq_true c29
         clear c29
         replace H := Option.bind_eq_some_iff.mp H
         obtain ⟨⟨t248, t249⟩, A300, H⟩ := H
         (try dsimp only at H)
         have A30 := A_ A300
         clear A300
         obtain ⟨ji31, hji31⟩ : ∃ j_ : Int, (wrap64 ((ji27) + t249)) = j_ := ⟨_, rfl⟩
         replace H : (if 0 ≤ (ji31) then (if (ji31) ≤ (l0.length : Int) then ((spec_ReadText.f kj18 (l0.drop ((ji31) : Int).toNat)).bind fun bt251 => (if t249 = 0 then (some ((([] : List (S31))), false)) else (if bt251.2 = 0 then (some ((([] : List (S31))), false)) else (if 0 ≤ t239 then (if t239 ≤ (x7_8.size : Int) then (if (x7_8.extract 0 (t239 : Int).toNat).size + t242.size ≤ 9223372036854775807 then (if x6_2.length < 2932031007402 then (spec_Unpacked.l0 kj18 l0 (wrap64 (x4_2 - 1)) (wrap64 ((ji31) + bt251.2)) (x6_2 ++ [(⟨(x7_8.extract 0 (t239 : Int).toNat) ++ t242, bt251.1, wrap64 (Int.tdiv t248 2), ((Int.tmod t248 2) == 1)⟩ : S31)]) ((x7_8.extract 0 (t239 : Int).toNat) ++ t242)) else (none)) else (none)) else (none)) else (none))))) else (none)) else (none)) = some (r1, r2) := by first | (rw [hji31] at H; exact H) | (simp only [hji31] at H ⊢; exact H)
         (try rw [hji31])
         (try rw [hji31] at A30)
         have hji31w : (IntKind.i64.wrap ((ji27) + t249)) = ji31 := (i64_w _).trans hji31
         by_cases c32 : 0 ≤ (ji31)
         {
         rw [if_pos c32] at H
         have c32b0 := eq_true c32
         have c32b1 : decide (0 ≤ (ji31)) = true := decide_eq_true c32
         clear c32
         by_cases c33 : (ji31) ≤ (l0.length : Int)
         {
         rw [if_pos c33] at H
         have c33b0 := eq_true c33
         have c33b1 : decide ((ji31) ≤ (l0.length : Int)) = true := decide_eq_true c33
         clear c33
         replace H := Option.bind_eq_some_iff.mp H
         obtain ⟨⟨t251, t252⟩, A340, H⟩ := H
         (try dsimp only at H)
         have A34 := A_ A340
         clear A340
         by_cases c35 : t249 = 0
         {
         rw [if_pos c35] at H
         have c35b0 : (t249 == 0) = true := beq_iff_eq.mpr c35
         have c35b1 : (t249 != 0) = false := bne_eq_false_iff_eq.mpr c35
         clear c35
         obtain ⟨y253, hy253⟩ : ∃ y_ : List (S31), y_ = (([] : List (S31))) := ⟨_, rfl⟩
         replace H : (some (y253, false)) = some (r1, r2) := by first | (rw [hy253]; with_reducible exact H) | (have H2_ := (Option.bind_some _ _).symm.trans H; rw [hy253]; with_reducible exact H2_) | (have H2_ := (Option.bind_some _ _).symm.trans H; with_reducible exact H2_) | with_reducible exact H | (rw [hy253]; exact H) | exact H
         have Ny253 := A_ hy253
         clear hy253
         simp only [Option.some.injEq, Prod.mk.injEq] at H
         obtain ⟨rfl, rfl⟩ := H
         obtain ⟨i036, hi036, _, hsz36, _⟩ := info_parts info5
         obtain ⟨A36, hcut36, hA36, hC36⟩ := print_drop_of (P := Try.prog) (Value.int .u8) 0 36 5 .i64 Try.underlying36 hi036 hsz36 A0 c0 l0 (ji27) (of_decide_eq_true zg2) (of_decide_eq_true zg2) HC0.out
         have HR247 := A_ (Kd.C_of_reads (h1 := fun _ => rfl) (hA36 _ (Kd.reads_of_C HR0.out)))
         have HC247 := A_ hC36
         clear hA36 hC36 hi036 hsz36
         go_wp2_with (first | ((with_reducible refine gate_callee (f := 140) rfl ?_); refine goesL_ (some 75) rfl rfl Try.func140 (by kernel_rfl) rfl #[.slice A36 (l0.drop ((ji27) : Int).toNat).length (c0 - (ji27).toNat)] rfl z116e ?_; (with_reducible refine (spec_ReadNumber.calls kj18 _ _ (l0.drop ((ji27) : Int).toNat) t248 t249 _ ?side1 ?side2 A30.out).mono ?_); (case side1 => exact (by repeat (first | exact (Kd.C_below HR247.out HB.out) | (with_reducible refine Kd.C_alloc ?_ _) | (with_reducible refine Kd.C_drewN ?_ _) | (with_reducible refine Kd.C_drew ?_)))); (case side2 => exact HC247.out); rintro e w' ⟨rfl, ⟨nd, rfl⟩⟩; refine ⟨_, rfl, ?_⟩; obtain ⟨i037, hi037, _, hsz37, _⟩ := info_parts info5; obtain ⟨A37, hcut37, hA37, hC37⟩ := print_drop_of (P := Try.prog) (Value.int .u8) 0 36 5 .i64 Try.underlying36 hi037 hsz37 A0 c0 l0 (ji31) (of_decide_eq_true zg2) (of_decide_eq_true zg2) HC0.out; have HR250 := A_ (Kd.C_of_reads (h1 := fun _ => rfl) (hA37 _ (Kd.reads_of_C HR0.out))); have HC250 := A_ hC37; clear hA37 hC37 hi037 hsz37) | ((with_reducible refine gate_callee (f := 141) rfl ?_); refine goesL_ (some 84) rfl rfl Try.func141 (by kernel_rfl) rfl #[.slice A37 (l0.drop ((ji31) : Int).toNat).length (c0 - (ji31).toNat)] rfl z116f ?_; (with_reducible refine (spec_ReadText.calls kj18 _ _ (l0.drop ((ji31) : Int).toNat) t251 t252 _ ?side1 ?side2 A34.out).mono ?_); (case side1 => repeat (first | exact (Kd.C_below HR250.out zg0) | (with_reducible refine Kd.C_alloc ?_ _) | (with_reducible refine Kd.C_drewN ?_ _) | (with_reducible refine Kd.C_drew ?_))); (case side2 => exact HC250.out); rintro e w' ⟨rfl, ⟨nd, rfl⟩⟩; refine ⟨_, rfl, ?_⟩) | ((with_reducible refine gate_dst (N := 93) rfl ?_); (try (refine gate_guard (by rfl) ?_; dsimp only)); refine Kd.R_lit k31 _ 31 ?hg (N := 93) ?hd (xs := ([] : List (S31))) (inner := []) (ok := fun _ => True) (okp := fun _ => True) ?hr ?hp (fun _ hk => hk) trivial (Below.refl _ _) (Nat.le_refl _) (by simp) ?_; (case hd => rfl); (case hg => rfl); (case hr => first | (go_simp; done) | (go_simp; rfl)); (case hp => exact (Reps.none _ _)); intro v254 w38 ho39 hb hg_ hnew_; clear hg_ hnew_; (first | rw [← Ny253.out] at ho39 | (simp only [Int.reduceToNat] at ho39; rw [← Ny253.out] at ho39)); have n0_ := A_ (Kd.R_elder' zg12 (Kd.R_base ho39) hb); have n1_ := A_ (Kd.R_lower (Kd.R_new' ho39 (Kd.R_lt zg12)) (below_size zg0)); have n2_ := A_ (below_step zg0 hb); clear HO_6; clear HB; have HO_6 := n0_; have HO255 := n1_; have HB := n2_; clear n0_ n1_ n2_; clear hb ho39))
         go_ret2
         exact ⟨_, by first | rfl | (simp [errW_none, errW_some] <;> rfl) | (simp only [← hji15, ← hji27, ← hji31]; first | rfl | (simp [errW_none, errW_some] <;> rfl)) | (simp [*, errW_none, errW_some] <;> rfl), by (with_reducible repeat (first | apply Kd.R_alloc | apply Kd.R_drewN | apply Kd.R_drew)); exact Kd.R_mono HO255.out (fun _ hk => trivial), zg0⟩
         }
         {
         rw [if_neg c35] at H
         have c35b0 : (t249 == 0) = false := beq_eq_false_iff_ne.mpr c35
         have c35b1 : (t249 != 0) = true := bne_iff_ne.mpr c35
         by_cases c40 : t252 = 0
         {
         rw [if_pos c40] at H
         have c40b0 : (t252 == 0) = true := beq_iff_eq.mpr c40
         have c40b1 : (t252 != 0) = false := bne_eq_false_iff_eq.mpr c40
         clear c40
         obtain ⟨y256, hy256⟩ : ∃ y_ : List (S31), y_ = (([] : List (S31))) := ⟨_, rfl⟩
         replace H : (some (y256, false)) = some (r1, r2) := by first | (rw [hy256]; with_reducible exact H) | (have H2_ := (Option.bind_some _ _).symm.trans H; rw [hy256]; with_reducible exact H2_) | (have H2_ := (Option.bind_some _ _).symm.trans H; with_reducible exact H2_) | with_reducible exact H | (rw [hy256]; exact H) | exact H
         have Ny256 := A_ hy256
         clear hy256
         simp only [Option.some.injEq, Prod.mk.injEq] at H
         obtain ⟨rfl, rfl⟩ := H
         obtain ⟨i041, hi041, _, hsz41, _⟩ := info_parts info5
         obtain ⟨A41, hcut41, hA41, hC41⟩ := print_drop_of (P := Try.prog) (Value.int .u8) 0 36 5 .i64 Try.underlying36 hi041 hsz41 A0 c0 l0 (ji27) (of_decide_eq_true zg2) (of_decide_eq_true zg2) HC0.out
         have HR247 := A_ (Kd.C_of_reads (h1 := fun _ => rfl) (hA41 _ (Kd.reads_of_C HR0.out)))
         have HC247 := A_ hC41
         clear hA41 hC41 hi041 hsz41
         go_wp2_with (first | ((with_reducible refine gate_callee (f := 140) rfl ?_); refine goesL_ (some 75) rfl rfl Try.func140 (by kernel_rfl) rfl #[.slice A41 (l0.drop ((ji27) : Int).toNat).length (c0 - (ji27).toNat)] rfl z116e ?_; (with_reducible refine (spec_ReadNumber.calls kj18 _ _ (l0.drop ((ji27) : Int).toNat) t248 t249 _ ?side1 ?side2 A30.out).mono ?_); (case side1 => exact (by repeat (first | exact (Kd.C_below HR247.out HB.out) | (with_reducible refine Kd.C_alloc ?_ _) | (with_reducible refine Kd.C_drewN ?_ _) | (with_reducible refine Kd.C_drew ?_)))); (case side2 => exact HC247.out); rintro e w' ⟨rfl, ⟨nd, rfl⟩⟩; refine ⟨_, rfl, ?_⟩; obtain ⟨i042, hi042, _, hsz42, _⟩ := info_parts info5; obtain ⟨A42, hcut42, hA42, hC42⟩ := print_drop_of (P := Try.prog) (Value.int .u8) 0 36 5 .i64 Try.underlying36 hi042 hsz42 A0 c0 l0 (ji31) (of_decide_eq_true zg2) (of_decide_eq_true zg2) HC0.out; have HR250 := A_ (Kd.C_of_reads (h1 := fun _ => rfl) (hA42 _ (Kd.reads_of_C HR0.out))); have HC250 := A_ hC42; clear hA42 hC42 hi042 hsz42) | ((with_reducible refine gate_callee (f := 141) rfl ?_); refine goesL_ (some 84) rfl rfl Try.func141 (by kernel_rfl) rfl #[.slice A42 (l0.drop ((ji31) : Int).toNat).length (c0 - (ji31).toNat)] rfl z116f ?_; (with_reducible refine (spec_ReadText.calls kj18 _ _ (l0.drop ((ji31) : Int).toNat) t251 t252 _ ?side1 ?side2 A34.out).mono ?_); (case side1 => repeat (first | exact (Kd.C_below HR250.out zg0) | (with_reducible refine Kd.C_alloc ?_ _) | (with_reducible refine Kd.C_drewN ?_ _) | (with_reducible refine Kd.C_drew ?_))); (case side2 => exact HC250.out); rintro e w' ⟨rfl, ⟨nd, rfl⟩⟩; refine ⟨_, rfl, ?_⟩) | ((with_reducible refine gate_dst (N := 93) rfl ?_); (try (refine gate_guard (by rfl) ?_; dsimp only)); refine Kd.R_lit k31 _ 31 ?hg (N := 93) ?hd (xs := ([] : List (S31))) (inner := []) (ok := fun _ => True) (okp := fun _ => True) ?hr ?hp (fun _ hk => hk) trivial (Below.refl _ _) (Nat.le_refl _) (by simp) ?_; (case hd => rfl); (case hg => rfl); (case hr => first | (go_simp; done) | (go_simp; rfl)); (case hp => exact (Reps.none _ _)); intro v257 w43 ho44 hb hg_ hnew_; clear hg_ hnew_; (first | rw [← Ny256.out] at ho44 | (simp only [Int.reduceToNat] at ho44; rw [← Ny256.out] at ho44)); have n0_ := A_ (Kd.R_elder' zg12 (Kd.R_base ho44) hb); have n1_ := A_ (Kd.R_lower (Kd.R_new' ho44 (Kd.R_lt zg12)) (below_size zg0)); have n2_ := A_ (below_step zg0 hb); clear HO_6; clear HB; have HO_6 := n0_; have HO258 := n1_; have HB := n2_; clear n0_ n1_ n2_; clear hb ho44))
         go_ret2
         exact ⟨_, by first | rfl | (simp [errW_none, errW_some] <;> rfl) | (simp only [← hji15, ← hji27, ← hji31]; first | rfl | (simp [errW_none, errW_some] <;> rfl)) | (simp [*, errW_none, errW_some] <;> rfl), by (with_reducible repeat (first | apply Kd.R_alloc | apply Kd.R_drewN | apply Kd.R_drew)); exact Kd.R_mono HO258.out (fun _ hk => trivial), zg0⟩
         }
         {
         rw [if_neg c40] at H
         have c40b0 : (t252 == 0) = false := beq_eq_false_iff_ne.mpr c40
         have c40b1 : (t252 != 0) = true := bne_iff_ne.mpr c40
         by_cases c45 : 0 ≤ t239
         {
         rw [if_pos c45] at H
         have c45b0 := eq_true c45
         have c45b1 : decide (0 ≤ t239) = true := decide_eq_true c45
         clear c45
         by_cases c46 : t239 ≤ (x7_8.size : Int)
         {
         rw [if_pos c46] at H
         have c46b0 := eq_true c46
         have c46b1 : decide (t239 ≤ (x7_8.size : Int)) = true := decide_eq_true c46
         clear c46
         by_cases c47 : (x7_8.extract 0 (t239 : Int).toNat).size + t242.size ≤ 9223372036854775807
         {
         rw [if_pos c47] at H
         have c47b0 := eq_true c47
         have c47b1 : decide ((x7_8.extract 0 (t239 : Int).toNat).size + t242.size ≤ 9223372036854775807) = true := decide_eq_true c47
         try have c47b2 : (9223372036854775807 < (x7_8.extract 0 (t239 : Int).toNat).size + t242.size) = False := eq_false (Nat.not_lt.2 c47)
         have hx_ : t239 ≤ (x7_8.size : Int) := of_decide_eq_true zg2
         have c47b3 : (9223372036854775807 < t239.toNat + t242.size) = False := by rw [← c47b2, show (x7_8.extract 0 t239.toNat).size = t239.toNat by simp; omega]
         clear hx_
         by_cases c48 : x6_2.length < 2932031007402
         {
         rw [if_pos c48] at H
         have LMc48 := A_ c48
         clear c48
         obtain ⟨y259, hy259⟩ : ∃ y_ : List (S31), y_ = (x6_2 ++ [(⟨(x7_8.extract 0 (t239 : Int).toNat) ++ t242, t251, wrap64 (Int.tdiv t248 2), ((Int.tmod t248 2) == 1)⟩ : S31)]) := ⟨_, rfl⟩
         replace H : (spec_Unpacked.l0 kj18 l0 (wrap64 (x4_2 - 1)) (wrap64 ((ji31) + t252)) y259 ((x7_8.extract 0 (t239 : Int).toNat) ++ t242)) = some (r1, r2) := by first | (rw [hy259]; with_reducible exact H) | (have H2_ := (Option.bind_some _ _).symm.trans H; rw [hy259]; with_reducible exact H2_) | (have H2_ := (Option.bind_some _ _).symm.trans H; with_reducible exact H2_) | with_reducible exact H | (rw [hy259]; exact H) | exact H
         have Ny259 := A_ hy259
         clear hy259
         have H' := A_ H
         clear H
         obtain ⟨i049, hi049, _, hsz49, _⟩ := info_parts info5
         obtain ⟨A49, hcut49, hA49, hC49⟩ := print_drop_of (P := Try.prog) (Value.int .u8) 0 36 5 .i64 Try.underlying36 hi049 hsz49 A0 c0 l0 (ji27) (of_decide_eq_true zg2) (of_decide_eq_true zg2) HC0.out
         have HR247 := A_ (Kd.C_of_reads (h1 := fun _ => rfl) (hA49 _ (Kd.reads_of_C HR0.out)))
         have HC247 := A_ hC49
         clear hA49 hC49 hi049 hsz49
         go_wp2_with (first | ((with_reducible refine gate_callee (f := 140) rfl ?_); refine goesL_ (some 75) rfl rfl Try.func140 (by kernel_rfl) rfl #[.slice A49 (l0.drop ((ji27) : Int).toNat).length (c0 - (ji27).toNat)] rfl z116e ?_; (with_reducible refine (spec_ReadNumber.calls kj18 _ _ (l0.drop ((ji27) : Int).toNat) t248 t249 _ ?side1 ?side2 A30.out).mono ?_); (case side1 => exact (by repeat (first | exact (Kd.C_below HR247.out HB.out) | (with_reducible refine Kd.C_alloc ?_ _) | (with_reducible refine Kd.C_drewN ?_ _) | (with_reducible refine Kd.C_drew ?_)))); (case side2 => exact HC247.out); rintro e w' ⟨rfl, ⟨nd, rfl⟩⟩; refine ⟨_, rfl, ?_⟩; obtain ⟨i050, hi050, _, hsz50, _⟩ := info_parts info5; obtain ⟨A50, hcut50, hA50, hC50⟩ := print_drop_of (P := Try.prog) (Value.int .u8) 0 36 5 .i64 Try.underlying36 hi050 hsz50 A0 c0 l0 (ji31) (of_decide_eq_true zg2) (of_decide_eq_true zg2) HC0.out; have HR250 := A_ (Kd.C_of_reads (h1 := fun _ => rfl) (hA50 _ (Kd.reads_of_C HR0.out))); have HC250 := A_ hC50; clear hA50 hC50 hi050 hsz50) | ((with_reducible refine gate_callee (f := 141) rfl ?_); refine goesL_ (some 84) rfl rfl Try.func141 (by kernel_rfl) rfl #[.slice A50 (l0.drop ((ji31) : Int).toNat).length (c0 - (ji31).toNat)] rfl z116f ?_; (with_reducible refine (spec_ReadText.calls kj18 _ _ (l0.drop ((ji31) : Int).toNat) t251 t252 _ ?side1 ?side2 A34.out).mono ?_); (case side1 => repeat (first | exact (Kd.C_below HR250.out zg0) | (with_reducible refine Kd.C_alloc ?_ _) | (with_reducible refine Kd.C_drewN ?_ _) | (with_reducible refine Kd.C_drew ?_))); (case side2 => exact HC250.out); rintro e w' ⟨rfl, ⟨nd, rfl⟩⟩; refine ⟨_, rfl, ?_⟩) | ((with_reducible refine gate_builtin (b := .append) (xs := #[.tmp 104, .tmp 113]) rfl ?_); (try (refine gate_guard (by rfl) ?_; dsimp only)); at_builtin; (first | (refine Kd.R_append k31 (w0 := w) w.heap.size rfl (.tmp 104) (.tmp 113) 27 31 (.agg #[(.string ⟨#[]⟩), (.string ⟨#[]⟩), (.int .i64 0), (.bool false)]) 48 rfl Try.underlying27 info31 rfl (by decide) (by omega) (.slice Ao10 x6_2.length co10) x6_2 (⟨(x7_8.extract 0 (t239 : Int).toNat) ++ t242, t251, wrap64 (Int.tdiv t248 2), ((Int.tmod t248 2) == 1)⟩ : S31) [.string ((x7_8.extract 0 (t239 : Int).toNat) ++ t242), .string t251, .int .i64 (wrap64 (Int.tdiv t248 2)), .bool ((Int.tmod t248 2) == 1)] (fun _ => True) (fun _ => False) rfl rfl ?aP (fun _ hk => hk.elim) ?aF ?aO ?aB ?aS ?aL ?_) | (refine Kd.R_append k31 (w0 := w) w.heap.size rfl (.tmp 104) (.tmp 113) 27 31 (.agg #[(.string ⟨#[]⟩), (.string ⟨#[]⟩), (.int .i64 0), (.bool false)]) 48 rfl Try.underlying27 info31 rfl (by decide) (by omega) (.slice Ao10 x6_2.length co10) x6_2 (⟨(x7_8.extract 0 (t239 : Int).toNat) ++ t242, t251, wrap64 (Int.tdiv t248 2), ((Int.tmod t248 2) == 1)⟩ : S31) [.string ((x7_8.extract 0 (t239 : Int).toNat) ++ t242), .string t251, .int .i64 (wrap64 (Int.tdiv t248 2)), .bool false] (fun _ => True) (fun _ => False) rfl rfl ?aP (fun _ hk => hk.elim) ?aF ?aO ?aB ?aS ?aL ?_) | (refine Kd.R_append k31 (w0 := w) w.heap.size rfl (.tmp 104) (.tmp 113) 27 31 (.agg #[(.string ⟨#[]⟩), (.string ⟨#[]⟩), (.int .i64 0), (.bool false)]) 48 rfl Try.underlying27 info31 rfl (by decide) (by omega) (.slice Ao10 x6_2.length co10) x6_2 (⟨(x7_8.extract 0 (t239 : Int).toNat) ++ t242, t251, wrap64 (Int.tdiv t248 2), ((Int.tmod t248 2) == 1)⟩ : S31) [.string ((x7_8.extract 0 (t239 : Int).toNat) ++ t242), .string t251, .int .i64 (wrap64 (Int.tdiv t248 2)), .bool true] (fun _ => True) (fun _ => False) rfl rfl ?aP (fun _ hk => hk.elim) ?aF ?aO ?aB ?aS ?aL ?_)); (case aP => first | exact k31_mkM _ _ _ (⟨(x7_8.extract 0 (t239 : Int).toNat) ++ t242, t251, wrap64 (Int.tdiv t248 2), ((Int.tmod t248 2) == 1)⟩ : S31) | (rw [show ((Int.tmod t248 2) == 1) = false from (by assumption)]; exact k31_mkM _ _ _ _) | (rw [show ((Int.tmod t248 2) == 1) = true from (by assumption)]; exact k31_mkM _ _ _ _)); (case aB => exact zg0); (case aF => exact (fun _ _ => trivial)); (case aO => exact zg12); (case aS => exact (below_size zg0)); (case aL => have := LMc48.out; omega); intro v260 w51 ho hb hg hat; rw [← Ny259.out] at ho; have n0_ := A_ (hb); have n1_ := A_ (ho); clear HB; clear HO_6; have HB := n0_; have HO261 := n1_; clear n0_ n1_; clear ho hb hg hat))
         go_roundg kj18
         case measure => have := HJ2.out; have := HK2.out; have := HJ8.out; have := HJ18.out; omega
         case rel => exact ⟨(wrap64 (x4_2 - 1)), (wrap64 ((ji31) + t252)), (y259), ((x7_8.extract 0 (t239 : Int).toNat) ++ t242), zs, (by first | rfl | (simp; done) | (simp only [← hji31] <;> (first | rfl | simp)) | (simp [*]; done)), zs, H', ⟨by have := HJ2.out; have := HK2.out; have := HJ8.out; have := HJ18.out; omega⟩, ⟨by (with_reducible repeat (first | apply Kd.R_alloc | apply Kd.R_drewN | apply Kd.R_drew)); exact HO261.out⟩, ⟨zg0⟩⟩
         }
         {
         rw [if_neg c48] at H
         exact absurd H (by simp)
         }
         }
         {
         rw [if_neg c47] at H
         exact absurd H (by simp)
         }
         }
         {
         rw [if_neg c46] at H
         exact absurd H (by simp)
         }
         }
         {
         rw [if_neg c45] at H
         exact absurd H (by simp)
         }
         }
         }
         }
         {
         rw [if_neg c33] at H
         exact absurd H (by simp)
         }
         }
         {
         rw [if_neg c32] at H
         exact absurd H (by simp)
         }
         }
         {
         rw [if_neg c29] at H
         exact absurd H (by simp)
         }
         }
         {
         rw [if_neg c28] at H
         exact absurd H (by simp)
         }
         }
       }
       {
       rw [if_neg c17] at H
       exact absurd H (by simp)
       }
       }
       {
       rw [if_neg c16] at H
       exact absurd H (by simp)
       }
       }
       {
       rw [if_neg c13] at H
       exact absurd H (by simp)
       }
       }
       {
       rw [if_neg c12] at H
       exact absurd H (by simp)
       }
     }
     {
     rw [if_neg c8] at H
     have c8b0 : decide (0 < x4_2) = false := decide_eq_false c8
     clear c8
     replace H := Option.bind_eq_some_iff.mp H
     obtain ⟨t232, A520, H⟩ := H
     (try dsimp only at H)
     have A52 := A_ A520
     clear A520
     by_cases c53 : (strOfNums t232).toList = (strOfNums l0).toList
     {
     rw [if_pos c53] at H
     have c53b0 : ((strOfNums t232).toList == (strOfNums l0).toList) = true := beq_iff_eq.mpr c53
     have c53b1 : ((strOfNums t232).toList != (strOfNums l0).toList) = false := bne_eq_false_iff_eq.mpr c53
     clear c53
     simp only [Option.some.injEq, Prod.mk.injEq] at H
     obtain ⟨rfl, rfl⟩ := H
     obtain ⟨Ao54, co54, eo54⟩ := Kd.R_slice HO_6.out
     subst eo54
     try go_wp2
     replace HO_6 := A_ (Kd.R_drew HO_6.out)
     replace HB := A_ (below_drew1 HB.out)
     refine start_ (n := 6) (S := fun w' => (Kd.int .u8).C w' A0 l0.length l0) (ds := []) #[X, X, X, X, X, X] (by kernel_rfl) rfl rfl (Kd.C_below HR0.out HB.out) (fun hHeld => ?_)
     generalize wr.drew = w55 at HO_6 HB hHeld ⊢
     refine pure_ (i := 0) (N := some 115) (v := _) (a' := _) #[Y, X, X, X, X, X] rfl rfl (by kernel_rfl) (fun _ _ _ h => h) (Or.inl ⟨by rfl, (by intro w'; go_simp; with_reducible rfl)⟩) zg1 ?_
     refine pure_ (i := 3) (N := some 118) (v := _) (a' := _) #[Y, X, X, Y, X, X] rfl rfl (by kernel_rfl) (fun _ _ _ h => h) (Or.inl ⟨by rfl, (by intro w'; go_simp; with_reducible rfl)⟩) zg1 ?_
     refine take_ (i := 4) (N := some 119) (v := ?_) (a' := ?_) #[Y, X, X, Y, Y, X] rfl rfl (by kernel_rfl) (fun _ _ _ h => h) (Or.inl ⟨by rfl, ?_⟩) hHeld ?_ ?_
     rotate_left
     {
     intro w' hS_
     have hcvS_ := Kd.C_string (P := Try.prog) (A := A0) (c := c0) Try.underlying36 Try.underlying5 Try.underlying9 hS_
     go_simp
     with_reducible rfl
     }
     rotate_left
     exact zg1
     refine one_ (i := 1) (N := some 116) #[Y, Y, X, Y, Y, X] rfl rfl (by kernel_rfl) (by decide) (fun K hK => ?_)
     refine goes_ Try.func142 (by kernel_rfl) rfl #[.slice Ao54 x6_2.length co54] (by rfl) rfl rfl (by (try simp only [List.map_toArray, List.map_cons, List.map_nil]); first | done | rfl | (simp only [List.length_drop, List.length_take]; rfl)) ?_
     with_reducible refine (spec_Packed.calls k2 _ _ x6_2 t232 _ ?side1 ?side2 A52.out).mono ?_
     (case side1 => exact (by repeat (first | exact (Kd.R_reads' HO_6.out).2.2 | (with_reducible refine Kd.C_alloc ?_ _) | (with_reducible refine Kd.C_drewN ?_ _) | (with_reducible refine Kd.C_drew ?_))))
     (case side2 => exact (Kd.R_reads' HO_6.out).2.1)
     rintro e w56 ⟨v233, rfl, ho0, hb⟩
     refine ⟨_, rfl, ?_⟩
     have n0_ := A_ (Kd.R_below zg12 hb)
     have n1_ := A_ (Kd.R_lower ho0 (below_size zg0))
     have n2_ := A_ (below_step zg0 hb)
     clear HO_6
     clear HB
     have HO_6 := n0_
     have HO234 := n1_
     have HB := n2_
     clear n0_ n1_ n2_
     have hcv58 := Kd.C_string (P := Try.prog) (A := A0) (c := c0) Try.underlying36 Try.underlying5 Try.underlying9 (Kd.C_below HR0.out HB.out)
     have hcvd59 := fun (nq_ : Nat) => Kd.C_string (P := Try.prog) (A := A0) (c := c0) Try.underlying36 Try.underlying5 Try.underlying9 (Kd.C_drewN (Kd.C_below HR0.out HB.out) nq_)
     refine hK.out _ _ (Kd.C_below HR0.out HB.out) (fun hHeld => ?_)
     clear hK K
     refine norm_ (nz_ 116) ?_
     refine one_ (i := 2) (N := some 117) #[Y, Y, Y, Y, Y, X] rfl rfl (by kernel_rfl) (by decide) (fun K hK => ?_)
     have hcv57 := own_string (P := Try.prog) Try.underlying36 Try.underlying5 Try.underlying9 (Kd.own_of_R HO234.out)
     refine value_ (w1 := ?_) (v := ?_) (by rfl) rfl ?_ ?_
     rotate_left 2
     {
     go_simp
     constructor
     {
     rfl
     }
     {
     rfl
     }
     }
     clear hcv57
     refine hK.out _ _ (Kd.C_below HR0.out HB.out) (fun hHeld => ?_)
     clear hK K
     refine norm_ (nz_ 117) ?_
     refine pure_ (i := 5) (N := some 120) (v := _) (a' := _) #[Y, Y, Y, Y, Y, Y] rfl rfl (by kernel_rfl) (fun _ _ _ h => h) (Or.inl ⟨by rfl, (by intro w'; go_simp; with_reducible rfl)⟩) zg1 ?_
     refine done_ (by kernel_rfl) ?_
     try go_wp2
     go_ret2
     exact ⟨_, zr, by (with_reducible repeat (first | apply Kd.R_alloc | apply Kd.R_drewN | apply Kd.R_drew)); exact HO_6.out, zg0⟩
     }
     {
     rw [if_neg c53] at H
     have c53b0 : ((strOfNums t232).toList == (strOfNums l0).toList) = false := beq_eq_false_iff_ne.mpr c53
     have c53b1 : ((strOfNums t232).toList != (strOfNums l0).toList) = true := bne_iff_ne.mpr c53
     obtain ⟨y235, hy235⟩ : ∃ y_ : List (S31), y_ = (([] : List (S31))) := ⟨_, rfl⟩
     replace H : (some (y235, false)) = some (r1, r2) := by first | (rw [hy235]; with_reducible exact H) | (have H2_ := (Option.bind_some _ _).symm.trans H; rw [hy235]; with_reducible exact H2_) | (have H2_ := (Option.bind_some _ _).symm.trans H; with_reducible exact H2_) | with_reducible exact H | (rw [hy235]; exact H) | exact H
     have Ny235 := A_ hy235
     clear hy235
     simp only [Option.some.injEq, Prod.mk.injEq] at H
     obtain ⟨rfl, rfl⟩ := H
     obtain ⟨Ao61, co61, eo61⟩ := Kd.R_slice HO_6.out
     subst eo61
     try go_wp2
     replace HO_6 := A_ (Kd.R_drew HO_6.out)
     replace HB := A_ (below_drew1 HB.out)
     refine start_ (n := 6) (S := fun w' => (Kd.int .u8).C w' A0 l0.length l0) (ds := []) #[X, X, X, X, X, X] (by kernel_rfl) rfl rfl (Kd.C_below HR0.out HB.out) (fun hHeld => ?_)
     generalize wr.drew = w62 at HO_6 HB hHeld ⊢
     refine pure_ (i := 0) (N := some 115) (v := _) (a' := _) #[Y, X, X, X, X, X] rfl rfl (by kernel_rfl) (fun _ _ _ h => h) (Or.inl ⟨by rfl, (by intro w'; go_simp; with_reducible rfl)⟩) zg1 ?_
     refine pure_ (i := 3) (N := some 118) (v := _) (a' := _) #[Y, X, X, Y, X, X] rfl rfl (by kernel_rfl) (fun _ _ _ h => h) (Or.inl ⟨by rfl, (by intro w'; go_simp; with_reducible rfl)⟩) zg1 ?_
     refine take_ (i := 4) (N := some 119) (v := ?_) (a' := ?_) #[Y, X, X, Y, Y, X] rfl rfl (by kernel_rfl) (fun _ _ _ h => h) (Or.inl ⟨by rfl, ?_⟩) hHeld ?_ ?_
     rotate_left
     {
     intro w' hS_
     have hcvS_ := Kd.C_string (P := Try.prog) (A := A0) (c := c0) Try.underlying36 Try.underlying5 Try.underlying9 hS_
     go_simp
     with_reducible rfl
     }
     rotate_left
     exact zg1
     refine one_ (i := 1) (N := some 116) #[Y, Y, X, Y, Y, X] rfl rfl (by kernel_rfl) (by decide) (fun K hK => ?_)
     refine goes_ Try.func142 (by kernel_rfl) rfl #[.slice Ao61 x6_2.length co61] (by rfl) rfl rfl (by (try simp only [List.map_toArray, List.map_cons, List.map_nil]); first | done | rfl | (simp only [List.length_drop, List.length_take]; rfl)) ?_
     with_reducible refine (spec_Packed.calls k2 _ _ x6_2 t232 _ ?side1 ?side2 A52.out).mono ?_
     (case side1 => exact (by repeat (first | exact (Kd.R_reads' HO_6.out).2.2 | (with_reducible refine Kd.C_alloc ?_ _) | (with_reducible refine Kd.C_drewN ?_ _) | (with_reducible refine Kd.C_drew ?_))))
     (case side2 => exact (Kd.R_reads' HO_6.out).2.1)
     rintro e w63 ⟨v233, rfl, ho0, hb⟩
     refine ⟨_, rfl, ?_⟩
     have n0_ := A_ (Kd.R_below zg12 hb)
     have n1_ := A_ (Kd.R_lower ho0 (below_size zg0))
     have n2_ := A_ (below_step zg0 hb)
     clear HO_6
     clear HB
     have HO_6 := n0_
     have HO234 := n1_
     have HB := n2_
     clear n0_ n1_ n2_
     have hcv65 := Kd.C_string (P := Try.prog) (A := A0) (c := c0) Try.underlying36 Try.underlying5 Try.underlying9 (Kd.C_below HR0.out HB.out)
     have hcvd66 := fun (nq_ : Nat) => Kd.C_string (P := Try.prog) (A := A0) (c := c0) Try.underlying36 Try.underlying5 Try.underlying9 (Kd.C_drewN (Kd.C_below HR0.out HB.out) nq_)
     refine hK.out _ _ (Kd.C_below HR0.out HB.out) (fun hHeld => ?_)
     clear hK K
     refine norm_ (nz_ 116) ?_
     refine one_ (i := 2) (N := some 117) #[Y, Y, Y, Y, Y, X] rfl rfl (by kernel_rfl) (by decide) (fun K hK => ?_)
     have hcv64 := own_string (P := Try.prog) Try.underlying36 Try.underlying5 Try.underlying9 (Kd.own_of_R HO234.out)
     refine value_ (w1 := ?_) (v := ?_) (by rfl) rfl ?_ ?_
     rotate_left 2
     {
     go_simp
     constructor
     {
     rfl
     }
     {
     rfl
     }
     }
     clear hcv64
     refine hK.out _ _ (Kd.C_below HR0.out HB.out) (fun hHeld => ?_)
     clear hK K
     refine norm_ (nz_ 117) ?_
     refine pure_ (i := 5) (N := some 120) (v := _) (a' := _) #[Y, Y, Y, Y, Y, Y] rfl rfl (by kernel_rfl) (fun _ _ _ h => h) (Or.inl ⟨by rfl, (by intro w'; go_simp; with_reducible rfl)⟩) zg1 ?_
     refine done_ (by kernel_rfl) ?_
     try go_wp2_with (first | ((with_reducible refine gate_dst (N := 121) rfl ?_); (try (refine gate_guard (by rfl) ?_; dsimp only)); refine Kd.R_lit k31 _ 31 ?hg (N := 121) ?hd (xs := ([] : List (S31))) (inner := []) (ok := fun _ => True) (okp := fun _ => True) ?hr ?hp (fun _ hk => hk) trivial (Below.refl _ _) (Nat.le_refl _) (by simp) ?_; (case hd => rfl); (case hg => rfl); (case hr => first | (go_simp; done) | (go_simp; rfl)); (case hp => exact (Reps.none _ _)); intro v236 w68 ho69 hb hg_ hnew_; clear hg_ hnew_; (first | rw [← Ny235.out] at ho69 | (simp only [Int.reduceToNat] at ho69; rw [← Ny235.out] at ho69)); have n0_ := A_ (Kd.R_elder' zg12 (Kd.R_base ho69) hb); have n1_ := A_ (Kd.R_below (by (with_reducible repeat (first | apply Kd.R_alloc | apply Kd.R_drewN | apply Kd.R_drew)); exact HO234.out) hb); have n2_ := A_ (Kd.R_lower (Kd.R_new' ho69 (Kd.R_lt zg12)) (below_size zg0)); have n3_ := A_ (below_step zg0 hb); clear HO_6; clear HO234; clear HB; have HO_6 := n0_; have HO234 := n1_; have HO237 := n2_; have HB := n3_; clear n0_ n1_ n2_ n3_; clear hb ho69))
     go_ret2
     exact ⟨_, zr, by (with_reducible repeat (first | apply Kd.R_alloc | apply Kd.R_drewN | apply Kd.R_drew)); exact Kd.R_mono HO237.out (fun _ hk => trivial), zg0⟩
     
     }
     }
   }
end Go.Proofs.Ytaiggfjkikfcbaa.PFnExactEntries

-- by a program of this session (wip/print/run.py) for this claim
import Derived.Test.YthkhfmomibfkjaaLibPu
import Derived.Test.YthkhfmomibfkjaaPFnPackedx0
import Derived.Test.YthkhfmomibfkjaaPFnPackedx1
import Derived.Test.YthkhfmomibfkjaaPFnPackedx6
import Derived.Test.YthkhfmomibfkjaaPFnPackedx7
import Derived.Test.YthkhfmomibfkjaaPFnPackedx10
namespace Go.Proofs.Ythkhfmomibfkjaa.PFnPacked
open Go.Proofs.Ythkhfmomibfkjaa.Lib Go.RowKit Go.Proofs.YthkhfmomibfkjaaW.PrintWords Go.Proofs.YthkhfmomibfkjaaW.PrintLast Go.Proofs.YthkhfmomibfkjaaW.PrintMore
attribute [local go_sem] max2_int min2_int max_two min_two max_three min_three max_four min_four   -- for this text's walks alone
set_option linter.unusedVariables false
set_option linter.unusedSimpArgs false

attribute [local go_sem high] eqA49
theorem z51a {p_ : Prop} (h_ : p_ := by repeat (first | (with_reducible first | exact HI280.out | apply IsS78.alloc | apply IsS78.drewN | apply IsS78.drew | apply IsS78.set_1 | apply IsS78.moves (hn := rfl) (hc := HC0.out) (hr := HR0.out)) | exact HI280.out)) : p_ := h_
theorem z51b {p_ : Prop} (h_ : p_ := by repeat (first | (with_reducible first | exact HB.out | apply below_alloc | apply pw_below_drewN | apply below_drew1 | refine below_set ?_ (IsS78.ge HI280.out)) | exact HB.out)) : p_ := h_
theorem z51c {p_ : Prop} (h_ : p_ := by (with_reducible repeat (first | apply Kd.R_alloc | apply Kd.R_drewN | apply Kd.R_drew)); exact HO_7.out) : p_ := h_
theorem z51d {p_ : Prop} (h_ : p_ := by (try simp only [List.map_toArray, List.map_cons, List.map_nil]); first | done | rfl | (simp only [List.length_drop, List.length_take]; rfl)) : p_ := h_
theorem z51e {p_ : Prop} (h_ : p_ := by repeat (first | exact (Kd.R_reads' HO_7.out).2.2 | (with_reducible refine Kd.C_alloc ?_ _) | (with_reducible refine Kd.C_drewN ?_ _) | (with_reducible refine Kd.C_drew ?_))) : p_ := h_
theorem z51f {p_ : Prop} (h_ : p_ := by simp only [Act.put, List.setIfInBounds_toArray, List.set_cons_zero, List.set_cons_succ, i64_w, i32_w]; rfl) : p_ := h_
theorem z51g {p_ : Prop} (h_ : p_ := by repeat (first | (with_reducible first | exact HB.out | apply below_alloc | apply pw_below_drewN | apply below_drew1) | exact HB.out)) : p_ := h_
mutual
def impl_Unpacked.l0 : Nat → List Int → Int → ByteArray → List (S49) → List Int → Bool → Option ((List (S49)) × Bool)
 | 0, _, _, _, _, _, _ => none
 | k + 1, x0, x5, x6, x7, x281000, x281001 => if x5 > 0 then (impl_Unpacked.j1 k x0 x5 x6 x7 (!x281001) x281000 x281001) else (impl_Unpacked.j1 k x0 x5 x6 x7 false x281000 x281001)
def impl_Unpacked.j1 : Nat → List Int → Int → ByteArray → List (S49) → Bool → List Int → Bool → Option ((List (S49)) × Bool)
 | 0, _, _, _, _, _, _, _ => none
 | k + 1, x0, x5, x6, x7, x22, x281000, x281001 => if x22 = true then ((impl_cursor_number.f k x281000 x281001).bind fun bt287 => (if bt287.1 > (x6.size : Int) then (some (([] : List (S49)), false)) else (if 0 ≤ bt287.1 then (if bt287.1 ≤ (x6.size : Int) then ((impl_cursor_text.f k bt287.2.1 bt287.2.2).bind fun bt290 => (if (x6.extract 0 (bt287.1 : Int).toNat).size + bt290.1.size ≤ 9223372036854775807 then ((impl_cursor_number.f k bt290.2.1 bt290.2.2).bind fun bt293 => ((impl_cursor_text.f k bt293.2.1 bt293.2.2).bind fun bt296 => (if x7.length < 2932031007402 then (impl_Unpacked.l0 k x0 (wrap64 (x5 - 1)) ((x6.extract 0 (bt287.1 : Int).toNat) ++ bt290.1) (x7 ++ [(⟨(x6.extract 0 (bt287.1 : Int).toNat) ++ bt290.1, bt296.1, wrap64 (Int.tdiv bt293.1 2), ((Int.tmod bt293.1 2) == 1)⟩ : S49)]) bt296.2.1 bt296.2.2) else (none)))) else (none))) else (none)) else (none)))) else ((impl_cursor_ended.f x281000 x281001).bind fun bt302 => (if bt302.1 = true then ((impl_EntriesOk.f k x7).bind fun t305 => (if t305 = true then ((impl_packed.f k x7).bind fun t306 => ((bytes_Equal.f t306 x0).bind fun t309 => (if t309 = true then (some (x7, true)) else (some (([] : List (S49)), false))))) else (some (([] : List (S49)), false)))) else (some (([] : List (S49)), false))))
end
def impl_Unpacked.f (k : Nat) (l0 : List Int) : Option ((List (S49)) × Bool) := (impl_cursor_number.f k l0 false).bind fun bt281 => (if bt281.1 > 300 then (some (([] : List (S49)), false)) else (impl_Unpacked.l0 k l0 bt281.1 (⟨#[]⟩ : ByteArray) (([] : List (S49))) bt281.2.1 bt281.2.2))
set_option maxHeartbeats 8000000 in
set_option maxRecDepth 100000 in
theorem impl_Unpacked.calls (k : Nat) (A0 : Option Addr) (c0 : Nat) (l0 : List Int) (r1 : List (S49)) (r2 : Bool) (w : World) (hr0 : Kd.C (Kd.int .u8) w A0 l0.length l0) (hc0 : l0.length ≤ c0) (h : impl_Unpacked.f k l0 = some (r1, r2)) :
  Calls Try.prog 51 #[.slice A0 l0.length c0] w fun e w' => ∃ v0_ : Value, e = .returned (.tuple #[v0_, .bool r2]) ∧ Kd.R k49 49 w' w.heap.size (fun _ => True) v0_ r1 ∧ Below w.heap.size w w' := by
 have hu78 := Try.underlying78
 have hu49 := Try.underlying49
 have HR0 := A_ hr0
 have HC0 := A_ hc0
 clear hr0 hc0
 have HB := A_ (Below.refl w.heap.size w)
 have H : ((impl_cursor_number.f k l0 false).bind fun bt281 => (if bt281.1 > 300 then (some (([] : List (S49)), false)) else (impl_Unpacked.l0 k l0 bt281.1 (⟨#[]⟩ : ByteArray) (([] : List (S49))) bt281.2.1 bt281.2.2))) = some (r1, r2) := h
 clear h
 replace H := Option.bind_eq_some_iff.mp H
 obtain ⟨⟨t281, t282, t283⟩, A20, H⟩ := H
 (try dsimp only at H)
 have A2 := A_ A20
 clear A20
 obtain ⟨y284, hy284⟩ : ∃ y_ : List (S49), y_ = (([] : List (S49))) := ⟨_, rfl⟩
 replace H : (if t281 > 300 then (some (([] : List (S49)), false)) else (impl_Unpacked.l0 k l0 t281 (⟨#[]⟩ : ByteArray) y284 t282 t283)) = some (r1, r2) := by first | (rw [hy284]; with_reducible exact H) | (have H2_ := (Option.bind_some _ _).symm.trans H; rw [hy284]; with_reducible exact H2_) | (have H2_ := (Option.bind_some _ _).symm.trans H; with_reducible exact H2_) | with_reducible exact H | (rw [hy284]; exact H) | exact H
 have Ny284 := A_ hy284
 clear hy284
 by_cases c3 : t281 > 300
 {
 rw [if_pos c3] at H
 have c3b0 : decide (300 < t281) = true := decide_eq_true c3
 clear c3
 simp only [Option.some.injEq, Prod.mk.injEq] at H
 obtain ⟨rfl, rfl⟩ := H
 go_enter Try.func51, Try.ntmps51
 go_wp2_with (first | ((with_reducible refine gate_dst (N := 4) rfl ?_); refine box_event ?hg (N := 4) ?hd (cs := #[.slice none 0 0, .bool false]) (t := 78) ?hr ?_; (case hd => rfl); (case hg => rfl); (case hr => first | (go_simp; done) | (go_simp; rfl)); intro gb280 hg w4 hbox hb; have n0_ := A_ (below_step z51g hb); have n1_ := A_ ((show IsS78 w w4 gb280 ([] : List Int) false from ⟨_, _, hbox, (by rw [hg]; exact (below_size z51g) : w.heap.size ≤ gb280), ⟨Kd.C_nil _ _, Nat.zero_le _⟩⟩)); clear HB; have HB := n0_; have HI280 := n1_; clear n0_ n1_; clear hb hbox hg; obtain ⟨ASz5_0, cSz5_0, HGz5, hgz5, HSz5_0⟩ := HI280.out; have hcz5_0 := cellS78_0 HGz5; have hcz5_1 := cellS78_1 HGz5; have hfz5_0 := blk_frozen HGz5 0; have hfz5_1 := blk_frozen HGz5 1; clear HGz5 hgz5) | ((with_reducible refine gate_callee (f := 90) rfl ?_); refine goesL_ (some 12) rfl rfl Try.func90 (by kernel_rfl) rfl #[.pointer (some ⟨gb280, 0, none⟩)] rfl z51d ?_; (with_reducible refine (impl_cursor_number.calls k gb280 l0 false t281 t282 t283 w _ ?side1 ?side2 A2.out).mono ?_); (case side1 => exact z51a); (case side2 => exact z51b); rintro e w6 ⟨rfl, hi, hb, hk⟩; refine ⟨_, rfl, ?_⟩; replace HB := A_ (hb); replace HI280 := A_ (hi)) | ((with_reducible refine gate_dst (N := 13) rfl ?_); refine Kd.R_lit k49 _ 49 ?hg (N := 13) ?hd (xs := ([] : List (S49))) (inner := []) (ok := fun _ => True) (okp := fun _ => True) ?hr ?hp (fun _ hk => hk) trivial (Below.refl _ _) (Nat.le_refl _) (by simp) ?_; (case hd => rfl); (case hg => rfl); (case hr => first | (go_simp; done) | (go_simp; rfl)); (case hp => exact (Reps.none _ _)); intro v285 w7 ho8 hb hg_ hnew_; clear hg_ hnew_; (first | rw [← Ny284.out] at ho8 | (simp only [Int.reduceToNat] at ho8; rw [← Ny284.out] at ho8)); have n0_ := A_ (Kd.R_lower ho8 (below_size z51b)); have n1_ := A_ (IsS78.below z51a hb); have n2_ := A_ (below_step z51b hb); clear HI280; clear HB; have HO286 := n0_; have HI280 := n1_; have HB := n2_; clear n0_ n1_ n2_; clear hb ho8))
 go_ret2
 exact ⟨_, by first | rfl | (simp [errW_none, errW_some] <;> rfl) | (simp [*, errW_none, errW_some] <;> rfl), by first | exact Kd.R_nil _ _ _ _ _ | exact Kd.N_nil _ _ _ _ _ | exact Kd.V_nil _ _ _ _ _ | exact Kd.Q_nil _ _ _ _ _ | exact Kd.S_nil _ _ _ _ _, by repeat (first | (with_reducible first | exact HB.out | apply below_alloc | apply pw_below_drewN | apply below_drew1 | refine below_set ?_ (IsS78.ge HI280.out)) | exact HB.out)⟩
 }
 {
 rw [if_neg c3] at H
 have c3b0 : decide (300 < t281) = false := decide_eq_false c3
 clear c3
 have H' := A_ H
 clear H
 go_enter Try.func51, Try.ntmps51
 go_wp2_with (first | ((with_reducible refine gate_dst (N := 4) rfl ?_); refine box_event ?hg (N := 4) ?hd (cs := #[.slice none 0 0, .bool false]) (t := 78) ?hr ?_; (case hd => rfl); (case hg => rfl); (case hr => first | (go_simp; done) | (go_simp; rfl)); intro gb280 hg w9 hbox hb; have n0_ := A_ (below_step z51g hb); have n1_ := A_ ((show IsS78 w w9 gb280 ([] : List Int) false from ⟨_, _, hbox, (by rw [hg]; exact (below_size z51g) : w.heap.size ≤ gb280), ⟨Kd.C_nil _ _, Nat.zero_le _⟩⟩)); clear HB; have HB := n0_; have HI280 := n1_; clear n0_ n1_; clear hb hbox hg; obtain ⟨ASz10_0, cSz10_0, HGz10, hgz10, HSz10_0⟩ := HI280.out; have hcz10_0 := cellS78_0 HGz10; have hcz10_1 := cellS78_1 HGz10; have hfz10_0 := blk_frozen HGz10 0; have hfz10_1 := blk_frozen HGz10 1; clear HGz10 hgz10) | ((with_reducible refine gate_callee (f := 90) rfl ?_); refine goesL_ (some 12) rfl rfl Try.func90 (by kernel_rfl) rfl #[.pointer (some ⟨gb280, 0, none⟩)] rfl z51d ?_; (with_reducible refine (impl_cursor_number.calls k gb280 l0 false t281 t282 t283 w _ ?side1 ?side2 A2.out).mono ?_); (case side1 => exact z51a); (case side2 => exact z51b); rintro e w11 ⟨rfl, hi, hb, hk⟩; refine ⟨_, rfl, ?_⟩; replace HB := A_ (hb); replace HI280 := A_ (hi)) | ((with_reducible refine gate_dst (N := 13) rfl ?_); refine Kd.R_lit k49 _ 49 ?hg (N := 13) ?hd (xs := ([] : List (S49))) (inner := []) (ok := fun _ => True) (okp := fun _ => True) ?hr ?hp (fun _ hk => hk) trivial (Below.refl _ _) (Nat.le_refl _) (by simp) ?_; (case hd => rfl); (case hg => rfl); (case hr => first | (go_simp; done) | (go_simp; rfl)); (case hp => exact (Reps.none _ _)); intro v285 w12 ho13 hb hg_ hnew_; clear hg_ hnew_; (first | rw [← Ny284.out] at ho13 | (simp only [Int.reduceToNat] at ho13; rw [← Ny284.out] at ho13)); have n0_ := A_ (Kd.R_lower ho13 (below_size z51b)); have n1_ := A_ (IsS78.below z51a hb); have n2_ := A_ (below_step z51b hb); clear HI280; clear HB; have HO286 := n0_; have HI280 := n1_; have HB := n2_; clear n0_ n1_ n2_; clear hb ho13))
 go_loopg [5, 6, 7] k (fun kq v5 v6 v7 w' => ∃ (x5_1 : Int) (x6_1 : ByteArray) (x7_1 : List (S49)) (x281000_1 : List Int) (x281001_1 : Bool), v5 = .int .i64 x5_1 ∧ v6 = .string x6_1 ∧ Aside0 (impl_Unpacked.l0 kq l0 x5_1 x6_1 x7_1 x281000_1 x281001_1 = some (r1, r2)) ∧ Aside0 (kq ≤ k) ∧ Aside0 (Kd.R k49 49 w' w.heap.size (fun _ => True) v7 x7_1) ∧ Aside0 (IsS78 w w' gb280 x281000_1 x281001_1) ∧ Aside0 (Below w.heap.size w w'))
 case atStart => exact ⟨(t281), ((⟨#[]⟩ : ByteArray)), (y284), (t282), (t283), (by first | rfl | (simp; done) | (simp [*]; done)), (by first | rfl | (simp; done) | (simp [*]; done)), H', ⟨Nat.le_refl _⟩, ⟨by (with_reducible repeat (first | apply Kd.R_alloc | apply Kd.R_drewN | apply Kd.R_drew)); exact HO286.out⟩, ⟨by repeat (first | (with_reducible first | exact HI280.out | apply IsS78.alloc | apply IsS78.drewN | apply IsS78.drew | apply IsS78.set_1 | apply IsS78.moves (hn := rfl) (hc := HC0.out) (hr := HR0.out)) | exact HI280.out)⟩, ⟨by repeat (first | (with_reducible first | exact HB.out | apply below_alloc | apply pw_below_drewN | apply below_drew1 | refine below_set ?_ (IsS78.ge HI280.out)) | exact HB.out)⟩⟩
 case round =>
  clear H'
  try clear p2
  try clear c3
  try clear c3b0
  try clear c5
  try clear c9
  try clear hcz10_0
  try clear hcz10_1
  try clear hcz5_0
  try clear hcz5_1
  try clear hfz10_0
  try clear hfz10_1
  try clear hfz5_0
  try clear hfz5_1
  obtain ⟨x5_1, x6_1, x7_1, x281000_1, x281001_1, rfl, rfl, HA, HK1, HO_7, HI280, HB⟩ := hrel
  cases gk with
  | zero => exact absurd HA.out (by simp [impl_Unpacked.l0])
  | succ k1 =>
   have H := HA.out
   clear HA
   simp only [impl_Unpacked.l0] at H
   have HC14 := A_ H
   clear H
   go_upto_region 5 with (fail)
   go_cut [22] (fun v22 wc => ∃ (kq : Nat) (x22_13 : Bool), v22 = .bool x22_13 ∧ Aside0 (impl_Unpacked.j1 kq l0 x5_1 x6_1 x7_1 x22_13 x281000_1 x281001_1 = some (r1, r2)) ∧ Aside0 (kq ≤ k1) ∧ Aside0 (Kd.R k49 49 wc w.heap.size (fun _ => True) u7 x7_1) ∧ Aside0 (IsS78 w wc gb280 x281000_1 x281001_1) ∧ Aside0 (Below w.heap.size w wc))
   case first =>
    have H := HC14.out
    clear HC14
    by_cases c15 : x5_1 > 0
    {
    rw [if_pos c15] at H
    have c15b0 : decide (0 < x5_1) = true := decide_eq_true c15
    clear c15
    (first | rw [c15b0] | (simp only [i64_w, i32_w]; rw [c15b0]) | skip)
    have H' := A_ H
    clear H
    obtain ⟨ASz16_0, cSz16_0, HGz16, hgz16, HSz16_0⟩ := HI280.out
    have hcz16_0 := cellS78_0 HGz16
    have hcz16_1 := cellS78_1 HGz16
    have hfz16_0 := blk_frozen HGz16 0
    have hfz16_1 := blk_frozen HGz16 1
    clear HGz16 hgz16
    go_wp2
    go_meet
    case rel => exact ⟨_, (!x281001_1), (by first | rfl | (simp; done) | (simp [*]; done)), H', ⟨by have := HK1.out; first | omega | exact Nat.le_refl _⟩, ⟨by (with_reducible repeat (first | apply Kd.R_alloc | apply Kd.R_drewN | apply Kd.R_drew)); exact HO_7.out⟩, ⟨by repeat (first | (with_reducible first | exact HI280.out | apply IsS78.alloc | apply IsS78.drewN | apply IsS78.drew | apply IsS78.set_1 | apply IsS78.moves (hn := rfl) (hc := HC0.out) (hr := HR0.out)) | exact HI280.out)⟩, ⟨by repeat (first | (with_reducible first | exact HB.out | apply below_alloc | apply pw_below_drewN | apply below_drew1 | refine below_set ?_ (IsS78.ge HI280.out)) | exact HB.out)⟩⟩
    }
    {
    rw [if_neg c15] at H
    have c15b0 : decide (0 < x5_1) = false := decide_eq_false c15
    clear c15
    (first | rw [c15b0] | (simp only [i64_w, i32_w]; rw [c15b0]) | skip)
    have H' := A_ H
    clear H
    go_wp2
    go_meet
    case rel => exact ⟨_, (false), (by first | rfl | (simp; done) | (simp [*]; done)), H', ⟨by have := HK1.out; first | omega | exact Nat.le_refl _⟩, ⟨by (with_reducible repeat (first | apply Kd.R_alloc | apply Kd.R_drewN | apply Kd.R_drew)); exact HO_7.out⟩, ⟨by repeat (first | (with_reducible first | exact HI280.out | apply IsS78.alloc | apply IsS78.drewN | apply IsS78.drew | apply IsS78.set_1 | apply IsS78.moves (hn := rfl) (hc := HC0.out) (hr := HR0.out)) | exact HI280.out)⟩, ⟨by repeat (first | (with_reducible first | exact HB.out | apply below_alloc | apply pw_below_drewN | apply below_drew1 | refine below_set ?_ (IsS78.ge HI280.out)) | exact HB.out)⟩⟩
    }
   case rest =>
    clear HC14
    try clear c1
    try clear p2
    try clear c3
    try clear c3b0
    try clear c5
    try clear c9
    try clear c15
    try clear c15b0
    try clear hcz10_0
    try clear hcz10_1
    try clear hcz16_0
    try clear hcz16_1
    try clear hcz5_0
    try clear hcz5_1
    try clear hfz10_0
    try clear hfz10_1
    try clear hfz16_0
    try clear hfz16_1
    try clear hfz5_0
    try clear hfz5_1
    try clear p2
    obtain ⟨kq, x22_13, rfl, HA, HJ13, HO_7, HI280, HB⟩ := hcut
    cases kq with
    | zero => exact absurd HA.out (by simp [impl_Unpacked.j1])
    | succ kj13 =>
     have H := HA.out
     clear HA
     simp only [impl_Unpacked.j1] at H
     by_cases c17 : x22_13 = true
     {
     subst c17
     rw [if_pos rfl] at H
     replace H := Option.bind_eq_some_iff.mp H
     obtain ⟨⟨t287, t288, t289⟩, A180, H⟩ := H
     (try dsimp only at H)
     have A18 := A_ A180
     clear A180
     by_cases c19 : t287 > (x6_1.size : Int)
     {
     rw [if_pos c19] at H
     have c19b0 : decide ((x6_1.size : Int) < t287) = true := decide_eq_true c19
     clear c19
     simp only [Option.some.injEq, Prod.mk.injEq] at H
     obtain ⟨rfl, rfl⟩ := H
     go_wp2_with (first | ((with_reducible refine gate_callee (f := 90) rfl ?_); refine goesL_ (some 25) rfl rfl Try.func90 (by kernel_rfl) rfl #[.pointer (some ⟨gb280, 0, none⟩)] rfl z51d ?_; (with_reducible refine (impl_cursor_number.calls kj13 gb280 x281000_1 x281001_1 t287 t288 t289 w _ ?side1 ?side2 A18.out).mono ?_); (case side1 => exact z51a); (case side2 => exact z51b); rintro e w20 ⟨rfl, hi, hb, hk⟩; refine ⟨_, rfl, ?_⟩; replace HO_7 := A_ (Kd.R_mono (Kd.R_keep (IsS78.apart (show IsS78 w _ gb280 x281000_1 x281001_1 from z51a) z51c (by decide)) hk (fun _ h => h.2)) (fun _ h => h.1)); replace HB := A_ (hb); replace HI280 := A_ (hi)))
     go_ret2
     exact ⟨_, by first | rfl | (simp [errW_none, errW_some] <;> rfl) | (simp [*, errW_none, errW_some] <;> rfl), by first | exact Kd.R_nil _ _ _ _ _ | exact Kd.N_nil _ _ _ _ _ | exact Kd.V_nil _ _ _ _ _ | exact Kd.Q_nil _ _ _ _ _ | exact Kd.S_nil _ _ _ _ _, by repeat (first | (with_reducible first | exact HB.out | apply below_alloc | apply pw_below_drewN | apply below_drew1 | refine below_set ?_ (IsS78.ge HI280.out)) | exact HB.out)⟩
     }
     {
     rw [if_neg c19] at H
     have c19b0 : decide ((x6_1.size : Int) < t287) = false := decide_eq_false c19
     clear c19
     by_cases c21 : 0 ≤ t287
     {
     rw [if_pos c21] at H
     have c21b0 := eq_true c21
     have c21b1 : decide (0 ≤ t287) = true := decide_eq_true c21
     clear c21
     by_cases c22 : t287 ≤ (x6_1.size : Int)
     {
     rw [if_pos c22] at H
     have c22b0 := eq_true c22
     have c22b1 : decide (t287 ≤ (x6_1.size : Int)) = true := decide_eq_true c22
     clear c22
     replace H := Option.bind_eq_some_iff.mp H
     obtain ⟨⟨t290, t291, t292⟩, A230, H⟩ := H
     (try dsimp only at H)
     have A23 := A_ A230
     clear A230
     by_cases c24 : (x6_1.extract 0 (t287 : Int).toNat).size + t290.size ≤ 9223372036854775807
     {
     rw [if_pos c24] at H
     have c24b0 := eq_true c24
     have c24b1 : decide ((x6_1.extract 0 (t287 : Int).toNat).size + t290.size ≤ 9223372036854775807) = true := decide_eq_true c24
     try have c24b2 : (9223372036854775807 < (x6_1.extract 0 (t287 : Int).toNat).size + t290.size) = False := eq_false (Nat.not_lt.2 c24)
     have hx_ : t287 ≤ (x6_1.size : Int) := of_decide_eq_true (by first | (with_reducible assumption) | assumption)
     have c24b3 : (9223372036854775807 < t287.toNat + t290.size) = False := by rw [← c24b2, show (x6_1.extract 0 t287.toNat).size = t287.toNat by simp; omega]
     clear hx_
     replace H := Option.bind_eq_some_iff.mp H
     obtain ⟨⟨t293, t294, t295⟩, A250, H⟩ := H
     (try dsimp only at H)
     have A25 := A_ A250
     clear A250
     replace H := Option.bind_eq_some_iff.mp H
     obtain ⟨⟨t296, t297, t298⟩, A260, H⟩ := H
     (try dsimp only at H)
     have A26 := A_ A260
     clear A260
     by_cases c27 : x7_1.length < 2932031007402
     {
     rw [if_pos c27] at H
     have LMc27 := A_ c27
     clear c27
     obtain ⟨y299, hy299⟩ : ∃ y_ : List (S49), y_ = (x7_1 ++ [(⟨(x6_1.extract 0 (t287 : Int).toNat) ++ t290, t296, wrap64 (Int.tdiv t293 2), ((Int.tmod t293 2) == 1)⟩ : S49)]) := ⟨_, rfl⟩
     replace H : (impl_Unpacked.l0 kj13 l0 (wrap64 (x5_1 - 1)) ((x6_1.extract 0 (t287 : Int).toNat) ++ t290) y299 t297 t298) = some (r1, r2) := by first | (rw [hy299]; with_reducible exact H) | (have H2_ := (Option.bind_some _ _).symm.trans H; rw [hy299]; with_reducible exact H2_) | (have H2_ := (Option.bind_some _ _).symm.trans H; with_reducible exact H2_) | with_reducible exact H | (rw [hy299]; exact H) | exact H
     have Ny299 := A_ hy299
     clear hy299
     have H' := A_ H
     clear H
     try go_wp2_with (first | ((with_reducible refine gate_callee (f := 90) rfl ?_); refine goesL_ (some 25) rfl rfl Try.func90 (by kernel_rfl) rfl #[.pointer (some ⟨gb280, 0, none⟩)] rfl z51d ?_; (with_reducible refine (impl_cursor_number.calls kj13 gb280 x281000_1 x281001_1 t287 t288 t289 w _ ?side1 ?side2 A18.out).mono ?_); (case side1 => exact z51a); (case side2 => exact z51b); rintro e w28 ⟨rfl, hi, hb, hk⟩; refine ⟨_, rfl, ?_⟩; replace HO_7 := A_ (Kd.R_mono (Kd.R_keep (IsS78.apart (show IsS78 w _ gb280 x281000_1 x281001_1 from z51a) z51c (by decide)) hk (fun _ h => h.2)) (fun _ h => h.1)); replace HB := A_ (hb); replace HI280 := A_ (hi)))
     replace HO_7 := A_ (Kd.R_drew HO_7.out)
     replace HI280 := A_ (IsS78.drew HI280.out)
     replace HB := A_ (below_drew1 HB.out)
     refine start_ (n := 6) (S := fun w' => True) (ds := []) #[X, X, X, X, X, X] (by kernel_rfl) rfl rfl trivial (fun hHeld => ?_)
     generalize w28.drew = w29 at HO_7 HI280 HB hHeld ⊢
     refine pure_ (i := 0) (N := some 30) (v := _) (a' := _) #[Y, X, X, X, X, X] rfl rfl (by kernel_rfl) (fun _ _ _ h => h) (Or.inl ⟨by rfl, (by intro w'; go_simp; with_reducible rfl)⟩) z51f ?_
     refine pure_ (i := 1) (N := some 31) (v := _) (a' := _) #[Y, Y, X, X, X, X] rfl rfl (by kernel_rfl) (fun _ _ _ h => h) (Or.inl ⟨by rfl, (by intro w'; go_simp; with_reducible rfl)⟩) z51f ?_
     refine pure_ (i := 2) (N := some 32) (v := _) (a' := _) #[Y, Y, Y, X, X, X] rfl rfl (by kernel_rfl) (fun _ _ _ h => h) (Or.inl ⟨by rfl, (by intro w'; go_simp; with_reducible rfl)⟩) z51f ?_
     refine one_ (i := 3) (N := some 33) #[Y, Y, Y, Y, X, X] rfl rfl (by kernel_rfl) (by decide) (fun K hK => ?_)
     refine goes_ Try.func91 (by kernel_rfl) rfl #[.pointer (some ⟨gb280, 0, none⟩)] (by rfl) rfl rfl z51d ?_
     with_reducible refine (impl_cursor_text.calls kj13 gb280 t288 t289 t290 t291 t292 w _ ?side1 ?side2 A23.out).mono ?_
     (case side1 => exact z51a)
     (case side2 => exact z51b)
     rintro e w30 ⟨rfl, hi, hb, hk⟩
     refine ⟨_, rfl, ?_⟩
     replace HO_7 := A_ (Kd.R_mono (Kd.R_keep (IsS78.apart (show IsS78 w _ gb280 t288 t289 from z51a) z51c (by decide)) hk (fun _ h => h.2)) (fun _ h => h.1))
     replace HB := A_ (hb)
     replace HI280 := A_ (hi)
     refine hK.out _ _ trivial (fun hHeld => ?_)
     clear hK K
     refine norm_ (nz_ 33) ?_
     refine pure_ (i := 4) (N := some 34) (v := _) (a' := _) #[Y, Y, Y, Y, Y, X] rfl rfl (by kernel_rfl) (fun _ _ _ h => h) (Or.inl ⟨by rfl, (by intro w'; go_simp; with_reducible rfl)⟩) z51f ?_
     refine pure_ (i := 5) (N := some 6) (v := _) (a' := _) #[Y, Y, Y, Y, Y, Y] rfl rfl (by kernel_rfl) (fun _ _ _ h => h) (Or.inl ⟨by rfl, (by intro w'; go_simp; with_reducible rfl)⟩) z51f ?_
     refine done_ (by kernel_rfl) ?_
     try go_wp2_with (first | ((with_reducible refine gate_callee (f := 90) rfl ?_); refine goesL_ (some 35) rfl rfl Try.func90 (by kernel_rfl) rfl #[.pointer (some ⟨gb280, 0, none⟩)] rfl z51d ?_; (with_reducible refine (impl_cursor_number.calls kj13 gb280 t291 t292 t293 t294 t295 w _ ?side1 ?side2 A25.out).mono ?_); (case side1 => exact z51a); (case side2 => exact z51b); rintro e w31 ⟨rfl, hi, hb, hk⟩; refine ⟨_, rfl, ?_⟩; replace HO_7 := A_ (Kd.R_mono (Kd.R_keep (IsS78.apart (show IsS78 w _ gb280 t291 t292 from z51a) z51c (by decide)) hk (fun _ h => h.2)) (fun _ h => h.1)); replace HB := A_ (hb); replace HI280 := A_ (hi)) | ((with_reducible refine gate_callee (f := 91) rfl ?_); refine goesL_ (some 43) rfl rfl Try.func91 (by kernel_rfl) rfl #[.pointer (some ⟨gb280, 0, none⟩)] rfl z51d ?_; (with_reducible refine (impl_cursor_text.calls kj13 gb280 t294 t295 t296 t297 t298 w _ ?side1 ?side2 A26.out).mono ?_); (case side1 => exact z51a); (case side2 => exact z51b); rintro e w32 ⟨rfl, hi, hb, hk⟩; refine ⟨_, rfl, ?_⟩; replace HO_7 := A_ (Kd.R_mono (Kd.R_keep (IsS78.apart (show IsS78 w _ gb280 t294 t295 from z51a) z51c (by decide)) hk (fun _ h => h.2)) (fun _ h => h.1)); replace HB := A_ (hb); replace HI280 := A_ (hi)) | ((with_reducible refine gate_builtin (b := .append) (xs := #[.tmp 36, .tmp 45]) rfl ?_); at_builtin; (first | (refine Kd.R_append k49 (w0 := w) w.heap.size rfl (.tmp 36) (.tmp 45) 44 49 (.agg #[(.string ⟨#[]⟩), (.string ⟨#[]⟩), (.int .i64 0), (.bool false)]) 48 rfl Try.underlying44 info49 rfl (by decide) (by omega) u7 x7_1 (⟨(x6_1.extract 0 (t287 : Int).toNat) ++ t290, t296, wrap64 (Int.tdiv t293 2), ((Int.tmod t293 2) == 1)⟩ : S49) [.string ((x6_1.extract 0 (t287 : Int).toNat) ++ t290), .string t296, .int .i64 (wrap64 (Int.tdiv t293 2)), .bool ((Int.tmod t293 2) == 1)] (fun _ => True) (fun _ => False) rfl rfl ?aP (fun _ hk => hk.elim) ?aF ?aO ?aB ?aS ?aL ?_) | (refine Kd.R_append k49 (w0 := w) w.heap.size rfl (.tmp 36) (.tmp 45) 44 49 (.agg #[(.string ⟨#[]⟩), (.string ⟨#[]⟩), (.int .i64 0), (.bool false)]) 48 rfl Try.underlying44 info49 rfl (by decide) (by omega) u7 x7_1 (⟨(x6_1.extract 0 (t287 : Int).toNat) ++ t290, t296, wrap64 (Int.tdiv t293 2), ((Int.tmod t293 2) == 1)⟩ : S49) [.string ((x6_1.extract 0 (t287 : Int).toNat) ++ t290), .string t296, .int .i64 (wrap64 (Int.tdiv t293 2)), .bool false] (fun _ => True) (fun _ => False) rfl rfl ?aP (fun _ hk => hk.elim) ?aF ?aO ?aB ?aS ?aL ?_) | (refine Kd.R_append k49 (w0 := w) w.heap.size rfl (.tmp 36) (.tmp 45) 44 49 (.agg #[(.string ⟨#[]⟩), (.string ⟨#[]⟩), (.int .i64 0), (.bool false)]) 48 rfl Try.underlying44 info49 rfl (by decide) (by omega) u7 x7_1 (⟨(x6_1.extract 0 (t287 : Int).toNat) ++ t290, t296, wrap64 (Int.tdiv t293 2), ((Int.tmod t293 2) == 1)⟩ : S49) [.string ((x6_1.extract 0 (t287 : Int).toNat) ++ t290), .string t296, .int .i64 (wrap64 (Int.tdiv t293 2)), .bool true] (fun _ => True) (fun _ => False) rfl rfl ?aP (fun _ hk => hk.elim) ?aF ?aO ?aB ?aS ?aL ?_)); (case aP => first | exact k49_mkM _ _ _ (⟨(x6_1.extract 0 (t287 : Int).toNat) ++ t290, t296, wrap64 (Int.tdiv t293 2), ((Int.tmod t293 2) == 1)⟩ : S49) | (rw [show ((Int.tmod t293 2) == 1) = false from (by assumption)]; exact k49_mkM _ _ _ _) | (rw [show ((Int.tmod t293 2) == 1) = true from (by assumption)]; exact k49_mkM _ _ _ _)); (case aB => exact z51b); (case aF => exact (fun _ _ => trivial)); (case aO => exact z51c); (case aS => exact (below_size z51b)); (case aL => have := LMc27.out; omega); intro v300 w33 ho hb hg hat; rw [← Ny299.out] at ho; have n0_ := A_ (IsS78.grown z51a hg (IsS78.own_ne HI280.out HO_7.out (by decide))); have n1_ := A_ (hb); have n2_ := A_ (ho); clear HI280; clear HB; clear HO_7; have HI280 := n0_; have HB := n1_; have HO301 := n2_; clear n0_ n1_ n2_; clear ho hb hg hat))
     go_roundg kj13
     case measure => have := HK1.out; have := HJ13.out; omega
     case rel => exact ⟨(wrap64 (x5_1 - 1)), ((x6_1.extract 0 (t287 : Int).toNat) ++ t290), (y299), (t297), (t298), (by first | rfl | (simp; done) | (simp [*]; done)), (by first | rfl | (simp; done) | (simp [*]; done)), H', ⟨by have := HK1.out; have := HJ13.out; omega⟩, ⟨by (with_reducible repeat (first | apply Kd.R_alloc | apply Kd.R_drewN | apply Kd.R_drew)); exact HO301.out⟩, ⟨by repeat (first | (with_reducible first | exact HI280.out | apply IsS78.alloc | apply IsS78.drewN | apply IsS78.drew | apply IsS78.set_1 | apply IsS78.moves (hn := rfl) (hc := HC0.out) (hr := HR0.out)) | exact HI280.out)⟩, ⟨by repeat (first | (with_reducible first | exact HB.out | apply below_alloc | apply pw_below_drewN | apply below_drew1 | refine below_set ?_ (IsS78.ge HI280.out)) | exact HB.out)⟩⟩
     }
     {
     rw [if_neg c27] at H
     exact absurd H (by simp)
     }
     }
     {
     rw [if_neg c24] at H
     exact absurd H (by simp)
     }
     }
     {
     rw [if_neg c22] at H
     exact absurd H (by simp)
     }
     }
     {
     rw [if_neg c21] at H
     exact absurd H (by simp)
     }
     }
     }
     {
     replace c17 := Bool.eq_false_iff.mpr c17
     subst c17
     rw [if_neg Bool.false_ne_true] at H
     replace H := Option.bind_eq_some_iff.mp H
     obtain ⟨⟨t302, t303, t304⟩, A340, H⟩ := H
     (try dsimp only at H)
     have A34 := A_ A340
     clear A340
     by_cases c35 : t302 = true
     {
     subst c35
     rw [if_pos rfl] at H
     replace H := Option.bind_eq_some_iff.mp H
     obtain ⟨t305, A360, H⟩ := H
     (try dsimp only at H)
     have A36 := A_ A360
     clear A360
     by_cases c37 : t305 = true
     {
     subst c37
     rw [if_pos rfl] at H
     replace H := Option.bind_eq_some_iff.mp H
     obtain ⟨t306, A380, H⟩ := H
     (try dsimp only at H)
     have A38 := A_ A380
     clear A380
     replace H := Option.bind_eq_some_iff.mp H
     obtain ⟨t309, A390, H⟩ := H
     (try dsimp only at H)
     have A39 := A_ A390
     clear A390
     by_cases c40 : t309 = true
     {
     subst c40
     rw [if_pos rfl] at H
     simp only [Option.some.injEq, Prod.mk.injEq] at H
     obtain ⟨rfl, rfl⟩ := H
     go_wp2_with (first | ((with_reducible refine gate_callee (f := 77) rfl ?_); refine goesL_ (some 47) rfl rfl Try.func77 (by kernel_rfl) rfl #[.pointer (some ⟨gb280, 0, none⟩)] rfl z51d ?_; (with_reducible refine (impl_cursor_ended.calls gb280 x281000_1 x281001_1 true t303 t304 w _ ?side1 ?side2 A34.out).mono ?_); (case side1 => exact z51a); (case side2 => exact z51b); rintro e w41 ⟨rfl, hi, hb, hk⟩; refine ⟨_, rfl, ?_⟩; replace HO_7 := A_ (Kd.R_mono (Kd.R_keep (IsS78.apart (show IsS78 w _ gb280 x281000_1 x281001_1 from z51a) z51c (by decide)) hk (fun _ h => h.2)) (fun _ h => h.1)); replace HB := A_ (hb); replace HI280 := A_ (hi); obtain ⟨Ao42, co42, eo42⟩ := Kd.R_slice HO_7.out; subst eo42) | (go_at_call 39; (with_reducible refine (impl_EntriesOk.calls kj13 _ _ x7_1 true _ ?side1 ?side2 A36.out).mono ?_); (case side1 => exact z51e); (case side2 => exact (Kd.R_reads' HO_7.out).2.1); rintro e w43 ⟨rfl, hb⟩; have n0_ := A_ (Kd.R_below z51c hb); have n1_ := A_ (IsS78.below z51a hb); have n2_ := A_ (below_step z51b hb); clear HO_7; clear HI280; clear HB; have HO_7 := n0_; have HI280 := n1_; have HB := n2_; clear n0_ n1_ n2_) | (go_at_call 89; (with_reducible refine (impl_packed.calls kj13 _ _ x7_1 t306 _ ?side1 ?side2 A38.out).mono ?_); (case side1 => exact z51e); (case side2 => exact (Kd.R_reads' HO_7.out).2.1); rintro e w44 ⟨v307, rfl, ho0, hb⟩; have n0_ := A_ (Kd.R_below z51c hb); have n1_ := A_ (Kd.R_lower ho0 (below_size z51b)); have n2_ := A_ (IsS78.below z51a hb); have n3_ := A_ (below_step z51b hb); clear HO_7; clear HI280; clear HB; have HO_7 := n0_; have HO308 := n1_; have HI280 := n2_; have HB := n3_; clear n0_ n1_ n2_ n3_; obtain ⟨Ao45, co45, eo45⟩ := Kd.R_slice HO308.out; subst eo45) | (go_at_call 92; (with_reducible refine (bytes_Equal.calls _ _ t306 _ _ l0 true _ ?side1 ?side2 ?side3 ?side4 A39.out).mono ?_); (case side1 => exact (by repeat (first | exact (Kd.R_reads' HO308.out).2.2 | (with_reducible refine Kd.C_alloc ?_ _) | (with_reducible refine Kd.C_drewN ?_ _) | (with_reducible refine Kd.C_drew ?_)))); (case side2 => exact (Kd.R_reads' HO308.out).2.1); (case side3 => exact (by repeat (first | exact (Kd.C_below HR0.out HB.out) | (with_reducible refine Kd.C_alloc ?_ _) | (with_reducible refine Kd.C_drewN ?_ _) | (with_reducible refine Kd.C_drew ?_)))); (case side4 => exact HC0.out); rintro e w' ⟨rfl, ⟨nd, rfl⟩⟩))
     go_ret2
     exact ⟨_, by first | rfl | (simp [errW_none, errW_some] <;> rfl) | (simp [*, errW_none, errW_some] <;> rfl), by (with_reducible repeat (first | apply Kd.R_alloc | apply Kd.R_drewN | apply Kd.R_drew)); exact HO_7.out, by repeat (first | (with_reducible first | exact HB.out | apply below_alloc | apply pw_below_drewN | apply below_drew1 | refine below_set ?_ (IsS78.ge HI280.out)) | exact HB.out)⟩
     }
     {
     replace c40 := Bool.eq_false_iff.mpr c40
     subst c40
     rw [if_neg Bool.false_ne_true] at H
     simp only [Option.some.injEq, Prod.mk.injEq] at H
     obtain ⟨rfl, rfl⟩ := H
     go_wp2_with (first | ((with_reducible refine gate_callee (f := 77) rfl ?_); refine goesL_ (some 47) rfl rfl Try.func77 (by kernel_rfl) rfl #[.pointer (some ⟨gb280, 0, none⟩)] rfl z51d ?_; (with_reducible refine (impl_cursor_ended.calls gb280 x281000_1 x281001_1 true t303 t304 w _ ?side1 ?side2 A34.out).mono ?_); (case side1 => exact z51a); (case side2 => exact z51b); rintro e w46 ⟨rfl, hi, hb, hk⟩; refine ⟨_, rfl, ?_⟩; replace HO_7 := A_ (Kd.R_mono (Kd.R_keep (IsS78.apart (show IsS78 w _ gb280 x281000_1 x281001_1 from z51a) z51c (by decide)) hk (fun _ h => h.2)) (fun _ h => h.1)); replace HB := A_ (hb); replace HI280 := A_ (hi); obtain ⟨Ao47, co47, eo47⟩ := Kd.R_slice HO_7.out; subst eo47) | (go_at_call 39; (with_reducible refine (impl_EntriesOk.calls kj13 _ _ x7_1 true _ ?side1 ?side2 A36.out).mono ?_); (case side1 => exact z51e); (case side2 => exact (Kd.R_reads' HO_7.out).2.1); rintro e w48 ⟨rfl, hb⟩; have n0_ := A_ (Kd.R_below z51c hb); have n1_ := A_ (IsS78.below z51a hb); have n2_ := A_ (below_step z51b hb); clear HO_7; clear HI280; clear HB; have HO_7 := n0_; have HI280 := n1_; have HB := n2_; clear n0_ n1_ n2_) | (go_at_call 89; (with_reducible refine (impl_packed.calls kj13 _ _ x7_1 t306 _ ?side1 ?side2 A38.out).mono ?_); (case side1 => exact z51e); (case side2 => exact (Kd.R_reads' HO_7.out).2.1); rintro e w49 ⟨v307, rfl, ho0, hb⟩; have n0_ := A_ (Kd.R_below z51c hb); have n1_ := A_ (Kd.R_lower ho0 (below_size z51b)); have n2_ := A_ (IsS78.below z51a hb); have n3_ := A_ (below_step z51b hb); clear HO_7; clear HI280; clear HB; have HO_7 := n0_; have HO308 := n1_; have HI280 := n2_; have HB := n3_; clear n0_ n1_ n2_ n3_; obtain ⟨Ao50, co50, eo50⟩ := Kd.R_slice HO308.out; subst eo50) | (go_at_call 92; (with_reducible refine (bytes_Equal.calls _ _ t306 _ _ l0 false _ ?side1 ?side2 ?side3 ?side4 A39.out).mono ?_); (case side1 => exact (by repeat (first | exact (Kd.R_reads' HO308.out).2.2 | (with_reducible refine Kd.C_alloc ?_ _) | (with_reducible refine Kd.C_drewN ?_ _) | (with_reducible refine Kd.C_drew ?_)))); (case side2 => exact (Kd.R_reads' HO308.out).2.1); (case side3 => exact (by repeat (first | exact (Kd.C_below HR0.out HB.out) | (with_reducible refine Kd.C_alloc ?_ _) | (with_reducible refine Kd.C_drewN ?_ _) | (with_reducible refine Kd.C_drew ?_)))); (case side4 => exact HC0.out); rintro e w' ⟨rfl, ⟨nd, rfl⟩⟩))
     go_ret2
     exact ⟨_, by first | rfl | (simp [errW_none, errW_some] <;> rfl) | (simp [*, errW_none, errW_some] <;> rfl), by first | exact Kd.R_nil _ _ _ _ _ | exact Kd.N_nil _ _ _ _ _ | exact Kd.V_nil _ _ _ _ _ | exact Kd.Q_nil _ _ _ _ _ | exact Kd.S_nil _ _ _ _ _, by repeat (first | (with_reducible first | exact HB.out | apply below_alloc | apply pw_below_drewN | apply below_drew1 | refine below_set ?_ (IsS78.ge HI280.out)) | exact HB.out)⟩
     }
     }
     {
     replace c37 := Bool.eq_false_iff.mpr c37
     subst c37
     rw [if_neg Bool.false_ne_true] at H
     simp only [Option.some.injEq, Prod.mk.injEq] at H
     obtain ⟨rfl, rfl⟩ := H
     go_wp2_with (first | ((with_reducible refine gate_callee (f := 77) rfl ?_); refine goesL_ (some 47) rfl rfl Try.func77 (by kernel_rfl) rfl #[.pointer (some ⟨gb280, 0, none⟩)] rfl z51d ?_; (with_reducible refine (impl_cursor_ended.calls gb280 x281000_1 x281001_1 true t303 t304 w _ ?side1 ?side2 A34.out).mono ?_); (case side1 => exact z51a); (case side2 => exact z51b); rintro e w51 ⟨rfl, hi, hb, hk⟩; refine ⟨_, rfl, ?_⟩; replace HO_7 := A_ (Kd.R_mono (Kd.R_keep (IsS78.apart (show IsS78 w _ gb280 x281000_1 x281001_1 from z51a) z51c (by decide)) hk (fun _ h => h.2)) (fun _ h => h.1)); replace HB := A_ (hb); replace HI280 := A_ (hi); obtain ⟨Ao52, co52, eo52⟩ := Kd.R_slice HO_7.out; subst eo52) | (go_at_call 39; (with_reducible refine (impl_EntriesOk.calls kj13 _ _ x7_1 false _ ?side1 ?side2 A36.out).mono ?_); (case side1 => exact z51e); (case side2 => exact (Kd.R_reads' HO_7.out).2.1); rintro e w53 ⟨rfl, hb⟩; have n0_ := A_ (Kd.R_below z51c hb); have n1_ := A_ (IsS78.below z51a hb); have n2_ := A_ (below_step z51b hb); clear HO_7; clear HI280; clear HB; have HO_7 := n0_; have HI280 := n1_; have HB := n2_; clear n0_ n1_ n2_))
     go_ret2
     exact ⟨_, by first | rfl | (simp [errW_none, errW_some] <;> rfl) | (simp [*, errW_none, errW_some] <;> rfl), by first | exact Kd.R_nil _ _ _ _ _ | exact Kd.N_nil _ _ _ _ _ | exact Kd.V_nil _ _ _ _ _ | exact Kd.Q_nil _ _ _ _ _ | exact Kd.S_nil _ _ _ _ _, by repeat (first | (with_reducible first | exact HB.out | apply below_alloc | apply pw_below_drewN | apply below_drew1 | refine below_set ?_ (IsS78.ge HI280.out)) | exact HB.out)⟩
     }
     }
     {
     replace c35 := Bool.eq_false_iff.mpr c35
     subst c35
     rw [if_neg Bool.false_ne_true] at H
     simp only [Option.some.injEq, Prod.mk.injEq] at H
     obtain ⟨rfl, rfl⟩ := H
     go_wp2_with (first | ((with_reducible refine gate_callee (f := 77) rfl ?_); refine goesL_ (some 47) rfl rfl Try.func77 (by kernel_rfl) rfl #[.pointer (some ⟨gb280, 0, none⟩)] rfl z51d ?_; (with_reducible refine (impl_cursor_ended.calls gb280 x281000_1 x281001_1 false t303 t304 w _ ?side1 ?side2 A34.out).mono ?_); (case side1 => exact z51a); (case side2 => exact z51b); rintro e w54 ⟨rfl, hi, hb, hk⟩; refine ⟨_, rfl, ?_⟩; replace HO_7 := A_ (Kd.R_mono (Kd.R_keep (IsS78.apart (show IsS78 w _ gb280 x281000_1 x281001_1 from z51a) z51c (by decide)) hk (fun _ h => h.2)) (fun _ h => h.1)); replace HB := A_ (hb); replace HI280 := A_ (hi)))
     go_ret2
     exact ⟨_, by first | rfl | (simp [errW_none, errW_some] <;> rfl) | (simp [*, errW_none, errW_some] <;> rfl), by first | exact Kd.R_nil _ _ _ _ _ | exact Kd.N_nil _ _ _ _ _ | exact Kd.V_nil _ _ _ _ _ | exact Kd.Q_nil _ _ _ _ _ | exact Kd.S_nil _ _ _ _ _, by repeat (first | (with_reducible first | exact HB.out | apply below_alloc | apply pw_below_drewN | apply below_drew1 | refine below_set ?_ (IsS78.ge HI280.out)) | exact HB.out)⟩
     
     }
     }
 }
def laws_big.f (l0 : List Int) : Option (Bool) := some (decide ((l0.length : Int) > 4096))
set_option maxHeartbeats 8000000 in
set_option maxRecDepth 100000 in
theorem laws_big.calls (A0 : Option Addr) (c0 : Nat) (l0 : List Int) (r : Bool) (w : World) (hr0 : Kd.C (Kd.int .u8) w A0 l0.length l0) (hc0 : l0.length ≤ c0) (h : laws_big.f l0 = some r) :
  Calls Try.prog 52 #[.slice A0 l0.length c0] w fun e w' => e = .returned (.bool r) ∧ Drawn0 w w' := by
 have HR0 := A_ hr0
 have HC0 := A_ hc0
 clear hr0 hc0
 have H : (some (decide ((l0.length : Int) > 4096))) = some r := h
 clear h
 obtain rfl := Option.some.inj H
 go_enter Try.func52, Try.ntmps52
 go_wp2
 go_ret
 exact ⟨by first | rfl | (simp; done) | (simp [*]; done), by repeat (first | exact Drawn0.refl _ | apply Drawn0.step)⟩

def laws_pick.l0 : Nat → List Int → Int → Int → Int → Int → Option (Int)
 | 0, _, _, _, _, _ => none
 | k + 1, x0, x1, x2, x7, x8 => if x8 < (x0.length : Int) then (if 0 ≤ x8 then (laws_pick.l0 k x0 x1 x2 (Int.tmod (wrap64 ((wrap64 ((wrap64 (x7 * 131)) + (wrap64 (rd x0 x8)))) + x1)) 1000003) (wrap64 (x8 + 1))) else (none)) else (if x2 = 0 then (none) else (some (Int.tmod x7 x2)))
def laws_pick.f (k : Nat) (l0 : List Int) (a1 : Int) (a2 : Int) : Option (Int) := laws_pick.l0 k l0 a1 a2 (wrap64 ((l0.length : Int) + (wrap64 (7919 * a1)))) 0
set_option maxHeartbeats 8000000 in
set_option maxRecDepth 100000 in
theorem laws_pick.calls (k : Nat) (A0 : Option Addr) (c0 : Nat) (l0 : List Int) (a1 : Int) (a2 : Int) (r : Int) (w : World) (hr0 : Kd.C (Kd.int .u8) w A0 l0.length l0) (hc0 : l0.length ≤ c0) (h : laws_pick.f k l0 a1 a2 = some r) :
  Calls Try.prog 62 #[.slice A0 l0.length c0, .int .i64 a1, .int .i64 a2] w fun e w' => e = .returned (.int .i64 r) ∧ Drawn0 w w' := by
 have HR0 := A_ hr0
 have HC0 := A_ hc0
 clear hr0 hc0
 have H : (laws_pick.l0 k l0 a1 a2 (wrap64 ((l0.length : Int) + (wrap64 (7919 * a1)))) 0) = some r := h
 clear h
 have H' := A_ H
 clear H
 go_enter Try.func62, Try.ntmps62
 go_wp2
 go_loopg [7, 8] k (fun kq v7 v8 w' => ∃ (x7_1 : Int) (x8_1 : Int), v7 = .int .i64 x7_1 ∧ v8 = .int .i64 x8_1 ∧ Aside0 (laws_pick.l0 kq l0 a1 a2 x7_1 x8_1 = some r) ∧ Aside0 (kq ≤ k) ∧ Drawn0 w w')
 case atStart => exact ⟨(wrap64 ((l0.length : Int) + (wrap64 (7919 * a1)))), (0), (by first | rfl | (simp; done) | (simp [*]; done)), (by first | rfl | (simp; done) | (simp [*]; done)), H', ⟨Nat.le_refl _⟩, by repeat (first | exact Drawn0.refl _ | apply Drawn0.step)⟩
 case round =>
  clear H'
  try clear p2
  obtain ⟨x7_1, x8_1, rfl, rfl, HA, HK1, ⟨m1, rfl⟩⟩ := hrel
  cases gk with
  | zero => exact absurd HA.out (by simp [laws_pick.l0])
  | succ k1 =>
   have H := HA.out
   clear HA
   simp only [laws_pick.l0] at H
   by_cases c4 : x8_1 < (l0.length : Int)
   {
   rw [if_pos c4] at H
   have c4b0 : decide (x8_1 < (l0.length : Int)) = true := decide_eq_true c4
   clear c4
   by_cases c5 : 0 ≤ x8_1
   {
   rw [if_pos c5] at H
   have c5b0 : decide (0 ≤ x8_1) = true := decide_eq_true c5
   clear c5
   have H' := A_ H
   clear H
   have p310 : 0 ≤ (x8_1 : Int) := of_decide_eq_true (by first | (with_reducible assumption) | assumption)
   have q310 : x8_1 < (l0.length : Int) := of_decide_eq_true (by first | (with_reducible assumption) | assumption)
   obtain ⟨ad310, e310, hx310_0⟩ := Kd.at_int HR0.out x8_1 p310 q310
   cases e310
   replace p310 := eq_true p310
   replace q310 := eq_true q310
   go_wp2
   go_roundg k1
   case measure => have := HK1.out; omega
   case rel => exact ⟨(Int.tmod (wrap64 ((wrap64 ((wrap64 (x7_1 * 131)) + (wrap64 (rd l0 x8_1)))) + a1)) 1000003), (wrap64 (x8_1 + 1)), (by first | rfl | (simp; done) | (simp [*]; done)), (by first | rfl | (simp; done) | (simp [*]; done)), H', ⟨by have := HK1.out; omega⟩, by repeat (first | exact Drawn0.refl _ | apply Drawn0.step)⟩
   }
   {
   rw [if_neg c5] at H
   exact absurd H (by simp)
   }
   }
   {
   rw [if_neg c4] at H
   have c4b0 : decide (x8_1 < (l0.length : Int)) = false := decide_eq_false c4
   clear c4
   by_cases c6 : a2 = 0
   {
   rw [if_pos c6] at H
   exact absurd H (by simp)
   }
   {
   rw [if_neg c6] at H
   have c6b0 : (a2 == 0) = false := beq_eq_false_iff_ne.mpr c6
   have c6b1 : (a2 != 0) = true := bne_iff_ne.mpr c6
   obtain rfl := Option.some.inj H
   go_wp2
   go_ret
   exact ⟨by first | rfl | (simp; done) | (simp [*]; done), by repeat (first | exact Drawn0.refl _ | apply Drawn0.step)⟩
   
   }
   }
def laws_likeEntries.l0 : Nat → List (S49) → List (S49) → Int → Option (Bool)
 | 0, _, _, _ => none
 | k + 1, x0, x1, x5 => if x5 < (x0.length : Int) then (if 0 ≤ x5 then (if x5 < (x1.length : Int) then (if (!((((rd_T49 x0 x5).f0).toList) == (((rd_T49 x1 x5).f0).toList)) || (!((((rd_T49 x0 x5).f1).toList) == (((rd_T49 x1 x5).f1).toList)) || (!(((rd_T49 x0 x5).f2) == ((rd_T49 x1 x5).f2)) || (!(((rd_T49 x0 x5).f3) == ((rd_T49 x1 x5).f3)))))) = true then (some false) else (laws_likeEntries.l0 k x0 x1 (wrap64 (x5 + 1)))) else (none)) else (none)) else (some true)
def laws_likeEntries.f (k : Nat) (l0 : List (S49)) (l1 : List (S49)) : Option (Bool) := if (l0.length : Int) = (l1.length : Int) then (laws_likeEntries.l0 k l0 l1 0) else (some false)
set_option maxHeartbeats 8000000 in
set_option maxRecDepth 100000 in
theorem laws_likeEntries.calls (k : Nat) (A0 : Option Addr) (c0 : Nat) (l0 : List (S49)) (A1 : Option Addr) (c1 : Nat) (l1 : List (S49)) (r : Bool) (w : World) (hr0 : Kd.C k49 w A0 l0.length l0) (hc0 : l0.length ≤ c0) (hr1 : Kd.C k49 w A1 l1.length l1) (hc1 : l1.length ≤ c1) (h : laws_likeEntries.f k l0 l1 = some r) :
  Calls Try.prog 64 #[.slice A0 l0.length c0, .slice A1 l1.length c1] w fun e w' => e = .returned (.bool r) ∧ Drawn0 w w' := by
 have hu49 := Try.underlying49
 have HR0 := A_ hr0
 have HC0 := A_ hc0
 clear hr0 hc0
 have HR1 := A_ hr1
 have HC1 := A_ hc1
 clear hr1 hc1
 have H : (if (l0.length : Int) = (l1.length : Int) then (laws_likeEntries.l0 k l0 l1 0) else (some false)) = some r := h
 clear h
 by_cases c3 : (l0.length : Int) = (l1.length : Int)
 {
 rw [if_pos c3] at H
 have c3b0 : ((l0.length : Int) == (l1.length : Int)) = true := beq_iff_eq.mpr c3
 have c3b1 : ((l0.length : Int) != (l1.length : Int)) = false := bne_eq_false_iff_eq.mpr c3
 have c3b2 : (l0.length == l1.length) = true := by first | simpa using c3 | (simp at c3 ⊢; omega)
 clear c3
 have H' := A_ H
 clear H
 go_enter Try.func64, Try.ntmps64
 go_wp2
 repeat (go_quiet (fail); try go_wp2)
 go_loopg [5] k (fun kq v5 w' => ∃ (x5_1 : Int), v5 = .int .i64 x5_1 ∧ Aside0 (laws_likeEntries.l0 kq l0 l1 x5_1 = some r) ∧ Aside0 (kq ≤ k) ∧ Drawn0 w w')
 case atStart => exact ⟨(0), (by first | rfl | (simp; done) | (simp [*]; done)), H', ⟨Nat.le_refl _⟩, by repeat (first | exact Drawn0.refl _ | apply Drawn0.step)⟩
 case round =>
  clear H'
  try clear c1
  try clear p2
  try clear c3
  try clear c3b0
  try clear c3b1
  try clear c3b2
  obtain ⟨x5_1, rfl, HA, HK1, ⟨m1, rfl⟩⟩ := hrel
  cases gk with
  | zero => exact absurd HA.out (by simp [laws_likeEntries.l0])
  | succ k1 =>
   have H := HA.out
   clear HA
   simp only [laws_likeEntries.l0] at H
   by_cases c4 : x5_1 < (l0.length : Int)
   {
   rw [if_pos c4] at H
   have c4b0 : decide (x5_1 < (l0.length : Int)) = true := decide_eq_true c4
   clear c4
   by_cases c5 : 0 ≤ x5_1
   {
   rw [if_pos c5] at H
   have c5b0 : decide (0 ≤ x5_1) = true := decide_eq_true c5
   clear c5
   by_cases c6 : x5_1 < (l1.length : Int)
   {
   rw [if_pos c6] at H
   have c6b0 : decide (x5_1 < (l1.length : Int)) = true := decide_eq_true c6
   clear c6
   by_cases c7 : (!((((rd_T49 l0 x5_1).f0).toList) == (((rd_T49 l1 x5_1).f0).toList)) || (!((((rd_T49 l0 x5_1).f1).toList) == (((rd_T49 l1 x5_1).f1).toList)) || (!(((rd_T49 l0 x5_1).f2) == ((rd_T49 l1 x5_1).f2)) || (!(((rd_T49 l0 x5_1).f3) == ((rd_T49 l1 x5_1).f3)))))) = true
   {
   rw [if_pos c7] at H
   have c7b0 : (!((((rd_T49 l0 x5_1).f0).toList) == (((rd_T49 l1 x5_1).f0).toList)) || (!((((rd_T49 l0 x5_1).f1).toList) == (((rd_T49 l1 x5_1).f1).toList)) || (!(((rd_T49 l0 x5_1).f2) == ((rd_T49 l1 x5_1).f2)) || (!(((rd_T49 l0 x5_1).f3) == ((rd_T49 l1 x5_1).f3)))))) = true := c7
   clear c7
   obtain rfl := Option.some.inj H
   have p311 : 0 ≤ (x5_1 : Int) := of_decide_eq_true (by first | (with_reducible assumption) | assumption)
   have q311 : x5_1 < (l0.length : Int) := of_decide_eq_true (by first | (with_reducible assumption) | assumption)
   obtain ⟨ad311, e311, hx311_0, hx311_1, hx311_2, hx311_3⟩ := at_T49 HR0.out x5_1 p311 q311
   cases e311
   replace p311 := eq_true p311
   replace q311 := eq_true q311
   have p312 : 0 ≤ (x5_1 : Int) := of_decide_eq_true (by first | (with_reducible assumption) | assumption)
   have q312 : x5_1 < (l1.length : Int) := of_decide_eq_true (by first | (with_reducible assumption) | assumption)
   obtain ⟨ad312, e312, hx312_0, hx312_1, hx312_2, hx312_3⟩ := at_T49 HR1.out x5_1 p312 q312
   cases e312
   replace p312 := eq_true p312
   replace q312 := eq_true q312
   go_wp2
   repeat (go_quiet (fail); try go_wp2)
   go_ret
   exact ⟨by first | rfl | (simp; done) | (simp [*]; done), by repeat (first | exact Drawn0.refl _ | apply Drawn0.step)⟩
   }
   {
   rw [if_neg c7] at H
   have c7b0 : (!((((rd_T49 l0 x5_1).f0).toList) == (((rd_T49 l1 x5_1).f0).toList)) || (!((((rd_T49 l0 x5_1).f1).toList) == (((rd_T49 l1 x5_1).f1).toList)) || (!(((rd_T49 l0 x5_1).f2) == ((rd_T49 l1 x5_1).f2)) || (!(((rd_T49 l0 x5_1).f3) == ((rd_T49 l1 x5_1).f3)))))) = false := by simpa using c7
   clear c7
   have H' := A_ H
   clear H
   have p311 : 0 ≤ (x5_1 : Int) := of_decide_eq_true (by first | (with_reducible assumption) | assumption)
   have q311 : x5_1 < (l0.length : Int) := of_decide_eq_true (by first | (with_reducible assumption) | assumption)
   obtain ⟨ad311, e311, hx311_0, hx311_1, hx311_2, hx311_3⟩ := at_T49 HR0.out x5_1 p311 q311
   cases e311
   replace p311 := eq_true p311
   replace q311 := eq_true q311
   have p312 : 0 ≤ (x5_1 : Int) := of_decide_eq_true (by first | (with_reducible assumption) | assumption)
   have q312 : x5_1 < (l1.length : Int) := of_decide_eq_true (by first | (with_reducible assumption) | assumption)
   obtain ⟨ad312, e312, hx312_0, hx312_1, hx312_2, hx312_3⟩ := at_T49 HR1.out x5_1 p312 q312
   cases e312
   replace p312 := eq_true p312
   replace q312 := eq_true q312
   go_wp2
   repeat (go_quiet (fail); try go_wp2)
   go_roundg k1
   case measure => have := HK1.out; omega
   case rel => exact ⟨(wrap64 (x5_1 + 1)), (by first | rfl | (simp; done) | (simp [*]; done)), H', ⟨by have := HK1.out; omega⟩, by repeat (first | exact Drawn0.refl _ | apply Drawn0.step)⟩
   }
   }
   {
   rw [if_neg c6] at H
   exact absurd H (by simp)
   }
   }
   {
   rw [if_neg c5] at H
   exact absurd H (by simp)
   }
   }
   {
   rw [if_neg c4] at H
   have c4b0 : decide (x5_1 < (l0.length : Int)) = false := decide_eq_false c4
   clear c4
   obtain rfl := Option.some.inj H
   go_wp2
   repeat (go_quiet (fail); try go_wp2)
   go_ret
   exact ⟨by first | rfl | (simp; done) | (simp [*]; done), by repeat (first | exact Drawn0.refl _ | apply Drawn0.step)⟩
   }
 }
 {
 rw [if_neg c3] at H
 have c3b0 : ((l0.length : Int) == (l1.length : Int)) = false := beq_eq_false_iff_ne.mpr c3
 have c3b1 : ((l0.length : Int) != (l1.length : Int)) = true := bne_iff_ne.mpr c3
 have c3b2 : (l0.length == l1.length) = false := by first | simpa using c3 | (simp at c3 ⊢; omega)
 obtain rfl := Option.some.inj H
 go_enter Try.func64, Try.ntmps64
 go_wp2
 repeat (go_quiet (fail); try go_wp2)
 go_ret
 exact ⟨by first | rfl | (simp; done) | (simp [*]; done), by repeat (first | exact Drawn0.refl _ | apply Drawn0.step)⟩
 
 }
end Go.Proofs.Ythkhfmomibfkjaa.PFnPacked

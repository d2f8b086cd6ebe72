-- by a program of this session (wip/print/run.py) for this claim
import Derived.Test.YtaiggfjkikfcbaaLibPu
import Derived.Test.YtaiggfjkikfcbaaPFnExactEntriesx0
import Derived.Test.YtaiggfjkikfcbaaPFnExactEntriesx13
import Derived.Test.YtaiggfjkikfcbaaPFnExactEntriesx15
import Derived.Test.YtaiggfjkikfcbaaPFnExactEntriesx17
namespace Go.Proofs.Ytaiggfjkikfcbaa.PFnExactEntries
open Go.Proofs.Ytaiggfjkikfcbaa.Lib Go.RowKit Go.Proofs.YtaiggfjkikfcbaaW.PrintWords Go.Proofs.YtaiggfjkikfcbaaW.PrintLast Go.Proofs.YtaiggfjkikfcbaaW.PrintMore
attribute [local go_sem] max2_int min2_int max_two min_two max_three min_three max_four min_four   -- for this text's walks alone
set_option linter.unusedVariables false
set_option linter.unusedSimpArgs false

theorem z118a {p_ : Prop} (h_ : p_ := by repeat (first | (with_reducible first | exact HI478.out | apply IsS145.alloc | apply IsS145.drewN | apply IsS145.drew | apply IsS145.set_1 | apply IsS145.moves (hn := rfl) (hc := HC0.out) (hr := HR0.out)) | exact HI478.out)) : p_ := h_
theorem z118b {p_ : Prop} (h_ : p_ := by repeat (first | (with_reducible first | exact HB.out | apply below_alloc | apply pw_below_drewN | apply below_drew1 | refine below_set ?_ (IsS145.ge HI478.out)) | exact HB.out)) : p_ := h_
theorem z118c {p_ : Prop} (h_ : p_ := by (with_reducible repeat (first | apply Kd.R_alloc | apply Kd.R_drewN | apply Kd.R_drew)); exact HO_7.out) : p_ := h_
theorem z118e {p_ : Prop} (h_ : p_ := by repeat (first | exact (Kd.R_reads' HO_7.out).2.2 | (with_reducible refine Kd.C_alloc ?_ _) | (with_reducible refine Kd.C_drewN ?_ _) | (with_reducible refine Kd.C_drew ?_))) : p_ := h_
mutual
def impl_Unpacked.l0 : Nat → List Int → Int → ByteArray → List (S31) → List Int → Bool → Option ((List (S31)) × Bool)
 | 0, _, _, _, _, _, _ => none
 | k + 1, x0, x5, x6, x7, x479000, x479001 => if x5 > 0 then (impl_Unpacked.j1 k x0 x5 x6 x7 (!x479001) x479000 x479001) else (impl_Unpacked.j1 k x0 x5 x6 x7 false x479000 x479001)
def impl_Unpacked.j1 : Nat → List Int → Int → ByteArray → List (S31) → Bool → List Int → Bool → Option ((List (S31)) × Bool)
 | 0, _, _, _, _, _, _, _ => none
 | k + 1, x0, x5, x6, x7, x22, x479000, x479001 => if x22 = true then ((impl_cursor_number.f k x479000 x479001).bind fun bt485 => (if bt485.1 > (x6.size : Int) then (some (([] : List (S31)), false)) else (if 0 ≤ bt485.1 then (if bt485.1 ≤ (x6.size : Int) then ((impl_cursor_text.f k bt485.2.1 bt485.2.2).bind fun bt488 => (if (x6.extract 0 (bt485.1 : Int).toNat).size + bt488.1.size ≤ 9223372036854775807 then ((impl_cursor_number.f k bt488.2.1 bt488.2.2).bind fun bt491 => ((impl_cursor_text.f k bt491.2.1 bt491.2.2).bind fun bt494 => (if x7.length < 2932031007402 then (impl_Unpacked.l0 k x0 (wrap64 (x5 - 1)) ((x6.extract 0 (bt485.1 : Int).toNat) ++ bt488.1) (x7 ++ [(⟨(x6.extract 0 (bt485.1 : Int).toNat) ++ bt488.1, bt494.1, wrap64 (Int.tdiv bt491.1 2), ((Int.tmod bt491.1 2) == 1)⟩ : S31)]) bt494.2.1 bt494.2.2) else (none)))) else (none))) else (none)) else (none)))) else ((impl_cursor_ended.f x479000 x479001).bind fun bt500 => (if bt500.1 = true then ((impl_EntriesOk.f k x7).bind fun t503 => (if t503 = true then ((impl_packed.f k x7).bind fun t504 => ((bytes_Equal.f t504 x0).bind fun t507 => (if t507 = true then (some (x7, true)) else (some (([] : List (S31)), false))))) else (some (([] : List (S31)), false)))) else (some (([] : List (S31)), false))))
end
def impl_Unpacked.f (k : Nat) (l0 : List Int) : Option ((List (S31)) × Bool) := (impl_cursor_number.f k l0 false).bind fun bt479 => (if bt479.1 > 300 then (some (([] : List (S31)), false)) else (impl_Unpacked.l0 k l0 bt479.1 (⟨#[]⟩ : ByteArray) (([] : List (S31))) bt479.2.1 bt479.2.2))
set_option maxHeartbeats 8000000 in
set_option maxRecDepth 100000 in
theorem impl_Unpacked.calls (k : Nat) (A0 : Option Addr) (c0 : Nat) (l0 : List Int) (r1 : List (S31)) (r2 : Bool) (w : World) (hr0 : Kd.C (Kd.int .u8) w A0 l0.length l0) (hc0 : l0.length ≤ c0) (h : impl_Unpacked.f k l0 = some (r1, r2)) :
  Calls Try.prog 118 #[.slice A0 l0.length c0] w fun e w' => ∃ v0_ : Value, e = .returned (.tuple #[v0_, .bool r2]) ∧ Kd.R k31 31 w' w.heap.size (fun _ => True) v0_ r1 ∧ Below w.heap.size w w' := by
 have hu145 := Try.underlying145
 have hu31 := Try.underlying31
 have HR0 := A_ hr0
 have HC0 := A_ hc0
 clear hr0 hc0
 have HB := A_ (Below.refl w.heap.size w)
 have H : ((impl_cursor_number.f k l0 false).bind fun bt479 => (if bt479.1 > 300 then (some (([] : List (S31)), false)) else (impl_Unpacked.l0 k l0 bt479.1 (⟨#[]⟩ : ByteArray) (([] : List (S31))) bt479.2.1 bt479.2.2))) = some (r1, r2) := h
 clear h
 replace H := Option.bind_eq_some_iff.mp H
 obtain ⟨⟨t479, t480, t481⟩, A20, H⟩ := H
 (try dsimp only at H)
 have A2 := A_ A20
 clear A20
 obtain ⟨y482, hy482⟩ : ∃ y_ : List (S31), y_ = (([] : List (S31))) := ⟨_, rfl⟩
 replace H : (if t479 > 300 then (some (([] : List (S31)), false)) else (impl_Unpacked.l0 k l0 t479 (⟨#[]⟩ : ByteArray) y482 t480 t481)) = some (r1, r2) := by first | (rw [hy482]; with_reducible exact H) | (have H2_ := (Option.bind_some _ _).symm.trans H; rw [hy482]; with_reducible exact H2_) | (have H2_ := (Option.bind_some _ _).symm.trans H; with_reducible exact H2_) | with_reducible exact H | (rw [hy482]; exact H) | exact H
 have Ny482 := A_ hy482
 clear hy482
 by_cases c3 : t479 > 300
 {
 rw [if_pos c3] at H
 have c3b0 : decide (300 < t479) = true := decide_eq_true c3
 clear c3
 simp only [Option.some.injEq, Prod.mk.injEq] at H
 obtain ⟨rfl, rfl⟩ := H
 go_enter Try.func118, Try.ntmps118
 go_wp2_with (first | ((with_reducible refine gate_dst (N := 4) rfl ?_); refine box_event ?hg (N := 4) ?hd (cs := #[.slice none 0 0, .bool false]) (t := 145) ?hr ?_; (case hd => rfl); (case hg => rfl); (case hr => first | (go_simp; done) | (go_simp; rfl)); intro gb478 hg w4 hbox hb; have n0_ := A_ (below_step zg0 hb); have n1_ := A_ ((show IsS145 w w4 gb478 ([] : List Int) false from ⟨_, _, hbox, (by rw [hg]; exact (below_size zg0) : w.heap.size ≤ gb478), ⟨Kd.C_nil _ _, Nat.zero_le _⟩⟩)); clear HB; have HB := n0_; have HI478 := n1_; clear n0_ n1_; clear hb hbox hg; obtain ⟨ASz5_0, cSz5_0, HGz5, hgz5, HSz5_0⟩ := HI478.out; have hcz5_0 := cellS145_0 HGz5; have hcz5_1 := cellS145_1 HGz5; have hfz5_0 := blk_frozen HGz5 0; have hfz5_1 := blk_frozen HGz5 1; clear HGz5 hgz5) | ((with_reducible refine gate_callee (f := 143) rfl ?_); refine goesL_ (some 12) rfl rfl Try.func143 (by kernel_rfl) rfl #[.pointer (some ⟨gb478, 0, none⟩)] rfl zg7 ?_; (with_reducible refine (impl_cursor_number.calls k gb478 l0 false t479 t480 t481 w _ ?side1 ?side2 A2.out).mono ?_); (case side1 => exact z118a); (case side2 => exact z118b); rintro e w6 ⟨rfl, hi, hb, hk⟩; refine ⟨_, rfl, ?_⟩; replace HB := A_ (hb); replace HI478 := A_ (hi)) | ((with_reducible refine gate_dst (N := 13) rfl ?_); refine Kd.R_lit k31 _ 31 ?hg (N := 13) ?hd (xs := ([] : List (S31))) (inner := []) (ok := fun _ => True) (okp := fun _ => True) ?hr ?hp (fun _ hk => hk) trivial (Below.refl _ _) (Nat.le_refl _) (by simp) ?_; (case hd => rfl); (case hg => rfl); (case hr => first | (go_simp; done) | (go_simp; rfl)); (case hp => exact (Reps.none _ _)); intro v483 w7 ho8 hb hg_ hnew_; clear hg_ hnew_; (first | rw [← Ny482.out] at ho8 | (simp only [Int.reduceToNat] at ho8; rw [← Ny482.out] at ho8)); have n0_ := A_ (Kd.R_lower ho8 (below_size z118b)); have n1_ := A_ (IsS145.below z118a hb); have n2_ := A_ (below_step z118b hb); clear HI478; clear HB; have HO484 := n0_; have HI478 := n1_; have HB := n2_; clear n0_ n1_ n2_; clear hb ho8))
 go_ret2
 exact ⟨_, zr, by first | exact Kd.R_nil _ _ _ _ _ | exact Kd.N_nil _ _ _ _ _ | exact Kd.V_nil _ _ _ _ _ | exact Kd.Q_nil _ _ _ _ _ | exact Kd.S_nil _ _ _ _ _, z118b⟩
 }
 {
 rw [if_neg c3] at H
 have c3b0 : decide (300 < t479) = false := decide_eq_false c3
 clear c3
 have H' := A_ H
 clear H
 go_enter Try.func118, Try.ntmps118
 go_wp2_with (first | ((with_reducible refine gate_dst (N := 4) rfl ?_); refine box_event ?hg (N := 4) ?hd (cs := #[.slice none 0 0, .bool false]) (t := 145) ?hr ?_; (case hd => rfl); (case hg => rfl); (case hr => first | (go_simp; done) | (go_simp; rfl)); intro gb478 hg w9 hbox hb; have n0_ := A_ (below_step zg0 hb); have n1_ := A_ ((show IsS145 w w9 gb478 ([] : List Int) false from ⟨_, _, hbox, (by rw [hg]; exact (below_size zg0) : w.heap.size ≤ gb478), ⟨Kd.C_nil _ _, Nat.zero_le _⟩⟩)); clear HB; have HB := n0_; have HI478 := n1_; clear n0_ n1_; clear hb hbox hg; obtain ⟨ASz10_0, cSz10_0, HGz10, hgz10, HSz10_0⟩ := HI478.out; have hcz10_0 := cellS145_0 HGz10; have hcz10_1 := cellS145_1 HGz10; have hfz10_0 := blk_frozen HGz10 0; have hfz10_1 := blk_frozen HGz10 1; clear HGz10 hgz10) | ((with_reducible refine gate_callee (f := 143) rfl ?_); refine goesL_ (some 12) rfl rfl Try.func143 (by kernel_rfl) rfl #[.pointer (some ⟨gb478, 0, none⟩)] rfl zg7 ?_; (with_reducible refine (impl_cursor_number.calls k gb478 l0 false t479 t480 t481 w _ ?side1 ?side2 A2.out).mono ?_); (case side1 => exact z118a); (case side2 => exact z118b); rintro e w11 ⟨rfl, hi, hb, hk⟩; refine ⟨_, rfl, ?_⟩; replace HB := A_ (hb); replace HI478 := A_ (hi)) | ((with_reducible refine gate_dst (N := 13) rfl ?_); refine Kd.R_lit k31 _ 31 ?hg (N := 13) ?hd (xs := ([] : List (S31))) (inner := []) (ok := fun _ => True) (okp := fun _ => True) ?hr ?hp (fun _ hk => hk) trivial (Below.refl _ _) (Nat.le_refl _) (by simp) ?_; (case hd => rfl); (case hg => rfl); (case hr => first | (go_simp; done) | (go_simp; rfl)); (case hp => exact (Reps.none _ _)); intro v483 w12 ho13 hb hg_ hnew_; clear hg_ hnew_; (first | rw [← Ny482.out] at ho13 | (simp only [Int.reduceToNat] at ho13; rw [← Ny482.out] at ho13)); have n0_ := A_ (Kd.R_lower ho13 (below_size z118b)); have n1_ := A_ (IsS145.below z118a hb); have n2_ := A_ (below_step z118b hb); clear HI478; clear HB; have HO484 := n0_; have HI478 := n1_; have HB := n2_; clear n0_ n1_ n2_; clear hb ho13))
 go_loopg [5, 6, 7] k (fun kq v5 v6 v7 w' => ∃ (x5_1 : Int) (x6_1 : ByteArray) (x7_1 : List (S31)) (x479000_1 : List Int) (x479001_1 : Bool), v5 = .int .i64 x5_1 ∧ v6 = .string x6_1 ∧ Aside0 (impl_Unpacked.l0 kq l0 x5_1 x6_1 x7_1 x479000_1 x479001_1 = some (r1, r2)) ∧ Aside0 (kq ≤ k) ∧ Aside0 (Kd.R k31 31 w' w.heap.size (fun _ => True) v7 x7_1) ∧ Aside0 (IsS145 w w' gb478 x479000_1 x479001_1) ∧ Aside0 (Below w.heap.size w w'))
 case atStart => exact ⟨(t479), ((⟨#[]⟩ : ByteArray)), (y482), (t480), (t481), (zs), (zs), H', ⟨Nat.le_refl _⟩, ⟨by (with_reducible repeat (first | apply Kd.R_alloc | apply Kd.R_drewN | apply Kd.R_drew)); exact HO484.out⟩, ⟨z118a⟩, ⟨z118b⟩⟩
 case round =>
  clear H'
  try clear c1
  try clear p2
  try clear c3
  try clear c3b0
  try clear c11
  try clear hcz10_0
  try clear hcz10_1
  try clear hcz5_0
  try clear hcz5_1
  try clear hfz10_0
  try clear hfz10_1
  try clear hfz5_0
  try clear hfz5_1
  obtain ⟨x5_1, x6_1, x7_1, x479000_1, x479001_1, rfl, rfl, HA, HK1, HO_7, HI478, HB⟩ := hrel
  cases gk with
  | zero => exact absurd HA.out (by simp [impl_Unpacked.l0])
  | succ k1 =>
   have H := HA.out
   clear HA
   simp only [impl_Unpacked.l0] at H
   have HC14 := A_ H
   clear H
   go_upto_region 5 with (fail)
   go_cut [22] (fun v22 wc => ∃ (kq : Nat) (x22_13 : Bool), v22 = .bool x22_13 ∧ Aside0 (impl_Unpacked.j1 kq l0 x5_1 x6_1 x7_1 x22_13 x479000_1 x479001_1 = some (r1, r2)) ∧ Aside0 (kq ≤ k1) ∧ Aside0 (Kd.R k31 31 wc w.heap.size (fun _ => True) u7 x7_1) ∧ Aside0 (IsS145 w wc gb478 x479000_1 x479001_1) ∧ Aside0 (Below w.heap.size w wc))
   case first =>
    have H := HC14.out
    clear HC14
    by_cases c15 : x5_1 > 0
    {
    rw [if_pos c15] at H
    have c15b0 : decide (0 < x5_1) = true := decide_eq_true c15
    clear c15
    (first | rw [c15b0] | (simp only [i64_w, i32_w]; rw [c15b0]) | skip)
    have H' := A_ H
    clear H
    obtain ⟨ASz16_0, cSz16_0, HGz16, hgz16, HSz16_0⟩ := HI478.out
    have hcz16_0 := cellS145_0 HGz16
    have hcz16_1 := cellS145_1 HGz16
    have hfz16_0 := blk_frozen HGz16 0
    have hfz16_1 := blk_frozen HGz16 1
    clear HGz16 hgz16
    go_wp2
    go_meet
    case rel => exact ⟨_, (!x479001_1), (zs), H', ⟨by have := HK1.out; first | omega | exact Nat.le_refl _⟩, ⟨by (with_reducible repeat (first | apply Kd.R_alloc | apply Kd.R_drewN | apply Kd.R_drew)); exact HO_7.out⟩, ⟨z118a⟩, ⟨z118b⟩⟩
    }
    {
    rw [if_neg c15] at H
    have c15b0 : decide (0 < x5_1) = false := decide_eq_false c15
    clear c15
    (first | rw [c15b0] | (simp only [i64_w, i32_w]; rw [c15b0]) | skip)
    have H' := A_ H
    clear H
    go_wp2
    go_meet
    case rel => exact ⟨_, (false), (zs), H', ⟨by have := HK1.out; first | omega | exact Nat.le_refl _⟩, ⟨by (with_reducible repeat (first | apply Kd.R_alloc | apply Kd.R_drewN | apply Kd.R_drew)); exact HO_7.out⟩, ⟨z118a⟩, ⟨z118b⟩⟩
    }
   case rest =>
    clear HC14
    try clear c1
    try clear p2
    try clear c3
    try clear c3b0
    try clear c11
    try clear c14
    try clear c15
    try clear c15b0
    try clear hcz10_0
    try clear hcz10_1
    try clear hcz16_0
    try clear hcz16_1
    try clear hcz5_0
    try clear hcz5_1
    try clear hfz10_0
    try clear hfz10_1
    try clear hfz16_0
    try clear hfz16_1
    try clear hfz5_0
    try clear hfz5_1
    try clear p2
    obtain ⟨kq, x22_13, rfl, HA, HJ13, HO_7, HI478, HB⟩ := hcut
    cases kq with
    | zero => exact absurd HA.out (by simp [impl_Unpacked.j1])
    | succ kj13 =>
     have H := HA.out
     clear HA
     simp only [impl_Unpacked.j1] at H
     by_cases c17 : x22_13 = true
     {
     subst c17
     rw [if_pos rfl] at H
     replace H := Option.bind_eq_some_iff.mp H
     obtain ⟨⟨t485, t486, t487⟩, A180, H⟩ := H
     (try dsimp only at H)
     have A18 := A_ A180
     clear A180
     by_cases c19 : t485 > (x6_1.size : Int)
     {
     rw [if_pos c19] at H
     have c19b0 : decide ((x6_1.size : Int) < t485) = true := decide_eq_true c19
     clear c19
     simp only [Option.some.injEq, Prod.mk.injEq] at H
     obtain ⟨rfl, rfl⟩ := H
     go_wp2_with (first | ((with_reducible refine gate_callee (f := 143) rfl ?_); refine goesL_ (some 25) rfl rfl Try.func143 (by kernel_rfl) rfl #[.pointer (some ⟨gb478, 0, none⟩)] rfl zg7 ?_; (with_reducible refine (impl_cursor_number.calls kj13 gb478 x479000_1 x479001_1 t485 t486 t487 w _ ?side1 ?side2 A18.out).mono ?_); (case side1 => exact z118a); (case side2 => exact z118b); rintro e w20 ⟨rfl, hi, hb, hk⟩; refine ⟨_, rfl, ?_⟩; replace HO_7 := A_ (Kd.R_mono (Kd.R_keep (IsS145.apart (show IsS145 w _ gb478 x479000_1 x479001_1 from z118a) z118c (by decide)) hk (fun _ h => h.2)) (fun _ h => h.1)); replace HB := A_ (hb); replace HI478 := A_ (hi)))
     go_ret2
     exact ⟨_, zr, by first | exact Kd.R_nil _ _ _ _ _ | exact Kd.N_nil _ _ _ _ _ | exact Kd.V_nil _ _ _ _ _ | exact Kd.Q_nil _ _ _ _ _ | exact Kd.S_nil _ _ _ _ _, z118b⟩
     }
     {
     rw [if_neg c19] at H
     have c19b0 : decide ((x6_1.size : Int) < t485) = false := decide_eq_false c19
     clear c19
     by_cases c21 : 0 ≤ t485
     {
     rw [if_pos c21] at H
     have c21b0 := eq_true c21
     have c21b1 : decide (0 ≤ t485) = true := decide_eq_true c21
     clear c21
     by_cases c22 : t485 ≤ (x6_1.size : Int)
     {
     rw [if_pos c22] at H
     have c22b0 := eq_true c22
     have c22b1 : decide (t485 ≤ (x6_1.size : Int)) = true := decide_eq_true c22
     clear c22
     replace H := Option.bind_eq_some_iff.mp H
     obtain ⟨⟨t488, t489, t490⟩, A230, H⟩ := H
     (try dsimp only at H)
     have A23 := A_ A230
     clear A230
     by_cases c24 : (x6_1.extract 0 (t485 : Int).toNat).size + t488.size ≤ 9223372036854775807
     {
     rw [if_pos c24] at H
     have c24b0 := eq_true c24
     have c24b1 : decide ((x6_1.extract 0 (t485 : Int).toNat).size + t488.size ≤ 9223372036854775807) = true := decide_eq_true c24
     try have c24b2 : (9223372036854775807 < (x6_1.extract 0 (t485 : Int).toNat).size + t488.size) = False := eq_false (Nat.not_lt.2 c24)
     have hx_ : t485 ≤ (x6_1.size : Int) := of_decide_eq_true zg2
     have c24b3 : (9223372036854775807 < t485.toNat + t488.size) = False := by rw [← c24b2, show (x6_1.extract 0 t485.toNat).size = t485.toNat by simp; omega]
     clear hx_
     replace H := Option.bind_eq_some_iff.mp H
     obtain ⟨⟨t491, t492, t493⟩, A250, H⟩ := H
     (try dsimp only at H)
     have A25 := A_ A250
     clear A250
     replace H := Option.bind_eq_some_iff.mp H
     obtain ⟨⟨t494, t495, t496⟩, A260, H⟩ := H
     (try dsimp only at H)
     have A26 := A_ A260
     clear A260
     by_cases c27 : x7_1.length < 2932031007402
     {
     rw [if_pos c27] at H
     have LMc27 := A_ c27
     clear c27
     obtain ⟨y497, hy497⟩ : ∃ y_ : List (S31), y_ = (x7_1 ++ [(⟨(x6_1.extract 0 (t485 : Int).toNat) ++ t488, t494, wrap64 (Int.tdiv t491 2), ((Int.tmod t491 2) == 1)⟩ : S31)]) := ⟨_, rfl⟩
     replace H : (impl_Unpacked.l0 kj13 l0 (wrap64 (x5_1 - 1)) ((x6_1.extract 0 (t485 : Int).toNat) ++ t488) y497 t495 t496) = some (r1, r2) := by first | (rw [hy497]; with_reducible exact H) | (have H2_ := (Option.bind_some _ _).symm.trans H; rw [hy497]; with_reducible exact H2_) | (have H2_ := (Option.bind_some _ _).symm.trans H; with_reducible exact H2_) | with_reducible exact H | (rw [hy497]; exact H) | exact H
     have Ny497 := A_ hy497
     clear hy497
     have H' := A_ H
     clear H
     try go_wp2_with (first | ((with_reducible refine gate_callee (f := 143) rfl ?_); refine goesL_ (some 25) rfl rfl Try.func143 (by kernel_rfl) rfl #[.pointer (some ⟨gb478, 0, none⟩)] rfl zg7 ?_; (with_reducible refine (impl_cursor_number.calls kj13 gb478 x479000_1 x479001_1 t485 t486 t487 w _ ?side1 ?side2 A18.out).mono ?_); (case side1 => exact z118a); (case side2 => exact z118b); rintro e w28 ⟨rfl, hi, hb, hk⟩; refine ⟨_, rfl, ?_⟩; replace HO_7 := A_ (Kd.R_mono (Kd.R_keep (IsS145.apart (show IsS145 w _ gb478 x479000_1 x479001_1 from z118a) z118c (by decide)) hk (fun _ h => h.2)) (fun _ h => h.1)); replace HB := A_ (hb); replace HI478 := A_ (hi)))
     replace HO_7 := A_ (Kd.R_drew HO_7.out)
     replace HI478 := A_ (IsS145.drew HI478.out)
     replace HB := A_ (below_drew1 HB.out)
     refine start_ (n := 6) (S := fun w' => True) (ds := []) #[X, X, X, X, X, X] (by kernel_rfl) rfl rfl trivial (fun hHeld => ?_)
     generalize w28.drew = w29 at HO_7 HI478 HB hHeld ⊢
     refine pure_ (i := 0) (N := some 30) (v := _) (a' := _) #[Y, X, X, X, X, X] rfl rfl (by kernel_rfl) (fun _ _ _ h => h) (Or.inl ⟨by rfl, (by intro w'; go_simp; with_reducible rfl)⟩) zg1 ?_
     refine pure_ (i := 1) (N := some 31) (v := _) (a' := _) #[Y, Y, X, X, X, X] rfl rfl (by kernel_rfl) (fun _ _ _ h => h) (Or.inl ⟨by rfl, (by intro w'; go_simp; with_reducible rfl)⟩) zg1 ?_
     refine pure_ (i := 2) (N := some 32) (v := _) (a' := _) #[Y, Y, Y, X, X, X] rfl rfl (by kernel_rfl) (fun _ _ _ h => h) (Or.inl ⟨by rfl, (by intro w'; go_simp; with_reducible rfl)⟩) zg1 ?_
     refine one_ (i := 3) (N := some 33) #[Y, Y, Y, Y, X, X] rfl rfl (by kernel_rfl) (by decide) (fun K hK => ?_)
     refine goes_ Try.func144 (by kernel_rfl) rfl #[.pointer (some ⟨gb478, 0, none⟩)] (by rfl) rfl rfl zg7 ?_
     with_reducible refine (impl_cursor_text.calls kj13 gb478 t486 t487 t488 t489 t490 w _ ?side1 ?side2 A23.out).mono ?_
     (case side1 => exact z118a)
     (case side2 => exact z118b)
     rintro e w30 ⟨rfl, hi, hb, hk⟩
     refine ⟨_, rfl, ?_⟩
     replace HO_7 := A_ (Kd.R_mono (Kd.R_keep (IsS145.apart (show IsS145 w _ gb478 t486 t487 from z118a) z118c (by decide)) hk (fun _ h => h.2)) (fun _ h => h.1))
     replace HB := A_ (hb)
     replace HI478 := A_ (hi)
     refine hK.out _ _ trivial (fun hHeld => ?_)
     clear hK K
     refine norm_ (nz_ 33) ?_
     refine pure_ (i := 4) (N := some 34) (v := _) (a' := _) #[Y, Y, Y, Y, Y, X] rfl rfl (by kernel_rfl) (fun _ _ _ h => h) (Or.inl ⟨by rfl, (by intro w'; go_simp; with_reducible rfl)⟩) zg1 ?_
     refine pure_ (i := 5) (N := some 6) (v := _) (a' := _) #[Y, Y, Y, Y, Y, Y] rfl rfl (by kernel_rfl) (fun _ _ _ h => h) (Or.inl ⟨by rfl, (by intro w'; go_simp; with_reducible rfl)⟩) zg1 ?_
     refine done_ (by kernel_rfl) ?_
     try go_wp2_with (first | ((with_reducible refine gate_callee (f := 143) rfl ?_); refine goesL_ (some 35) rfl rfl Try.func143 (by kernel_rfl) rfl #[.pointer (some ⟨gb478, 0, none⟩)] rfl zg7 ?_; (with_reducible refine (impl_cursor_number.calls kj13 gb478 t489 t490 t491 t492 t493 w _ ?side1 ?side2 A25.out).mono ?_); (case side1 => exact z118a); (case side2 => exact z118b); rintro e w31 ⟨rfl, hi, hb, hk⟩; refine ⟨_, rfl, ?_⟩; replace HO_7 := A_ (Kd.R_mono (Kd.R_keep (IsS145.apart (show IsS145 w _ gb478 t489 t490 from z118a) z118c (by decide)) hk (fun _ h => h.2)) (fun _ h => h.1)); replace HB := A_ (hb); replace HI478 := A_ (hi)) | ((with_reducible refine gate_callee (f := 144) rfl ?_); refine goesL_ (some 43) rfl rfl Try.func144 (by kernel_rfl) rfl #[.pointer (some ⟨gb478, 0, none⟩)] rfl zg7 ?_; (with_reducible refine (impl_cursor_text.calls kj13 gb478 t492 t493 t494 t495 t496 w _ ?side1 ?side2 A26.out).mono ?_); (case side1 => exact z118a); (case side2 => exact z118b); rintro e w32 ⟨rfl, hi, hb, hk⟩; refine ⟨_, rfl, ?_⟩; replace HO_7 := A_ (Kd.R_mono (Kd.R_keep (IsS145.apart (show IsS145 w _ gb478 t492 t493 from z118a) z118c (by decide)) hk (fun _ h => h.2)) (fun _ h => h.1)); replace HB := A_ (hb); replace HI478 := A_ (hi)) | ((with_reducible refine gate_builtin (b := .append) (xs := #[.tmp 36, .tmp 45]) rfl ?_); at_builtin; (first | (refine Kd.R_append k31 (w0 := w) w.heap.size rfl (.tmp 36) (.tmp 45) 27 31 (.agg #[(.string ⟨#[]⟩), (.string ⟨#[]⟩), (.int .i64 0), (.bool false)]) 48 rfl Try.underlying27 info31 rfl (by decide) (by omega) u7 x7_1 (⟨(x6_1.extract 0 (t485 : Int).toNat) ++ t488, t494, wrap64 (Int.tdiv t491 2), ((Int.tmod t491 2) == 1)⟩ : S31) [.string ((x6_1.extract 0 (t485 : Int).toNat) ++ t488), .string t494, .int .i64 (wrap64 (Int.tdiv t491 2)), .bool ((Int.tmod t491 2) == 1)] (fun _ => True) (fun _ => False) rfl rfl ?aP (fun _ hk => hk.elim) ?aF ?aO ?aB ?aS ?aL ?_) | (refine Kd.R_append k31 (w0 := w) w.heap.size rfl (.tmp 36) (.tmp 45) 27 31 (.agg #[(.string ⟨#[]⟩), (.string ⟨#[]⟩), (.int .i64 0), (.bool false)]) 48 rfl Try.underlying27 info31 rfl (by decide) (by omega) u7 x7_1 (⟨(x6_1.extract 0 (t485 : Int).toNat) ++ t488, t494, wrap64 (Int.tdiv t491 2), ((Int.tmod t491 2) == 1)⟩ : S31) [.string ((x6_1.extract 0 (t485 : Int).toNat) ++ t488), .string t494, .int .i64 (wrap64 (Int.tdiv t491 2)), .bool false] (fun _ => True) (fun _ => False) rfl rfl ?aP (fun _ hk => hk.elim) ?aF ?aO ?aB ?aS ?aL ?_) | (refine Kd.R_append k31 (w0 := w) w.heap.size rfl (.tmp 36) (.tmp 45) 27 31 (.agg #[(.string ⟨#[]⟩), (.string ⟨#[]⟩), (.int .i64 0), (.bool false)]) 48 rfl Try.underlying27 info31 rfl (by decide) (by omega) u7 x7_1 (⟨(x6_1.extract 0 (t485 : Int).toNat) ++ t488, t494, wrap64 (Int.tdiv t491 2), ((Int.tmod t491 2) == 1)⟩ : S31) [.string ((x6_1.extract 0 (t485 : Int).toNat) ++ t488), .string t494, .int .i64 (wrap64 (Int.tdiv t491 2)), .bool true] (fun _ => True) (fun _ => False) rfl rfl ?aP (fun _ hk => hk.elim) ?aF ?aO ?aB ?aS ?aL ?_)); (case aP => first | exact k31_mkM _ _ _ (⟨(x6_1.extract 0 (t485 : Int).toNat) ++ t488, t494, wrap64 (Int.tdiv t491 2), ((Int.tmod t491 2) == 1)⟩ : S31) | (rw [show ((Int.tmod t491 2) == 1) = false from (by assumption)]; exact k31_mkM _ _ _ _) | (rw [show ((Int.tmod t491 2) == 1) = true from (by assumption)]; exact k31_mkM _ _ _ _)); (case aB => exact z118b); (case aF => exact (fun _ _ => trivial)); (case aO => exact z118c); (case aS => exact (below_size z118b)); (case aL => have := LMc27.out; omega); intro v498 w33 ho hb hg hat; rw [← Ny497.out] at ho; have n0_ := A_ (IsS145.grown z118a hg (IsS145.own_ne HI478.out HO_7.out (by decide))); have n1_ := A_ (hb); have n2_ := A_ (ho); clear HI478; clear HB; clear HO_7; have HI478 := n0_; have HB := n1_; have HO499 := n2_; clear n0_ n1_ n2_; clear ho hb hg hat))
     go_roundg kj13
     case measure => have := HK1.out; have := HJ13.out; omega
     case rel => exact ⟨(wrap64 (x5_1 - 1)), ((x6_1.extract 0 (t485 : Int).toNat) ++ t488), (y497), (t495), (t496), (zs), (zs), H', ⟨by have := HK1.out; have := HJ13.out; omega⟩, ⟨by (with_reducible repeat (first | apply Kd.R_alloc | apply Kd.R_drewN | apply Kd.R_drew)); exact HO499.out⟩, ⟨z118a⟩, ⟨z118b⟩⟩
     }
     {
     rw [if_neg c27] at H
     exact absurd H (by simp)
     }
     }
     {
     rw [if_neg c24] at H
     exact absurd H (by simp)
     }
     }
     {
     rw [if_neg c22] at H
     exact absurd H (by simp)
     }
     }
     {
     rw [if_neg c21] at H
     exact absurd H (by simp)
     }
     }
     }
     {
     replace c17 := Bool.eq_false_iff.mpr c17
     subst c17
     rw [if_neg Bool.false_ne_true] at H
     replace H := Option.bind_eq_some_iff.mp H
     obtain ⟨⟨t500, t501, t502⟩, A340, H⟩ := H
     (try dsimp only at H)
     have A34 := A_ A340
     clear A340
     by_cases c35 : t500 = true
     {
     subst c35
     rw [if_pos rfl] at H
     replace H := Option.bind_eq_some_iff.mp H
     obtain ⟨t503, A360, H⟩ := H
     (try dsimp only at H)
     have A36 := A_ A360
     clear A360
     by_cases c37 : t503 = true
     {
     subst c37
     rw [if_pos rfl] at H
     replace H := Option.bind_eq_some_iff.mp H
     obtain ⟨t504, A380, H⟩ := H
     (try dsimp only at H)
     have A38 := A_ A380
     clear A380
     replace H := Option.bind_eq_some_iff.mp H
     obtain ⟨t507, A390, H⟩ := H
     (try dsimp only at H)
     have A39 := A_ A390
     clear A390
     by_cases c40 : t507 = true
     {
     subst c40
     rw [if_pos rfl] at H
     simp only [Option.some.injEq, Prod.mk.injEq] at H
     obtain ⟨rfl, rfl⟩ := H
     go_wp2_with (first | ((with_reducible refine gate_callee (f := 145) rfl ?_); refine goesL_ (some 47) rfl rfl Try.func145 (by kernel_rfl) rfl #[.pointer (some ⟨gb478, 0, none⟩)] rfl zg7 ?_; (with_reducible refine (impl_cursor_ended.calls gb478 x479000_1 x479001_1 true t501 t502 w _ ?side1 ?side2 A34.out).mono ?_); (case side1 => exact z118a); (case side2 => exact z118b); rintro e w41 ⟨rfl, hi, hb, hk⟩; refine ⟨_, rfl, ?_⟩; replace HO_7 := A_ (Kd.R_mono (Kd.R_keep (IsS145.apart (show IsS145 w _ gb478 x479000_1 x479001_1 from z118a) z118c (by decide)) hk (fun _ h => h.2)) (fun _ h => h.1)); replace HB := A_ (hb); replace HI478 := A_ (hi); obtain ⟨Ao42, co42, eo42⟩ := Kd.R_slice HO_7.out; subst eo42) | (go_at_call 26; (with_reducible refine (impl_EntriesOk.calls kj13 _ _ x7_1 true _ ?side1 ?side2 A36.out).mono ?_); (case side1 => exact z118e); (case side2 => exact (Kd.R_reads' HO_7.out).2.1); rintro e w43 ⟨rfl, hb⟩; have n0_ := A_ (Kd.R_below z118c hb); have n1_ := A_ (IsS145.below z118a hb); have n2_ := A_ (below_step z118b hb); clear HO_7; clear HI478; clear HB; have HO_7 := n0_; have HI478 := n1_; have HB := n2_; clear n0_ n1_ n2_) | (go_at_call 115; (with_reducible refine (impl_packed.calls kj13 _ _ x7_1 t504 _ ?side1 ?side2 A38.out).mono ?_); (case side1 => exact z118e); (case side2 => exact (Kd.R_reads' HO_7.out).2.1); rintro e w44 ⟨v505, rfl, ho0, hb⟩; have n0_ := A_ (Kd.R_below z118c hb); have n1_ := A_ (Kd.R_lower ho0 (below_size z118b)); have n2_ := A_ (IsS145.below z118a hb); have n3_ := A_ (below_step z118b hb); clear HO_7; clear HI478; clear HB; have HO_7 := n0_; have HO506 := n1_; have HI478 := n2_; have HB := n3_; clear n0_ n1_ n2_ n3_; obtain ⟨Ao45, co45, eo45⟩ := Kd.R_slice HO506.out; subst eo45) | (go_at_call 146; (with_reducible refine (bytes_Equal.calls _ _ t504 _ _ l0 true _ ?side1 ?side2 ?side3 ?side4 A39.out).mono ?_); (case side1 => exact (by repeat (first | exact (Kd.R_reads' HO506.out).2.2 | (with_reducible refine Kd.C_alloc ?_ _) | (with_reducible refine Kd.C_drewN ?_ _) | (with_reducible refine Kd.C_drew ?_)))); (case side2 => exact (Kd.R_reads' HO506.out).2.1); (case side3 => exact (by repeat (first | exact (Kd.C_below HR0.out HB.out) | (with_reducible refine Kd.C_alloc ?_ _) | (with_reducible refine Kd.C_drewN ?_ _) | (with_reducible refine Kd.C_drew ?_)))); (case side4 => exact HC0.out); rintro e w' ⟨rfl, ⟨nd, rfl⟩⟩))
     go_ret2
     exact ⟨_, zr, by (with_reducible repeat (first | apply Kd.R_alloc | apply Kd.R_drewN | apply Kd.R_drew)); exact HO_7.out, z118b⟩
     }
     {
     replace c40 := Bool.eq_false_iff.mpr c40
     subst c40
     rw [if_neg Bool.false_ne_true] at H
     simp only [Option.some.injEq, Prod.mk.injEq] at H
     obtain ⟨rfl, rfl⟩ := H
     go_wp2_with (first | ((with_reducible refine gate_callee (f := 145) rfl ?_); refine goesL_ (some 47) rfl rfl Try.func145 (by kernel_rfl) rfl #[.pointer (some ⟨gb478, 0, none⟩)] rfl zg7 ?_; (with_reducible refine (impl_cursor_ended.calls gb478 x479000_1 x479001_1 true t501 t502 w _ ?side1 ?side2 A34.out).mono ?_); (case side1 => exact z118a); (case side2 => exact z118b); rintro e w46 ⟨rfl, hi, hb, hk⟩; refine ⟨_, rfl, ?_⟩; replace HO_7 := A_ (Kd.R_mono (Kd.R_keep (IsS145.apart (show IsS145 w _ gb478 x479000_1 x479001_1 from z118a) z118c (by decide)) hk (fun _ h => h.2)) (fun _ h => h.1)); replace HB := A_ (hb); replace HI478 := A_ (hi); obtain ⟨Ao47, co47, eo47⟩ := Kd.R_slice HO_7.out; subst eo47) | (go_at_call 26; (with_reducible refine (impl_EntriesOk.calls kj13 _ _ x7_1 true _ ?side1 ?side2 A36.out).mono ?_); (case side1 => exact z118e); (case side2 => exact (Kd.R_reads' HO_7.out).2.1); rintro e w48 ⟨rfl, hb⟩; have n0_ := A_ (Kd.R_below z118c hb); have n1_ := A_ (IsS145.below z118a hb); have n2_ := A_ (below_step z118b hb); clear HO_7; clear HI478; clear HB; have HO_7 := n0_; have HI478 := n1_; have HB := n2_; clear n0_ n1_ n2_) | (go_at_call 115; (with_reducible refine (impl_packed.calls kj13 _ _ x7_1 t504 _ ?side1 ?side2 A38.out).mono ?_); (case side1 => exact z118e); (case side2 => exact (Kd.R_reads' HO_7.out).2.1); rintro e w49 ⟨v505, rfl, ho0, hb⟩; have n0_ := A_ (Kd.R_below z118c hb); have n1_ := A_ (Kd.R_lower ho0 (below_size z118b)); have n2_ := A_ (IsS145.below z118a hb); have n3_ := A_ (below_step z118b hb); clear HO_7; clear HI478; clear HB; have HO_7 := n0_; have HO506 := n1_; have HI478 := n2_; have HB := n3_; clear n0_ n1_ n2_ n3_; obtain ⟨Ao50, co50, eo50⟩ := Kd.R_slice HO506.out; subst eo50) | (go_at_call 146; (with_reducible refine (bytes_Equal.calls _ _ t504 _ _ l0 false _ ?side1 ?side2 ?side3 ?side4 A39.out).mono ?_); (case side1 => exact (by repeat (first | exact (Kd.R_reads' HO506.out).2.2 | (with_reducible refine Kd.C_alloc ?_ _) | (with_reducible refine Kd.C_drewN ?_ _) | (with_reducible refine Kd.C_drew ?_)))); (case side2 => exact (Kd.R_reads' HO506.out).2.1); (case side3 => exact (by repeat (first | exact (Kd.C_below HR0.out HB.out) | (with_reducible refine Kd.C_alloc ?_ _) | (with_reducible refine Kd.C_drewN ?_ _) | (with_reducible refine Kd.C_drew ?_)))); (case side4 => exact HC0.out); rintro e w' ⟨rfl, ⟨nd, rfl⟩⟩))
     go_ret2
     exact ⟨_, zr, by first | exact Kd.R_nil _ _ _ _ _ | exact Kd.N_nil _ _ _ _ _ | exact Kd.V_nil _ _ _ _ _ | exact Kd.Q_nil _ _ _ _ _ | exact Kd.S_nil _ _ _ _ _, z118b⟩
     }
     }
     {
     replace c37 := Bool.eq_false_iff.mpr c37
     subst c37
     rw [if_neg Bool.false_ne_true] at H
     simp only [Option.some.injEq, Prod.mk.injEq] at H
     obtain ⟨rfl, rfl⟩ := H
     go_wp2_with (first | ((with_reducible refine gate_callee (f := 145) rfl ?_); refine goesL_ (some 47) rfl rfl Try.func145 (by kernel_rfl) rfl #[.pointer (some ⟨gb478, 0, none⟩)] rfl zg7 ?_; (with_reducible refine (impl_cursor_ended.calls gb478 x479000_1 x479001_1 true t501 t502 w _ ?side1 ?side2 A34.out).mono ?_); (case side1 => exact z118a); (case side2 => exact z118b); rintro e w51 ⟨rfl, hi, hb, hk⟩; refine ⟨_, rfl, ?_⟩; replace HO_7 := A_ (Kd.R_mono (Kd.R_keep (IsS145.apart (show IsS145 w _ gb478 x479000_1 x479001_1 from z118a) z118c (by decide)) hk (fun _ h => h.2)) (fun _ h => h.1)); replace HB := A_ (hb); replace HI478 := A_ (hi); obtain ⟨Ao52, co52, eo52⟩ := Kd.R_slice HO_7.out; subst eo52) | (go_at_call 26; (with_reducible refine (impl_EntriesOk.calls kj13 _ _ x7_1 false _ ?side1 ?side2 A36.out).mono ?_); (case side1 => exact z118e); (case side2 => exact (Kd.R_reads' HO_7.out).2.1); rintro e w53 ⟨rfl, hb⟩; have n0_ := A_ (Kd.R_below z118c hb); have n1_ := A_ (IsS145.below z118a hb); have n2_ := A_ (below_step z118b hb); clear HO_7; clear HI478; clear HB; have HO_7 := n0_; have HI478 := n1_; have HB := n2_; clear n0_ n1_ n2_))
     go_ret2
     exact ⟨_, zr, by first | exact Kd.R_nil _ _ _ _ _ | exact Kd.N_nil _ _ _ _ _ | exact Kd.V_nil _ _ _ _ _ | exact Kd.Q_nil _ _ _ _ _ | exact Kd.S_nil _ _ _ _ _, z118b⟩
     }
     }
     {
     replace c35 := Bool.eq_false_iff.mpr c35
     subst c35
     rw [if_neg Bool.false_ne_true] at H
     simp only [Option.some.injEq, Prod.mk.injEq] at H
     obtain ⟨rfl, rfl⟩ := H
     go_wp2_with (first | ((with_reducible refine gate_callee (f := 145) rfl ?_); refine goesL_ (some 47) rfl rfl Try.func145 (by kernel_rfl) rfl #[.pointer (some ⟨gb478, 0, none⟩)] rfl zg7 ?_; (with_reducible refine (impl_cursor_ended.calls gb478 x479000_1 x479001_1 false t501 t502 w _ ?side1 ?side2 A34.out).mono ?_); (case side1 => exact z118a); (case side2 => exact z118b); rintro e w54 ⟨rfl, hi, hb, hk⟩; refine ⟨_, rfl, ?_⟩; replace HO_7 := A_ (Kd.R_mono (Kd.R_keep (IsS145.apart (show IsS145 w _ gb478 x479000_1 x479001_1 from z118a) z118c (by decide)) hk (fun _ h => h.2)) (fun _ h => h.1)); replace HB := A_ (hb); replace HI478 := A_ (hi)))
     go_ret2
     exact ⟨_, zr, by first | exact Kd.R_nil _ _ _ _ _ | exact Kd.N_nil _ _ _ _ _ | exact Kd.V_nil _ _ _ _ _ | exact Kd.Q_nil _ _ _ _ _ | exact Kd.S_nil _ _ _ _ _, z118b⟩
     
     }
     }
 }
def slices_Equal_int64.l0 : Nat → List Int → List Int → Int → Int → Option (Bool)
 | 0, _, _, _, _ => none
 | k + 1, x0, x1, x12, x13 => if x13 < x12 then (if 0 ≤ x13 then (if x13 < (x0.length : Int) then (if x13 < (x1.length : Int) then (if (rd x0 x13) = (rd x1 x13) then (slices_Equal_int64.l0 k x0 x1 x12 (wrap64 (x13 + 1))) else (some false)) else (none)) else (none)) else (none)) else (some true)
def slices_Equal_int64.f (k : Nat) (l0 : List Int) (l1 : List Int) : Option (Bool) := if (l0.length : Int) = (l1.length : Int) then (slices_Equal_int64.l0 k l0 l1 (l0.length : Int) 0) else (some false)
set_option maxHeartbeats 8000000 in
set_option maxRecDepth 100000 in
theorem slices_Equal_int64.calls (k : Nat) (A0 : Option Addr) (c0 : Nat) (l0 : List Int) (A1 : Option Addr) (c1 : Nat) (l1 : List Int) (r : Bool) (w : World) (hr0 : Kd.C (Kd.int .i64) w A0 l0.length l0) (hc0 : l0.length ≤ c0) (hr1 : Kd.C (Kd.int .i64) w A1 l1.length l1) (hc1 : l1.length ≤ c1) (h : slices_Equal_int64.f k l0 l1 = some r) :
  Calls Try.prog 119 #[.slice A0 l0.length c0, .slice A1 l1.length c1] w fun e w' => e = .returned (.bool r) ∧ Drawn0 w w' := by
 have HR0 := A_ hr0
 have HC0 := A_ hc0
 clear hr0 hc0
 have HR1 := A_ hr1
 have HC1 := A_ hc1
 clear hr1 hc1
 have H : (if (l0.length : Int) = (l1.length : Int) then (slices_Equal_int64.l0 k l0 l1 (l0.length : Int) 0) else (some false)) = some r := h
 clear h
 by_cases c3 : (l0.length : Int) = (l1.length : Int)
 {
 rw [if_pos c3] at H
 have c3b0 : ((l0.length : Int) == (l1.length : Int)) = true := beq_iff_eq.mpr c3
 have c3b1 : ((l0.length : Int) != (l1.length : Int)) = false := bne_eq_false_iff_eq.mpr c3
 have c3b2 : (l0.length == l1.length) = true := by first | simpa using c3 | (simp at c3 ⊢; omega)
 clear c3
 have H' := A_ H
 clear H
 go_enter Try.func119, Try.ntmps119
 go_wp2
 repeat (go_quiet (fail); try go_wp2)
 go_loopg [13] k (fun kq v13 w' => ∃ (x13_1 : Int), v13 = .int .i64 x13_1 ∧ Aside0 (slices_Equal_int64.l0 kq l0 l1 (l0.length : Int) x13_1 = some r) ∧ Aside0 (kq ≤ k) ∧ Drawn0 w w')
 case atStart => exact ⟨(0), (zs), H', ⟨Nat.le_refl _⟩, by repeat (first | exact Drawn0.refl _ | apply Drawn0.step)⟩
 case round =>
  clear H'
  try clear c1
  try clear p2
  try clear c3
  try clear c3b0
  try clear c3b1
  try clear c3b2
  obtain ⟨x13_1, rfl, HA, HK1, ⟨m1, rfl⟩⟩ := hrel
  cases gk with
  | zero => exact absurd HA.out (by simp [slices_Equal_int64.l0])
  | succ k1 =>
   have H := HA.out
   clear HA
   simp only [slices_Equal_int64.l0] at H
   by_cases c4 : x13_1 < (l0.length : Int)
   {
   rw [if_pos c4] at H
   have c4b0 : decide (x13_1 < (l0.length : Int)) = true := decide_eq_true c4
   clear c4
   by_cases c5 : 0 ≤ x13_1
   {
   rw [if_pos c5] at H
   have c5b0 : decide (0 ≤ x13_1) = true := decide_eq_true c5
   clear c5
   by_cases c6 : x13_1 < (l0.length : Int)
   {
   rw [if_pos c6] at H
   have c6b0 : decide (x13_1 < (l0.length : Int)) = true := decide_eq_true c6
   clear c6
   by_cases c7 : x13_1 < (l1.length : Int)
   {
   rw [if_pos c7] at H
   have c7b0 : decide (x13_1 < (l1.length : Int)) = true := decide_eq_true c7
   clear c7
   by_cases c8 : (rd l0 x13_1) = (rd l1 x13_1)
   {
   rw [if_pos c8] at H
   have c8b0 : ((rd l0 x13_1) == (rd l1 x13_1)) = true := beq_iff_eq.mpr c8
   have c8b1 : ((rd l0 x13_1) != (rd l1 x13_1)) = false := bne_eq_false_iff_eq.mpr c8
   clear c8
   have H' := A_ H
   clear H
   have p508 : 0 ≤ (x13_1 : Int) := of_decide_eq_true zg2
   have q508 : x13_1 < (l0.length : Int) := of_decide_eq_true zg2
   obtain ⟨ad508, e508, hx508_0⟩ := Kd.at_int HR0.out x13_1 p508 q508
   cases e508
   replace p508 := eq_true p508
   replace q508 := eq_true q508
   have p509 : 0 ≤ (x13_1 : Int) := of_decide_eq_true zg2
   have q509 : x13_1 < (l1.length : Int) := of_decide_eq_true zg2
   obtain ⟨ad509, e509, hx509_0⟩ := Kd.at_int HR1.out x13_1 p509 q509
   cases e509
   replace p509 := eq_true p509
   replace q509 := eq_true q509
   go_wp2
   repeat (go_quiet (fail); try go_wp2)
   go_roundg k1
   case measure => have := HK1.out; omega
   case rel => exact ⟨(wrap64 (x13_1 + 1)), (zs), H', ⟨by have := HK1.out; omega⟩, by repeat (first | exact Drawn0.refl _ | apply Drawn0.step)⟩
   }
   {
   rw [if_neg c8] at H
   have c8b0 : ((rd l0 x13_1) == (rd l1 x13_1)) = false := beq_eq_false_iff_ne.mpr c8
   have c8b1 : ((rd l0 x13_1) != (rd l1 x13_1)) = true := bne_iff_ne.mpr c8
   obtain rfl := Option.some.inj H
   have p508 : 0 ≤ (x13_1 : Int) := of_decide_eq_true zg2
   have q508 : x13_1 < (l0.length : Int) := of_decide_eq_true zg2
   obtain ⟨ad508, e508, hx508_0⟩ := Kd.at_int HR0.out x13_1 p508 q508
   cases e508
   replace p508 := eq_true p508
   replace q508 := eq_true q508
   have p509 : 0 ≤ (x13_1 : Int) := of_decide_eq_true zg2
   have q509 : x13_1 < (l1.length : Int) := of_decide_eq_true zg2
   obtain ⟨ad509, e509, hx509_0⟩ := Kd.at_int HR1.out x13_1 p509 q509
   cases e509
   replace p509 := eq_true p509
   replace q509 := eq_true q509
   go_wp2
   repeat (go_quiet (fail); try go_wp2)
   go_ret
   exact ⟨zs, by repeat (first | exact Drawn0.refl _ | apply Drawn0.step)⟩
   }
   }
   {
   rw [if_neg c7] at H
   exact absurd H (by simp)
   }
   }
   {
   rw [if_neg c6] at H
   exact absurd H (by simp)
   }
   }
   {
   rw [if_neg c5] at H
   exact absurd H (by simp)
   }
   }
   {
   rw [if_neg c4] at H
   have c4b0 : decide (x13_1 < (l0.length : Int)) = false := decide_eq_false c4
   clear c4
   obtain rfl := Option.some.inj H
   go_wp2
   repeat (go_quiet (fail); try go_wp2)
   go_ret
   exact ⟨zs, by repeat (first | exact Drawn0.refl _ | apply Drawn0.step)⟩
   }
 }
 {
 rw [if_neg c3] at H
 have c3b0 : ((l0.length : Int) == (l1.length : Int)) = false := beq_eq_false_iff_ne.mpr c3
 have c3b1 : ((l0.length : Int) != (l1.length : Int)) = true := bne_iff_ne.mpr c3
 have c3b2 : (l0.length == l1.length) = false := by first | simpa using c3 | (simp at c3 ⊢; omega)
 obtain rfl := Option.some.inj H
 go_enter Try.func119, Try.ntmps119
 go_wp2
 repeat (go_quiet (fail); try go_wp2)
 go_ret
 exact ⟨zs, by repeat (first | exact Drawn0.refl _ | apply Drawn0.step)⟩
 
 }
end Go.Proofs.Ytaiggfjkikfcbaa.PFnExactEntries

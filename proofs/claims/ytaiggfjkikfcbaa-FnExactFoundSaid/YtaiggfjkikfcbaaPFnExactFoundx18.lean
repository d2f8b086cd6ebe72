-- by a program of this session (wip/print/run.py) for this claim
import Derived.Test.YtaiggfjkikfcbaaLibPu
import Derived.Test.YtaiggfjkikfcbaaPFnExactFoundx0
import Derived.Test.YtaiggfjkikfcbaaPFnExactFoundx1
import Derived.Test.YtaiggfjkikfcbaaPFnExactFoundx2
import Derived.Test.YtaiggfjkikfcbaaPFnExactFoundx10
import Derived.Test.YtaiggfjkikfcbaaPFnExactFoundx17
namespace Go.Proofs.Ytaiggfjkikfcbaa.PFnExactFound
open Go.Proofs.Ytaiggfjkikfcbaa.Lib Go.RowKit Go.Proofs.YtaiggfjkikfcbaaW.PrintWords Go.Proofs.YtaiggfjkikfcbaaW.PrintLast Go.Proofs.YtaiggfjkikfcbaaW.PrintMore
attribute [local go_sem] max2_int min2_int max_two min_two max_three min_three max_four min_four   -- for this text's walks alone
set_option linter.unusedVariables false
set_option linter.unusedSimpArgs false

theorem z10a {p_ : Prop} (h_ : p_ := by repeat (first | (with_reducible first | exact HB.out | apply below_alloc | apply pw_below_drewN | apply below_drew1 | refine below_set ?_ GE544.out | refine below_set ?_ GE559.out | refine below_set ?_ GE568.out | refine below_set ?_ GE574.out) | exact HB.out)) : p_ := h_
theorem z10b {p_ : Prop} (h_ : p_ := by (with_reducible repeat (first | refine blk_drewN ?_ _ | refine blk_drew ?_ | refine blk_alloc ?_ _)); exact BK544.out) : p_ := h_
theorem z10c {p_ : Prop} (h_ : p_ := by (try simp only [List.map_toArray, List.map_cons, List.map_nil]); first | done | rfl | (simp only [List.length_drop, List.length_take]; rfl)) : p_ := h_
theorem z10d {p_ : Prop} (h_ : p_ := by repeat (first | (with_reducible first | exact HB.out | apply below_alloc | apply pw_below_drewN | apply below_drew1 | refine below_set ?_ GE544.out | refine below_set ?_ GE559.out) | exact HB.out)) : p_ := h_
theorem z10e {p_ : Prop} (h_ : p_ := by repeat (first | (with_reducible first | exact HB.out | apply below_alloc | apply pw_below_drewN | apply below_drew1 | refine below_set ?_ GE544.out) | exact HB.out)) : p_ := h_
theorem z10f {p_ : Prop} (h_ : p_ := by repeat (first | (with_reducible first | exact HB.out | apply below_alloc | apply pw_below_drewN | apply below_drew1) | exact HB.out)) : p_ := h_
theorem z10g {p_ : Prop} (h_ : p_ := by (with_reducible repeat (first | refine blk_drewN ?_ _ | refine blk_drew ?_ | refine blk_alloc ?_ _)); exact BK559.out) : p_ := h_
theorem z10h {p_ : Prop} (h_ : p_ := by (with_reducible repeat (first | refine blk_drewN ?_ _ | refine blk_drew ?_ | refine blk_alloc ?_ _)); refine blk_put (cs := #[.string t569, .string t570, .int .i64 t571, .bool false]) ?_ 3 _ rfl; (with_reducible repeat (first | refine blk_drewN ?_ _ | refine blk_drew ?_ | refine blk_alloc ?_ _)); refine blk_put (cs := #[.string t569, .string t570, .int .i64 0, .bool false]) ?_ 2 _ rfl; (with_reducible repeat (first | refine blk_drewN ?_ _ | refine blk_drew ?_ | refine blk_alloc ?_ _)); refine blk_put (cs := #[.string t569, .string (⟨#[]⟩ : ByteArray), .int .i64 0, .bool false]) ?_ 1 _ rfl; (with_reducible repeat (first | refine blk_drewN ?_ _ | refine blk_drew ?_ | refine blk_alloc ?_ _)); refine blk_put (cs := #[.string (⟨#[]⟩ : ByteArray), .string (⟨#[]⟩ : ByteArray), .int .i64 0, .bool false]) ?_ 0 _ rfl; (with_reducible repeat (first | refine blk_drewN ?_ _ | refine blk_drew ?_ | refine blk_alloc ?_ _)); exact BK574.out) : p_ := h_
theorem z10i {p_ : Prop} (h_ : p_ := by repeat (first | exact (Kd.C_below HR0_2.out HB.out) | (with_reducible refine Kd.C_alloc ?_ _) | (with_reducible refine Kd.C_drewN ?_ _) | (with_reducible refine Kd.C_drew ?_))) : p_ := h_
theorem z10j {p_ : Prop} (h_ : p_ := by repeat (first | exact (Kd.C_below HR0_3.out HB.out) | (with_reducible refine Kd.C_alloc ?_ _) | (with_reducible refine Kd.C_drewN ?_ _) | (with_reducible refine Kd.C_drew ?_))) : p_ := h_
theorem z10k {p_ : Prop} (h_ : p_ := by (with_reducible repeat (first | refine blk_drewN ?_ _ | refine blk_drew ?_ | refine blk_alloc ?_ _)); exact BK568.out) : p_ := h_
theorem z10l {p_ : Prop} (h_ : p_ := by repeat (first | (with_reducible first | exact HB.out | apply below_alloc | apply pw_below_drewN | apply below_drew1 | refine below_set ?_ GE544.out | refine below_set ?_ GE559.out | refine below_set ?_ GE568.out) | exact HB.out)) : p_ := h_
theorem z10m {p_ : Prop} (h_ : p_ := by (with_reducible repeat (first | refine blk_drewN ?_ _ | refine blk_drew ?_ | refine blk_alloc ?_ _)); refine blk_far ?_ NB544_574.out _; (with_reducible repeat (first | refine blk_drewN ?_ _ | refine blk_drew ?_ | refine blk_alloc ?_ _)); refine blk_far ?_ NB544_574.out _; (with_reducible repeat (first | refine blk_drewN ?_ _ | refine blk_drew ?_ | refine blk_alloc ?_ _)); refine blk_far ?_ NB544_574.out _; (with_reducible repeat (first | refine blk_drewN ?_ _ | refine blk_drew ?_ | refine blk_alloc ?_ _)); refine blk_far ?_ NB544_574.out _; (with_reducible repeat (first | refine blk_drewN ?_ _ | refine blk_drew ?_ | refine blk_alloc ?_ _)); exact BK544.out) : p_ := h_
theorem z10n {p_ : Prop} (h_ : p_ := by (with_reducible repeat (first | refine blk_drewN ?_ _ | refine blk_drew ?_ | refine blk_alloc ?_ _)); refine blk_far ?_ NB559_574.out _; (with_reducible repeat (first | refine blk_drewN ?_ _ | refine blk_drew ?_ | refine blk_alloc ?_ _)); refine blk_far ?_ NB559_574.out _; (with_reducible repeat (first | refine blk_drewN ?_ _ | refine blk_drew ?_ | refine blk_alloc ?_ _)); refine blk_far ?_ NB559_574.out _; (with_reducible repeat (first | refine blk_drewN ?_ _ | refine blk_drew ?_ | refine blk_alloc ?_ _)); refine blk_far ?_ NB559_574.out _; (with_reducible repeat (first | refine blk_drewN ?_ _ | refine blk_drew ?_ | refine blk_alloc ?_ _)); exact BK559.out) : p_ := h_
theorem z10o {p_ : Prop} (h_ : p_ := by (with_reducible repeat (first | refine blk_drewN ?_ _ | refine blk_drew ?_ | refine blk_alloc ?_ _)); refine blk_far ?_ NB568_574.out _; (with_reducible repeat (first | refine blk_drewN ?_ _ | refine blk_drew ?_ | refine blk_alloc ?_ _)); refine blk_far ?_ NB568_574.out _; (with_reducible repeat (first | refine blk_drewN ?_ _ | refine blk_drew ?_ | refine blk_alloc ?_ _)); refine blk_far ?_ NB568_574.out _; (with_reducible repeat (first | refine blk_drewN ?_ _ | refine blk_drew ?_ | refine blk_alloc ?_ _)); refine blk_far ?_ NB568_574.out _; (with_reducible repeat (first | refine blk_drewN ?_ _ | refine blk_drew ?_ | refine blk_alloc ?_ _)); exact BK568.out) : p_ := h_
theorem z10p {p_ : Prop} (h_ : p_ := by (with_reducible repeat (first | apply Kd.R_alloc | apply Kd.R_drewN | apply Kd.R_drew)); exact HO_569002.out) : p_ := h_
theorem z10q {p_ : Prop} (h_ : p_ := by (with_reducible repeat (first | apply Kd.R_alloc | apply Kd.R_drewN | apply Kd.R_drew)); exact HO_569003.out) : p_ := h_
theorem z10r {p_ : Prop} (h_ : p_ := by simp only [Act.put, List.setIfInBounds_toArray, List.set_cons_zero, List.set_cons_succ, i64_w, i32_w]; rfl) : p_ := h_
theorem z10s {p_ : Prop} (h_ : p_ := by (with_reducible repeat (first | apply Kd.R_alloc | apply Kd.R_drewN | apply Kd.R_drew)); exact (Kd.R_mono (Kd.R_far (p := ⟨gb568, 3, none⟩) (Kd.R_far (p := ⟨gb568, 2, none⟩) (Kd.R_far (p := ⟨gb568, 1, none⟩) (Kd.R_far (p := ⟨gb568, 0, none⟩) (Kd.R_types HO564.out BK568.out (by decide)) (fun _ hk => hk.2) (.string t560)) (fun _ hk => hk.2) (.string t561)) (fun _ hk => hk.2) (.slice Ao33 t562.length co33)) (fun _ hk => hk.2) (.slice Ao34 t565.length co34)) (fun _ h_ => h_.1))) : p_ := h_
theorem z10t {p_ : Prop} (h_ : p_ := by (with_reducible repeat (first | apply Kd.R_alloc | apply Kd.R_drewN | apply Kd.R_drew)); exact (Kd.R_mono (Kd.R_far (p := ⟨gb568, 3, none⟩) (Kd.R_far (p := ⟨gb568, 2, none⟩) (Kd.R_far (p := ⟨gb568, 1, none⟩) (Kd.R_far (p := ⟨gb568, 0, none⟩) (Kd.R_types HO567.out BK568.out (by decide)) (fun _ hk => hk.2) (.string t560)) (fun _ hk => hk.2) (.string t561)) (fun _ hk => hk.2) (.slice Ao33 t562.length co33)) (fun _ hk => hk.2) (.slice Ao34 t565.length co34)) (fun _ h_ => h_.1))) : p_ := h_
theorem z10u {p_ : Prop} (h_ : p_ := by (with_reducible repeat (first | apply Kd.R_alloc | apply Kd.R_drewN | apply Kd.R_drew)); exact (Kd.R_mono (Kd.R_far (p := ⟨gb559, 3, none⟩) (Kd.R_far (p := ⟨gb559, 2, none⟩) (Kd.R_far (p := ⟨gb559, 1, none⟩) (Kd.R_far (p := ⟨gb559, 0, none⟩) (Kd.R_types HO550.out BK559.out (by decide)) (fun _ hk => hk.2) (.string t554)) (fun _ hk => hk.2) (.string t555)) (fun _ hk => hk.2) (.int .i64 t556)) (fun _ hk => hk.2) (.bool t557)) (fun _ h_ => h_.1))) : p_ := h_
theorem z10v {p_ : Prop} (h_ : p_ := by (with_reducible repeat (first | apply Kd.R_alloc | apply Kd.R_drewN | apply Kd.R_drew)); exact (Kd.R_mono (Kd.R_far (p := ⟨gb559, 3, none⟩) (Kd.R_far (p := ⟨gb559, 2, none⟩) (Kd.R_far (p := ⟨gb559, 1, none⟩) (Kd.R_far (p := ⟨gb559, 0, none⟩) (Kd.R_types HO553.out BK559.out (by decide)) (fun _ hk => hk.2) (.string t554)) (fun _ hk => hk.2) (.string t555)) (fun _ hk => hk.2) (.int .i64 t556)) (fun _ hk => hk.2) (.bool t557)) (fun _ h_ => h_.1))) : p_ := h_
theorem z10w {p_ : Prop} (h_ : p_ := by (with_reducible repeat (first | apply Kd.R_alloc | apply Kd.R_drewN | apply Kd.R_drew)); exact (Kd.R_mono (Kd.R_far (p := ⟨gb574, 3, none⟩) (Kd.R_far (p := ⟨gb574, 2, none⟩) (Kd.R_far (p := ⟨gb574, 1, none⟩) (Kd.R_far (p := ⟨gb574, 0, none⟩) (Kd.R_types HO550.out BK574.out (by decide)) (fun _ hk => hk.2) (.string t569)) (fun _ hk => hk.2) (.string t570)) (fun _ hk => hk.2) (.int .i64 t571)) (fun _ hk => hk.2) (.bool t572)) (fun _ h_ => h_.1))) : p_ := h_
theorem z10x {p_ : Prop} (h_ : p_ := by (with_reducible repeat (first | apply Kd.R_alloc | apply Kd.R_drewN | apply Kd.R_drew)); exact (Kd.R_mono (Kd.R_far (p := ⟨gb574, 3, none⟩) (Kd.R_far (p := ⟨gb574, 2, none⟩) (Kd.R_far (p := ⟨gb574, 1, none⟩) (Kd.R_far (p := ⟨gb574, 0, none⟩) (Kd.R_types HO553.out BK574.out (by decide)) (fun _ hk => hk.2) (.string t569)) (fun _ hk => hk.2) (.string t570)) (fun _ hk => hk.2) (.int .i64 t571)) (fun _ hk => hk.2) (.bool t572)) (fun _ h_ => h_.1))) : p_ := h_
theorem z10y {p_ : Prop} (h_ : p_ := by (with_reducible repeat (first | apply Kd.R_alloc | apply Kd.R_drewN | apply Kd.R_drew)); exact (Kd.R_mono (Kd.R_far (p := ⟨gb574, 3, none⟩) (Kd.R_far (p := ⟨gb574, 2, none⟩) (Kd.R_far (p := ⟨gb574, 1, none⟩) (Kd.R_far (p := ⟨gb574, 0, none⟩) (Kd.R_types HO564.out BK574.out (by decide)) (fun _ hk => hk.2) (.string t569)) (fun _ hk => hk.2) (.string t570)) (fun _ hk => hk.2) (.int .i64 t571)) (fun _ hk => hk.2) (.bool t572)) (fun _ h_ => h_.1))) : p_ := h_
theorem z10z {p_ : Prop} (h_ : p_ := by (with_reducible repeat (first | apply Kd.R_alloc | apply Kd.R_drewN | apply Kd.R_drew)); exact (Kd.R_mono (Kd.R_far (p := ⟨gb574, 3, none⟩) (Kd.R_far (p := ⟨gb574, 2, none⟩) (Kd.R_far (p := ⟨gb574, 1, none⟩) (Kd.R_far (p := ⟨gb574, 0, none⟩) (Kd.R_types HO567.out BK574.out (by decide)) (fun _ hk => hk.2) (.string t569)) (fun _ hk => hk.2) (.string t570)) (fun _ hk => hk.2) (.int .i64 t571)) (fun _ hk => hk.2) (.bool t572)) (fun _ h_ => h_.1))) : p_ := h_
def laws_FnExactFound.j0 : Nat → Bool → ByteArray → ByteArray → List Int → List ByteArray → ByteArray → ByteArray → List Int → List ByteArray → Option (Bool)
 | 0, _, _, _, _, _, _, _, _, _ => none
 | k + 1, x46, x545000, x545001, x545002, x545003, x569000, x569001, x569002, x569003 => if x46 = true then (some false) else ((laws_toTable.f k x545000 x545001 x545002 x545003).bind fun bt576 => ((laws_eqTable.f k x569000 x569001 x569002 x569003 bt576.1 bt576.2.1 bt576.2.2.1 bt576.2.2.2).bind fun t584 => (if t584 = true then (some true) else (some false))))
def laws_FnExactFound.f (k : Nat) (a0_0 : ByteArray) (a0_1 : ByteArray) (l0_2 : List Int) (l0_3 : List ByteArray) (a1 : ByteArray) (a2 : Int) : Option (Bool) := if (a1.size : Int) > 1048576 then (some true) else ((laws_szTable.f k a0_0 a0_1 l0_2 l0_3 1048576).bind fun t545 => (if t545 < 0 then (some true) else ((laws_toTable.f k a0_0 a0_1 l0_2 l0_3).bind fun bt546 => ((spec_Found.f k bt546.1 bt546.2.1 bt546.2.2.1 bt546.2.2.2 a1 a2).bind fun bt554 => ((laws_toTable.f k a0_0 a0_1 l0_2 l0_3).bind fun bt560 => ((impl_Found.f k bt560.1 bt560.2.1 bt560.2.2.1 bt560.2.2.2 a1 a2).bind fun bt569 => ((laws_eqEntry.f bt569.1 bt569.2.1 bt569.2.2.1 bt569.2.2.2.1 bt554.1 bt554.2.1 bt554.2.2.1 bt554.2.2.2.1).bind fun t575 => (if t575 = true then (laws_FnExactFound.j0 k (bt569.2.2.2.2 != bt554.2.2.2.2) a0_0 a0_1 l0_2 l0_3 bt560.1 bt560.2.1 bt560.2.2.1 bt560.2.2.2) else (laws_FnExactFound.j0 k true a0_0 a0_1 l0_2 l0_3 bt560.1 bt560.2.1 bt560.2.2.1 bt560.2.2.2)))))))))
set_option maxHeartbeats 8000000 in
set_option maxRecDepth 100000 in
theorem laws_FnExactFound.calls (k : Nat) (a0_0 : ByteArray) (a0_1 : ByteArray) (A0_2 : Option Addr) (c0_2 : Nat) (l0_2 : List Int) (A0_3 : Option Addr) (c0_3 : Nat) (l0_3 : List ByteArray) (a1 : ByteArray) (a2 : Int) (r : Bool) (w : World) (hr0_2 : Kd.C (Kd.int .i64) w A0_2 l0_2.length l0_2) (hc0_2 : l0_2.length ≤ c0_2) (hr0_3 : Kd.C Kd.string w A0_3 l0_3.length l0_3) (hc0_3 : l0_3.length ≤ c0_3) (h : laws_FnExactFound.f k a0_0 a0_1 l0_2 l0_3 a1 a2 = some r) :
  Calls Try.prog 10 #[.agg #[.string a0_0, .string a0_1, .slice A0_2 l0_2.length c0_2, .slice A0_3 l0_3.length c0_3], .string a1, .int .i64 a2] w fun e w' => e = .returned (.bool r) ∧ Below w.heap.size w w' := by
 have hu63 := Try.underlying63
 have hu31 := Try.underlying31
 have hu57 := Try.underlying57
 have HR0_2 := A_ hr0_2
 have HC0_2 := A_ hc0_2
 clear hr0_2 hc0_2
 have HR0_3 := A_ hr0_3
 have HC0_3 := A_ hc0_3
 clear hr0_3 hc0_3
 have HB := A_ (Below.refl w.heap.size w)
 have H : (if (a1.size : Int) > 1048576 then (some true) else ((laws_szTable.f k a0_0 a0_1 l0_2 l0_3 1048576).bind fun t545 => (if t545 < 0 then (some true) else ((laws_toTable.f k a0_0 a0_1 l0_2 l0_3).bind fun bt546 => ((spec_Found.f k bt546.1 bt546.2.1 bt546.2.2.1 bt546.2.2.2 a1 a2).bind fun bt554 => ((laws_toTable.f k a0_0 a0_1 l0_2 l0_3).bind fun bt560 => ((impl_Found.f k bt560.1 bt560.2.1 bt560.2.2.1 bt560.2.2.2 a1 a2).bind fun bt569 => ((laws_eqEntry.f bt569.1 bt569.2.1 bt569.2.2.1 bt569.2.2.2.1 bt554.1 bt554.2.1 bt554.2.2.1 bt554.2.2.2.1).bind fun t575 => (if t575 = true then (laws_FnExactFound.j0 k (bt569.2.2.2.2 != bt554.2.2.2.2) a0_0 a0_1 l0_2 l0_3 bt560.1 bt560.2.1 bt560.2.2.1 bt560.2.2.2) else (laws_FnExactFound.j0 k true a0_0 a0_1 l0_2 l0_3 bt560.1 bt560.2.1 bt560.2.2.1 bt560.2.2.2)))))))))) = some r := h
 clear h
 by_cases c4 : (a1.size : Int) > 1048576
 {
 rw [if_pos c4] at H
 have c4b0 : decide (1048576 < (a1.size : Int)) = true := decide_eq_true c4
 have c4b1 : decide (1048576 < a1.size) = true := decide_eq_true (by omega)
 clear c4
 obtain rfl := Option.some.inj H
 go_enter Try.func10, Try.ntmps10
 go_wp2_with (first | ((with_reducible refine gate_dst (N := 3) rfl ?_); refine box_event ?hg (N := 3) ?hd (cs := #[.string a0_0, .string a0_1, .slice A0_2 l0_2.length c0_2, .slice A0_3 l0_3.length c0_3]) (t := 63) ?hr ?_; (case hd => rfl); (case hg => rfl); (case hr => first | (go_simp; done) | (go_simp; rfl)); intro gb544 hg w5 hbox hb; have n0_ := A_ (below_step z10f hb); have n1_ := A_ (hbox); have n2_ := A_ ((by rw [hg]; exact (below_size z10f) : w.heap.size ≤ gb544)); have n3_ := A_ ((by rw [hg]; exact (below_size z10f) : w.heap.size ≤ gb544)); clear HB; have HB := n0_; have BK544 := n1_; have GW544 := n2_; have GE544 := n3_; clear n0_ n1_ n2_ n3_; clear hb hbox hg))
 go_ret
 exact ⟨by first | rfl | (simp [errW_none, errW_some] <;> rfl) | (simp [*, errW_none, errW_some] <;> rfl), by repeat (first | (with_reducible first | exact HB.out | apply below_alloc | apply pw_below_drewN | apply below_drew1 | refine below_set ?_ GE544.out) | exact HB.out)⟩
 }
 {
 rw [if_neg c4] at H
 have c4b0 : decide (1048576 < (a1.size : Int)) = false := decide_eq_false c4
 have c4b1 : decide (1048576 < a1.size) = false := decide_eq_false (by omega)
 clear c4
 replace H := Option.bind_eq_some_iff.mp H
 obtain ⟨t545, A60, H⟩ := H
 (try dsimp only at H)
 have A6 := A_ A60
 clear A60
 by_cases c7 : t545 < 0
 {
 rw [if_pos c7] at H
 have c7b0 : decide (t545 < 0) = true := decide_eq_true c7
 clear c7
 obtain rfl := Option.some.inj H
 go_enter Try.func10, Try.ntmps10
 go_wp2_with (first | ((with_reducible refine gate_dst (N := 3) rfl ?_); refine box_event ?hg (N := 3) ?hd (cs := #[.string a0_0, .string a0_1, .slice A0_2 l0_2.length c0_2, .slice A0_3 l0_3.length c0_3]) (t := 63) ?hr ?_; (case hd => rfl); (case hg => rfl); (case hr => first | (go_simp; done) | (go_simp; rfl)); intro gb544 hg w8 hbox hb; have n0_ := A_ (below_step z10f hb); have n1_ := A_ (hbox); have n2_ := A_ ((by rw [hg]; exact (below_size z10f) : w.heap.size ≤ gb544)); have n3_ := A_ ((by rw [hg]; exact (below_size z10f) : w.heap.size ≤ gb544)); clear HB; have HB := n0_; have BK544 := n1_; have GW544 := n2_; have GE544 := n3_; clear n0_ n1_ n2_ n3_; clear hb hbox hg; have hcz9_0 : w8.cell? ⟨gb544, 0, none⟩ = some (.string a0_0) := (blk_cell BK544.out 0).trans rfl; have hcz9_1 : w8.cell? ⟨gb544, 1, none⟩ = some (.string a0_1) := (blk_cell BK544.out 1).trans rfl; have hcz9_2 : w8.cell? ⟨gb544, 2, none⟩ = some (.slice A0_2 l0_2.length c0_2) := (blk_cell BK544.out 2).trans rfl; have hcz9_3 : w8.cell? ⟨gb544, 3, none⟩ = some (.slice A0_3 l0_3.length c0_3) := (blk_cell BK544.out 3).trans rfl; have hfz9_0 := blk_frozen BK544.out 0; have hfz9_1 := blk_frozen BK544.out 1; have hfz9_2 := blk_frozen BK544.out 2; have hfz9_3 := blk_frozen BK544.out 3) | ((with_reducible refine gate_callee (f := 41) rfl ?_); refine goesL_ (some 18) rfl rfl Try.func41 (by kernel_rfl) rfl #[.agg #[.string a0_0, .string a0_1, .slice A0_2 l0_2.length c0_2, .slice A0_3 l0_3.length c0_3], .int .i64 1048576] rfl z10c ?_; (with_reducible refine (laws_szTable.calls k a0_0 a0_1 _ _ l0_2 _ _ l0_3 1048576 t545 _ ?side1 ?side2 ?side3 ?side4 A6.out).mono ?_); (case side1 => exact z10i); (case side2 => exact HC0_2.out); (case side3 => exact z10j); (case side4 => exact HC0_3.out); rintro e w10 ⟨rfl, hb⟩; refine ⟨_, rfl, ?_⟩; replace BK544 := A_ (blk_below (g := gb544) (o := .cells #[.string a0_0, .string a0_1, .slice A0_2 l0_2.length c0_2, .slice A0_3 l0_3.length c0_3] 63 (0, 0)) z10b hb); replace HB := A_ (below_step z10e hb)))
 go_ret
 exact ⟨by first | rfl | (simp [errW_none, errW_some] <;> rfl) | (simp [*, errW_none, errW_some] <;> rfl), by repeat (first | (with_reducible first | exact HB.out | apply below_alloc | apply pw_below_drewN | apply below_drew1 | refine below_set ?_ GE544.out) | exact HB.out)⟩
 }
 {
 rw [if_neg c7] at H
 have c7b0 : decide (t545 < 0) = false := decide_eq_false c7
 clear c7
 replace H := Option.bind_eq_some_iff.mp H
 obtain ⟨⟨t546, t547, t548, t551⟩, A110, H⟩ := H
 (try dsimp only at H)
 have A11 := A_ A110
 clear A110
 replace H := Option.bind_eq_some_iff.mp H
 obtain ⟨⟨t554, t555, t556, t557, t558⟩, A120, H⟩ := H
 (try dsimp only at H)
 have A12 := A_ A120
 clear A120
 replace H := Option.bind_eq_some_iff.mp H
 obtain ⟨⟨t560, t561, t562, t565⟩, A130, H⟩ := H
 (try dsimp only at H)
 have A13 := A_ A130
 clear A130
 replace H := Option.bind_eq_some_iff.mp H
 obtain ⟨⟨t569, t570, t571, t572, t573⟩, A140, H⟩ := H
 (try dsimp only at H)
 have A14 := A_ A140
 clear A140
 have HC15 := A_ H
 clear H
 go_enter Try.func10, Try.ntmps10
 go_upto_region 10 with (first | ((with_reducible refine gate_dst (N := 3) rfl ?_); refine box_event ?hg (N := 3) ?hd (cs := #[.string a0_0, .string a0_1, .slice A0_2 l0_2.length c0_2, .slice A0_3 l0_3.length c0_3]) (t := 63) ?hr ?_; (case hd => rfl); (case hg => rfl); (case hr => first | (go_simp; done) | (go_simp; rfl)); intro gb544 hg w16 hbox hb; have n0_ := A_ (below_step z10f hb); have n1_ := A_ (hbox); have n2_ := A_ ((by rw [hg]; exact (below_size z10f) : w.heap.size ≤ gb544)); have n3_ := A_ ((by rw [hg]; exact (below_size z10f) : w.heap.size ≤ gb544)); clear HB; have HB := n0_; have BK544 := n1_; have GW544 := n2_; have GE544 := n3_; clear n0_ n1_ n2_ n3_; clear hb hbox hg; have hcz17_0 : w16.cell? ⟨gb544, 0, none⟩ = some (.string a0_0) := (blk_cell BK544.out 0).trans rfl; have hcz17_1 : w16.cell? ⟨gb544, 1, none⟩ = some (.string a0_1) := (blk_cell BK544.out 1).trans rfl; have hcz17_2 : w16.cell? ⟨gb544, 2, none⟩ = some (.slice A0_2 l0_2.length c0_2) := (blk_cell BK544.out 2).trans rfl; have hcz17_3 : w16.cell? ⟨gb544, 3, none⟩ = some (.slice A0_3 l0_3.length c0_3) := (blk_cell BK544.out 3).trans rfl; have hfz17_0 := blk_frozen BK544.out 0; have hfz17_1 := blk_frozen BK544.out 1; have hfz17_2 := blk_frozen BK544.out 2; have hfz17_3 := blk_frozen BK544.out 3) | ((with_reducible refine gate_callee (f := 41) rfl ?_); refine goesL_ (some 18) rfl rfl Try.func41 (by kernel_rfl) rfl #[.agg #[.string a0_0, .string a0_1, .slice A0_2 l0_2.length c0_2, .slice A0_3 l0_3.length c0_3], .int .i64 1048576] rfl z10c ?_; (with_reducible refine (laws_szTable.calls k a0_0 a0_1 _ _ l0_2 _ _ l0_3 1048576 t545 _ ?side1 ?side2 ?side3 ?side4 A6.out).mono ?_); (case side1 => exact z10i); (case side2 => exact HC0_2.out); (case side3 => exact z10j); (case side4 => exact HC0_3.out); rintro e w18 ⟨rfl, hb⟩; refine ⟨_, rfl, ?_⟩; replace BK544 := A_ (blk_below (g := gb544) (o := .cells #[.string a0_0, .string a0_1, .slice A0_2 l0_2.length c0_2, .slice A0_3 l0_3.length c0_3] 63 (0, 0)) z10b hb); replace HB := A_ (below_step z10e hb); have hcz19_0 : w18.cell? ⟨gb544, 0, none⟩ = some (.string a0_0) := (blk_cell BK544.out 0).trans rfl; have hcz19_1 : w18.cell? ⟨gb544, 1, none⟩ = some (.string a0_1) := (blk_cell BK544.out 1).trans rfl; have hcz19_2 : w18.cell? ⟨gb544, 2, none⟩ = some (.slice A0_2 l0_2.length c0_2) := (blk_cell BK544.out 2).trans rfl; have hcz19_3 : w18.cell? ⟨gb544, 3, none⟩ = some (.slice A0_3 l0_3.length c0_3) := (blk_cell BK544.out 3).trans rfl; have hfz19_0 := blk_frozen BK544.out 0; have hfz19_1 := blk_frozen BK544.out 1; have hfz19_2 := blk_frozen BK544.out 2; have hfz19_3 := blk_frozen BK544.out 3) | ((with_reducible refine gate_callee (f := 43) rfl ?_); refine goesL_ (some 23) rfl rfl Try.func43 (by kernel_rfl) rfl #[.agg #[.string a0_0, .string a0_1, .slice A0_2 l0_2.length c0_2, .slice A0_3 l0_3.length c0_3]] rfl z10c ?_; (with_reducible refine (laws_toTable.calls k a0_0 a0_1 _ _ l0_2 _ _ l0_3 t546 t547 t548 t551 _ ?side1 ?side2 ?side3 ?side4 A11.out).mono ?_); (case side1 => exact z10i); (case side2 => exact HC0_2.out); (case side3 => exact z10j); (case side4 => exact HC0_3.out); rintro e w20 ⟨v549, v552, rfl, ho0, ho1, hb⟩; refine ⟨_, rfl, ?_⟩; have n0_ := A_ (Kd.R_lower ho0 (below_size z10e)); have n1_ := A_ (Kd.R_lower ho1 (below_size z10e)); have n2_ := A_ (blk_below (g := gb544) (o := .cells #[.string a0_0, .string a0_1, .slice A0_2 l0_2.length c0_2, .slice A0_3 l0_3.length c0_3] 63 (0, 0)) z10b hb); have n3_ := A_ (below_step z10e hb); clear BK544; clear HB; have HO550 := n0_; have HO553 := n1_; have BK544 := n2_; have HB := n3_; clear n0_ n1_ n2_ n3_; (try clear ho1); obtain ⟨Ao21, co21, eo21⟩ := Kd.R_slice HO550.out; subst eo21; obtain ⟨Ao22, co22, eo22⟩ := Kd.R_slice HO553.out; subst eo22) | ((with_reducible refine gate_callee (f := 47) rfl ?_); refine goesL_ (some 26) rfl rfl Try.func47 (by kernel_rfl) rfl #[.agg #[.string t546, .string t547, .slice Ao21 t548.length co21, .slice Ao22 t551.length co22], .string a1, .int .i64 a2] rfl z10c ?_; (with_reducible refine (spec_Found.calls k t546 t547 _ _ t548 _ _ t551 a1 a2 t554 t555 t556 t557 t558 _ ?side1 ?side2 ?side3 ?side4 A12.out).mono ?_); (case side1 => exact (by repeat (first | exact (Kd.R_reads' HO550.out).2.2 | (with_reducible refine Kd.C_alloc ?_ _) | (with_reducible refine Kd.C_drewN ?_ _) | (with_reducible refine Kd.C_drew ?_)))); (case side2 => exact (Kd.R_reads' HO550.out).2.1); (case side3 => exact (by repeat (first | exact (Kd.R_reads' HO553.out).2.2 | (with_reducible refine Kd.C_alloc ?_ _) | (with_reducible refine Kd.C_drewN ?_ _) | (with_reducible refine Kd.C_drew ?_)))); (case side4 => exact (Kd.R_reads' HO553.out).2.1); rintro e w23 ⟨rfl, hb⟩; refine ⟨_, rfl, ?_⟩; replace HO550 := A_ (Kd.R_below (by (with_reducible repeat (first | apply Kd.R_alloc | apply Kd.R_drewN | apply Kd.R_drew)); exact HO550.out) hb); replace HO553 := A_ (Kd.R_below (by (with_reducible repeat (first | apply Kd.R_alloc | apply Kd.R_drewN | apply Kd.R_drew)); exact HO553.out) hb); replace BK544 := A_ (blk_below (g := gb544) (o := .cells #[.string a0_0, .string a0_1, .slice A0_2 l0_2.length c0_2, .slice A0_3 l0_3.length c0_3] 63 (0, 0)) z10b hb); replace HB := A_ (below_step z10e hb)) | ((with_reducible refine gate_dst (N := 8) rfl ?_); refine box_event ?hg (N := 8) ?hd (cs := #[.string (⟨#[]⟩ : ByteArray), .string (⟨#[]⟩ : ByteArray), .int .i64 0, .bool false]) (t := 31) ?hr ?_; (case hd => rfl); (case hg => rfl); (case hr => first | (go_simp; done) | (go_simp; rfl)); intro gb559 hg w24 hbox hb; have n0_ := A_ (Kd.R_below (by (with_reducible repeat (first | apply Kd.R_alloc | apply Kd.R_drewN | apply Kd.R_drew)); exact HO550.out) hb); have n1_ := A_ (Kd.R_below (by (with_reducible repeat (first | apply Kd.R_alloc | apply Kd.R_drewN | apply Kd.R_drew)); exact HO553.out) hb); have n2_ := A_ (blk_below (g := gb544) (o := .cells #[.string a0_0, .string a0_1, .slice A0_2 l0_2.length c0_2, .slice A0_3 l0_3.length c0_3] 63 (0, 0)) z10b hb); have n3_ := A_ (below_step z10e hb); have n4_ := A_ (hbox); have n5_ := A_ ((by rw [hg]; exact (below_size z10e) : w.heap.size ≤ gb559)); have n6_ := A_ ((by rw [hg]; exact (below_size z10e) : w.heap.size ≤ gb559)); have n7_ := A_ ((by rw [hg]; exact Nat.ne_of_lt (blk_lt (g := gb544) (o := .cells #[.string a0_0, .string a0_1, .slice A0_2 l0_2.length c0_2, .slice A0_3 l0_3.length c0_3] 63 (0, 0)) z10b) : gb544 ≠ gb559)); have n8_ := A_ ((by rw [hg]; exact Nat.ne_of_gt (blk_lt (g := gb544) (o := .cells #[.string a0_0, .string a0_1, .slice A0_2 l0_2.length c0_2, .slice A0_3 l0_3.length c0_3] 63 (0, 0)) z10b) : gb559 ≠ gb544)); clear HO550; clear HO553; clear BK544; clear HB; have HO550 := n0_; have HO553 := n1_; have BK544 := n2_; have HB := n3_; have BK559 := n4_; have GW559 := n5_; have GE559 := n6_; have NB544_559 := n7_; have NB559_544 := n8_; clear n0_ n1_ n2_ n3_ n4_ n5_ n6_ n7_ n8_; clear hb hbox hg; have hnb25 := NB559_544.out; have hnc25 := NB544_559.out; have hcz26_0 : w24.cell? ⟨gb559, 0, none⟩ = some (.string (⟨#[]⟩ : ByteArray)) := (blk_cell BK559.out 0).trans rfl; have hcz26_1 : w24.cell? ⟨gb559, 1, none⟩ = some (.string (⟨#[]⟩ : ByteArray)) := (blk_cell BK559.out 1).trans rfl; have hcz26_2 : w24.cell? ⟨gb559, 2, none⟩ = some (.int .i64 0) := (blk_cell BK559.out 2).trans rfl; have hcz26_3 : w24.cell? ⟨gb559, 3, none⟩ = some (.bool false) := (blk_cell BK559.out 3).trans rfl; have hfz26_0 := blk_frozen BK559.out 0; have hfz26_1 := blk_frozen BK559.out 1; have hfz26_2 := blk_frozen BK559.out 2; have hfz26_3 := blk_frozen BK559.out 3; have hcz27_0 : w24.cell? ⟨gb544, 0, none⟩ = some (.string a0_0) := (blk_cell BK544.out 0).trans rfl; have hcz27_1 : w24.cell? ⟨gb544, 1, none⟩ = some (.string a0_1) := (blk_cell BK544.out 1).trans rfl; have hcz27_2 : w24.cell? ⟨gb544, 2, none⟩ = some (.slice A0_2 l0_2.length c0_2) := (blk_cell BK544.out 2).trans rfl; have hcz27_3 : w24.cell? ⟨gb544, 3, none⟩ = some (.slice A0_3 l0_3.length c0_3) := (blk_cell BK544.out 3).trans rfl; have hfz27_0 := blk_frozen BK544.out 0; have hfz27_1 := blk_frozen BK544.out 1; have hfz27_2 := blk_frozen BK544.out 2; have hfz27_3 := blk_frozen BK544.out 3) | ((with_reducible refine gate_callee (f := 43) rfl ?_); refine goesL_ (some 30) rfl rfl Try.func43 (by kernel_rfl) rfl #[.agg #[.string a0_0, .string a0_1, .slice A0_2 l0_2.length c0_2, .slice A0_3 l0_3.length c0_3]] rfl z10c ?_; (with_reducible refine (laws_toTable.calls k a0_0 a0_1 _ _ l0_2 _ _ l0_3 t560 t561 t562 t565 _ ?side1 ?side2 ?side3 ?side4 A13.out).mono ?_); (case side1 => exact Kd.C_below HR0_2.out z10d); (case side2 => exact HC0_2.out); (case side3 => exact Kd.C_below HR0_3.out z10d); (case side4 => exact HC0_3.out); rintro e w28 ⟨v563, v566, rfl, ho0, ho1, hb⟩; refine ⟨_, rfl, ?_⟩; have n0_ := A_ (Kd.R_elder' z10u (Kd.R_base ho0) hb); have n1_ := A_ (Kd.R_elder' z10v (Kd.R_base ho1) hb); have n2_ := A_ (Kd.R_lower (Kd.R_new' ho0 (Kd.R_lt z10u)) (below_size z10d)); have n3_ := A_ (Kd.R_lower (Kd.R_new' ho1 (Kd.R_lt z10v)) (below_size z10d)); have n4_ := A_ (blk_below (g := gb544) (o := .cells #[.string a0_0, .string a0_1, .slice A0_2 l0_2.length c0_2, .slice A0_3 l0_3.length c0_3] 63 (0, 0)) (by (with_reducible repeat (first | refine blk_drewN ?_ _ | refine blk_drew ?_ | refine blk_alloc ?_ _)); refine blk_far ?_ NB544_559.out _; (with_reducible repeat (first | refine blk_drewN ?_ _ | refine blk_drew ?_ | refine blk_alloc ?_ _)); refine blk_far ?_ NB544_559.out _; (with_reducible repeat (first | refine blk_drewN ?_ _ | refine blk_drew ?_ | refine blk_alloc ?_ _)); refine blk_far ?_ NB544_559.out _; (with_reducible repeat (first | refine blk_drewN ?_ _ | refine blk_drew ?_ | refine blk_alloc ?_ _)); refine blk_far ?_ NB544_559.out _; (with_reducible repeat (first | refine blk_drewN ?_ _ | refine blk_drew ?_ | refine blk_alloc ?_ _)); exact BK544.out) hb); have n5_ := A_ (blk_below (g := gb559) (o := .cells #[.string t554, .string t555, .int .i64 t556, .bool t557] 31 (0, 0)) (by (with_reducible repeat (first | refine blk_drewN ?_ _ | refine blk_drew ?_ | refine blk_alloc ?_ _)); refine blk_put (cs := #[.string t554, .string t555, .int .i64 t556, .bool false]) ?_ 3 _ rfl; (with_reducible repeat (first | refine blk_drewN ?_ _ | refine blk_drew ?_ | refine blk_alloc ?_ _)); refine blk_put (cs := #[.string t554, .string t555, .int .i64 0, .bool false]) ?_ 2 _ rfl; (with_reducible repeat (first | refine blk_drewN ?_ _ | refine blk_drew ?_ | refine blk_alloc ?_ _)); refine blk_put (cs := #[.string t554, .string (⟨#[]⟩ : ByteArray), .int .i64 0, .bool false]) ?_ 1 _ rfl; (with_reducible repeat (first | refine blk_drewN ?_ _ | refine blk_drew ?_ | refine blk_alloc ?_ _)); refine blk_put (cs := #[.string (⟨#[]⟩ : ByteArray), .string (⟨#[]⟩ : ByteArray), .int .i64 0, .bool false]) ?_ 0 _ rfl; (with_reducible repeat (first | refine blk_drewN ?_ _ | refine blk_drew ?_ | refine blk_alloc ?_ _)); exact BK559.out) hb); have n6_ := A_ (below_step z10d hb); clear HO550; clear HO553; clear BK544; clear BK559; clear HB; have HO550 := n0_; have HO553 := n1_; have HO564 := n2_; have HO567 := n3_; have BK544 := n4_; have BK559 := n5_; have HB := n6_; clear n0_ n1_ n2_ n3_ n4_ n5_ n6_; (try clear ho1)) | ((with_reducible refine gate_dst (N := 10) rfl ?_); refine box_event ?hg (N := 10) ?hd (cs := #[.string (⟨#[]⟩ : ByteArray), .string (⟨#[]⟩ : ByteArray), .slice none 0 0, .slice none 0 0]) (t := 57) ?hr ?_; (case hd => rfl); (case hg => rfl); (case hr => first | (go_simp; done) | (go_simp; rfl)); intro gb568 hg w29 hbox hb; have n0_ := A_ (Kd.R_below (by (with_reducible repeat (first | apply Kd.R_alloc | apply Kd.R_drewN | apply Kd.R_drew)); exact HO550.out) hb); have n1_ := A_ (Kd.R_below (by (with_reducible repeat (first | apply Kd.R_alloc | apply Kd.R_drewN | apply Kd.R_drew)); exact HO553.out) hb); have n2_ := A_ (Kd.R_below (by (with_reducible repeat (first | apply Kd.R_alloc | apply Kd.R_drewN | apply Kd.R_drew)); exact HO564.out) hb); have n3_ := A_ (Kd.R_below (by (with_reducible repeat (first | apply Kd.R_alloc | apply Kd.R_drewN | apply Kd.R_drew)); exact HO567.out) hb); have n4_ := A_ (blk_below (g := gb544) (o := .cells #[.string a0_0, .string a0_1, .slice A0_2 l0_2.length c0_2, .slice A0_3 l0_3.length c0_3] 63 (0, 0)) z10b hb); have n5_ := A_ (blk_below (g := gb559) (o := .cells #[.string t554, .string t555, .int .i64 t556, .bool t557] 31 (0, 0)) z10g hb); have n6_ := A_ (below_step z10d hb); have n7_ := A_ (hbox); have n8_ := A_ ((by rw [hg]; exact (below_size z10d) : w.heap.size ≤ gb568)); have n9_ := A_ ((by rw [hg]; exact (below_size z10d) : w.heap.size ≤ gb568)); have n10_ := A_ ((by rw [hg]; exact Nat.ne_of_lt (blk_lt (g := gb544) (o := .cells #[.string a0_0, .string a0_1, .slice A0_2 l0_2.length c0_2, .slice A0_3 l0_3.length c0_3] 63 (0, 0)) z10b) : gb544 ≠ gb568)); have n11_ := A_ ((by rw [hg]; exact Nat.ne_of_gt (blk_lt (g := gb544) (o := .cells #[.string a0_0, .string a0_1, .slice A0_2 l0_2.length c0_2, .slice A0_3 l0_3.length c0_3] 63 (0, 0)) z10b) : gb568 ≠ gb544)); have n12_ := A_ ((by rw [hg]; exact Nat.ne_of_lt (blk_lt (g := gb559) (o := .cells #[.string t554, .string t555, .int .i64 t556, .bool t557] 31 (0, 0)) z10g) : gb559 ≠ gb568)); have n13_ := A_ ((by rw [hg]; exact Nat.ne_of_gt (blk_lt (g := gb559) (o := .cells #[.string t554, .string t555, .int .i64 t556, .bool t557] 31 (0, 0)) z10g) : gb568 ≠ gb559)); clear HO550; clear HO553; clear HO564; clear HO567; clear BK544; clear BK559; clear HB; have HO550 := n0_; have HO553 := n1_; have HO564 := n2_; have HO567 := n3_; have BK544 := n4_; have BK559 := n5_; have HB := n6_; have BK568 := n7_; have GW568 := n8_; have GE568 := n9_; have NB544_568 := n10_; have NB568_544 := n11_; have NB559_568 := n12_; have NB568_559 := n13_; clear n0_ n1_ n2_ n3_ n4_ n5_ n6_ n7_ n8_ n9_ n10_ n11_ n12_ n13_; clear hb hbox hg; have hnb30 := NB568_544.out; have hnc30 := NB544_568.out; have hnb31 := NB568_559.out; have hnc31 := NB559_568.out; have hcz32_0 : w29.cell? ⟨gb568, 0, none⟩ = some (.string (⟨#[]⟩ : ByteArray)) := (blk_cell BK568.out 0).trans rfl; have hcz32_1 : w29.cell? ⟨gb568, 1, none⟩ = some (.string (⟨#[]⟩ : ByteArray)) := (blk_cell BK568.out 1).trans rfl; have hcz32_2 : w29.cell? ⟨gb568, 2, none⟩ = some (.slice none 0 0) := (blk_cell BK568.out 2).trans rfl; have hcz32_3 : w29.cell? ⟨gb568, 3, none⟩ = some (.slice none 0 0) := (blk_cell BK568.out 3).trans rfl; have hfz32_0 := blk_frozen BK568.out 0; have hfz32_1 := blk_frozen BK568.out 1; have hfz32_2 := blk_frozen BK568.out 2; have hfz32_3 := blk_frozen BK568.out 3; obtain ⟨Ao33, co33, eo33⟩ := Kd.R_slice HO564.out; subst eo33; obtain ⟨Ao34, co34, eo34⟩ := Kd.R_slice HO567.out; subst eo34) | ((with_reducible refine gate_callee (f := 48) rfl ?_); refine goesL_ (some 35) rfl rfl Try.func48 (by kernel_rfl) rfl #[.agg #[.string t560, .string t561, .slice Ao33 t562.length co33, .slice Ao34 t565.length co34], .string a1, .int .i64 a2] rfl z10c ?_; (with_reducible refine (impl_Found.calls k t560 t561 _ _ t562 _ _ t565 a1 a2 t569 t570 t571 t572 t573 _ ?side1 ?side2 ?side3 ?side4 A14.out).mono ?_); (case side1 => refine (Kd.R_reads' (e := 2) (base := w.heap.size) (ok := fun k_ => (True ∧ some k_ ≠ (.slice Ao21 t548.length co21 : Value).ownBlock)) (n := t562.length) (c := co33) ?_).2.2; exact z10s); (case side2 => exact (Kd.R_reads' HO564.out).2.1); (case side3 => refine (Kd.R_reads' (e := 9) (base := w.heap.size) (ok := fun k_ => (True ∧ some k_ ≠ (.slice Ao22 t551.length co22 : Value).ownBlock)) (n := t565.length) (c := co34) ?_).2.2; exact z10t); (case side4 => exact (Kd.R_reads' HO567.out).2.1); rintro e w35 ⟨rfl, hb⟩; refine ⟨_, rfl, ?_⟩; replace HO550 := A_ (Kd.R_below (by (with_reducible repeat (first | apply Kd.R_alloc | apply Kd.R_drewN | apply Kd.R_drew)); exact (Kd.R_mono (Kd.R_far (p := ⟨gb568, 3, none⟩) (Kd.R_far (p := ⟨gb568, 2, none⟩) (Kd.R_far (p := ⟨gb568, 1, none⟩) (Kd.R_far (p := ⟨gb568, 0, none⟩) (Kd.R_types HO550.out BK568.out (by decide)) (fun _ hk => hk.2) (.string t560)) (fun _ hk => hk.2) (.string t561)) (fun _ hk => hk.2) (.slice Ao33 t562.length co33)) (fun _ hk => hk.2) (.slice Ao34 t565.length co34)) (fun _ h_ => h_.1))) hb); replace HO553 := A_ (Kd.R_below (by (with_reducible repeat (first | apply Kd.R_alloc | apply Kd.R_drewN | apply Kd.R_drew)); exact (Kd.R_mono (Kd.R_far (p := ⟨gb568, 3, none⟩) (Kd.R_far (p := ⟨gb568, 2, none⟩) (Kd.R_far (p := ⟨gb568, 1, none⟩) (Kd.R_far (p := ⟨gb568, 0, none⟩) (Kd.R_types HO553.out BK568.out (by decide)) (fun _ hk => hk.2) (.string t560)) (fun _ hk => hk.2) (.string t561)) (fun _ hk => hk.2) (.slice Ao33 t562.length co33)) (fun _ hk => hk.2) (.slice Ao34 t565.length co34)) (fun _ h_ => h_.1))) hb); replace HO564 := A_ (Kd.R_below z10s hb); replace HO567 := A_ (Kd.R_below z10t hb); replace BK544 := A_ (blk_below (g := gb544) (o := .cells #[.string a0_0, .string a0_1, .slice A0_2 l0_2.length c0_2, .slice A0_3 l0_3.length c0_3] 63 (0, 0)) (by (with_reducible repeat (first | refine blk_drewN ?_ _ | refine blk_drew ?_ | refine blk_alloc ?_ _)); refine blk_far ?_ NB544_568.out _; (with_reducible repeat (first | refine blk_drewN ?_ _ | refine blk_drew ?_ | refine blk_alloc ?_ _)); refine blk_far ?_ NB544_568.out _; (with_reducible repeat (first | refine blk_drewN ?_ _ | refine blk_drew ?_ | refine blk_alloc ?_ _)); refine blk_far ?_ NB544_568.out _; (with_reducible repeat (first | refine blk_drewN ?_ _ | refine blk_drew ?_ | refine blk_alloc ?_ _)); refine blk_far ?_ NB544_568.out _; (with_reducible repeat (first | refine blk_drewN ?_ _ | refine blk_drew ?_ | refine blk_alloc ?_ _)); exact BK544.out) hb); replace BK559 := A_ (blk_below (g := gb559) (o := .cells #[.string t554, .string t555, .int .i64 t556, .bool t557] 31 (0, 0)) (by (with_reducible repeat (first | refine blk_drewN ?_ _ | refine blk_drew ?_ | refine blk_alloc ?_ _)); refine blk_far ?_ NB559_568.out _; (with_reducible repeat (first | refine blk_drewN ?_ _ | refine blk_drew ?_ | refine blk_alloc ?_ _)); refine blk_far ?_ NB559_568.out _; (with_reducible repeat (first | refine blk_drewN ?_ _ | refine blk_drew ?_ | refine blk_alloc ?_ _)); refine blk_far ?_ NB559_568.out _; (with_reducible repeat (first | refine blk_drewN ?_ _ | refine blk_drew ?_ | refine blk_alloc ?_ _)); refine blk_far ?_ NB559_568.out _; (with_reducible repeat (first | refine blk_drewN ?_ _ | refine blk_drew ?_ | refine blk_alloc ?_ _)); exact BK559.out) hb); replace BK568 := A_ (blk_below (g := gb568) (o := .cells #[.string t560, .string t561, .slice Ao33 t562.length co33, .slice Ao34 t565.length co34] 57 (0, 0)) (by (with_reducible repeat (first | refine blk_drewN ?_ _ | refine blk_drew ?_ | refine blk_alloc ?_ _)); refine blk_put (cs := #[.string t560, .string t561, .slice Ao33 t562.length co33, .slice none 0 0]) ?_ 3 _ rfl; (with_reducible repeat (first | refine blk_drewN ?_ _ | refine blk_drew ?_ | refine blk_alloc ?_ _)); refine blk_put (cs := #[.string t560, .string t561, .slice none 0 0, .slice none 0 0]) ?_ 2 _ rfl; (with_reducible repeat (first | refine blk_drewN ?_ _ | refine blk_drew ?_ | refine blk_alloc ?_ _)); refine blk_put (cs := #[.string t560, .string (⟨#[]⟩ : ByteArray), .slice none 0 0, .slice none 0 0]) ?_ 1 _ rfl; (with_reducible repeat (first | refine blk_drewN ?_ _ | refine blk_drew ?_ | refine blk_alloc ?_ _)); refine blk_put (cs := #[.string (⟨#[]⟩ : ByteArray), .string (⟨#[]⟩ : ByteArray), .slice none 0 0, .slice none 0 0]) ?_ 0 _ rfl; (with_reducible repeat (first | refine blk_drewN ?_ _ | refine blk_drew ?_ | refine blk_alloc ?_ _)); exact BK568.out) hb); replace HB := A_ (below_step z10l hb)) | ((with_reducible refine gate_dst (N := 11) rfl ?_); refine box_event ?hg (N := 11) ?hd (cs := #[.string (⟨#[]⟩ : ByteArray), .string (⟨#[]⟩ : ByteArray), .int .i64 0, .bool false]) (t := 31) ?hr ?_; (case hd => rfl); (case hg => rfl); (case hr => first | (go_simp; done) | (go_simp; rfl)); intro gb574 hg w36 hbox hb; have n0_ := A_ (Kd.R_below (by (with_reducible repeat (first | apply Kd.R_alloc | apply Kd.R_drewN | apply Kd.R_drew)); exact HO550.out) hb); have n1_ := A_ (Kd.R_below (by (with_reducible repeat (first | apply Kd.R_alloc | apply Kd.R_drewN | apply Kd.R_drew)); exact HO553.out) hb); have n2_ := A_ (Kd.R_below (by (with_reducible repeat (first | apply Kd.R_alloc | apply Kd.R_drewN | apply Kd.R_drew)); exact HO564.out) hb); have n3_ := A_ (Kd.R_below (by (with_reducible repeat (first | apply Kd.R_alloc | apply Kd.R_drewN | apply Kd.R_drew)); exact HO567.out) hb); have n4_ := A_ (blk_below (g := gb544) (o := .cells #[.string a0_0, .string a0_1, .slice A0_2 l0_2.length c0_2, .slice A0_3 l0_3.length c0_3] 63 (0, 0)) z10b hb); have n5_ := A_ (blk_below (g := gb559) (o := .cells #[.string t554, .string t555, .int .i64 t556, .bool t557] 31 (0, 0)) z10g hb); have n6_ := A_ (blk_below (g := gb568) (o := .cells #[.string t560, .string t561, .slice Ao33 t562.length co33, .slice Ao34 t565.length co34] 57 (0, 0)) z10k hb); have n7_ := A_ (below_step z10l hb); have n8_ := A_ (hbox); have n9_ := A_ ((by rw [hg]; exact (below_size z10l) : w.heap.size ≤ gb574)); have n10_ := A_ ((by rw [hg]; exact (below_size z10l) : w.heap.size ≤ gb574)); have n11_ := A_ ((by rw [hg]; exact Nat.ne_of_lt (blk_lt (g := gb544) (o := .cells #[.string a0_0, .string a0_1, .slice A0_2 l0_2.length c0_2, .slice A0_3 l0_3.length c0_3] 63 (0, 0)) z10b) : gb544 ≠ gb574)); have n12_ := A_ ((by rw [hg]; exact Nat.ne_of_gt (blk_lt (g := gb544) (o := .cells #[.string a0_0, .string a0_1, .slice A0_2 l0_2.length c0_2, .slice A0_3 l0_3.length c0_3] 63 (0, 0)) z10b) : gb574 ≠ gb544)); have n13_ := A_ ((by rw [hg]; exact Nat.ne_of_lt (blk_lt (g := gb559) (o := .cells #[.string t554, .string t555, .int .i64 t556, .bool t557] 31 (0, 0)) z10g) : gb559 ≠ gb574)); have n14_ := A_ ((by rw [hg]; exact Nat.ne_of_gt (blk_lt (g := gb559) (o := .cells #[.string t554, .string t555, .int .i64 t556, .bool t557] 31 (0, 0)) z10g) : gb574 ≠ gb559)); have n15_ := A_ ((by rw [hg]; exact Nat.ne_of_lt (blk_lt (g := gb568) (o := .cells #[.string t560, .string t561, .slice Ao33 t562.length co33, .slice Ao34 t565.length co34] 57 (0, 0)) z10k) : gb568 ≠ gb574)); have n16_ := A_ ((by rw [hg]; exact Nat.ne_of_gt (blk_lt (g := gb568) (o := .cells #[.string t560, .string t561, .slice Ao33 t562.length co33, .slice Ao34 t565.length co34] 57 (0, 0)) z10k) : gb574 ≠ gb568)); clear HO550; clear HO553; clear HO564; clear HO567; clear BK544; clear BK559; clear BK568; clear HB; have HO550 := n0_; have HO553 := n1_; have HO564 := n2_; have HO567 := n3_; have BK544 := n4_; have BK559 := n5_; have BK568 := n6_; have HB := n7_; have BK574 := n8_; have GW574 := n9_; have GE574 := n10_; have NB544_574 := n11_; have NB574_544 := n12_; have NB559_574 := n13_; have NB574_559 := n14_; have NB568_574 := n15_; have NB574_568 := n16_; clear n0_ n1_ n2_ n3_ n4_ n5_ n6_ n7_ n8_ n9_ n10_ n11_ n12_ n13_ n14_ n15_ n16_; clear hb hbox hg; have hnb37 := NB574_544.out; have hnc37 := NB544_574.out; have hnb38 := NB574_559.out; have hnc38 := NB559_574.out; have hnb39 := NB574_568.out; have hnc39 := NB568_574.out; have hcz40_0 : w36.cell? ⟨gb574, 0, none⟩ = some (.string (⟨#[]⟩ : ByteArray)) := (blk_cell BK574.out 0).trans rfl; have hcz40_1 : w36.cell? ⟨gb574, 1, none⟩ = some (.string (⟨#[]⟩ : ByteArray)) := (blk_cell BK574.out 1).trans rfl; have hcz40_2 : w36.cell? ⟨gb574, 2, none⟩ = some (.int .i64 0) := (blk_cell BK574.out 2).trans rfl; have hcz40_3 : w36.cell? ⟨gb574, 3, none⟩ = some (.bool false) := (blk_cell BK574.out 3).trans rfl; have hfz40_0 := blk_frozen BK574.out 0; have hfz40_1 := blk_frozen BK574.out 1; have hfz40_2 := blk_frozen BK574.out 2; have hfz40_3 := blk_frozen BK574.out 3))
 (try simp only [Act.put, List.setIfInBounds_toArray, List.set_cons_zero, List.set_cons_succ])
 go_cut [46] (fun v46 wc => ∃ (kq : Nat) (x46_14 : Bool), v46 = .bool x46_14 ∧ Aside0 (laws_FnExactFound.j0 kq x46_14 a0_0 a0_1 l0_2 l0_3 t560 t561 t562 t565 = some r) ∧ Aside0 (kq ≤ k) ∧ Aside0 (Kd.R (Kd.int .i64) 2 wc w.heap.size (fun _ => True) (.slice Ao33 t562.length co33) t562) ∧ Aside0 (Kd.R Kd.string 9 wc w.heap.size (fun _ => True) (.slice Ao34 t565.length co34) t565) ∧ Aside0 (wc.heap[gb544]? = some (.cells #[.string a0_0, .string a0_1, (.slice A0_2 l0_2.length c0_2), (.slice A0_3 l0_3.length c0_3)] 63 (0, 0))) ∧ Aside0 (wc.heap[gb559]? = some (.cells #[.string t554, .string t555, .int .i64 t556, .bool t557] 31 (0, 0))) ∧ Aside0 (wc.heap[gb568]? = some (.cells #[.string t560, .string t561, (.slice Ao33 t562.length co33), (.slice Ao34 t565.length co34)] 57 (0, 0))) ∧ Aside0 (wc.heap[gb574]? = some (.cells #[.string t569, .string t570, .int .i64 t571, .bool t572] 31 (0, 0))) ∧ Aside0 (Below w.heap.size w wc))
 case first =>
  have H := HC15.out
  clear HC15
  replace H := Option.bind_eq_some_iff.mp H
  obtain ⟨t575, A410, H⟩ := H
  (try dsimp only at H)
  have A41 := A_ A410
  clear A410
  by_cases c42 : t575 = true
  {
  subst c42
  rw [if_pos rfl] at H
  have H' := A_ H
  clear H
  have hnb43 := NB574_544.out
  have hnc43 := NB544_574.out
  have hnb44 := NB574_559.out
  have hnc44 := NB559_574.out
  have hnb45 := NB574_568.out
  have hnc45 := NB568_574.out
  have hcz46_0 : w36.cell? ⟨gb574, 0, none⟩ = some (.string (⟨#[]⟩ : ByteArray)) := (blk_cell BK574.out 0).trans rfl
  have hcz46_1 : w36.cell? ⟨gb574, 1, none⟩ = some (.string (⟨#[]⟩ : ByteArray)) := (blk_cell BK574.out 1).trans rfl
  have hcz46_2 : w36.cell? ⟨gb574, 2, none⟩ = some (.int .i64 0) := (blk_cell BK574.out 2).trans rfl
  have hcz46_3 : w36.cell? ⟨gb574, 3, none⟩ = some (.bool false) := (blk_cell BK574.out 3).trans rfl
  have hfz46_0 := blk_frozen BK574.out 0
  have hfz46_1 := blk_frozen BK574.out 1
  have hfz46_2 := blk_frozen BK574.out 2
  have hfz46_3 := blk_frozen BK574.out 3
  have hnb47 := NB559_544.out
  have hnc47 := NB544_559.out
  have hnb48 := NB559_568.out
  have hnc48 := NB568_559.out
  have hcz49_0 : w36.cell? ⟨gb559, 0, none⟩ = some (.string t554) := (blk_cell BK559.out 0).trans rfl
  have hcz49_1 : w36.cell? ⟨gb559, 1, none⟩ = some (.string t555) := (blk_cell BK559.out 1).trans rfl
  have hcz49_2 : w36.cell? ⟨gb559, 2, none⟩ = some (.int .i64 t556) := (blk_cell BK559.out 2).trans rfl
  have hcz49_3 : w36.cell? ⟨gb559, 3, none⟩ = some (.bool t557) := (blk_cell BK559.out 3).trans rfl
  have hfz49_0 := blk_frozen BK559.out 0
  have hfz49_1 := blk_frozen BK559.out 1
  have hfz49_2 := blk_frozen BK559.out 2
  have hfz49_3 := blk_frozen BK559.out 3
  go_wp2_with (first | ((with_reducible refine gate_callee (f := 49) rfl ?_); refine goesL_ (some 40) rfl rfl Try.func49 (by kernel_rfl) rfl #[.agg #[.string t569, .string t570, .int .i64 t571, .bool t572], .agg #[.string t554, .string t555, .int .i64 t556, .bool t557]] rfl z10c ?_; (with_reducible refine (laws_eqEntry.calls t569 t570 t571 t572 t554 t555 t556 t557 true _ A41.out).mono ?_); rintro e w50 ⟨rfl, hb⟩; refine ⟨_, rfl, ?_⟩; replace HO550 := A_ (Kd.R_below z10w hb); replace HO553 := A_ (Kd.R_below z10x hb); replace HO564 := A_ (Kd.R_below z10y hb); replace HO567 := A_ (Kd.R_below z10z hb); replace BK544 := A_ (blk_below (g := gb544) (o := .cells #[.string a0_0, .string a0_1, .slice A0_2 l0_2.length c0_2, .slice A0_3 l0_3.length c0_3] 63 (0, 0)) z10m hb); replace BK559 := A_ (blk_below (g := gb559) (o := .cells #[.string t554, .string t555, .int .i64 t556, .bool t557] 31 (0, 0)) z10n hb); replace BK568 := A_ (blk_below (g := gb568) (o := .cells #[.string t560, .string t561, .slice Ao33 t562.length co33, .slice Ao34 t565.length co34] 57 (0, 0)) z10o hb); replace BK574 := A_ (blk_below (g := gb574) (o := .cells #[.string t569, .string t570, .int .i64 t571, .bool t572] 31 (0, 0)) z10h hb); replace HB := A_ (below_step z10a hb)))
  go_meet
  case rel => exact ⟨_, ((t573 != t558)), (by first | rfl | (simp; done) | (simp [*]; done)), H', ⟨by first | omega | exact Nat.le_refl _⟩, ⟨by (with_reducible repeat (first | apply Kd.R_alloc | apply Kd.R_drewN | apply Kd.R_drew)); exact Kd.R_mono HO564.out (fun _ hk => trivial)⟩, ⟨by (with_reducible repeat (first | apply Kd.R_alloc | apply Kd.R_drewN | apply Kd.R_drew)); exact Kd.R_mono HO567.out (fun _ hk => trivial)⟩, ⟨by (with_reducible repeat (first | refine blk_drewN ?_ _ | refine blk_drew ?_ | refine blk_alloc ?_ _)); exact BK544.out⟩, ⟨by (with_reducible repeat (first | refine blk_drewN ?_ _ | refine blk_drew ?_ | refine blk_alloc ?_ _)); exact BK559.out⟩, ⟨by (with_reducible repeat (first | refine blk_drewN ?_ _ | refine blk_drew ?_ | refine blk_alloc ?_ _)); exact BK568.out⟩, ⟨by (with_reducible repeat (first | refine blk_drewN ?_ _ | refine blk_drew ?_ | refine blk_alloc ?_ _)); exact BK574.out⟩, ⟨by repeat (first | (with_reducible first | exact HB.out | apply below_alloc | apply pw_below_drewN | apply below_drew1 | refine below_set ?_ GE544.out | refine below_set ?_ GE559.out | refine below_set ?_ GE568.out | refine below_set ?_ GE574.out) | exact HB.out)⟩⟩
  }
  {
  replace c42 := Bool.eq_false_iff.mpr c42
  subst c42
  rw [if_neg Bool.false_ne_true] at H
  have H' := A_ H
  clear H
  have hnb51 := NB574_544.out
  have hnc51 := NB544_574.out
  have hnb52 := NB574_559.out
  have hnc52 := NB559_574.out
  have hnb53 := NB574_568.out
  have hnc53 := NB568_574.out
  have hcz54_0 : w36.cell? ⟨gb574, 0, none⟩ = some (.string (⟨#[]⟩ : ByteArray)) := (blk_cell BK574.out 0).trans rfl
  have hcz54_1 : w36.cell? ⟨gb574, 1, none⟩ = some (.string (⟨#[]⟩ : ByteArray)) := (blk_cell BK574.out 1).trans rfl
  have hcz54_2 : w36.cell? ⟨gb574, 2, none⟩ = some (.int .i64 0) := (blk_cell BK574.out 2).trans rfl
  have hcz54_3 : w36.cell? ⟨gb574, 3, none⟩ = some (.bool false) := (blk_cell BK574.out 3).trans rfl
  have hfz54_0 := blk_frozen BK574.out 0
  have hfz54_1 := blk_frozen BK574.out 1
  have hfz54_2 := blk_frozen BK574.out 2
  have hfz54_3 := blk_frozen BK574.out 3
  have hnb55 := NB559_544.out
  have hnc55 := NB544_559.out
  have hnb56 := NB559_568.out
  have hnc56 := NB568_559.out
  have hcz57_0 : w36.cell? ⟨gb559, 0, none⟩ = some (.string t554) := (blk_cell BK559.out 0).trans rfl
  have hcz57_1 : w36.cell? ⟨gb559, 1, none⟩ = some (.string t555) := (blk_cell BK559.out 1).trans rfl
  have hcz57_2 : w36.cell? ⟨gb559, 2, none⟩ = some (.int .i64 t556) := (blk_cell BK559.out 2).trans rfl
  have hcz57_3 : w36.cell? ⟨gb559, 3, none⟩ = some (.bool t557) := (blk_cell BK559.out 3).trans rfl
  have hfz57_0 := blk_frozen BK559.out 0
  have hfz57_1 := blk_frozen BK559.out 1
  have hfz57_2 := blk_frozen BK559.out 2
  have hfz57_3 := blk_frozen BK559.out 3
  go_wp2_with (first | ((with_reducible refine gate_callee (f := 49) rfl ?_); refine goesL_ (some 40) rfl rfl Try.func49 (by kernel_rfl) rfl #[.agg #[.string t569, .string t570, .int .i64 t571, .bool t572], .agg #[.string t554, .string t555, .int .i64 t556, .bool t557]] rfl z10c ?_; (with_reducible refine (laws_eqEntry.calls t569 t570 t571 t572 t554 t555 t556 t557 false _ A41.out).mono ?_); rintro e w58 ⟨rfl, hb⟩; refine ⟨_, rfl, ?_⟩; replace HO550 := A_ (Kd.R_below z10w hb); replace HO553 := A_ (Kd.R_below z10x hb); replace HO564 := A_ (Kd.R_below z10y hb); replace HO567 := A_ (Kd.R_below z10z hb); replace BK544 := A_ (blk_below (g := gb544) (o := .cells #[.string a0_0, .string a0_1, .slice A0_2 l0_2.length c0_2, .slice A0_3 l0_3.length c0_3] 63 (0, 0)) z10m hb); replace BK559 := A_ (blk_below (g := gb559) (o := .cells #[.string t554, .string t555, .int .i64 t556, .bool t557] 31 (0, 0)) z10n hb); replace BK568 := A_ (blk_below (g := gb568) (o := .cells #[.string t560, .string t561, .slice Ao33 t562.length co33, .slice Ao34 t565.length co34] 57 (0, 0)) z10o hb); replace BK574 := A_ (blk_below (g := gb574) (o := .cells #[.string t569, .string t570, .int .i64 t571, .bool t572] 31 (0, 0)) z10h hb); replace HB := A_ (below_step z10a hb)))
  go_meet
  case rel => exact ⟨_, (true), (by first | rfl | (simp; done) | (simp [*]; done)), H', ⟨by first | omega | exact Nat.le_refl _⟩, ⟨by (with_reducible repeat (first | apply Kd.R_alloc | apply Kd.R_drewN | apply Kd.R_drew)); exact Kd.R_mono HO564.out (fun _ hk => trivial)⟩, ⟨by (with_reducible repeat (first | apply Kd.R_alloc | apply Kd.R_drewN | apply Kd.R_drew)); exact Kd.R_mono HO567.out (fun _ hk => trivial)⟩, ⟨by (with_reducible repeat (first | refine blk_drewN ?_ _ | refine blk_drew ?_ | refine blk_alloc ?_ _)); exact BK544.out⟩, ⟨by (with_reducible repeat (first | refine blk_drewN ?_ _ | refine blk_drew ?_ | refine blk_alloc ?_ _)); exact BK559.out⟩, ⟨by (with_reducible repeat (first | refine blk_drewN ?_ _ | refine blk_drew ?_ | refine blk_alloc ?_ _)); exact BK568.out⟩, ⟨by (with_reducible repeat (first | refine blk_drewN ?_ _ | refine blk_drew ?_ | refine blk_alloc ?_ _)); exact BK574.out⟩, ⟨by repeat (first | (with_reducible first | exact HB.out | apply below_alloc | apply pw_below_drewN | apply below_drew1 | refine below_set ?_ GE544.out | refine below_set ?_ GE559.out | refine below_set ?_ GE568.out | refine below_set ?_ GE574.out) | exact HB.out)⟩⟩
  }
 case rest =>
  clear HC15
  try clear c1
  try clear c2
  try clear p2
  try clear c3
  try clear c4
  try clear c4b0
  try clear c4b1
  try clear c5
  try clear c7
  try clear c7b0
  try clear c10
  try clear c25
  try clear c30
  try clear c31
  try clear c37
  try clear c38
  try clear c39
  try clear c41
  try clear c42
  try clear c43
  try clear c44
  try clear c45
  try clear c47
  try clear c48
  try clear c49
  try clear c51
  try clear c52
  try clear c53
  try clear c55
  try clear c56
  try clear hcz17_0
  try clear hcz17_1
  try clear hcz17_2
  try clear hcz17_3
  try clear hcz19_0
  try clear hcz19_1
  try clear hcz19_2
  try clear hcz19_3
  try clear hcz26_0
  try clear hcz26_1
  try clear hcz26_2
  try clear hcz26_3
  try clear hcz27_0
  try clear hcz27_1
  try clear hcz27_2
  try clear hcz27_3
  try clear hcz32_0
  try clear hcz32_1
  try clear hcz32_2
  try clear hcz32_3
  try clear hcz40_0
  try clear hcz40_1
  try clear hcz40_2
  try clear hcz40_3
  try clear hcz46_0
  try clear hcz46_1
  try clear hcz46_2
  try clear hcz46_3
  try clear hcz49_0
  try clear hcz49_1
  try clear hcz49_2
  try clear hcz49_3
  try clear hcz54_0
  try clear hcz54_1
  try clear hcz54_2
  try clear hcz54_3
  try clear hcz57_0
  try clear hcz57_1
  try clear hcz57_2
  try clear hcz57_3
  try clear hcz9_0
  try clear hcz9_1
  try clear hcz9_2
  try clear hcz9_3
  try clear hfz17_0
  try clear hfz17_1
  try clear hfz17_2
  try clear hfz17_3
  try clear hfz19_0
  try clear hfz19_1
  try clear hfz19_2
  try clear hfz19_3
  try clear hfz26_0
  try clear hfz26_1
  try clear hfz26_2
  try clear hfz26_3
  try clear hfz27_0
  try clear hfz27_1
  try clear hfz27_2
  try clear hfz27_3
  try clear hfz32_0
  try clear hfz32_1
  try clear hfz32_2
  try clear hfz32_3
  try clear hfz40_0
  try clear hfz40_1
  try clear hfz40_2
  try clear hfz40_3
  try clear hfz46_0
  try clear hfz46_1
  try clear hfz46_2
  try clear hfz46_3
  try clear hfz49_0
  try clear hfz49_1
  try clear hfz49_2
  try clear hfz49_3
  try clear hfz54_0
  try clear hfz54_1
  try clear hfz54_2
  try clear hfz54_3
  try clear hfz57_0
  try clear hfz57_1
  try clear hfz57_2
  try clear hfz57_3
  try clear hfz9_0
  try clear hfz9_1
  try clear hfz9_2
  try clear hfz9_3
  obtain ⟨kq, x46_14, rfl, HA, HJ14, HO_569002, HO_569003, BK544, BK559, BK568, BK574, HB⟩ := hcut
  cases kq with
  | zero => exact absurd HA.out (by simp [laws_FnExactFound.j0])
  | succ kj14 =>
   have H := HA.out
   clear HA
   simp only [laws_FnExactFound.j0] at H
   by_cases c59 : x46_14 = true
   {
   subst c59
   rw [if_pos rfl] at H
   obtain rfl := Option.some.inj H
   go_wp2
   go_ret
   exact ⟨by first | rfl | (simp [errW_none, errW_some] <;> rfl) | (simp [*, errW_none, errW_some] <;> rfl), by repeat (first | (with_reducible first | exact HB.out | apply below_alloc | apply pw_below_drewN | apply below_drew1 | refine below_set ?_ GE544.out | refine below_set ?_ GE559.out | refine below_set ?_ GE568.out | refine below_set ?_ GE574.out) | exact HB.out)⟩
   }
   {
   replace c59 := Bool.eq_false_iff.mpr c59
   subst c59
   rw [if_neg Bool.false_ne_true] at H
   replace H := Option.bind_eq_some_iff.mp H
   obtain ⟨⟨t576, t577, t578, t581⟩, A600, H⟩ := H
   (try dsimp only at H)
   have A60 := A_ A600
   clear A600
   replace H := Option.bind_eq_some_iff.mp H
   obtain ⟨t584, A610, H⟩ := H
   (try dsimp only at H)
   have A61 := A_ A610
   clear A610
   by_cases c62 : t584 = true
   {
   subst c62
   rw [if_pos rfl] at H
   obtain rfl := Option.some.inj H
   try go_wp2
   replace HO_569002 := A_ (Kd.R_drew HO_569002.out)
   replace HO_569003 := A_ (Kd.R_drew HO_569003.out)
   replace BK544 := A_ (blk_drew BK544.out)
   replace BK559 := A_ (blk_drew BK559.out)
   replace BK568 := A_ (blk_drew BK568.out)
   replace BK574 := A_ (blk_drew BK574.out)
   replace HB := A_ (below_drew1 HB.out)
   refine start_ (n := 5) (S := fun w' => w'.cell? ⟨gb568, 0, none⟩ = some (.string t560) ∧ w'.cell? ⟨gb568, 1, none⟩ = some (.string t561) ∧ w'.cell? ⟨gb568, 2, none⟩ = some (.slice Ao33 t562.length co33) ∧ w'.cell? ⟨gb568, 3, none⟩ = some (.slice Ao34 t565.length co34) ∧ w'.cell? ⟨gb544, 0, none⟩ = some (.string a0_0) ∧ w'.cell? ⟨gb544, 1, none⟩ = some (.string a0_1) ∧ w'.cell? ⟨gb544, 2, none⟩ = some (.slice A0_2 l0_2.length c0_2) ∧ w'.cell? ⟨gb544, 3, none⟩ = some (.slice A0_3 l0_3.length c0_3)) (ds := []) #[X, X, X, X, X] (by kernel_rfl) rfl rfl ⟨(blk_cell BK568.out 0).trans rfl, (blk_cell BK568.out 1).trans rfl, (blk_cell BK568.out 2).trans rfl, (blk_cell BK568.out 3).trans rfl, (blk_cell BK544.out 0).trans rfl, (blk_cell BK544.out 1).trans rfl, (blk_cell BK544.out 2).trans rfl, (blk_cell BK544.out 3).trans rfl⟩ (fun hHeld => ?_)
   generalize wc.drew = w63 at HO_569002 HO_569003 BK544 BK559 BK568 BK574 HB hHeld ⊢
   refine take_ (i := 0) (N := some 47) (v := _) (a' := _) #[Y, X, X, X, X] rfl rfl (by kernel_rfl) (fun _ _ _ h => h) (Or.inl ⟨by rfl, (by rintro w' ⟨s0, s1, s2, s3, s4, s5, s6, s7⟩; go_simp; with_reducible rfl)⟩) hHeld z10r ?_
   refine take_ (i := 1) (N := some 48) (v := _) (a' := _) #[Y, Y, X, X, X] rfl rfl (by kernel_rfl) (fun _ _ _ h => h) (Or.inl ⟨by rfl, (by rintro w' ⟨s0, s1, s2, s3, s4, s5, s6, s7⟩; go_simp; with_reducible rfl)⟩) hHeld z10r ?_
   refine one_ (i := 2) (N := some 49) #[Y, Y, Y, X, X] rfl rfl (by kernel_rfl) (by decide) (fun K hK => ?_)
   refine goes_ Try.func43 (by kernel_rfl) rfl #[.agg #[.string a0_0, .string a0_1, .slice A0_2 l0_2.length c0_2, .slice A0_3 l0_3.length c0_3]] (by rfl) rfl rfl z10c ?_
   with_reducible refine (laws_toTable.calls kj14 a0_0 a0_1 _ _ l0_2 _ _ l0_3 t576 t577 t578 t581 _ ?side1 ?side2 ?side3 ?side4 A60.out).mono ?_
   (case side1 => exact z10i)
   (case side2 => exact HC0_2.out)
   (case side3 => exact z10j)
   (case side4 => exact HC0_3.out)
   rintro e w64 ⟨v579, v582, rfl, ho0, ho1, hb⟩
   refine ⟨_, rfl, ?_⟩
   have n0_ := A_ (Kd.R_elder' z10p (Kd.R_base ho0) hb)
   have n1_ := A_ (Kd.R_elder' z10q (Kd.R_base ho1) hb)
   have n2_ := A_ (Kd.R_lower (Kd.R_new' ho0 (Kd.R_lt z10p)) (below_size z10a))
   have n3_ := A_ (Kd.R_lower (Kd.R_new' ho1 (Kd.R_lt z10q)) (below_size z10a))
   have n4_ := A_ (blk_below (g := gb544) (o := .cells #[.string a0_0, .string a0_1, .slice A0_2 l0_2.length c0_2, .slice A0_3 l0_3.length c0_3] 63 (0, 0)) z10b hb)
   have n5_ := A_ (blk_below (g := gb559) (o := .cells #[.string t554, .string t555, .int .i64 t556, .bool t557] 31 (0, 0)) z10g hb)
   have n6_ := A_ (blk_below (g := gb568) (o := .cells #[.string t560, .string t561, .slice Ao33 t562.length co33, .slice Ao34 t565.length co34] 57 (0, 0)) z10k hb)
   have n7_ := A_ (blk_below (g := gb574) (o := .cells #[.string t569, .string t570, .int .i64 t571, .bool t572] 31 (0, 0)) (by (with_reducible repeat (first | refine blk_drewN ?_ _ | refine blk_drew ?_ | refine blk_alloc ?_ _)); exact BK574.out) hb)
   have n8_ := A_ (below_step z10a hb)
   clear HO_569002
   clear HO_569003
   clear BK544
   clear BK559
   clear BK568
   clear BK574
   clear HB
   have HO_569002 := n0_
   have HO_569003 := n1_
   have HO580 := n2_
   have HO583 := n3_
   have BK544 := n4_
   have BK559 := n5_
   have BK568 := n6_
   have BK574 := n7_
   have HB := n8_
   clear n0_ n1_ n2_ n3_ n4_ n5_ n6_ n7_ n8_
   (try clear ho1)
   obtain ⟨Ao65, co65, eo65⟩ := Kd.R_slice HO580.out
   (first | subst eo65 | (injection eo65 with f1_ f2_ f3_; have f4_ := f1_.symm; have f5_ := f3_.symm; clear f1_ f2_ f3_; subst f4_; subst f5_))
   obtain ⟨Ao66, co66, eo66⟩ := Kd.R_slice HO583.out
   (first | subst eo66 | (injection eo66 with f1_ f2_ f3_; have f4_ := f1_.symm; have f5_ := f3_.symm; clear f1_ f2_ f3_; subst f4_; subst f5_))
   refine hK.out _ _ ⟨(blk_cell BK568.out 0).trans rfl, (blk_cell BK568.out 1).trans rfl, (blk_cell BK568.out 2).trans rfl, (blk_cell BK568.out 3).trans rfl, (blk_cell BK544.out 0).trans rfl, (blk_cell BK544.out 1).trans rfl, (blk_cell BK544.out 2).trans rfl, (blk_cell BK544.out 3).trans rfl⟩ (fun hHeld => ?_)
   clear hK K
   refine norm_ (nz_ 49) ?_
   refine one_ (i := 3) (N := some 50) #[Y, Y, Y, Y, X] rfl rfl (by kernel_rfl) (by decide) (fun K hK => ?_)
   refine goes_ Try.func38 (by kernel_rfl) rfl #[.agg #[.string t560, .string t561, .slice Ao33 t562.length co33, .slice Ao34 t565.length co34], .agg #[.string t576, .string t577, .slice Ao65 t578.length co65, .slice Ao66 t581.length co66]] (by rfl) rfl rfl z10c ?_
   with_reducible refine (laws_eqTable.calls kj14 t560 t561 _ _ t562 _ _ t565 t576 t577 _ _ t578 _ _ t581 true _ ?side1 ?side2 ?side3 ?side4 ?side5 ?side6 ?side7 ?side8 A61.out).mono ?_
   (case side1 => exact (by repeat (first | exact (Kd.R_reads' HO_569002.out).2.2 | (with_reducible refine Kd.C_alloc ?_ _) | (with_reducible refine Kd.C_drewN ?_ _) | (with_reducible refine Kd.C_drew ?_))))
   (case side2 => exact (Kd.R_reads' HO_569002.out).2.1)
   (case side3 => exact (by repeat (first | exact (Kd.R_reads' HO_569003.out).2.2 | (with_reducible refine Kd.C_alloc ?_ _) | (with_reducible refine Kd.C_drewN ?_ _) | (with_reducible refine Kd.C_drew ?_))))
   (case side4 => exact (Kd.R_reads' HO_569003.out).2.1)
   (case side5 => exact (by repeat (first | exact (Kd.R_reads' HO580.out).2.2 | (with_reducible refine Kd.C_alloc ?_ _) | (with_reducible refine Kd.C_drewN ?_ _) | (with_reducible refine Kd.C_drew ?_))))
   (case side6 => exact (Kd.R_reads' HO580.out).2.1)
   (case side7 => exact (by repeat (first | exact (Kd.R_reads' HO583.out).2.2 | (with_reducible refine Kd.C_alloc ?_ _) | (with_reducible refine Kd.C_drewN ?_ _) | (with_reducible refine Kd.C_drew ?_))))
   (case side8 => exact (Kd.R_reads' HO583.out).2.1)
   rintro e w67 ⟨rfl, hb⟩
   refine ⟨_, rfl, ?_⟩
   replace HO_569002 := A_ (Kd.R_below z10p hb)
   replace HO_569003 := A_ (Kd.R_below z10q hb)
   replace HO580 := A_ (Kd.R_below (by (with_reducible repeat (first | apply Kd.R_alloc | apply Kd.R_drewN | apply Kd.R_drew)); exact HO580.out) hb)
   replace HO583 := A_ (Kd.R_below (by (with_reducible repeat (first | apply Kd.R_alloc | apply Kd.R_drewN | apply Kd.R_drew)); exact HO583.out) hb)
   replace BK544 := A_ (blk_below (g := gb544) (o := .cells #[.string a0_0, .string a0_1, .slice A0_2 l0_2.length c0_2, .slice A0_3 l0_3.length c0_3] 63 (0, 0)) z10b hb)
   replace BK559 := A_ (blk_below (g := gb559) (o := .cells #[.string t554, .string t555, .int .i64 t556, .bool t557] 31 (0, 0)) z10g hb)
   replace BK568 := A_ (blk_below (g := gb568) (o := .cells #[.string t560, .string t561, .slice Ao33 t562.length co33, .slice Ao34 t565.length co34] 57 (0, 0)) z10k hb)
   replace BK574 := A_ (blk_below (g := gb574) (o := .cells #[.string t569, .string t570, .int .i64 t571, .bool t572] 31 (0, 0)) (by (with_reducible repeat (first | refine blk_drewN ?_ _ | refine blk_drew ?_ | refine blk_alloc ?_ _)); exact BK574.out) hb)
   replace HB := A_ (below_step z10a hb)
   refine hK.out _ _ ⟨(blk_cell BK568.out 0).trans rfl, (blk_cell BK568.out 1).trans rfl, (blk_cell BK568.out 2).trans rfl, (blk_cell BK568.out 3).trans rfl, (blk_cell BK544.out 0).trans rfl, (blk_cell BK544.out 1).trans rfl, (blk_cell BK544.out 2).trans rfl, (blk_cell BK544.out 3).trans rfl⟩ (fun hHeld => ?_)
   clear hK K
   refine norm_ (nz_ 50) ?_
   refine pure_ (i := 4) (N := some 51) (v := _) (a' := _) #[Y, Y, Y, Y, Y] rfl rfl (by kernel_rfl) (fun _ _ _ h => h) (Or.inl ⟨by rfl, (by intro w'; go_simp; with_reducible rfl)⟩) z10r ?_
   refine done_ (by kernel_rfl) ?_
   try go_wp2
   go_ret
   exact ⟨by first | rfl | (simp [errW_none, errW_some] <;> rfl) | (simp [*, errW_none, errW_some] <;> rfl), by repeat (first | (with_reducible first | exact HB.out | apply below_alloc | apply pw_below_drewN | apply below_drew1 | refine below_set ?_ GE544.out | refine below_set ?_ GE559.out | refine below_set ?_ GE568.out | refine below_set ?_ GE574.out) | exact HB.out)⟩
   }
   {
   replace c62 := Bool.eq_false_iff.mpr c62
   subst c62
   rw [if_neg Bool.false_ne_true] at H
   obtain rfl := Option.some.inj H
   try go_wp2
   replace HO_569002 := A_ (Kd.R_drew HO_569002.out)
   replace HO_569003 := A_ (Kd.R_drew HO_569003.out)
   replace BK544 := A_ (blk_drew BK544.out)
   replace BK559 := A_ (blk_drew BK559.out)
   replace BK568 := A_ (blk_drew BK568.out)
   replace BK574 := A_ (blk_drew BK574.out)
   replace HB := A_ (below_drew1 HB.out)
   refine start_ (n := 5) (S := fun w' => w'.cell? ⟨gb568, 0, none⟩ = some (.string t560) ∧ w'.cell? ⟨gb568, 1, none⟩ = some (.string t561) ∧ w'.cell? ⟨gb568, 2, none⟩ = some (.slice Ao33 t562.length co33) ∧ w'.cell? ⟨gb568, 3, none⟩ = some (.slice Ao34 t565.length co34) ∧ w'.cell? ⟨gb544, 0, none⟩ = some (.string a0_0) ∧ w'.cell? ⟨gb544, 1, none⟩ = some (.string a0_1) ∧ w'.cell? ⟨gb544, 2, none⟩ = some (.slice A0_2 l0_2.length c0_2) ∧ w'.cell? ⟨gb544, 3, none⟩ = some (.slice A0_3 l0_3.length c0_3)) (ds := []) #[X, X, X, X, X] (by kernel_rfl) rfl rfl ⟨(blk_cell BK568.out 0).trans rfl, (blk_cell BK568.out 1).trans rfl, (blk_cell BK568.out 2).trans rfl, (blk_cell BK568.out 3).trans rfl, (blk_cell BK544.out 0).trans rfl, (blk_cell BK544.out 1).trans rfl, (blk_cell BK544.out 2).trans rfl, (blk_cell BK544.out 3).trans rfl⟩ (fun hHeld => ?_)
   generalize wc.drew = w68 at HO_569002 HO_569003 BK544 BK559 BK568 BK574 HB hHeld ⊢
   refine take_ (i := 0) (N := some 47) (v := _) (a' := _) #[Y, X, X, X, X] rfl rfl (by kernel_rfl) (fun _ _ _ h => h) (Or.inl ⟨by rfl, (by rintro w' ⟨s0, s1, s2, s3, s4, s5, s6, s7⟩; go_simp; with_reducible rfl)⟩) hHeld z10r ?_
   refine take_ (i := 1) (N := some 48) (v := _) (a' := _) #[Y, Y, X, X, X] rfl rfl (by kernel_rfl) (fun _ _ _ h => h) (Or.inl ⟨by rfl, (by rintro w' ⟨s0, s1, s2, s3, s4, s5, s6, s7⟩; go_simp; with_reducible rfl)⟩) hHeld z10r ?_
   refine one_ (i := 2) (N := some 49) #[Y, Y, Y, X, X] rfl rfl (by kernel_rfl) (by decide) (fun K hK => ?_)
   refine goes_ Try.func43 (by kernel_rfl) rfl #[.agg #[.string a0_0, .string a0_1, .slice A0_2 l0_2.length c0_2, .slice A0_3 l0_3.length c0_3]] (by rfl) rfl rfl z10c ?_
   with_reducible refine (laws_toTable.calls kj14 a0_0 a0_1 _ _ l0_2 _ _ l0_3 t576 t577 t578 t581 _ ?side1 ?side2 ?side3 ?side4 A60.out).mono ?_
   (case side1 => exact z10i)
   (case side2 => exact HC0_2.out)
   (case side3 => exact z10j)
   (case side4 => exact HC0_3.out)
   rintro e w69 ⟨v579, v582, rfl, ho0, ho1, hb⟩
   refine ⟨_, rfl, ?_⟩
   have n0_ := A_ (Kd.R_elder' z10p (Kd.R_base ho0) hb)
   have n1_ := A_ (Kd.R_elder' z10q (Kd.R_base ho1) hb)
   have n2_ := A_ (Kd.R_lower (Kd.R_new' ho0 (Kd.R_lt z10p)) (below_size z10a))
   have n3_ := A_ (Kd.R_lower (Kd.R_new' ho1 (Kd.R_lt z10q)) (below_size z10a))
   have n4_ := A_ (blk_below (g := gb544) (o := .cells #[.string a0_0, .string a0_1, .slice A0_2 l0_2.length c0_2, .slice A0_3 l0_3.length c0_3] 63 (0, 0)) z10b hb)
   have n5_ := A_ (blk_below (g := gb559) (o := .cells #[.string t554, .string t555, .int .i64 t556, .bool t557] 31 (0, 0)) z10g hb)
   have n6_ := A_ (blk_below (g := gb568) (o := .cells #[.string t560, .string t561, .slice Ao33 t562.length co33, .slice Ao34 t565.length co34] 57 (0, 0)) z10k hb)
   have n7_ := A_ (blk_below (g := gb574) (o := .cells #[.string t569, .string t570, .int .i64 t571, .bool t572] 31 (0, 0)) (by (with_reducible repeat (first | refine blk_drewN ?_ _ | refine blk_drew ?_ | refine blk_alloc ?_ _)); exact BK574.out) hb)
   have n8_ := A_ (below_step z10a hb)
   clear HO_569002
   clear HO_569003
   clear BK544
   clear BK559
   clear BK568
   clear BK574
   clear HB
   have HO_569002 := n0_
   have HO_569003 := n1_
   have HO580 := n2_
   have HO583 := n3_
   have BK544 := n4_
   have BK559 := n5_
   have BK568 := n6_
   have BK574 := n7_
   have HB := n8_
   clear n0_ n1_ n2_ n3_ n4_ n5_ n6_ n7_ n8_
   (try clear ho1)
   obtain ⟨Ao70, co70, eo70⟩ := Kd.R_slice HO580.out
   (first | subst eo70 | (injection eo70 with f1_ f2_ f3_; have f4_ := f1_.symm; have f5_ := f3_.symm; clear f1_ f2_ f3_; subst f4_; subst f5_))
   obtain ⟨Ao71, co71, eo71⟩ := Kd.R_slice HO583.out
   (first | subst eo71 | (injection eo71 with f1_ f2_ f3_; have f4_ := f1_.symm; have f5_ := f3_.symm; clear f1_ f2_ f3_; subst f4_; subst f5_))
   refine hK.out _ _ ⟨(blk_cell BK568.out 0).trans rfl, (blk_cell BK568.out 1).trans rfl, (blk_cell BK568.out 2).trans rfl, (blk_cell BK568.out 3).trans rfl, (blk_cell BK544.out 0).trans rfl, (blk_cell BK544.out 1).trans rfl, (blk_cell BK544.out 2).trans rfl, (blk_cell BK544.out 3).trans rfl⟩ (fun hHeld => ?_)
   clear hK K
   refine norm_ (nz_ 49) ?_
   refine one_ (i := 3) (N := some 50) #[Y, Y, Y, Y, X] rfl rfl (by kernel_rfl) (by decide) (fun K hK => ?_)
   refine goes_ Try.func38 (by kernel_rfl) rfl #[.agg #[.string t560, .string t561, .slice Ao33 t562.length co33, .slice Ao34 t565.length co34], .agg #[.string t576, .string t577, .slice Ao70 t578.length co70, .slice Ao71 t581.length co71]] (by rfl) rfl rfl z10c ?_
   with_reducible refine (laws_eqTable.calls kj14 t560 t561 _ _ t562 _ _ t565 t576 t577 _ _ t578 _ _ t581 false _ ?side1 ?side2 ?side3 ?side4 ?side5 ?side6 ?side7 ?side8 A61.out).mono ?_
   (case side1 => exact (by repeat (first | exact (Kd.R_reads' HO_569002.out).2.2 | (with_reducible refine Kd.C_alloc ?_ _) | (with_reducible refine Kd.C_drewN ?_ _) | (with_reducible refine Kd.C_drew ?_))))
   (case side2 => exact (Kd.R_reads' HO_569002.out).2.1)
   (case side3 => exact (by repeat (first | exact (Kd.R_reads' HO_569003.out).2.2 | (with_reducible refine Kd.C_alloc ?_ _) | (with_reducible refine Kd.C_drewN ?_ _) | (with_reducible refine Kd.C_drew ?_))))
   (case side4 => exact (Kd.R_reads' HO_569003.out).2.1)
   (case side5 => exact (by repeat (first | exact (Kd.R_reads' HO580.out).2.2 | (with_reducible refine Kd.C_alloc ?_ _) | (with_reducible refine Kd.C_drewN ?_ _) | (with_reducible refine Kd.C_drew ?_))))
   (case side6 => exact (Kd.R_reads' HO580.out).2.1)
   (case side7 => exact (by repeat (first | exact (Kd.R_reads' HO583.out).2.2 | (with_reducible refine Kd.C_alloc ?_ _) | (with_reducible refine Kd.C_drewN ?_ _) | (with_reducible refine Kd.C_drew ?_))))
   (case side8 => exact (Kd.R_reads' HO583.out).2.1)
   rintro e w72 ⟨rfl, hb⟩
   refine ⟨_, rfl, ?_⟩
   replace HO_569002 := A_ (Kd.R_below z10p hb)
   replace HO_569003 := A_ (Kd.R_below z10q hb)
   replace HO580 := A_ (Kd.R_below (by (with_reducible repeat (first | apply Kd.R_alloc | apply Kd.R_drewN | apply Kd.R_drew)); exact HO580.out) hb)
   replace HO583 := A_ (Kd.R_below (by (with_reducible repeat (first | apply Kd.R_alloc | apply Kd.R_drewN | apply Kd.R_drew)); exact HO583.out) hb)
   replace BK544 := A_ (blk_below (g := gb544) (o := .cells #[.string a0_0, .string a0_1, .slice A0_2 l0_2.length c0_2, .slice A0_3 l0_3.length c0_3] 63 (0, 0)) z10b hb)
   replace BK559 := A_ (blk_below (g := gb559) (o := .cells #[.string t554, .string t555, .int .i64 t556, .bool t557] 31 (0, 0)) z10g hb)
   replace BK568 := A_ (blk_below (g := gb568) (o := .cells #[.string t560, .string t561, .slice Ao33 t562.length co33, .slice Ao34 t565.length co34] 57 (0, 0)) z10k hb)
   replace BK574 := A_ (blk_below (g := gb574) (o := .cells #[.string t569, .string t570, .int .i64 t571, .bool t572] 31 (0, 0)) (by (with_reducible repeat (first | refine blk_drewN ?_ _ | refine blk_drew ?_ | refine blk_alloc ?_ _)); exact BK574.out) hb)
   replace HB := A_ (below_step z10a hb)
   refine hK.out _ _ ⟨(blk_cell BK568.out 0).trans rfl, (blk_cell BK568.out 1).trans rfl, (blk_cell BK568.out 2).trans rfl, (blk_cell BK568.out 3).trans rfl, (blk_cell BK544.out 0).trans rfl, (blk_cell BK544.out 1).trans rfl, (blk_cell BK544.out 2).trans rfl, (blk_cell BK544.out 3).trans rfl⟩ (fun hHeld => ?_)
   clear hK K
   refine norm_ (nz_ 50) ?_
   refine pure_ (i := 4) (N := some 51) (v := _) (a' := _) #[Y, Y, Y, Y, Y] rfl rfl (by kernel_rfl) (fun _ _ _ h => h) (Or.inl ⟨by rfl, (by intro w'; go_simp; with_reducible rfl)⟩) z10r ?_
   refine done_ (by kernel_rfl) ?_
   try go_wp2
   go_ret
   exact ⟨by first | rfl | (simp [errW_none, errW_some] <;> rfl) | (simp [*, errW_none, errW_some] <;> rfl), by repeat (first | (with_reducible first | exact HB.out | apply below_alloc | apply pw_below_drewN | apply below_drew1 | refine below_set ?_ GE544.out | refine below_set ?_ GE559.out | refine below_set ?_ GE568.out | refine below_set ?_ GE574.out) | exact HB.out)⟩
   
   }
   }
 }
 }
end Go.Proofs.Ytaiggfjkikfcbaa.PFnExactFound

-- by a program of this session (wip/print/run.py) for this claim
import Derived.Test.YtaiggfjkikfcbaaPFnPutx0
import Derived.Test.YtaiggfjkikfcbaaPFnPutx1
import Derived.Test.YtaiggfjkikfcbaaPFnPutx2
import Derived.Test.YtaiggfjkikfcbaaPFnPutx4
import Derived.Test.YtaiggfjkikfcbaaPFnPutx5
import Derived.Test.YtaiggfjkikfcbaaPFnPutx7
import Derived.Test.YtaiggfjkikfcbaaPFnPutx10
import Derived.Test.YtaiggfjkikfcbaaPFnPutx11
namespace Go.Proofs.Ytaiggfjkikfcbaa.PFnPut
open Go.RowKit Go.Proofs.YtaiggfjkikfcbaaW.PrintWords Go.Proofs.YtaiggfjkikfcbaaW.PrintLast Go.Proofs.YtaiggfjkikfcbaaW.PrintMore
attribute [local go_sem] max2_int min2_int max_two min_two max_three min_three max_four min_four   -- for this text's walks alone
set_option linter.unusedVariables false
set_option linter.unusedSimpArgs false

attribute [local go_sem high] eqA31
theorem z4a {p_ : Prop} (h_ : p_ := by first | exact Kd.own_blk (Kd.R_away HO_3.out (fun _ hk => hk.2.2.2.2.2)) | (rw [add_block]; exact Kd.own_blk (Kd.R_away HO_3.out (fun _ hk => hk.2.2.2.2.2))) | (show (Addr.add _ _).block ≠ _; rw [add_block]; exact Kd.own_blk (Kd.R_away HO_3.out (fun _ hk => hk.2.2.2.2.2))) | (dsimp only; exact Kd.own_blk (Kd.R_away HO_3.out (fun _ hk => hk.2.2.2.2.2)))) : p_ := h_
theorem z4b {p_ : Prop} (h_ : p_ := by simp only [Act.put, List.setIfInBounds_toArray, List.set_cons_zero, List.set_cons_succ, i64_w, i32_w]; rfl) : p_ := h_
theorem z4c {p_ : Prop} (h_ : p_ := by repeat (first | (with_reducible first | exact HB.out | apply below_alloc | apply pw_below_drewN | apply below_drew1 | refine below_set ?_ GE435.out | refine below_set ?_ GE450.out | refine below_set ?_ GE463.out | refine below_set ?_ GE469.out) | exact HB.out)) : p_ := h_
theorem z4d {p_ : Prop} (h_ : p_ := by (with_reducible repeat (first | refine blk_drewN ?_ _ | refine blk_drew ?_ | refine blk_alloc ?_ _)); exact BK435.out) : p_ := h_
theorem z4e {p_ : Prop} (h_ : p_ := by (with_reducible repeat (first | refine blk_drewN ?_ _ | refine blk_drew ?_ | refine blk_alloc ?_ _)); exact BK450.out) : p_ := h_
theorem z4f {p_ : Prop} (h_ : p_ := by (with_reducible repeat (first | refine blk_drewN ?_ _ | refine blk_drew ?_ | refine blk_alloc ?_ _)); exact BK463.out) : p_ := h_
theorem z4g {p_ : Prop} (h_ : p_ := by (with_reducible repeat (first | refine blk_drewN ?_ _ | refine blk_drew ?_ | refine blk_alloc ?_ _)); exact BK469.out) : p_ := h_
theorem z4h {p_ : Prop} (h_ : p_ := by repeat (first | (with_reducible first | exact HB.out | apply below_alloc | apply pw_below_drewN | apply below_drew1 | refine below_set ?_ GE435.out | refine below_set ?_ GE450.out | refine below_set ?_ GE463.out | refine below_set ?_ GE469.out | refine below_set ?_ GE478.out) | exact HB.out)) : p_ := h_
theorem z4i {p_ : Prop} (h_ : p_ := by (try simp only [List.map_toArray, List.map_cons, List.map_nil]); first | done | rfl | (simp only [List.length_drop, List.length_take]; rfl)) : p_ := h_
theorem z4j {p_ : Prop} (h_ : p_ := by (with_reducible repeat (first | apply Kd.R_alloc | apply Kd.R_drewN | apply Kd.R_drew)); exact HO_3.out) : p_ := h_
theorem z4k {p_ : Prop} (h_ : p_ := by (with_reducible repeat (first | apply Kd.R_alloc | apply Kd.R_drewN | apply Kd.R_drew)); exact HO_5.out) : p_ := h_
theorem z4l {p_ : Prop} (h_ : p_ := by (with_reducible repeat (first | apply Kd.R_alloc | apply Kd.R_drewN | apply Kd.R_drew)); exact (Kd.R_mono (Kd.R_far (p := ⟨gb469, 3, none⟩) (Kd.R_far (p := ⟨gb469, 2, none⟩) (Kd.R_far (p := ⟨gb469, 1, none⟩) (Kd.R_far (p := ⟨gb469, 0, none⟩) (Kd.R_mono HO_5.out (fun k_ hk => (⟨hk, hk.2⟩ : _ ∧ k_ ≠ gb469))) (fun _ hk => hk.2) (.string t464)) (fun _ hk => hk.2) (.string t465)) (fun _ hk => hk.2) (.int .i64 t466)) (fun _ hk => hk.2) (.bool t467)) (fun _ h_ => h_.1))) : p_ := h_
theorem z4m {p_ : Prop} (h_ : p_ := by repeat (first | (with_reducible first | exact HB.out | apply below_alloc | apply pw_below_drewN | apply below_drew1 | refine below_set ?_ GE435.out | refine below_set ?_ GE450.out) | exact HB.out)) : p_ := h_
theorem z4n {p_ : Prop} (h_ : p_ := by repeat (first | (with_reducible first | exact HB.out | apply below_alloc | apply pw_below_drewN | apply below_drew1 | refine below_set ?_ GE435.out) | exact HB.out)) : p_ := h_
theorem z4o {p_ : Prop} (h_ : p_ := by repeat (first | exact (Kd.R_reads' HO_5.out).2.2 | (with_reducible refine Kd.C_alloc ?_ _) | (with_reducible refine Kd.C_drewN ?_ _) | (with_reducible refine Kd.C_drew ?_))) : p_ := h_
theorem z4p {p_ : Prop} (h_ : p_ := by (with_reducible repeat (first | apply Kd.R_alloc | apply Kd.R_drewN | apply Kd.R_drew)); exact Kd.R_mono HO_3.out (fun _ hk => ⟨hk.1.1, ⟨hk.1.2.1, ⟨hk.1.2.2.1, ⟨hk.1.2.2.2.1, ⟨hk.1.2.2.2.2, hk.2⟩⟩⟩⟩⟩)) : p_ := h_
theorem z4q {p_ : Prop} (h_ : p_ := by (with_reducible repeat (first | apply Kd.R_alloc | apply Kd.R_drewN | apply Kd.R_drew)); exact Kd.R_mono HO_5.out (fun _ hk => ⟨hk.1.1, ⟨hk.1.2.1, ⟨hk.1.2.2.1, ⟨hk.1.2.2.2.1, ⟨hk.1.2.2.2.2, hk.2⟩⟩⟩⟩⟩)) : p_ := h_
theorem z4r {p_ : Prop} (h_ : p_ := by (with_reducible repeat (first | refine blk_drewN ?_ _ | refine blk_drew ?_ | refine blk_alloc ?_ _)); refine blk_put (cs := #[.string t431, .string t432, .int .i64 t433, .bool false]) ?_ 3 _ rfl; (with_reducible repeat (first | refine blk_drewN ?_ _ | refine blk_drew ?_ | refine blk_alloc ?_ _)); refine blk_put (cs := #[.string t431, .string t432, .int .i64 0, .bool false]) ?_ 2 _ rfl; (with_reducible repeat (first | refine blk_drewN ?_ _ | refine blk_drew ?_ | refine blk_alloc ?_ _)); refine blk_put (cs := #[.string t431, .string (⟨#[]⟩ : ByteArray), .int .i64 0, .bool false]) ?_ 1 _ rfl; (with_reducible repeat (first | refine blk_drewN ?_ _ | refine blk_drew ?_ | refine blk_alloc ?_ _)); refine blk_put (cs := #[.string (⟨#[]⟩ : ByteArray), .string (⟨#[]⟩ : ByteArray), .int .i64 0, .bool false]) ?_ 0 _ rfl; (with_reducible repeat (first | refine blk_drewN ?_ _ | refine blk_drew ?_ | refine blk_alloc ?_ _)); exact BK435.out) : p_ := h_
theorem z4s {p_ : Prop} (h_ : p_ := by (with_reducible repeat (first | refine blk_drewN ?_ _ | refine blk_drew ?_ | refine blk_alloc ?_ _)); refine blk_put (cs := #[.string t445, .string t446, .int .i64 t447, .bool false]) ?_ 3 _ rfl; (with_reducible repeat (first | refine blk_drewN ?_ _ | refine blk_drew ?_ | refine blk_alloc ?_ _)); refine blk_put (cs := #[.string t445, .string t446, .int .i64 0, .bool false]) ?_ 2 _ rfl; (with_reducible repeat (first | refine blk_drewN ?_ _ | refine blk_drew ?_ | refine blk_alloc ?_ _)); refine blk_put (cs := #[.string t445, .string (⟨#[]⟩ : ByteArray), .int .i64 0, .bool false]) ?_ 1 _ rfl; (with_reducible repeat (first | refine blk_drewN ?_ _ | refine blk_drew ?_ | refine blk_alloc ?_ _)); refine blk_put (cs := #[.string (⟨#[]⟩ : ByteArray), .string (⟨#[]⟩ : ByteArray), .int .i64 0, .bool false]) ?_ 0 _ rfl; (with_reducible repeat (first | refine blk_drewN ?_ _ | refine blk_drew ?_ | refine blk_alloc ?_ _)); exact BK450.out) : p_ := h_
theorem z4t {p_ : Prop} (h_ : p_ := by (with_reducible repeat (first | refine blk_drewN ?_ _ | refine blk_drew ?_ | refine blk_alloc ?_ _)); refine blk_put (cs := #[.string t464, .string t465, .int .i64 t466, .bool false]) ?_ 3 _ rfl; (with_reducible repeat (first | refine blk_drewN ?_ _ | refine blk_drew ?_ | refine blk_alloc ?_ _)); refine blk_put (cs := #[.string t464, .string t465, .int .i64 0, .bool false]) ?_ 2 _ rfl; (with_reducible repeat (first | refine blk_drewN ?_ _ | refine blk_drew ?_ | refine blk_alloc ?_ _)); refine blk_put (cs := #[.string t464, .string (⟨#[]⟩ : ByteArray), .int .i64 0, .bool false]) ?_ 1 _ rfl; (with_reducible repeat (first | refine blk_drewN ?_ _ | refine blk_drew ?_ | refine blk_alloc ?_ _)); refine blk_put (cs := #[.string (⟨#[]⟩ : ByteArray), .string (⟨#[]⟩ : ByteArray), .int .i64 0, .bool false]) ?_ 0 _ rfl; (with_reducible repeat (first | refine blk_drewN ?_ _ | refine blk_drew ?_ | refine blk_alloc ?_ _)); exact BK469.out) : p_ := h_
theorem z4u {p_ : Prop} (h_ : p_ := by (with_reducible repeat (first | apply Kd.R_alloc | apply Kd.R_drewN | apply Kd.R_drew)); exact (Kd.R_mono (Kd.R_far (p := ⟨gb435, 3, none⟩) (Kd.R_far (p := ⟨gb435, 2, none⟩) (Kd.R_far (p := ⟨gb435, 1, none⟩) (Kd.R_far (p := ⟨gb435, 0, none⟩) (Kd.R_mono HO430.out (fun k_ hk => (⟨hk, hk.2⟩ : _ ∧ k_ ≠ gb435))) (fun _ hk => hk.2) (.string t431)) (fun _ hk => hk.2) (.string t432)) (fun _ hk => hk.2) (.int .i64 t433)) (fun _ hk => hk.2) (.bool t434)) (fun _ h_ => h_.1))) : p_ := h_
theorem z4v {p_ : Prop} (h_ : p_ := by (with_reducible repeat (first | apply Kd.R_alloc | apply Kd.R_drewN | apply Kd.R_drew)); exact (Kd.R_mono (Kd.R_far (p := ⟨gb450, 3, none⟩) (Kd.R_far (p := ⟨gb450, 2, none⟩) (Kd.R_far (p := ⟨gb450, 1, none⟩) (Kd.R_far (p := ⟨gb450, 0, none⟩) (Kd.R_mono HO430.out (fun k_ hk => (⟨hk, hk.2⟩ : _ ∧ k_ ≠ gb450))) (fun _ hk => hk.2) (.string t445)) (fun _ hk => hk.2) (.string t446)) (fun _ hk => hk.2) (.int .i64 t447)) (fun _ hk => hk.2) (.bool t448)) (fun _ h_ => h_.1))) : p_ := h_
theorem z4w {p_ : Prop} (h_ : p_ := by (with_reducible repeat (first | refine blk_drewN ?_ _ | refine blk_drew ?_ | refine blk_alloc ?_ _)); exact BK478.out) : p_ := h_
theorem z4x {p_ : Prop} (h_ : p_ := by first | (with_reducible assumption) | assumption) : p_ := h_
theorem z4y {p_ : Prop} (h_ : p_ := by repeat (first | (with_reducible first | exact HB.out | apply below_alloc | apply pw_below_drewN | apply below_drew1 | refine below_set ?_ GE435.out | refine below_set ?_ GE450.out | refine below_set ?_ GE463.out) | exact HB.out)) : p_ := h_
theorem z4z {p_ : Prop} (h_ : p_ := by (with_reducible repeat (first | refine blk_drewN ?_ _ | refine blk_drew ?_ | refine blk_alloc ?_ _)); refine blk_far ?_ NB435_450.out _; (with_reducible repeat (first | refine blk_drewN ?_ _ | refine blk_drew ?_ | refine blk_alloc ?_ _)); refine blk_far ?_ NB435_450.out _; (with_reducible repeat (first | refine blk_drewN ?_ _ | refine blk_drew ?_ | refine blk_alloc ?_ _)); refine blk_far ?_ NB435_450.out _; (with_reducible repeat (first | refine blk_drewN ?_ _ | refine blk_drew ?_ | refine blk_alloc ?_ _)); refine blk_far ?_ NB435_450.out _; (with_reducible repeat (first | refine blk_drewN ?_ _ | refine blk_drew ?_ | refine blk_alloc ?_ _)); exact BK435.out) : p_ := h_
theorem z4a1 {p_ : Prop} (h_ : p_ := by (with_reducible repeat (first | refine blk_drewN ?_ _ | refine blk_drew ?_ | refine blk_alloc ?_ _)); refine blk_far ?_ NB435_469.out _; (with_reducible repeat (first | refine blk_drewN ?_ _ | refine blk_drew ?_ | refine blk_alloc ?_ _)); refine blk_far ?_ NB435_469.out _; (with_reducible repeat (first | refine blk_drewN ?_ _ | refine blk_drew ?_ | refine blk_alloc ?_ _)); refine blk_far ?_ NB435_469.out _; (with_reducible repeat (first | refine blk_drewN ?_ _ | refine blk_drew ?_ | refine blk_alloc ?_ _)); refine blk_far ?_ NB435_469.out _; (with_reducible repeat (first | refine blk_drewN ?_ _ | refine blk_drew ?_ | refine blk_alloc ?_ _)); exact BK435.out) : p_ := h_
theorem z4b1 {p_ : Prop} (h_ : p_ := by (with_reducible repeat (first | refine blk_drewN ?_ _ | refine blk_drew ?_ | refine blk_alloc ?_ _)); refine blk_far ?_ NB450_469.out _; (with_reducible repeat (first | refine blk_drewN ?_ _ | refine blk_drew ?_ | refine blk_alloc ?_ _)); refine blk_far ?_ NB450_469.out _; (with_reducible repeat (first | refine blk_drewN ?_ _ | refine blk_drew ?_ | refine blk_alloc ?_ _)); refine blk_far ?_ NB450_469.out _; (with_reducible repeat (first | refine blk_drewN ?_ _ | refine blk_drew ?_ | refine blk_alloc ?_ _)); refine blk_far ?_ NB450_469.out _; (with_reducible repeat (first | refine blk_drewN ?_ _ | refine blk_drew ?_ | refine blk_alloc ?_ _)); exact BK450.out) : p_ := h_
theorem z4c1 {p_ : Prop} (h_ : p_ := by (with_reducible repeat (first | refine blk_drewN ?_ _ | refine blk_drew ?_ | refine blk_alloc ?_ _)); refine blk_far ?_ NB463_469.out _; (with_reducible repeat (first | refine blk_drewN ?_ _ | refine blk_drew ?_ | refine blk_alloc ?_ _)); refine blk_far ?_ NB463_469.out _; (with_reducible repeat (first | refine blk_drewN ?_ _ | refine blk_drew ?_ | refine blk_alloc ?_ _)); refine blk_far ?_ NB463_469.out _; (with_reducible repeat (first | refine blk_drewN ?_ _ | refine blk_drew ?_ | refine blk_alloc ?_ _)); refine blk_far ?_ NB463_469.out _; (with_reducible repeat (first | refine blk_drewN ?_ _ | refine blk_drew ?_ | refine blk_alloc ?_ _)); exact BK463.out) : p_ := h_
theorem z4d1 {p_ : Prop} (h_ : p_ := by rintro w' ⟨s0, s1, s2, s3, s4, s5, s6, s7⟩; go_simp; with_reducible rfl) : p_ := h_
theorem z4e1 {p_ : Prop} (h_ : p_ := by (with_reducible repeat (first | apply Kd.R_alloc | apply Kd.R_drewN | apply Kd.R_drew)); exact HO430.out) : p_ := h_
theorem z4f1 {p_ : Prop} (h_ : p_ := by first | rfl | (simp; done) | (simp [*]; done)) : p_ := h_
theorem z4g1 {p_ : Prop} (h_ : p_ := by repeat (first | (with_reducible first | exact HB.out | apply below_alloc | apply pw_below_drewN | apply below_drew1) | exact HB.out)) : p_ := h_
theorem z4h1 {p_ : Prop} (h_ : p_ := by (with_reducible repeat (first | apply Kd.R_alloc | apply Kd.R_drewN | apply Kd.R_drew)); exact HO438.out) : p_ := h_
theorem z4i1 {p_ : Prop} (h_ : p_ := by simp only [putAll, Act.put, List.setIfInBounds_toArray, List.set_cons_zero, List.set_cons_succ]) : p_ := h_
theorem z4j1 {p_ : Prop} (h_ : p_ := by (with_reducible repeat (first | apply Kd.R_alloc | apply Kd.R_drewN | apply Kd.R_drew)); exact (Kd.R_mono (Kd.R_far (p := ⟨gb450, 3, none⟩) (Kd.R_far (p := ⟨gb450, 2, none⟩) (Kd.R_far (p := ⟨gb450, 1, none⟩) (Kd.R_far (p := ⟨gb450, 0, none⟩) (Kd.R_mono HO438.out (fun k_ hk => (⟨hk, hk.2⟩ : _ ∧ k_ ≠ gb450))) (fun _ hk => hk.2) (.string t445)) (fun _ hk => hk.2) (.string t446)) (fun _ hk => hk.2) (.int .i64 t447)) (fun _ hk => hk.2) (.bool t448)) (fun _ h_ => h_.1))) : p_ := h_
theorem z4k1 {p_ : Prop} (h_ : p_ := by (with_reducible repeat (first | apply Kd.R_alloc | apply Kd.R_drewN | apply Kd.R_drew)); exact (Kd.R_mono (Kd.R_far (p := ⟨gb450, 3, none⟩) (Kd.R_far (p := ⟨gb450, 2, none⟩) (Kd.R_far (p := ⟨gb450, 1, none⟩) (Kd.R_far (p := ⟨gb450, 0, none⟩) (Kd.R_mono HO444.out (fun k_ hk => (⟨hk, hk.2⟩ : _ ∧ k_ ≠ gb450))) (fun _ hk => hk.2) (.string t445)) (fun _ hk => hk.2) (.string t446)) (fun _ hk => hk.2) (.int .i64 t447)) (fun _ hk => hk.2) (.bool t448)) (fun _ h_ => h_.1))) : p_ := h_
theorem z4l1 {p_ : Prop} (h_ : p_ := by (with_reducible repeat (first | apply Kd.R_alloc | apply Kd.R_drewN | apply Kd.R_drew)); exact (Kd.R_mono (Kd.R_far (p := ⟨gb469, 3, none⟩) (Kd.R_far (p := ⟨gb469, 2, none⟩) (Kd.R_far (p := ⟨gb469, 1, none⟩) (Kd.R_far (p := ⟨gb469, 0, none⟩) (Kd.R_mono HO_3.out (fun k_ hk => (⟨hk, hk.2⟩ : _ ∧ k_ ≠ gb469))) (fun _ hk => hk.2) (.string t464)) (fun _ hk => hk.2) (.string t465)) (fun _ hk => hk.2) (.int .i64 t466)) (fun _ hk => hk.2) (.bool t467)) (fun _ h_ => h_.1))) : p_ := h_
mutual
def laws_FnPut.j0 : Nat → List (S31) → List (S31) → Bool → List (S31) → ByteArray → Int → Bool → Bool → ByteArray → ByteArray → Int → Bool → ByteArray → ByteArray → Int → Bool → Option (Bool)
 | 0, _, _, _, _, _, _, _, _, _, _, _, _, _, _, _, _ => none
 | k + 1, x3, x5, x6, x7, x8, x9, x11, x68, x436000, x436001, x436002, x436003, x451000, x451001, x451002, x451003 => if x68 = true then (some false) else ((spec_Seen.f k x7 x8 x9).bind fun bt458 => (if (x11 != bt458.2.2.2.2) = true then (laws_FnPut.j1 k x3 x5 x6 x8 x9 x11 true x436000 x436001 x436002 x436003 x451000 x451001 x451002 x451003) else (laws_FnPut.j1 k x3 x5 x6 x8 x9 x11 (!(x451000.toList == bt458.1.toList) || (!(x451001.toList == bt458.2.1.toList) || (!(x451002 == bt458.2.2.1) || (!(x451003 == bt458.2.2.2.1))))) x436000 x436001 x436002 x436003 x451000 x451001 x451002 x451003)))
def laws_FnPut.j1 : Nat → List (S31) → List (S31) → Bool → ByteArray → Int → Bool → Bool → ByteArray → ByteArray → Int → Bool → ByteArray → ByteArray → Int → Bool → Option (Bool)
 | 0, _, _, _, _, _, _, _, _, _, _, _, _, _, _, _ => none
 | k + 1, x3, x5, x6, x8, x9, x11, x83, x436000, x436001, x436002, x436003, x451000, x451001, x451002, x451003 => if x83 = true then (some false) else (if x11 = true then (if x451000.toList = x8.toList then (laws_FnPut.j2 k x3 x5 x6 (decide (x451002 > x9)) x436000 x436001 x436002 x436003) else (laws_FnPut.j2 k x3 x5 x6 true x436000 x436001 x436002 x436003)) else (laws_FnPut.j2 k x3 x5 x6 false x436000 x436001 x436002 x436003))
def laws_FnPut.j2 : Nat → List (S31) → List (S31) → Bool → Bool → ByteArray → ByteArray → Int → Bool → Option (Bool)
 | 0, _, _, _, _, _, _, _, _ => none
 | k + 1, x3, x5, x6, x96, x436000, x436001, x436002, x436003 => if x96 = true then (some false) else (if x6 = true then ((impl_Seen.f k x5 x436000 x436002).bind fun bt464 => (if bt464.2.2.2.2 = true then (if (!(bt464.1.toList == x436000.toList) || (!(bt464.2.1.toList == x436001.toList) || (!(bt464.2.2.1 == x436002) || (!(bt464.2.2.2.1 == x436003))))) = true then (laws_FnPut.j3 k x3 x5 true) else ((impl_EntriesOk.f k x5).bind fun t470 => (if t470 = true then (laws_FnPut.j3 k x3 x5 ((x5.length : Int) != (wrap64 ((x3.length : Int) + 1)))) else (laws_FnPut.j3 k x3 x5 true)))) else (laws_FnPut.j3 k x3 x5 true))) else (some ((x5.length : Int) == 0)))
def laws_FnPut.j3 : Nat → List (S31) → List (S31) → Bool → Option (Bool)
 | 0, _, _, _ => none
 | k + 1, x3, x5, x130 => if x130 = true then (some false) else (laws_FnPut.l0 k x3 x5 0)
def laws_FnPut.l0 : Nat → List (S31) → List (S31) → Int → Option (Bool)
 | 0, _, _, _ => none
 | k + 1, x3, x5, x18 => if x18 < (x3.length : Int) then (if 0 ≤ x18 then ((impl_Seen.f k x5 ((rd_T31 x3 x18).f0) ((rd_T31 x3 x18).f2)).bind fun bt473 => (if bt473.2.2.2.2 = true then (if (!(bt473.1.toList == (((rd_T31 x3 x18).f0).toList)) || (!(bt473.2.1.toList == (((rd_T31 x3 x18).f1).toList)) || (!(bt473.2.2.1 == ((rd_T31 x3 x18).f2)) || (!(bt473.2.2.2.1 == ((rd_T31 x3 x18).f3)))))) = true then (some false) else (laws_FnPut.l0 k x3 x5 (wrap64 (x18 + 1)))) else (some false))) else (none)) else (some true)
end
def laws_FnPut.f (k : Nat) (l0 : List Int) : Option (Bool) := (laws_big.f l0).bind fun t427 => (if t427 = true then (some true) else ((spec_DrawPut.f k l0).bind fun bt428 => ((impl_Put.f k bt428.1 bt428.2.1 bt428.2.2.1 bt428.2.2.2.1 bt428.2.2.2.2).bind fun bt436 => ((spec_DrawSeen.f k l0).bind fun bt440 => ((impl_Seen.f k bt440.1 bt440.2.1 bt440.2.2).bind fun bt445 => ((spec_Put.f k bt428.1 bt428.2.1 bt428.2.2.1 bt428.2.2.2.1 bt428.2.2.2.2).bind fun bt451 => (if (bt436.2 != bt451.2) = true then (laws_FnPut.j0 k bt428.1 bt436.1 bt436.2 bt440.1 bt440.2.1 bt440.2.2 bt445.2.2.2.2 true bt428.2.1 bt428.2.2.1 bt428.2.2.2.1 bt428.2.2.2.2 bt445.1 bt445.2.1 bt445.2.2.1 bt445.2.2.2.1) else ((laws_likeEntries.f k bt436.1 bt451.1).bind fun t455 => (if t455 = true then ((impl_EntriesOk.f k bt428.1).bind fun t456 => ((spec_EntriesOk.f k bt428.1).bind fun t457 => (laws_FnPut.j0 k bt428.1 bt436.1 bt436.2 bt440.1 bt440.2.1 bt440.2.2 bt445.2.2.2.2 (t456 != t457) bt428.2.1 bt428.2.2.1 bt428.2.2.2.1 bt428.2.2.2.2 bt445.1 bt445.2.1 bt445.2.2.1 bt445.2.2.2.1))) else (laws_FnPut.j0 k bt428.1 bt436.1 bt436.2 bt440.1 bt440.2.1 bt440.2.2 bt445.2.2.2.2 true bt428.2.1 bt428.2.2.1 bt428.2.2.2.1 bt428.2.2.2.2 bt445.1 bt445.2.1 bt445.2.2.1 bt445.2.2.2.1))))))))))
def laws_FnPut.T23 : Bool × List (List Nat × List Nat) := (true, [([], []), ([], []), ([], []), ([1, 2], [1, 2]), ([3], [3]), ([4], [4]), ([], []), ([], []), ([6, 7], [6, 7]), ([8], [8]), ([9], [9]), ([0, 5, 10], [0, 5, 10]), ([11], [11]), ([12], [12]), ([12], [12]), ([], []), ([15, 13, 11, 0, 1, 2, 3, 4, 5, 6, 7, 8, 9, 10, 11, 12, 13, 15], [13, 15]), ([14, 16, 0, 1, 2, 3, 4, 5, 6, 7, 8, 9, 10, 11, 12, 13, 14, 15, 16], [14])])
def laws_FnPut.B23 : List Nat := [0, 0, 0, 6, 14, 30, 0, 0, 192, 448, 960, 2047, 4095, 8191, 8191, 0, 49151, 131071]
theorem laws_FnPut.tab23 : rtab .any (opsOf Try.f4 23) = laws_FnPut.T23 := by kernel_rfl
theorem laws_FnPut.bits23 : waitsOk laws_FnPut.T23.2 laws_FnPut.B23 = true := by kernel_rfl
def laws_FnPut.T24 : Bool × List (List Nat × List Nat) := (true, [([], []), ([0], [0]), ([1], [1]), ([2], [2]), ([2], [2]), ([2], [2]), ([4, 5, 2], [2, 4, 5]), ([6, 2], [2, 6]), ([3, 7, 2], [2, 3, 7]), ([2, 8], [2, 8])])
def laws_FnPut.B24 : List Nat := [0, 1, 3, 7, 7, 7, 55, 119, 255, 511]
theorem laws_FnPut.tab24 : rtab .any (opsOf Try.f4 24) = laws_FnPut.T24 := by kernel_rfl
theorem laws_FnPut.bits24 : waitsOk laws_FnPut.T24.2 laws_FnPut.B24 = true := by kernel_rfl
set_option maxHeartbeats 8000000 in
set_option maxRecDepth 100000 in
theorem laws_FnPut.calls (k : Nat) (A0 : Option Addr) (c0 : Nat) (l0 : List Int) (r : Bool) (w : World) (hr0 : Kd.C (Kd.int .u8) w A0 l0.length l0) (hc0 : l0.length ≤ c0) (h : laws_FnPut.f k l0 = some r) :
  Calls Try.prog 4 #[.slice A0 l0.length c0] w fun e w' => e = .returned (.bool r) ∧ Below w.heap.size w w' := by
 have hu31 := Try.underlying31
 have HR0 := Aside0.mk hr0
 have HC0 := Aside0.mk hc0
 clear hr0 hc0
 have HB := Aside0.mk (Below.refl w.heap.size w)
 have H : ((laws_big.f l0).bind fun t427 => (if t427 = true then (some true) else ((spec_DrawPut.f k l0).bind fun bt428 => ((impl_Put.f k bt428.1 bt428.2.1 bt428.2.2.1 bt428.2.2.2.1 bt428.2.2.2.2).bind fun bt436 => ((spec_DrawSeen.f k l0).bind fun bt440 => ((impl_Seen.f k bt440.1 bt440.2.1 bt440.2.2).bind fun bt445 => ((spec_Put.f k bt428.1 bt428.2.1 bt428.2.2.1 bt428.2.2.2.1 bt428.2.2.2.2).bind fun bt451 => (if (bt436.2 != bt451.2) = true then (laws_FnPut.j0 k bt428.1 bt436.1 bt436.2 bt440.1 bt440.2.1 bt440.2.2 bt445.2.2.2.2 true bt428.2.1 bt428.2.2.1 bt428.2.2.2.1 bt428.2.2.2.2 bt445.1 bt445.2.1 bt445.2.2.1 bt445.2.2.2.1) else ((laws_likeEntries.f k bt436.1 bt451.1).bind fun t455 => (if t455 = true then ((impl_EntriesOk.f k bt428.1).bind fun t456 => ((spec_EntriesOk.f k bt428.1).bind fun t457 => (laws_FnPut.j0 k bt428.1 bt436.1 bt436.2 bt440.1 bt440.2.1 bt440.2.2 bt445.2.2.2.2 (t456 != t457) bt428.2.1 bt428.2.2.1 bt428.2.2.2.1 bt428.2.2.2.2 bt445.1 bt445.2.1 bt445.2.2.1 bt445.2.2.2.1))) else (laws_FnPut.j0 k bt428.1 bt436.1 bt436.2 bt440.1 bt440.2.1 bt440.2.2 bt445.2.2.2.2 true bt428.2.1 bt428.2.2.1 bt428.2.2.2.1 bt428.2.2.2.2 bt445.1 bt445.2.1 bt445.2.2.1 bt445.2.2.2.1))))))))))) = some r := h
 clear h
 replace H := Option.bind_eq_some_iff.mp H
 obtain ⟨t427, A20, H⟩ := H
 replace H : (if t427 = true then (some true) else ((spec_DrawPut.f k l0).bind fun bt428 => ((impl_Put.f k bt428.1 bt428.2.1 bt428.2.2.1 bt428.2.2.2.1 bt428.2.2.2.2).bind fun bt436 => ((spec_DrawSeen.f k l0).bind fun bt440 => ((impl_Seen.f k bt440.1 bt440.2.1 bt440.2.2).bind fun bt445 => ((spec_Put.f k bt428.1 bt428.2.1 bt428.2.2.1 bt428.2.2.2.1 bt428.2.2.2.2).bind fun bt451 => (if (bt436.2 != bt451.2) = true then (laws_FnPut.j0 k bt428.1 bt436.1 bt436.2 bt440.1 bt440.2.1 bt440.2.2 bt445.2.2.2.2 true bt428.2.1 bt428.2.2.1 bt428.2.2.2.1 bt428.2.2.2.2 bt445.1 bt445.2.1 bt445.2.2.1 bt445.2.2.2.1) else ((laws_likeEntries.f k bt436.1 bt451.1).bind fun t455 => (if t455 = true then ((impl_EntriesOk.f k bt428.1).bind fun t456 => ((spec_EntriesOk.f k bt428.1).bind fun t457 => (laws_FnPut.j0 k bt428.1 bt436.1 bt436.2 bt440.1 bt440.2.1 bt440.2.2 bt445.2.2.2.2 (t456 != t457) bt428.2.1 bt428.2.2.1 bt428.2.2.2.1 bt428.2.2.2.2 bt445.1 bt445.2.1 bt445.2.2.1 bt445.2.2.2.1))) else (laws_FnPut.j0 k bt428.1 bt436.1 bt436.2 bt440.1 bt440.2.1 bt440.2.2 bt445.2.2.2.2 true bt428.2.1 bt428.2.2.1 bt428.2.2.2.1 bt428.2.2.2.2 bt445.1 bt445.2.1 bt445.2.2.1 bt445.2.2.2.1)))))))))) = some r := H
 have A2 := Aside0.mk A20
 clear A20
 by_cases c3 : t427 = true
 {
 subst c3
 have H1 : (some true) = some r := by rw [if_pos rfl] at H; exact H
 clear H
 have H := H1
 clear H1
 obtain rfl := Option.some.inj H
 go_enter Try.func4, Try.ntmps4
 go_wp2_with (first | ((with_reducible refine gate_callee (f := 21) rfl ?_); refine goesL_ (some 22) rfl rfl Try.func21 (by kernel_rfl) rfl #[.slice A0 l0.length c0] rfl z4i ?_; (with_reducible refine (laws_big.calls _ _ l0 true _ ?side1 ?side2 A2.out).mono ?_); (case side1 => exact (by repeat (first | exact HR0.out | (with_reducible refine Kd.C_alloc ?_ _) | (with_reducible refine Kd.C_drewN ?_ _) | (with_reducible refine Kd.C_drew ?_)))); (case side2 => exact HC0.out); rintro e w' ⟨rfl, ⟨nd, rfl⟩⟩; refine ⟨_, rfl, ?_⟩))
 go_ret
 exact ⟨by first | rfl | (simp [errW_none, errW_some] <;> rfl) | (simp [*, errW_none, errW_some] <;> rfl), by repeat (first | (with_reducible first | exact HB.out | apply below_alloc | apply pw_below_drewN | apply below_drew1) | exact HB.out)⟩
 }
 {
 replace c3 := Bool.eq_false_iff.mpr c3
 subst c3
 have H1 : ((spec_DrawPut.f k l0).bind fun bt428 => ((impl_Put.f k bt428.1 bt428.2.1 bt428.2.2.1 bt428.2.2.2.1 bt428.2.2.2.2).bind fun bt436 => ((spec_DrawSeen.f k l0).bind fun bt440 => ((impl_Seen.f k bt440.1 bt440.2.1 bt440.2.2).bind fun bt445 => ((spec_Put.f k bt428.1 bt428.2.1 bt428.2.2.1 bt428.2.2.2.1 bt428.2.2.2.2).bind fun bt451 => (if (bt436.2 != bt451.2) = true then (laws_FnPut.j0 k bt428.1 bt436.1 bt436.2 bt440.1 bt440.2.1 bt440.2.2 bt445.2.2.2.2 true bt428.2.1 bt428.2.2.1 bt428.2.2.2.1 bt428.2.2.2.2 bt445.1 bt445.2.1 bt445.2.2.1 bt445.2.2.2.1) else ((laws_likeEntries.f k bt436.1 bt451.1).bind fun t455 => (if t455 = true then ((impl_EntriesOk.f k bt428.1).bind fun t456 => ((spec_EntriesOk.f k bt428.1).bind fun t457 => (laws_FnPut.j0 k bt428.1 bt436.1 bt436.2 bt440.1 bt440.2.1 bt440.2.2 bt445.2.2.2.2 (t456 != t457) bt428.2.1 bt428.2.2.1 bt428.2.2.2.1 bt428.2.2.2.2 bt445.1 bt445.2.1 bt445.2.2.1 bt445.2.2.2.1))) else (laws_FnPut.j0 k bt428.1 bt436.1 bt436.2 bt440.1 bt440.2.1 bt440.2.2 bt445.2.2.2.2 true bt428.2.1 bt428.2.2.1 bt428.2.2.2.1 bt428.2.2.2.2 bt445.1 bt445.2.1 bt445.2.2.1 bt445.2.2.2.1))))))))) = some r := by rw [if_neg (show ¬ (false = true) by decide)] at H; exact H
 clear H
 have H := H1
 clear H1
 replace H := Option.bind_eq_some_iff.mp H
 obtain ⟨⟨t428, t431, t432, t433, t434⟩, A40, H⟩ := H
 replace H : ((impl_Put.f k t428 t431 t432 t433 t434).bind fun bt436 => ((spec_DrawSeen.f k l0).bind fun bt440 => ((impl_Seen.f k bt440.1 bt440.2.1 bt440.2.2).bind fun bt445 => ((spec_Put.f k t428 t431 t432 t433 t434).bind fun bt451 => (if (bt436.2 != bt451.2) = true then (laws_FnPut.j0 k t428 bt436.1 bt436.2 bt440.1 bt440.2.1 bt440.2.2 bt445.2.2.2.2 true t431 t432 t433 t434 bt445.1 bt445.2.1 bt445.2.2.1 bt445.2.2.2.1) else ((laws_likeEntries.f k bt436.1 bt451.1).bind fun t455 => (if t455 = true then ((impl_EntriesOk.f k t428).bind fun t456 => ((spec_EntriesOk.f k t428).bind fun t457 => (laws_FnPut.j0 k t428 bt436.1 bt436.2 bt440.1 bt440.2.1 bt440.2.2 bt445.2.2.2.2 (t456 != t457) t431 t432 t433 t434 bt445.1 bt445.2.1 bt445.2.2.1 bt445.2.2.2.1))) else (laws_FnPut.j0 k t428 bt436.1 bt436.2 bt440.1 bt440.2.1 bt440.2.2 bt445.2.2.2.2 true t431 t432 t433 t434 bt445.1 bt445.2.1 bt445.2.2.1 bt445.2.2.2.1)))))))) = some r := H
 have A4 := Aside0.mk A40
 clear A40
 replace H := Option.bind_eq_some_iff.mp H
 obtain ⟨⟨t436, t439⟩, A50, H⟩ := H
 replace H : ((spec_DrawSeen.f k l0).bind fun bt440 => ((impl_Seen.f k bt440.1 bt440.2.1 bt440.2.2).bind fun bt445 => ((spec_Put.f k t428 t431 t432 t433 t434).bind fun bt451 => (if (t439 != bt451.2) = true then (laws_FnPut.j0 k t428 t436 t439 bt440.1 bt440.2.1 bt440.2.2 bt445.2.2.2.2 true t431 t432 t433 t434 bt445.1 bt445.2.1 bt445.2.2.1 bt445.2.2.2.1) else ((laws_likeEntries.f k t436 bt451.1).bind fun t455 => (if t455 = true then ((impl_EntriesOk.f k t428).bind fun t456 => ((spec_EntriesOk.f k t428).bind fun t457 => (laws_FnPut.j0 k t428 t436 t439 bt440.1 bt440.2.1 bt440.2.2 bt445.2.2.2.2 (t456 != t457) t431 t432 t433 t434 bt445.1 bt445.2.1 bt445.2.2.1 bt445.2.2.2.1))) else (laws_FnPut.j0 k t428 t436 t439 bt440.1 bt440.2.1 bt440.2.2 bt445.2.2.2.2 true t431 t432 t433 t434 bt445.1 bt445.2.1 bt445.2.2.1 bt445.2.2.2.1))))))) = some r := H
 have A5 := Aside0.mk A50
 clear A50
 replace H := Option.bind_eq_some_iff.mp H
 obtain ⟨⟨t440, t441, t442⟩, A60, H⟩ := H
 replace H : ((impl_Seen.f k t440 t441 t442).bind fun bt445 => ((spec_Put.f k t428 t431 t432 t433 t434).bind fun bt451 => (if (t439 != bt451.2) = true then (laws_FnPut.j0 k t428 t436 t439 t440 t441 t442 bt445.2.2.2.2 true t431 t432 t433 t434 bt445.1 bt445.2.1 bt445.2.2.1 bt445.2.2.2.1) else ((laws_likeEntries.f k t436 bt451.1).bind fun t455 => (if t455 = true then ((impl_EntriesOk.f k t428).bind fun t456 => ((spec_EntriesOk.f k t428).bind fun t457 => (laws_FnPut.j0 k t428 t436 t439 t440 t441 t442 bt445.2.2.2.2 (t456 != t457) t431 t432 t433 t434 bt445.1 bt445.2.1 bt445.2.2.1 bt445.2.2.2.1))) else (laws_FnPut.j0 k t428 t436 t439 t440 t441 t442 bt445.2.2.2.2 true t431 t432 t433 t434 bt445.1 bt445.2.1 bt445.2.2.1 bt445.2.2.2.1)))))) = some r := H
 have A6 := Aside0.mk A60
 clear A60
 replace H := Option.bind_eq_some_iff.mp H
 obtain ⟨⟨t445, t446, t447, t448, t449⟩, A70, H⟩ := H
 replace H : ((spec_Put.f k t428 t431 t432 t433 t434).bind fun bt451 => (if (t439 != bt451.2) = true then (laws_FnPut.j0 k t428 t436 t439 t440 t441 t442 t449 true t431 t432 t433 t434 t445 t446 t447 t448) else ((laws_likeEntries.f k t436 bt451.1).bind fun t455 => (if t455 = true then ((impl_EntriesOk.f k t428).bind fun t456 => ((spec_EntriesOk.f k t428).bind fun t457 => (laws_FnPut.j0 k t428 t436 t439 t440 t441 t442 t449 (t456 != t457) t431 t432 t433 t434 t445 t446 t447 t448))) else (laws_FnPut.j0 k t428 t436 t439 t440 t441 t442 t449 true t431 t432 t433 t434 t445 t446 t447 t448))))) = some r := H
 have A7 := Aside0.mk A70
 clear A70
 replace H := Option.bind_eq_some_iff.mp H
 obtain ⟨⟨t451, t454⟩, A80, H⟩ := H
 replace H : (if (t439 != t454) = true then (laws_FnPut.j0 k t428 t436 t439 t440 t441 t442 t449 true t431 t432 t433 t434 t445 t446 t447 t448) else ((laws_likeEntries.f k t436 t451).bind fun t455 => (if t455 = true then ((impl_EntriesOk.f k t428).bind fun t456 => ((spec_EntriesOk.f k t428).bind fun t457 => (laws_FnPut.j0 k t428 t436 t439 t440 t441 t442 t449 (t456 != t457) t431 t432 t433 t434 t445 t446 t447 t448))) else (laws_FnPut.j0 k t428 t436 t439 t440 t441 t442 t449 true t431 t432 t433 t434 t445 t446 t447 t448)))) = some r := H
 have A8 := Aside0.mk A80
 clear A80
 have HC9 := Aside0.mk H
 clear H
 go_enter Try.func4, Try.ntmps4
 go_upto_region 8 with (first | ((with_reducible refine gate_callee (f := 21) rfl ?_); refine goesL_ (some 22) rfl rfl Try.func21 (by kernel_rfl) rfl #[.slice A0 l0.length c0] rfl z4i ?_; (with_reducible refine (laws_big.calls _ _ l0 false _ ?side1 ?side2 A2.out).mono ?_); (case side1 => exact (by repeat (first | exact HR0.out | (with_reducible refine Kd.C_alloc ?_ _) | (with_reducible refine Kd.C_drewN ?_ _) | (with_reducible refine Kd.C_drew ?_)))); (case side2 => exact HC0.out); rintro e w' ⟨rfl, ⟨nd, rfl⟩⟩; refine ⟨_, rfl, ?_⟩) | ((with_reducible refine gate_callee (f := 22) rfl ?_); refine goesL_ (some 25) rfl rfl Try.func22 (by kernel_rfl) rfl #[.slice A0 l0.length c0] rfl z4i ?_; (with_reducible refine (spec_DrawPut.calls k _ _ l0 t428 t431 t432 t433 t434 _ ?side1 ?side2 A4.out).mono ?_); (case side1 => exact (by repeat (first | exact HR0.out | (with_reducible refine Kd.C_alloc ?_ _) | (with_reducible refine Kd.C_drewN ?_ _) | (with_reducible refine Kd.C_drew ?_)))); (case side2 => exact HC0.out); rintro e w10 ⟨v429, rfl, ho0, hb⟩; refine ⟨_, rfl, ?_⟩; have n0_ := Aside0.mk (Kd.R_lower ho0 (below_size z4g1)); have n1_ := Aside0.mk (below_step z4g1 hb); clear HB; have HO430 := n0_; have HB := n1_; clear n0_ n1_; (try clear hb); (try clear hb2); (try clear hk); (try clear hi); (try clear ho0)) | ((with_reducible refine gate_dst (N := 4) rfl ?_); (try (refine gate_guard (by rfl) ?_; dsimp only)); refine box_event ?hg (N := 4) ?hd (cs := #[.string (⟨#[]⟩ : ByteArray), .string (⟨#[]⟩ : ByteArray), .int .i64 0, .bool false]) (t := 31) ?hr ?_; (case hd => rfl); (case hg => rfl); (case hr => first | (go_simp; done) | (go_simp; rfl)); intro gb435 hg w11 hbox hb; have n0_ := Aside0.mk (Kd.R_below (Kd.R_elderB z4e1 gb435 (Nat.le_of_eq hg.symm)) hb); have n1_ := Aside0.mk (below_step z4g1 hb); have n2_ := Aside0.mk (hbox); have n3_ := Aside0.mk ((by rw [hg]; exact (below_size z4g1) : w.heap.size ≤ gb435)); have n4_ := Aside0.mk ((by rw [hg]; exact (below_size z4g1) : w.heap.size ≤ gb435)); clear HO430; clear HB; have HO430 := n0_; have HB := n1_; have BK435 := n2_; have GW435 := n3_; have GE435 := n4_; clear n0_ n1_ n2_ n3_ n4_; clear hb hbox hg; have hcz12_0 : w11.cell? ⟨gb435, 0, none⟩ = some (.string (⟨#[]⟩ : ByteArray)) := (blk_cell BK435.out 0).trans rfl; have hcz12_1 : w11.cell? ⟨gb435, 1, none⟩ = some (.string (⟨#[]⟩ : ByteArray)) := (blk_cell BK435.out 1).trans rfl; have hcz12_2 : w11.cell? ⟨gb435, 2, none⟩ = some (.int .i64 0) := (blk_cell BK435.out 2).trans rfl; have hcz12_3 : w11.cell? ⟨gb435, 3, none⟩ = some (.bool false) := (blk_cell BK435.out 3).trans rfl; have hfz12_0 := blk_frozen BK435.out 0; have hfz12_1 := blk_frozen BK435.out 1; have hfz12_2 := blk_frozen BK435.out 2; have hfz12_3 := blk_frozen BK435.out 3; obtain ⟨Ao13, co13, eo13⟩ := Kd.R_slice HO430.out; subst eo13) | ((with_reducible refine gate_callee (f := 17) rfl ?_); refine goesL_ (some 31) rfl rfl Try.func17 (by kernel_rfl) rfl #[.slice Ao13 t428.length co13, .agg #[.string t431, .string t432, .int .i64 t433, .bool t434]] rfl z4i ?_; (with_reducible refine (impl_Put.calls k _ _ t428 t431 t432 t433 t434 t436 t439 _ ?side1 ?side2 A5.out).mono ?_); (case side1 => refine (Kd.R_reads' (e := 31) (base := w.heap.size) (ok := fun k_ => (True ∧ k_ ≠ gb435)) (n := t428.length) (c := co13) ?_).2.2; exact z4u); (case side2 => exact (Kd.R_reads' HO430.out).2.1); rintro e w14 ⟨v437, rfl, ho0, hb⟩; refine ⟨_, rfl, ?_⟩; have n0_ := Aside0.mk (Kd.R_elder' z4u (Kd.R_base ho0) hb); have n1_ := Aside0.mk (Kd.R_lower (Kd.R_newB (Kd.R_new' ho0 (Kd.R_lt z4u)) (g := gb435) (o := .cells #[.string t431, .string t432, .int .i64 t433, .bool t434] 31 (0, 0)) z4r) (below_size z4n)); have n2_ := Aside0.mk (blk_below (g := gb435) (o := .cells #[.string t431, .string t432, .int .i64 t433, .bool t434] 31 (0, 0)) z4r hb); have n3_ := Aside0.mk (below_step z4n hb); clear HO430; clear BK435; clear HB; have HO430 := n0_; have HO438 := n1_; have BK435 := n2_; have HB := n3_; clear n0_ n1_ n2_ n3_; (try clear hb); (try clear hb2); (try clear hk); (try clear hi); (try clear ho0)) | ((with_reducible refine gate_callee (f := 23) rfl ?_); refine goesL_ (some 36) rfl rfl Try.func23 (by kernel_rfl) rfl #[.slice A0 l0.length c0] rfl z4i ?_; (with_reducible refine (spec_DrawSeen.calls k _ _ l0 t440 t441 t442 _ ?side1 ?side2 A6.out).mono ?_); (case side1 => exact (by repeat (first | exact (Kd.C_below HR0.out HB.out) | (with_reducible refine Kd.C_alloc ?_ _) | (with_reducible refine Kd.C_drewN ?_ _) | (with_reducible refine Kd.C_drew ?_)))); (case side2 => exact HC0.out); rintro e w15 ⟨v443, rfl, ho0, hb⟩; refine ⟨_, rfl, ?_⟩; have n0_ := Aside0.mk (Kd.R_elder' z4e1 (Kd.R_base ho0) hb); have n1_ := Aside0.mk (Kd.R_elder' z4h1 (Kd.R_base ho0) hb); have n2_ := Aside0.mk (Kd.R_lower (Kd.R_newB (Kd.R_new' (Kd.R_new' ho0 (Kd.R_lt z4e1)) (Kd.R_lt z4h1)) (g := gb435) (o := .cells #[.string t431, .string t432, .int .i64 t433, .bool t434] 31 (0, 0)) z4d) (below_size z4n)); have n3_ := Aside0.mk (blk_below (g := gb435) (o := .cells #[.string t431, .string t432, .int .i64 t433, .bool t434] 31 (0, 0)) z4d hb); have n4_ := Aside0.mk (below_step z4n hb); clear HO430; clear HO438; clear BK435; clear HB; have HO430 := n0_; have HO438 := n1_; have HO444 := n2_; have BK435 := n3_; have HB := n4_; clear n0_ n1_ n2_ n3_ n4_; (try clear hb); (try clear hb2); (try clear hk); (try clear hi); (try clear ho0); obtain ⟨Ao16, co16, eo16⟩ := Kd.R_slice HO444.out; subst eo16) | ((with_reducible refine gate_callee (f := 24) rfl ?_); refine goesL_ (some 44) rfl rfl Try.func24 (by kernel_rfl) rfl #[.slice Ao16 t440.length co16, .string t441, .int .i64 t442] rfl z4i ?_; (with_reducible refine (impl_Seen.calls k _ _ t440 t441 t442 t445 t446 t447 t448 t449 _ ?side1 ?side2 A7.out).mono ?_); (case side1 => exact (by repeat (first | exact (Kd.R_reads' HO444.out).2.2 | (with_reducible refine Kd.C_alloc ?_ _) | (with_reducible refine Kd.C_drewN ?_ _) | (with_reducible refine Kd.C_drew ?_)))); (case side2 => exact (Kd.R_reads' HO444.out).2.1); rintro e w17 ⟨rfl, hb⟩; refine ⟨_, rfl, ?_⟩; have n0_ := Aside0.mk (Kd.R_below z4e1 hb); have n1_ := Aside0.mk (Kd.R_below z4h1 hb); have n2_ := Aside0.mk (Kd.R_below (by (with_reducible repeat (first | apply Kd.R_alloc | apply Kd.R_drewN | apply Kd.R_drew)); exact HO444.out) hb); have n3_ := Aside0.mk (blk_below (g := gb435) (o := .cells #[.string t431, .string t432, .int .i64 t433, .bool t434] 31 (0, 0)) z4d hb); have n4_ := Aside0.mk (below_step z4n hb); clear HO430; clear HO438; clear HO444; clear BK435; clear HB; have HO430 := n0_; have HO438 := n1_; have HO444 := n2_; have BK435 := n3_; have HB := n4_; clear n0_ n1_ n2_ n3_ n4_; (try clear hb); (try clear hb2); (try clear hk); (try clear hi)) | ((with_reducible refine gate_dst (N := 10) rfl ?_); (try (refine gate_guard (by rfl) ?_; dsimp only)); refine box_event ?hg (N := 10) ?hd (cs := #[.string (⟨#[]⟩ : ByteArray), .string (⟨#[]⟩ : ByteArray), .int .i64 0, .bool false]) (t := 31) ?hr ?_; (case hd => rfl); (case hg => rfl); (case hr => first | (go_simp; done) | (go_simp; rfl)); intro gb450 hg w18 hbox hb; have n0_ := Aside0.mk (Kd.R_below (Kd.R_elderB z4e1 gb450 (Nat.le_of_eq hg.symm)) hb); have n1_ := Aside0.mk (Kd.R_below (Kd.R_elderB z4h1 gb450 (Nat.le_of_eq hg.symm)) hb); have n2_ := Aside0.mk (Kd.R_below (Kd.R_elderB (by (with_reducible repeat (first | apply Kd.R_alloc | apply Kd.R_drewN | apply Kd.R_drew)); exact HO444.out) gb450 (Nat.le_of_eq hg.symm)) hb); have n3_ := Aside0.mk (blk_below (g := gb435) (o := .cells #[.string t431, .string t432, .int .i64 t433, .bool t434] 31 (0, 0)) z4d hb); have n4_ := Aside0.mk (below_step z4n hb); have n5_ := Aside0.mk (hbox); have n6_ := Aside0.mk ((by rw [hg]; exact (below_size z4n) : w.heap.size ≤ gb450)); have n7_ := Aside0.mk ((by rw [hg]; exact (below_size z4n) : w.heap.size ≤ gb450)); have n8_ := Aside0.mk ((by rw [hg]; exact Nat.ne_of_lt (blk_lt (g := gb435) (o := .cells #[.string t431, .string t432, .int .i64 t433, .bool t434] 31 (0, 0)) z4d) : gb435 ≠ gb450)); have n9_ := Aside0.mk ((by rw [hg]; exact Nat.ne_of_gt (blk_lt (g := gb435) (o := .cells #[.string t431, .string t432, .int .i64 t433, .bool t434] 31 (0, 0)) z4d) : gb450 ≠ gb435)); clear HO430; clear HO438; clear HO444; clear BK435; clear HB; have HO430 := n0_; have HO438 := n1_; have HO444 := n2_; have BK435 := n3_; have HB := n4_; have BK450 := n5_; have GW450 := n6_; have GE450 := n7_; have NB435_450 := n8_; have NB450_435 := n9_; clear n0_ n1_ n2_ n3_ n4_ n5_ n6_ n7_ n8_ n9_; clear hb hbox hg; have hnb19 := NB450_435.out; have hnc19 := NB435_450.out; have hcz20_0 : w18.cell? ⟨gb450, 0, none⟩ = some (.string (⟨#[]⟩ : ByteArray)) := (blk_cell BK450.out 0).trans rfl; have hcz20_1 : w18.cell? ⟨gb450, 1, none⟩ = some (.string (⟨#[]⟩ : ByteArray)) := (blk_cell BK450.out 1).trans rfl; have hcz20_2 : w18.cell? ⟨gb450, 2, none⟩ = some (.int .i64 0) := (blk_cell BK450.out 2).trans rfl; have hcz20_3 : w18.cell? ⟨gb450, 3, none⟩ = some (.bool false) := (blk_cell BK450.out 3).trans rfl; have hfz20_0 := blk_frozen BK450.out 0; have hfz20_1 := blk_frozen BK450.out 1; have hfz20_2 := blk_frozen BK450.out 2; have hfz20_3 := blk_frozen BK450.out 3; have hcz21_0 : w18.cell? ⟨gb435, 0, none⟩ = some (.string t431) := (blk_cell BK435.out 0).trans rfl; have hcz21_1 : w18.cell? ⟨gb435, 1, none⟩ = some (.string t432) := (blk_cell BK435.out 1).trans rfl; have hcz21_2 : w18.cell? ⟨gb435, 2, none⟩ = some (.int .i64 t433) := (blk_cell BK435.out 2).trans rfl; have hcz21_3 : w18.cell? ⟨gb435, 3, none⟩ = some (.bool t434) := (blk_cell BK435.out 3).trans rfl; have hfz21_0 := blk_frozen BK435.out 0; have hfz21_1 := blk_frozen BK435.out 1; have hfz21_2 := blk_frozen BK435.out 2; have hfz21_3 := blk_frozen BK435.out 3) | ((with_reducible refine gate_callee (f := 14) rfl ?_); refine goesL_ (some 50) rfl rfl Try.func14 (by kernel_rfl) rfl #[.slice Ao13 t428.length co13, .agg #[.string t431, .string t432, .int .i64 t433, .bool t434]] rfl z4i ?_; (with_reducible refine (spec_Put.calls k _ _ t428 t431 t432 t433 t434 t451 t454 _ ?side1 ?side2 A8.out).mono ?_); (case side1 => refine (Kd.R_reads' (e := 31) (base := w.heap.size) (ok := fun k_ => ((((True ∧ k_ ≠ gb435) ∧ some k_ ≠ (v437 : Value).ownBlock) ∧ some k_ ≠ (.slice Ao16 t440.length co16 : Value).ownBlock) ∧ k_ ≠ gb450)) (n := t428.length) (c := co13) ?_).2.2; exact z4v); (case side2 => exact (Kd.R_reads' HO430.out).2.1); rintro e w22 ⟨v452, rfl, ho0, hb⟩; refine ⟨_, rfl, ?_⟩; have n0_ := Aside0.mk (Kd.R_elder' z4v (Kd.R_base ho0) hb); have n1_ := Aside0.mk (Kd.R_elder' z4j1 (Kd.R_base ho0) hb); have n2_ := Aside0.mk (Kd.R_elder' z4k1 (Kd.R_base ho0) hb); have n3_ := Aside0.mk (Kd.R_lower (Kd.R_newB (Kd.R_newB (Kd.R_new' (Kd.R_new' (Kd.R_new' ho0 (Kd.R_lt z4v)) (Kd.R_lt z4j1)) (Kd.R_lt z4k1)) (g := gb435) (o := .cells #[.string t431, .string t432, .int .i64 t433, .bool t434] 31 (0, 0)) z4z) (g := gb450) (o := .cells #[.string t445, .string t446, .int .i64 t447, .bool t448] 31 (0, 0)) z4s) (below_size z4m)); have n4_ := Aside0.mk (blk_below (g := gb435) (o := .cells #[.string t431, .string t432, .int .i64 t433, .bool t434] 31 (0, 0)) z4z hb); have n5_ := Aside0.mk (blk_below (g := gb450) (o := .cells #[.string t445, .string t446, .int .i64 t447, .bool t448] 31 (0, 0)) z4s hb); have n6_ := Aside0.mk (below_step z4m hb); clear HO430; clear HO438; clear HO444; clear BK435; clear BK450; clear HB; have HO430 := n0_; have HO438 := n1_; have HO444 := n2_; have HO453 := n3_; have BK435 := n4_; have BK450 := n5_; have HB := n6_; clear n0_ n1_ n2_ n3_ n4_ n5_ n6_; (try clear hb); (try clear hb2); (try clear hk); (try clear hi); (try clear ho0)))
 (try simp only [Act.put, List.setIfInBounds_toArray, List.set_cons_zero, List.set_cons_succ])
 go_cut [68] (fun v68 wc => ∃ (kq : Nat) (x68_8 : Bool), v68 = .bool x68_8 ∧ Aside0 (laws_FnPut.j0 kq t428 t436 t439 t440 t441 t442 t449 x68_8 t431 t432 t433 t434 t445 t446 t447 t448 = some r) ∧ Aside0 (kq ≤ k) ∧ Aside0 (Kd.R k31 31 wc w.heap.size (fun k_ => some k_ ≠ (v437 : Value).ownBlock ∧ some k_ ≠ ((.slice Ao16 t440.length co16) : Value).ownBlock ∧ k_ ≠ gb435 ∧ k_ ≠ gb450) (.slice Ao13 t428.length co13) t428) ∧ Aside0 (Kd.R k31 31 wc w.heap.size (fun k_ => some k_ ≠ ((.slice Ao13 t428.length co13) : Value).ownBlock ∧ some k_ ≠ ((.slice Ao16 t440.length co16) : Value).ownBlock ∧ k_ ≠ gb435 ∧ k_ ≠ gb450) v437 t436) ∧ Aside0 (Kd.R k31 31 wc w.heap.size (fun k_ => some k_ ≠ ((.slice Ao13 t428.length co13) : Value).ownBlock ∧ some k_ ≠ (v437 : Value).ownBlock ∧ k_ ≠ gb435 ∧ k_ ≠ gb450) (.slice Ao16 t440.length co16) t440) ∧ Aside0 (wc.heap[gb435]? = some (.cells #[.string t431, .string t432, .int .i64 t433, .bool t434] 31 (0, 0))) ∧ Aside0 (wc.heap[gb450]? = some (.cells #[.string t445, .string t446, .int .i64 t447, .bool t448] 31 (0, 0))) ∧ Aside0 (Below w.heap.size w wc))
 case first =>
  have H := HC9.out
  clear HC9
  by_cases c23 : (t439 != t454) = true
  {
  rw [if_pos c23] at H
  have c23b0 : (t439 != t454) = true := c23
  (try (have c23b1 : decide (t439 = t454) = false := by simpa using c23))
  (try (have c23b2 : (t439 == t454) = false := by simpa using c23))
  (try (have c23b3 : ¬ (t439 = t454) := by simpa using c23))
  clear c23
  (first | rw [c23b0] | (simp only [i64_w, i32_w]; rw [c23b0]) | skip)
  have H' := Aside0.mk H
  clear H
  go_wp2
  go_meet
  case rel => exact ⟨_, (true), z4f1, H', ⟨by first | omega | exact Nat.le_refl _⟩, ⟨by (with_reducible repeat (first | apply Kd.R_alloc | apply Kd.R_drewN | apply Kd.R_drew)); exact Kd.R_mono HO430.out (fun _ hk => ⟨hk.1.1.1.2, ⟨hk.1.1.2, ⟨hk.1.1.1.1.2, hk.1.2⟩⟩⟩)⟩, ⟨by (with_reducible repeat (first | apply Kd.R_alloc | apply Kd.R_drewN | apply Kd.R_drew)); exact Kd.R_mono HO438.out (fun _ hk => ⟨hk.1.1.1.1.2, ⟨hk.1.1.2, ⟨hk.1.1.1.2, hk.1.2⟩⟩⟩)⟩, ⟨by (with_reducible repeat (first | apply Kd.R_alloc | apply Kd.R_drewN | apply Kd.R_drew)); exact Kd.R_mono HO444.out (fun _ hk => ⟨hk.1.1.1.1.2, ⟨hk.1.1.1.2, ⟨hk.1.1.2, hk.1.2⟩⟩⟩)⟩, ⟨by (with_reducible repeat (first | refine blk_drewN ?_ _ | refine blk_drew ?_ | refine blk_alloc ?_ _)); exact BK435.out⟩, ⟨by (with_reducible repeat (first | refine blk_drewN ?_ _ | refine blk_drew ?_ | refine blk_alloc ?_ _)); exact BK450.out⟩, ⟨by repeat (first | (with_reducible first | exact HB.out | apply below_alloc | apply pw_below_drewN | apply below_drew1 | refine below_set ?_ GE435.out | refine below_set ?_ GE450.out) | exact HB.out)⟩⟩
  }
  {
  rw [if_neg c23] at H
  have c23b0 : (t439 != t454) = false := by simpa using c23
  (try (have c23b1 : decide (t439 = t454) = true := by simpa using c23))
  (try (have c23b2 : (t439 == t454) = true := by simpa using c23))
  clear c23
  (first | rw [c23b0] | (simp only [i64_w, i32_w]; rw [c23b0]) | skip)
  replace H := Option.bind_eq_some_iff.mp H
  obtain ⟨t455, A240, H⟩ := H
  replace H : (if t455 = true then ((impl_EntriesOk.f k t428).bind fun t456 => ((spec_EntriesOk.f k t428).bind fun t457 => (laws_FnPut.j0 k t428 t436 t439 t440 t441 t442 t449 (t456 != t457) t431 t432 t433 t434 t445 t446 t447 t448))) else (laws_FnPut.j0 k t428 t436 t439 t440 t441 t442 t449 true t431 t432 t433 t434 t445 t446 t447 t448)) = some r := H
  have A24 := Aside0.mk A240
  clear A240
  by_cases c25 : t455 = true
  {
  subst c25
  have H1 : ((impl_EntriesOk.f k t428).bind fun t456 => ((spec_EntriesOk.f k t428).bind fun t457 => (laws_FnPut.j0 k t428 t436 t439 t440 t441 t442 t449 (t456 != t457) t431 t432 t433 t434 t445 t446 t447 t448))) = some r := by rw [if_pos rfl] at H; exact H
  clear H
  have H := H1
  clear H1
  replace H := Option.bind_eq_some_iff.mp H
  obtain ⟨t456, A260, H⟩ := H
  replace H : ((spec_EntriesOk.f k t428).bind fun t457 => (laws_FnPut.j0 k t428 t436 t439 t440 t441 t442 t449 (t456 != t457) t431 t432 t433 t434 t445 t446 t447 t448)) = some r := H
  have A26 := Aside0.mk A260
  clear A260
  replace H := Option.bind_eq_some_iff.mp H
  obtain ⟨t457, A270, H⟩ := H
  replace H : (laws_FnPut.j0 k t428 t436 t439 t440 t441 t442 t449 (t456 != t457) t431 t432 t433 t434 t445 t446 t447 t448) = some r := H
  have A27 := Aside0.mk A270
  clear A270
  have H' := Aside0.mk H
  clear H
  obtain ⟨Ao28, co28, eo28⟩ := Kd.R_slice HO438.out
  subst eo28
  obtain ⟨Ao29, co29, eo29⟩ := Kd.R_slice HO453.out
  subst eo29
  go_wp2_with (first | (go_at_call 25; (with_reducible refine (laws_likeEntries.calls k _ _ t436 _ _ t451 true _ ?side1 ?side2 ?side3 ?side4 A24.out).mono ?_); (case side1 => exact (by repeat (first | exact (Kd.R_reads' HO438.out).2.2 | (with_reducible refine Kd.C_alloc ?_ _) | (with_reducible refine Kd.C_drewN ?_ _) | (with_reducible refine Kd.C_drew ?_)))); (case side2 => exact (Kd.R_reads' HO438.out).2.1); (case side3 => exact (by repeat (first | exact (Kd.R_reads' HO453.out).2.2 | (with_reducible refine Kd.C_alloc ?_ _) | (with_reducible refine Kd.C_drewN ?_ _) | (with_reducible refine Kd.C_drew ?_)))); (case side4 => exact (Kd.R_reads' HO453.out).2.1); rintro e w' ⟨rfl, ⟨nd, rfl⟩⟩) | (go_at_call 26; (with_reducible refine (impl_EntriesOk.calls k _ _ t428 t456 _ ?side1 ?side2 A26.out).mono ?_); (case side1 => exact (by repeat (first | exact (Kd.R_reads' HO430.out).2.2 | (with_reducible refine Kd.C_alloc ?_ _) | (with_reducible refine Kd.C_drewN ?_ _) | (with_reducible refine Kd.C_drew ?_)))); (case side2 => exact (Kd.R_reads' HO430.out).2.1); rintro e w30 ⟨rfl, hb⟩; have n0_ := Aside0.mk (Kd.R_below z4e1 hb); have n1_ := Aside0.mk (Kd.R_below z4h1 hb); have n2_ := Aside0.mk (Kd.R_below (by (with_reducible repeat (first | apply Kd.R_alloc | apply Kd.R_drewN | apply Kd.R_drew)); exact HO444.out) hb); have n3_ := Aside0.mk (Kd.R_below (by (with_reducible repeat (first | apply Kd.R_alloc | apply Kd.R_drewN | apply Kd.R_drew)); exact HO453.out) hb); have n4_ := Aside0.mk (blk_below (g := gb435) (o := .cells #[.string t431, .string t432, .int .i64 t433, .bool t434] 31 (0, 0)) z4d hb); have n5_ := Aside0.mk (blk_below (g := gb450) (o := .cells #[.string t445, .string t446, .int .i64 t447, .bool t448] 31 (0, 0)) z4e hb); have n6_ := Aside0.mk (below_step z4m hb); clear HO430; clear HO438; clear HO444; clear HO453; clear BK435; clear BK450; clear HB; have HO430 := n0_; have HO438 := n1_; have HO444 := n2_; have HO453 := n3_; have BK435 := n4_; have BK450 := n5_; have HB := n6_; clear n0_ n1_ n2_ n3_ n4_ n5_ n6_; (try clear hb); (try clear hb2); (try clear hk); (try clear hi)) | (go_at_call 27; (with_reducible refine (spec_EntriesOk.calls k _ _ t428 t457 _ ?side1 ?side2 A27.out).mono ?_); (case side1 => exact (by repeat (first | exact (Kd.R_reads' HO430.out).2.2 | (with_reducible refine Kd.C_alloc ?_ _) | (with_reducible refine Kd.C_drewN ?_ _) | (with_reducible refine Kd.C_drew ?_)))); (case side2 => exact (Kd.R_reads' HO430.out).2.1); rintro e w31 ⟨rfl, hb⟩; have n0_ := Aside0.mk (Kd.R_below z4e1 hb); have n1_ := Aside0.mk (Kd.R_below z4h1 hb); have n2_ := Aside0.mk (Kd.R_below (by (with_reducible repeat (first | apply Kd.R_alloc | apply Kd.R_drewN | apply Kd.R_drew)); exact HO444.out) hb); have n3_ := Aside0.mk (Kd.R_below (by (with_reducible repeat (first | apply Kd.R_alloc | apply Kd.R_drewN | apply Kd.R_drew)); exact HO453.out) hb); have n4_ := Aside0.mk (blk_below (g := gb435) (o := .cells #[.string t431, .string t432, .int .i64 t433, .bool t434] 31 (0, 0)) z4d hb); have n5_ := Aside0.mk (blk_below (g := gb450) (o := .cells #[.string t445, .string t446, .int .i64 t447, .bool t448] 31 (0, 0)) z4e hb); have n6_ := Aside0.mk (below_step z4m hb); clear HO430; clear HO438; clear HO444; clear HO453; clear BK435; clear BK450; clear HB; have HO430 := n0_; have HO438 := n1_; have HO444 := n2_; have HO453 := n3_; have BK435 := n4_; have BK450 := n5_; have HB := n6_; clear n0_ n1_ n2_ n3_ n4_ n5_ n6_; (try clear hb); (try clear hb2); (try clear hk); (try clear hi)))
  go_meet
  case rel => exact ⟨_, ((t456 != t457)), z4f1, H', ⟨by first | omega | exact Nat.le_refl _⟩, ⟨by (with_reducible repeat (first | apply Kd.R_alloc | apply Kd.R_drewN | apply Kd.R_drew)); exact Kd.R_mono HO430.out (fun _ hk => ⟨hk.1.1.1.2, ⟨hk.1.1.2, ⟨hk.1.1.1.1.2, hk.1.2⟩⟩⟩)⟩, ⟨by (with_reducible repeat (first | apply Kd.R_alloc | apply Kd.R_drewN | apply Kd.R_drew)); exact Kd.R_mono HO438.out (fun _ hk => ⟨hk.1.1.1.1.2, ⟨hk.1.1.2, ⟨hk.1.1.1.2, hk.1.2⟩⟩⟩)⟩, ⟨by (with_reducible repeat (first | apply Kd.R_alloc | apply Kd.R_drewN | apply Kd.R_drew)); exact Kd.R_mono HO444.out (fun _ hk => ⟨hk.1.1.1.1.2, ⟨hk.1.1.1.2, ⟨hk.1.1.2, hk.1.2⟩⟩⟩)⟩, ⟨by (with_reducible repeat (first | refine blk_drewN ?_ _ | refine blk_drew ?_ | refine blk_alloc ?_ _)); exact BK435.out⟩, ⟨by (with_reducible repeat (first | refine blk_drewN ?_ _ | refine blk_drew ?_ | refine blk_alloc ?_ _)); exact BK450.out⟩, ⟨by repeat (first | (with_reducible first | exact HB.out | apply below_alloc | apply pw_below_drewN | apply below_drew1 | refine below_set ?_ GE435.out | refine below_set ?_ GE450.out) | exact HB.out)⟩⟩
  }
  {
  replace c25 := Bool.eq_false_iff.mpr c25
  subst c25
  have H1 : (laws_FnPut.j0 k t428 t436 t439 t440 t441 t442 t449 true t431 t432 t433 t434 t445 t446 t447 t448) = some r := by rw [if_neg (show ¬ (false = true) by decide)] at H; exact H
  clear H
  have H := H1
  clear H1
  have H' := Aside0.mk H
  clear H
  obtain ⟨Ao32, co32, eo32⟩ := Kd.R_slice HO438.out
  subst eo32
  obtain ⟨Ao33, co33, eo33⟩ := Kd.R_slice HO453.out
  subst eo33
  go_wp2_with (first | (go_at_call 25; (with_reducible refine (laws_likeEntries.calls k _ _ t436 _ _ t451 false _ ?side1 ?side2 ?side3 ?side4 A24.out).mono ?_); (case side1 => exact (by repeat (first | exact (Kd.R_reads' HO438.out).2.2 | (with_reducible refine Kd.C_alloc ?_ _) | (with_reducible refine Kd.C_drewN ?_ _) | (with_reducible refine Kd.C_drew ?_)))); (case side2 => exact (Kd.R_reads' HO438.out).2.1); (case side3 => exact (by repeat (first | exact (Kd.R_reads' HO453.out).2.2 | (with_reducible refine Kd.C_alloc ?_ _) | (with_reducible refine Kd.C_drewN ?_ _) | (with_reducible refine Kd.C_drew ?_)))); (case side4 => exact (Kd.R_reads' HO453.out).2.1); rintro e w' ⟨rfl, ⟨nd, rfl⟩⟩))
  go_meet
  case rel => exact ⟨_, (true), z4f1, H', ⟨by first | omega | exact Nat.le_refl _⟩, ⟨by (with_reducible repeat (first | apply Kd.R_alloc | apply Kd.R_drewN | apply Kd.R_drew)); exact Kd.R_mono HO430.out (fun _ hk => ⟨hk.1.1.1.2, ⟨hk.1.1.2, ⟨hk.1.1.1.1.2, hk.1.2⟩⟩⟩)⟩, ⟨by (with_reducible repeat (first | apply Kd.R_alloc | apply Kd.R_drewN | apply Kd.R_drew)); exact Kd.R_mono HO438.out (fun _ hk => ⟨hk.1.1.1.1.2, ⟨hk.1.1.2, ⟨hk.1.1.1.2, hk.1.2⟩⟩⟩)⟩, ⟨by (with_reducible repeat (first | apply Kd.R_alloc | apply Kd.R_drewN | apply Kd.R_drew)); exact Kd.R_mono HO444.out (fun _ hk => ⟨hk.1.1.1.1.2, ⟨hk.1.1.1.2, ⟨hk.1.1.2, hk.1.2⟩⟩⟩)⟩, ⟨by (with_reducible repeat (first | refine blk_drewN ?_ _ | refine blk_drew ?_ | refine blk_alloc ?_ _)); exact BK435.out⟩, ⟨by (with_reducible repeat (first | refine blk_drewN ?_ _ | refine blk_drew ?_ | refine blk_alloc ?_ _)); exact BK450.out⟩, ⟨by repeat (first | (with_reducible first | exact HB.out | apply below_alloc | apply pw_below_drewN | apply below_drew1 | refine below_set ?_ GE435.out | refine below_set ?_ GE450.out) | exact HB.out)⟩⟩
  }
  }
 case rest =>
  clear HC9
  try clear c1
  try clear c2
  try clear p2
  try clear c3
  try clear c4
  try clear c14
  try clear c17
  try clear c19
  try clear c21
  try clear c22
  try clear c23
  try clear c23b0
  try clear c23b1
  try clear c23b2
  try clear c24
  try clear c25
  try clear hcz12_0
  try clear hcz12_1
  try clear hcz12_2
  try clear hcz12_3
  try clear hcz20_0
  try clear hcz20_1
  try clear hcz20_2
  try clear hcz20_3
  try clear hcz21_0
  try clear hcz21_1
  try clear hcz21_2
  try clear hcz21_3
  try clear hfz12_0
  try clear hfz12_1
  try clear hfz12_2
  try clear hfz12_3
  try clear hfz20_0
  try clear hfz20_1
  try clear hfz20_2
  try clear hfz20_3
  try clear hfz21_0
  try clear hfz21_1
  try clear hfz21_2
  try clear hfz21_3
  obtain ⟨kq, x68_8, rfl, HA, HJ8, HO_3, HO_5, HO_7, BK435, BK450, HB⟩ := hcut
  cases kq with
  | zero => exact absurd HA.out (by simp [laws_FnPut.j0])
  | succ kj8 =>
   have H := HA.out
   clear HA
   simp only [laws_FnPut.j0] at H
   by_cases c34 : x68_8 = true
   {
   subst c34
   have H1 : (some false) = some r := by rw [if_pos rfl] at H; exact H
   clear H
   have H := H1
   clear H1
   obtain rfl := Option.some.inj H
   go_wp2
   go_ret
   exact ⟨by first | rfl | (simp [errW_none, errW_some] <;> rfl) | (simp [*, errW_none, errW_some] <;> rfl), by repeat (first | (with_reducible first | exact HB.out | apply below_alloc | apply pw_below_drewN | apply below_drew1 | refine below_set ?_ GE435.out | refine below_set ?_ GE450.out) | exact HB.out)⟩
   }
   {
   replace c34 := Bool.eq_false_iff.mpr c34
   subst c34
   have H1 : ((spec_Seen.f kj8 t440 t441 t442).bind fun bt458 => (if (t449 != bt458.2.2.2.2) = true then (laws_FnPut.j1 kj8 t428 t436 t439 t441 t442 t449 true t431 t432 t433 t434 t445 t446 t447 t448) else (laws_FnPut.j1 kj8 t428 t436 t439 t441 t442 t449 (!(t445.toList == bt458.1.toList) || (!(t446.toList == bt458.2.1.toList) || (!(t447 == bt458.2.2.1) || (!(t448 == bt458.2.2.2.1))))) t431 t432 t433 t434 t445 t446 t447 t448))) = some r := by rw [if_neg (show ¬ (false = true) by decide)] at H; exact H
   clear H
   have H := H1
   clear H1
   replace H := Option.bind_eq_some_iff.mp H
   obtain ⟨⟨t458, t459, t460, t461, t462⟩, A350, H⟩ := H
   replace H : (if (t449 != t462) = true then (laws_FnPut.j1 kj8 t428 t436 t439 t441 t442 t449 true t431 t432 t433 t434 t445 t446 t447 t448) else (laws_FnPut.j1 kj8 t428 t436 t439 t441 t442 t449 (!(t445.toList == t458.toList) || (!(t446.toList == t459.toList) || (!(t447 == t460) || (!(t448 == t461))))) t431 t432 t433 t434 t445 t446 t447 t448)) = some r := H
   have A35 := Aside0.mk A350
   clear A350
   have HC36 := Aside0.mk H
   clear H
   go_upto_region 11 with (first | ((with_reducible refine gate_callee (f := 28) rfl ?_); refine goesL_ (some 73) rfl rfl Try.func28 (by kernel_rfl) rfl #[.slice Ao16 t440.length co16, .string t441, .int .i64 t442] rfl z4i ?_; (with_reducible refine (spec_Seen.calls kj8 _ _ t440 t441 t442 t458 t459 t460 t461 t462 _ ?side1 ?side2 A35.out).mono ?_); (case side1 => exact (by repeat (first | exact (Kd.R_reads' HO_7.out).2.2 | (with_reducible refine Kd.C_alloc ?_ _) | (with_reducible refine Kd.C_drewN ?_ _) | (with_reducible refine Kd.C_drew ?_)))); (case side2 => exact (Kd.R_reads' HO_7.out).2.1); rintro e w37 ⟨rfl, hb⟩; refine ⟨_, rfl, ?_⟩; have n0_ := Aside0.mk (Kd.R_below z4j hb); have n1_ := Aside0.mk (Kd.R_below z4k hb); have n2_ := Aside0.mk (Kd.R_below (by (with_reducible repeat (first | apply Kd.R_alloc | apply Kd.R_drewN | apply Kd.R_drew)); exact HO_7.out) hb); have n3_ := Aside0.mk (blk_below (g := gb435) (o := .cells #[.string t431, .string t432, .int .i64 t433, .bool t434] 31 (0, 0)) z4d hb); have n4_ := Aside0.mk (blk_below (g := gb450) (o := .cells #[.string t445, .string t446, .int .i64 t447, .bool t448] 31 (0, 0)) z4e hb); have n5_ := Aside0.mk (below_step z4m hb); clear HO_3; clear HO_5; clear HO_7; clear BK435; clear BK450; clear HB; have HO_3 := n0_; have HO_5 := n1_; have HO_7 := n2_; have BK435 := n3_; have BK450 := n4_; have HB := n5_; clear n0_ n1_ n2_ n3_ n4_ n5_; (try clear hb); (try clear hb2); (try clear hk); (try clear hi)) | ((with_reducible refine gate_dst (N := 14) rfl ?_); (try (refine gate_guard (by rfl) ?_; dsimp only)); refine box_event ?hg (N := 14) ?hd (cs := #[.string (⟨#[]⟩ : ByteArray), .string (⟨#[]⟩ : ByteArray), .int .i64 0, .bool false]) (t := 31) ?hr ?_; (case hd => rfl); (case hg => rfl); (case hr => first | (go_simp; done) | (go_simp; rfl)); intro gb463 hg w38 hbox hb; have n0_ := Aside0.mk (Kd.R_below (Kd.R_elderB z4j gb463 (Nat.le_of_eq hg.symm)) hb); have n1_ := Aside0.mk (Kd.R_below (Kd.R_elderB z4k gb463 (Nat.le_of_eq hg.symm)) hb); have n2_ := Aside0.mk (Kd.R_below (Kd.R_elderB (by (with_reducible repeat (first | apply Kd.R_alloc | apply Kd.R_drewN | apply Kd.R_drew)); exact HO_7.out) gb463 (Nat.le_of_eq hg.symm)) hb); have n3_ := Aside0.mk (blk_below (g := gb435) (o := .cells #[.string t431, .string t432, .int .i64 t433, .bool t434] 31 (0, 0)) z4d hb); have n4_ := Aside0.mk (blk_below (g := gb450) (o := .cells #[.string t445, .string t446, .int .i64 t447, .bool t448] 31 (0, 0)) z4e hb); have n5_ := Aside0.mk (below_step z4m hb); have n6_ := Aside0.mk (hbox); have n7_ := Aside0.mk ((by rw [hg]; exact (below_size z4m) : w.heap.size ≤ gb463)); have n8_ := Aside0.mk ((by rw [hg]; exact (below_size z4m) : w.heap.size ≤ gb463)); have n9_ := Aside0.mk ((by rw [hg]; exact Nat.ne_of_lt (blk_lt (g := gb435) (o := .cells #[.string t431, .string t432, .int .i64 t433, .bool t434] 31 (0, 0)) z4d) : gb435 ≠ gb463)); have n10_ := Aside0.mk ((by rw [hg]; exact Nat.ne_of_gt (blk_lt (g := gb435) (o := .cells #[.string t431, .string t432, .int .i64 t433, .bool t434] 31 (0, 0)) z4d) : gb463 ≠ gb435)); have n11_ := Aside0.mk ((by rw [hg]; exact Nat.ne_of_lt (blk_lt (g := gb450) (o := .cells #[.string t445, .string t446, .int .i64 t447, .bool t448] 31 (0, 0)) z4e) : gb450 ≠ gb463)); have n12_ := Aside0.mk ((by rw [hg]; exact Nat.ne_of_gt (blk_lt (g := gb450) (o := .cells #[.string t445, .string t446, .int .i64 t447, .bool t448] 31 (0, 0)) z4e) : gb463 ≠ gb450)); clear HO_3; clear HO_5; clear HO_7; clear BK435; clear BK450; clear HB; have HO_3 := n0_; have HO_5 := n1_; have HO_7 := n2_; have BK435 := n3_; have BK450 := n4_; have HB := n5_; have BK463 := n6_; have GW463 := n7_; have GE463 := n8_; have NB435_463 := n9_; have NB463_435 := n10_; have NB450_463 := n11_; have NB463_450 := n12_; clear n0_ n1_ n2_ n3_ n4_ n5_ n6_ n7_ n8_ n9_ n10_ n11_ n12_; clear hb hbox hg; have hnb39 := NB463_435.out; have hnc39 := NB435_463.out; have hnb40 := NB463_450.out; have hnc40 := NB450_463.out; have hcz41_0 : w38.cell? ⟨gb463, 0, none⟩ = some (.string (⟨#[]⟩ : ByteArray)) := (blk_cell BK463.out 0).trans rfl; have hcz41_1 : w38.cell? ⟨gb463, 1, none⟩ = some (.string (⟨#[]⟩ : ByteArray)) := (blk_cell BK463.out 1).trans rfl; have hcz41_2 : w38.cell? ⟨gb463, 2, none⟩ = some (.int .i64 0) := (blk_cell BK463.out 2).trans rfl; have hcz41_3 : w38.cell? ⟨gb463, 3, none⟩ = some (.bool false) := (blk_cell BK463.out 3).trans rfl; have hfz41_0 := blk_frozen BK463.out 0; have hfz41_1 := blk_frozen BK463.out 1; have hfz41_2 := blk_frozen BK463.out 2; have hfz41_3 := blk_frozen BK463.out 3))
   (try simp only [Act.put, List.setIfInBounds_toArray, List.set_cons_zero, List.set_cons_succ])
   go_cut [83] (fun v83 wc => ∃ (kq : Nat) (x83_35 : Bool), v83 = .bool x83_35 ∧ Aside0 (laws_FnPut.j1 kq t428 t436 t439 t441 t442 t449 x83_35 t431 t432 t433 t434 t445 t446 t447 t448 = some r) ∧ Aside0 (kq ≤ kj8) ∧ Aside0 (Kd.R k31 31 wc w.heap.size (fun k_ => some k_ ≠ (v437 : Value).ownBlock ∧ k_ ≠ gb435 ∧ k_ ≠ gb450 ∧ k_ ≠ gb463) (.slice Ao13 t428.length co13) t428) ∧ Aside0 (Kd.R k31 31 wc w.heap.size (fun k_ => some k_ ≠ ((.slice Ao13 t428.length co13) : Value).ownBlock ∧ k_ ≠ gb435 ∧ k_ ≠ gb450 ∧ k_ ≠ gb463) v437 t436) ∧ Aside0 (wc.heap[gb435]? = some (.cells #[.string t431, .string t432, .int .i64 t433, .bool t434] 31 (0, 0))) ∧ Aside0 (wc.heap[gb450]? = some (.cells #[.string t445, .string t446, .int .i64 t447, .bool t448] 31 (0, 0))) ∧ Aside0 (wc.heap[gb463]? = some (.cells #[.string t458, .string t459, .int .i64 t460, .bool t461] 31 (0, 0))) ∧ Aside0 (Below w.heap.size w wc))
   case first =>
    have H := HC36.out
    clear HC36
    by_cases c42 : (t449 != t462) = true
    {
    rw [if_pos c42] at H
    have c42b0 : (t449 != t462) = true := c42
    (try (have c42b1 : decide (t449 = t462) = false := by simpa using c42))
    (try (have c42b2 : (t449 == t462) = false := by simpa using c42))
    (try (have c42b3 : ¬ (t449 = t462) := by simpa using c42))
    clear c42
    (first | rw [c42b0] | (simp only [i64_w, i32_w]; rw [c42b0]) | skip)
    have H' := Aside0.mk H
    clear H
    go_wp2
    go_meet
    case rel => exact ⟨_, (true), z4f1, H', ⟨by have := HJ8.out; first | omega | exact Nat.le_refl _⟩, ⟨by (with_reducible repeat (first | apply Kd.R_alloc | apply Kd.R_drewN | apply Kd.R_drew)); exact Kd.R_mono (Kd.R_far (p := ⟨gb463, 3, none⟩) (Kd.R_far (p := ⟨gb463, 2, none⟩) (Kd.R_far (p := ⟨gb463, 1, none⟩) (Kd.R_far (p := ⟨gb463, 0, none⟩) (Kd.R_mono HO_3.out (fun k_ hk => (⟨hk, hk.2⟩ : _ ∧ k_ ≠ gb463))) (fun _ hk => hk.2) (.string t458)) (fun _ hk => hk.2) (.string t459)) (fun _ hk => hk.2) (.int .i64 t460)) (fun _ hk => hk.2) (.bool t461)) (fun _ hk => ⟨hk.1.1.1, ⟨hk.1.1.2.2.1, ⟨hk.1.1.2.2.2, hk.1.2⟩⟩⟩)⟩, ⟨by (with_reducible repeat (first | apply Kd.R_alloc | apply Kd.R_drewN | apply Kd.R_drew)); exact Kd.R_mono (Kd.R_far (p := ⟨gb463, 3, none⟩) (Kd.R_far (p := ⟨gb463, 2, none⟩) (Kd.R_far (p := ⟨gb463, 1, none⟩) (Kd.R_far (p := ⟨gb463, 0, none⟩) (Kd.R_mono HO_5.out (fun k_ hk => (⟨hk, hk.2⟩ : _ ∧ k_ ≠ gb463))) (fun _ hk => hk.2) (.string t458)) (fun _ hk => hk.2) (.string t459)) (fun _ hk => hk.2) (.int .i64 t460)) (fun _ hk => hk.2) (.bool t461)) (fun _ hk => ⟨hk.1.1.1, ⟨hk.1.1.2.2.1, ⟨hk.1.1.2.2.2, hk.1.2⟩⟩⟩)⟩, ⟨by (with_reducible repeat (first | refine blk_drewN ?_ _ | refine blk_drew ?_ | refine blk_alloc ?_ _)); refine blk_far ?_ NB435_463.out _; (with_reducible repeat (first | refine blk_drewN ?_ _ | refine blk_drew ?_ | refine blk_alloc ?_ _)); refine blk_far ?_ NB435_463.out _; (with_reducible repeat (first | refine blk_drewN ?_ _ | refine blk_drew ?_ | refine blk_alloc ?_ _)); refine blk_far ?_ NB435_463.out _; (with_reducible repeat (first | refine blk_drewN ?_ _ | refine blk_drew ?_ | refine blk_alloc ?_ _)); refine blk_far ?_ NB435_463.out _; (with_reducible repeat (first | refine blk_drewN ?_ _ | refine blk_drew ?_ | refine blk_alloc ?_ _)); exact BK435.out⟩, ⟨by (with_reducible repeat (first | refine blk_drewN ?_ _ | refine blk_drew ?_ | refine blk_alloc ?_ _)); refine blk_far ?_ NB450_463.out _; (with_reducible repeat (first | refine blk_drewN ?_ _ | refine blk_drew ?_ | refine blk_alloc ?_ _)); refine blk_far ?_ NB450_463.out _; (with_reducible repeat (first | refine blk_drewN ?_ _ | refine blk_drew ?_ | refine blk_alloc ?_ _)); refine blk_far ?_ NB450_463.out _; (with_reducible repeat (first | refine blk_drewN ?_ _ | refine blk_drew ?_ | refine blk_alloc ?_ _)); refine blk_far ?_ NB450_463.out _; (with_reducible repeat (first | refine blk_drewN ?_ _ | refine blk_drew ?_ | refine blk_alloc ?_ _)); exact BK450.out⟩, ⟨by (with_reducible repeat (first | refine blk_drewN ?_ _ | refine blk_drew ?_ | refine blk_alloc ?_ _)); refine blk_put (cs := #[.string t458, .string t459, .int .i64 t460, .bool false]) ?_ 3 _ rfl; (with_reducible repeat (first | refine blk_drewN ?_ _ | refine blk_drew ?_ | refine blk_alloc ?_ _)); refine blk_put (cs := #[.string t458, .string t459, .int .i64 0, .bool false]) ?_ 2 _ rfl; (with_reducible repeat (first | refine blk_drewN ?_ _ | refine blk_drew ?_ | refine blk_alloc ?_ _)); refine blk_put (cs := #[.string t458, .string (⟨#[]⟩ : ByteArray), .int .i64 0, .bool false]) ?_ 1 _ rfl; (with_reducible repeat (first | refine blk_drewN ?_ _ | refine blk_drew ?_ | refine blk_alloc ?_ _)); refine blk_put (cs := #[.string (⟨#[]⟩ : ByteArray), .string (⟨#[]⟩ : ByteArray), .int .i64 0, .bool false]) ?_ 0 _ rfl; (with_reducible repeat (first | refine blk_drewN ?_ _ | refine blk_drew ?_ | refine blk_alloc ?_ _)); exact BK463.out⟩, ⟨by repeat (first | (with_reducible first | exact HB.out | apply below_alloc | apply pw_below_drewN | apply below_drew1 | refine below_set ?_ GE435.out | refine below_set ?_ GE450.out | refine below_set ?_ GE463.out) | exact HB.out)⟩⟩
    }
    {
    rw [if_neg c42] at H
    have c42b0 : (t449 != t462) = false := by simpa using c42
    (try (have c42b1 : decide (t449 = t462) = true := by simpa using c42))
    (try (have c42b2 : (t449 == t462) = true := by simpa using c42))
    clear c42
    (first | rw [c42b0] | (simp only [i64_w, i32_w]; rw [c42b0]) | skip)
    have H' := Aside0.mk H
    clear H
    have hnb43 := NB450_435.out
    have hnc43 := NB435_450.out
    have hnb44 := NB450_463.out
    have hnc44 := NB463_450.out
    have hcz45_0 : w38.cell? ⟨gb450, 0, none⟩ = some (.string t445) := (blk_cell BK450.out 0).trans rfl
    have hcz45_1 : w38.cell? ⟨gb450, 1, none⟩ = some (.string t446) := (blk_cell BK450.out 1).trans rfl
    have hcz45_2 : w38.cell? ⟨gb450, 2, none⟩ = some (.int .i64 t447) := (blk_cell BK450.out 2).trans rfl
    have hcz45_3 : w38.cell? ⟨gb450, 3, none⟩ = some (.bool t448) := (blk_cell BK450.out 3).trans rfl
    have hfz45_0 := blk_frozen BK450.out 0
    have hfz45_1 := blk_frozen BK450.out 1
    have hfz45_2 := blk_frozen BK450.out 2
    have hfz45_3 := blk_frozen BK450.out 3
    have hnb46 := NB463_435.out
    have hnc46 := NB435_463.out
    have hcz47_0 : w38.cell? ⟨gb463, 0, none⟩ = some (.string (⟨#[]⟩ : ByteArray)) := (blk_cell BK463.out 0).trans rfl
    have hcz47_1 : w38.cell? ⟨gb463, 1, none⟩ = some (.string (⟨#[]⟩ : ByteArray)) := (blk_cell BK463.out 1).trans rfl
    have hcz47_2 : w38.cell? ⟨gb463, 2, none⟩ = some (.int .i64 0) := (blk_cell BK463.out 2).trans rfl
    have hcz47_3 : w38.cell? ⟨gb463, 3, none⟩ = some (.bool false) := (blk_cell BK463.out 3).trans rfl
    have hfz47_0 := blk_frozen BK463.out 0
    have hfz47_1 := blk_frozen BK463.out 1
    have hfz47_2 := blk_frozen BK463.out 2
    have hfz47_3 := blk_frozen BK463.out 3
    go_wp2
    go_meet
    case rel => exact ⟨_, ((!(t445.toList == t458.toList) || (!(t446.toList == t459.toList) || (!(t447 == t460) || (!(t448 == t461)))))), z4f1, H', ⟨by have := HJ8.out; first | omega | exact Nat.le_refl _⟩, ⟨by (with_reducible repeat (first | apply Kd.R_alloc | apply Kd.R_drewN | apply Kd.R_drew)); exact Kd.R_mono (Kd.R_far (p := ⟨gb463, 3, none⟩) (Kd.R_far (p := ⟨gb463, 2, none⟩) (Kd.R_far (p := ⟨gb463, 1, none⟩) (Kd.R_far (p := ⟨gb463, 0, none⟩) (Kd.R_mono HO_3.out (fun k_ hk => (⟨hk, hk.2⟩ : _ ∧ k_ ≠ gb463))) (fun _ hk => hk.2) (.string t458)) (fun _ hk => hk.2) (.string t459)) (fun _ hk => hk.2) (.int .i64 t460)) (fun _ hk => hk.2) (.bool t461)) (fun _ hk => ⟨hk.1.1.1, ⟨hk.1.1.2.2.1, ⟨hk.1.1.2.2.2, hk.1.2⟩⟩⟩)⟩, ⟨by (with_reducible repeat (first | apply Kd.R_alloc | apply Kd.R_drewN | apply Kd.R_drew)); exact Kd.R_mono (Kd.R_far (p := ⟨gb463, 3, none⟩) (Kd.R_far (p := ⟨gb463, 2, none⟩) (Kd.R_far (p := ⟨gb463, 1, none⟩) (Kd.R_far (p := ⟨gb463, 0, none⟩) (Kd.R_mono HO_5.out (fun k_ hk => (⟨hk, hk.2⟩ : _ ∧ k_ ≠ gb463))) (fun _ hk => hk.2) (.string t458)) (fun _ hk => hk.2) (.string t459)) (fun _ hk => hk.2) (.int .i64 t460)) (fun _ hk => hk.2) (.bool t461)) (fun _ hk => ⟨hk.1.1.1, ⟨hk.1.1.2.2.1, ⟨hk.1.1.2.2.2, hk.1.2⟩⟩⟩)⟩, ⟨by (with_reducible repeat (first | refine blk_drewN ?_ _ | refine blk_drew ?_ | refine blk_alloc ?_ _)); refine blk_far ?_ NB435_463.out _; (with_reducible repeat (first | refine blk_drewN ?_ _ | refine blk_drew ?_ | refine blk_alloc ?_ _)); refine blk_far ?_ NB435_463.out _; (with_reducible repeat (first | refine blk_drewN ?_ _ | refine blk_drew ?_ | refine blk_alloc ?_ _)); refine blk_far ?_ NB435_463.out _; (with_reducible repeat (first | refine blk_drewN ?_ _ | refine blk_drew ?_ | refine blk_alloc ?_ _)); refine blk_far ?_ NB435_463.out _; (with_reducible repeat (first | refine blk_drewN ?_ _ | refine blk_drew ?_ | refine blk_alloc ?_ _)); exact BK435.out⟩, ⟨by (with_reducible repeat (first | refine blk_drewN ?_ _ | refine blk_drew ?_ | refine blk_alloc ?_ _)); refine blk_far ?_ NB450_463.out _; (with_reducible repeat (first | refine blk_drewN ?_ _ | refine blk_drew ?_ | refine blk_alloc ?_ _)); refine blk_far ?_ NB450_463.out _; (with_reducible repeat (first | refine blk_drewN ?_ _ | refine blk_drew ?_ | refine blk_alloc ?_ _)); refine blk_far ?_ NB450_463.out _; (with_reducible repeat (first | refine blk_drewN ?_ _ | refine blk_drew ?_ | refine blk_alloc ?_ _)); refine blk_far ?_ NB450_463.out _; (with_reducible repeat (first | refine blk_drewN ?_ _ | refine blk_drew ?_ | refine blk_alloc ?_ _)); exact BK450.out⟩, ⟨by (with_reducible repeat (first | refine blk_drewN ?_ _ | refine blk_drew ?_ | refine blk_alloc ?_ _)); refine blk_put (cs := #[.string t458, .string t459, .int .i64 t460, .bool false]) ?_ 3 _ rfl; (with_reducible repeat (first | refine blk_drewN ?_ _ | refine blk_drew ?_ | refine blk_alloc ?_ _)); refine blk_put (cs := #[.string t458, .string t459, .int .i64 0, .bool false]) ?_ 2 _ rfl; (with_reducible repeat (first | refine blk_drewN ?_ _ | refine blk_drew ?_ | refine blk_alloc ?_ _)); refine blk_put (cs := #[.string t458, .string (⟨#[]⟩ : ByteArray), .int .i64 0, .bool false]) ?_ 1 _ rfl; (with_reducible repeat (first | refine blk_drewN ?_ _ | refine blk_drew ?_ | refine blk_alloc ?_ _)); refine blk_put (cs := #[.string (⟨#[]⟩ : ByteArray), .string (⟨#[]⟩ : ByteArray), .int .i64 0, .bool false]) ?_ 0 _ rfl; (with_reducible repeat (first | refine blk_drewN ?_ _ | refine blk_drew ?_ | refine blk_alloc ?_ _)); exact BK463.out⟩, ⟨by repeat (first | (with_reducible first | exact HB.out | apply below_alloc | apply pw_below_drewN | apply below_drew1 | refine below_set ?_ GE435.out | refine below_set ?_ GE450.out | refine below_set ?_ GE463.out) | exact HB.out)⟩⟩
    }
   case rest =>
    clear HC36
    try clear c1
    try clear c2
    try clear p2
    try clear c3
    try clear c4
    try clear c14
    try clear c17
    try clear c19
    try clear c21
    try clear c22
    try clear c23
    try clear c23b0
    try clear c23b1
    try clear c23b2
    try clear c24
    try clear c25
    try clear c28
    try clear c34
    try clear c39
    try clear c40
    try clear c42
    try clear c42b0
    try clear c42b1
    try clear c42b2
    try clear c43
    try clear c44
    try clear c46
    try clear hcz12_0
    try clear hcz12_1
    try clear hcz12_2
    try clear hcz12_3
    try clear hcz20_0
    try clear hcz20_1
    try clear hcz20_2
    try clear hcz20_3
    try clear hcz21_0
    try clear hcz21_1
    try clear hcz21_2
    try clear hcz21_3
    try clear hcz41_0
    try clear hcz41_1
    try clear hcz41_2
    try clear hcz41_3
    try clear hcz45_0
    try clear hcz45_1
    try clear hcz45_2
    try clear hcz45_3
    try clear hcz47_0
    try clear hcz47_1
    try clear hcz47_2
    try clear hcz47_3
    try clear hfz12_0
    try clear hfz12_1
    try clear hfz12_2
    try clear hfz12_3
    try clear hfz20_0
    try clear hfz20_1
    try clear hfz20_2
    try clear hfz20_3
    try clear hfz21_0
    try clear hfz21_1
    try clear hfz21_2
    try clear hfz21_3
    try clear hfz41_0
    try clear hfz41_1
    try clear hfz41_2
    try clear hfz41_3
    try clear hfz45_0
    try clear hfz45_1
    try clear hfz45_2
    try clear hfz45_3
    try clear hfz47_0
    try clear hfz47_1
    try clear hfz47_2
    try clear hfz47_3
    try clear p2
    obtain ⟨kq, x83_35, rfl, HA, HJ35, HO_3, HO_5, BK435, BK450, BK463, HB⟩ := hcut
    cases kq with
    | zero => exact absurd HA.out (by simp [laws_FnPut.j1])
    | succ kj35 =>
     have H := HA.out
     clear HA
     simp only [laws_FnPut.j1] at H
     by_cases c48 : x83_35 = true
     {
     subst c48
     have H1 : (some false) = some r := by rw [if_pos rfl] at H; exact H
     clear H
     have H := H1
     clear H1
     obtain rfl := Option.some.inj H
     go_wp2
     go_ret
     exact ⟨by first | rfl | (simp [errW_none, errW_some] <;> rfl) | (simp [*, errW_none, errW_some] <;> rfl), by repeat (first | (with_reducible first | exact HB.out | apply below_alloc | apply pw_below_drewN | apply below_drew1 | refine below_set ?_ GE435.out | refine below_set ?_ GE450.out | refine below_set ?_ GE463.out) | exact HB.out)⟩
     }
     {
     replace c48 := Bool.eq_false_iff.mpr c48
     subst c48
     have H1 : (if t449 = true then (if t445.toList = t441.toList then (laws_FnPut.j2 kj35 t428 t436 t439 (decide (t447 > t442)) t431 t432 t433 t434) else (laws_FnPut.j2 kj35 t428 t436 t439 true t431 t432 t433 t434)) else (laws_FnPut.j2 kj35 t428 t436 t439 false t431 t432 t433 t434)) = some r := by rw [if_neg (show ¬ (false = true) by decide)] at H; exact H
     clear H
     have H := H1
     clear H1
     have HC49 := Aside0.mk H
     clear H
     go_upto_region 13 with (fail)
     go_cut [96] (fun v96 wc => ∃ (kq : Nat) (x96_48 : Bool), v96 = .bool x96_48 ∧ Aside0 (laws_FnPut.j2 kq t428 t436 t439 x96_48 t431 t432 t433 t434 = some r) ∧ Aside0 (kq ≤ kj35) ∧ Aside0 (Kd.R k31 31 wc w.heap.size (fun k_ => some k_ ≠ (v437 : Value).ownBlock ∧ k_ ≠ gb435 ∧ k_ ≠ gb450 ∧ k_ ≠ gb463) (.slice Ao13 t428.length co13) t428) ∧ Aside0 (Kd.R k31 31 wc w.heap.size (fun k_ => some k_ ≠ ((.slice Ao13 t428.length co13) : Value).ownBlock ∧ k_ ≠ gb435 ∧ k_ ≠ gb450 ∧ k_ ≠ gb463) v437 t436) ∧ Aside0 (wc.heap[gb435]? = some (.cells #[.string t431, .string t432, .int .i64 t433, .bool t434] 31 (0, 0))) ∧ Aside0 (wc.heap[gb450]? = some (.cells #[.string t445, .string t446, .int .i64 t447, .bool t448] 31 (0, 0))) ∧ Aside0 (wc.heap[gb463]? = some (.cells #[.string t458, .string t459, .int .i64 t460, .bool t461] 31 (0, 0))) ∧ Aside0 (Below w.heap.size w wc))
     case first =>
      have H := HC49.out
      clear HC49
      by_cases c50 : t449 = true
      {
      subst c50
      have H1 : (if t445.toList = t441.toList then (laws_FnPut.j2 kj35 t428 t436 t439 (decide (t447 > t442)) t431 t432 t433 t434) else (laws_FnPut.j2 kj35 t428 t436 t439 true t431 t432 t433 t434)) = some r := by rw [if_pos rfl] at H; exact H
      clear H
      have H := H1
      clear H1
      by_cases c51 : t445.toList = t441.toList
      {
      rw [if_pos c51] at H
      have c51b0 : (t445.toList == t441.toList) = true := beq_iff_eq.mpr c51
      have c51b1 : (t445.toList != t441.toList) = false := bne_eq_false_iff_eq.mpr c51
      clear c51
      (first | rw [c51b0] | (simp only [i64_w, i32_w]; rw [c51b0]) | skip)
      have H' := Aside0.mk H
      clear H
      have hnb52 := NB450_435.out
      have hnc52 := NB435_450.out
      have hnb53 := NB450_463.out
      have hnc53 := NB463_450.out
      have hcz54_0 : wc.cell? ⟨gb450, 0, none⟩ = some (.string t445) := (blk_cell BK450.out 0).trans rfl
      have hcz54_1 : wc.cell? ⟨gb450, 1, none⟩ = some (.string t446) := (blk_cell BK450.out 1).trans rfl
      have hcz54_2 : wc.cell? ⟨gb450, 2, none⟩ = some (.int .i64 t447) := (blk_cell BK450.out 2).trans rfl
      have hcz54_3 : wc.cell? ⟨gb450, 3, none⟩ = some (.bool t448) := (blk_cell BK450.out 3).trans rfl
      have hfz54_0 := blk_frozen BK450.out 0
      have hfz54_1 := blk_frozen BK450.out 1
      have hfz54_2 := blk_frozen BK450.out 2
      have hfz54_3 := blk_frozen BK450.out 3
      go_wp2
      go_meet
      case rel => exact ⟨_, (decide (t447 > t442)), z4f1, H', ⟨by have := HJ8.out; have := HJ35.out; first | omega | exact Nat.le_refl _⟩, ⟨by (with_reducible repeat (first | apply Kd.R_alloc | apply Kd.R_drewN | apply Kd.R_drew)); exact HO_3.out⟩, ⟨by (with_reducible repeat (first | apply Kd.R_alloc | apply Kd.R_drewN | apply Kd.R_drew)); exact HO_5.out⟩, ⟨by (with_reducible repeat (first | refine blk_drewN ?_ _ | refine blk_drew ?_ | refine blk_alloc ?_ _)); exact BK435.out⟩, ⟨by (with_reducible repeat (first | refine blk_drewN ?_ _ | refine blk_drew ?_ | refine blk_alloc ?_ _)); exact BK450.out⟩, ⟨by (with_reducible repeat (first | refine blk_drewN ?_ _ | refine blk_drew ?_ | refine blk_alloc ?_ _)); exact BK463.out⟩, ⟨by repeat (first | (with_reducible first | exact HB.out | apply below_alloc | apply pw_below_drewN | apply below_drew1 | refine below_set ?_ GE435.out | refine below_set ?_ GE450.out | refine below_set ?_ GE463.out) | exact HB.out)⟩⟩
      }
      {
      rw [if_neg c51] at H
      have c51b0 : (t445.toList == t441.toList) = false := beq_eq_false_iff_ne.mpr c51
      have c51b1 : (t445.toList != t441.toList) = true := bne_iff_ne.mpr c51
      (first | rw [c51b0] | (simp only [i64_w, i32_w]; rw [c51b0]) | skip)
      have H' := Aside0.mk H
      clear H
      have hnb55 := NB450_435.out
      have hnc55 := NB435_450.out
      have hnb56 := NB450_463.out
      have hnc56 := NB463_450.out
      have hcz57_0 : wc.cell? ⟨gb450, 0, none⟩ = some (.string t445) := (blk_cell BK450.out 0).trans rfl
      have hcz57_1 : wc.cell? ⟨gb450, 1, none⟩ = some (.string t446) := (blk_cell BK450.out 1).trans rfl
      have hcz57_2 : wc.cell? ⟨gb450, 2, none⟩ = some (.int .i64 t447) := (blk_cell BK450.out 2).trans rfl
      have hcz57_3 : wc.cell? ⟨gb450, 3, none⟩ = some (.bool t448) := (blk_cell BK450.out 3).trans rfl
      have hfz57_0 := blk_frozen BK450.out 0
      have hfz57_1 := blk_frozen BK450.out 1
      have hfz57_2 := blk_frozen BK450.out 2
      have hfz57_3 := blk_frozen BK450.out 3
      go_wp2
      go_meet
      case rel => exact ⟨_, (true), z4f1, H', ⟨by have := HJ8.out; have := HJ35.out; first | omega | exact Nat.le_refl _⟩, ⟨by (with_reducible repeat (first | apply Kd.R_alloc | apply Kd.R_drewN | apply Kd.R_drew)); exact HO_3.out⟩, ⟨by (with_reducible repeat (first | apply Kd.R_alloc | apply Kd.R_drewN | apply Kd.R_drew)); exact HO_5.out⟩, ⟨by (with_reducible repeat (first | refine blk_drewN ?_ _ | refine blk_drew ?_ | refine blk_alloc ?_ _)); exact BK435.out⟩, ⟨by (with_reducible repeat (first | refine blk_drewN ?_ _ | refine blk_drew ?_ | refine blk_alloc ?_ _)); exact BK450.out⟩, ⟨by (with_reducible repeat (first | refine blk_drewN ?_ _ | refine blk_drew ?_ | refine blk_alloc ?_ _)); exact BK463.out⟩, ⟨by repeat (first | (with_reducible first | exact HB.out | apply below_alloc | apply pw_below_drewN | apply below_drew1 | refine below_set ?_ GE435.out | refine below_set ?_ GE450.out | refine below_set ?_ GE463.out) | exact HB.out)⟩⟩
      }
      }
      {
      replace c50 := Bool.eq_false_iff.mpr c50
      subst c50
      have H1 : (laws_FnPut.j2 kj35 t428 t436 t439 false t431 t432 t433 t434) = some r := by rw [if_neg (show ¬ (false = true) by decide)] at H; exact H
      clear H
      have H := H1
      clear H1
      have H' := Aside0.mk H
      clear H
      go_wp2
      go_meet
      case rel => exact ⟨_, (false), z4f1, H', ⟨by have := HJ8.out; have := HJ35.out; first | omega | exact Nat.le_refl _⟩, ⟨by (with_reducible repeat (first | apply Kd.R_alloc | apply Kd.R_drewN | apply Kd.R_drew)); exact HO_3.out⟩, ⟨by (with_reducible repeat (first | apply Kd.R_alloc | apply Kd.R_drewN | apply Kd.R_drew)); exact HO_5.out⟩, ⟨by (with_reducible repeat (first | refine blk_drewN ?_ _ | refine blk_drew ?_ | refine blk_alloc ?_ _)); exact BK435.out⟩, ⟨by (with_reducible repeat (first | refine blk_drewN ?_ _ | refine blk_drew ?_ | refine blk_alloc ?_ _)); exact BK450.out⟩, ⟨by (with_reducible repeat (first | refine blk_drewN ?_ _ | refine blk_drew ?_ | refine blk_alloc ?_ _)); exact BK463.out⟩, ⟨by repeat (first | (with_reducible first | exact HB.out | apply below_alloc | apply pw_below_drewN | apply below_drew1 | refine below_set ?_ GE435.out | refine below_set ?_ GE450.out | refine below_set ?_ GE463.out) | exact HB.out)⟩⟩
      }
     case rest =>
      clear HC49
      try clear c1
      try clear c2
      try clear p2
      try clear c3
      try clear c4
      try clear c5
      try clear c14
      try clear c17
      try clear c19
      try clear c21
      try clear c22
      try clear c23
      try clear c23b0
      try clear c23b1
      try clear c23b2
      try clear c24
      try clear c25
      try clear c28
      try clear c34
      try clear c39
      try clear c40
      try clear c42
      try clear c42b0
      try clear c42b1
      try clear c42b2
      try clear c43
      try clear c44
      try clear c46
      try clear c48
      try clear c50
      try clear c51
      try clear c51b0
      try clear c51b1
      try clear c52
      try clear c53
      try clear c55
      try clear c56
      try clear hcz12_0
      try clear hcz12_1
      try clear hcz12_2
      try clear hcz12_3
      try clear hcz20_0
      try clear hcz20_1
      try clear hcz20_2
      try clear hcz20_3
      try clear hcz21_0
      try clear hcz21_1
      try clear hcz21_2
      try clear hcz21_3
      try clear hcz41_0
      try clear hcz41_1
      try clear hcz41_2
      try clear hcz41_3
      try clear hcz45_0
      try clear hcz45_1
      try clear hcz45_2
      try clear hcz45_3
      try clear hcz47_0
      try clear hcz47_1
      try clear hcz47_2
      try clear hcz47_3
      try clear hcz54_0
      try clear hcz54_1
      try clear hcz54_2
      try clear hcz54_3
      try clear hcz57_0
      try clear hcz57_1
      try clear hcz57_2
      try clear hcz57_3
      try clear hfz12_0
      try clear hfz12_1
      try clear hfz12_2
      try clear hfz12_3
      try clear hfz20_0
      try clear hfz20_1
      try clear hfz20_2
      try clear hfz20_3
      try clear hfz21_0
      try clear hfz21_1
      try clear hfz21_2
      try clear hfz21_3
      try clear hfz41_0
      try clear hfz41_1
      try clear hfz41_2
      try clear hfz41_3
      try clear hfz45_0
      try clear hfz45_1
      try clear hfz45_2
      try clear hfz45_3
      try clear hfz47_0
      try clear hfz47_1
      try clear hfz47_2
      try clear hfz47_3
      try clear hfz54_0
      try clear hfz54_1
      try clear hfz54_2
      try clear hfz54_3
      try clear hfz57_0
      try clear hfz57_1
      try clear hfz57_2
      try clear hfz57_3
      try clear p2
      obtain ⟨kq, x96_48, rfl, HA, HJ48, HO_3, HO_5, BK435, BK450, BK463, HB⟩ := hcut
      cases kq with
      | zero => exact absurd HA.out (by simp [laws_FnPut.j2])
      | succ kj48 =>
       have H := HA.out
       clear HA
       simp only [laws_FnPut.j2] at H
       by_cases c58 : x96_48 = true
       {
       subst c58
       have H1 : (some false) = some r := by rw [if_pos rfl] at H; exact H
       clear H
       have H := H1
       clear H1
       obtain rfl := Option.some.inj H
       go_wp2
       go_ret
       exact ⟨by first | rfl | (simp [errW_none, errW_some] <;> rfl) | (simp [*, errW_none, errW_some] <;> rfl), by repeat (first | (with_reducible first | exact HB.out | apply below_alloc | apply pw_below_drewN | apply below_drew1 | refine below_set ?_ GE435.out | refine below_set ?_ GE450.out | refine below_set ?_ GE463.out) | exact HB.out)⟩
       }
       {
       replace c58 := Bool.eq_false_iff.mpr c58
       subst c58
       have H1 : (if t439 = true then ((impl_Seen.f kj48 t436 t431 t433).bind fun bt464 => (if bt464.2.2.2.2 = true then (if (!(bt464.1.toList == t431.toList) || (!(bt464.2.1.toList == t432.toList) || (!(bt464.2.2.1 == t433) || (!(bt464.2.2.2.1 == t434))))) = true then (laws_FnPut.j3 kj48 t428 t436 true) else ((impl_EntriesOk.f kj48 t436).bind fun t470 => (if t470 = true then (laws_FnPut.j3 kj48 t428 t436 ((t436.length : Int) != (wrap64 ((t428.length : Int) + 1)))) else (laws_FnPut.j3 kj48 t428 t436 true)))) else (laws_FnPut.j3 kj48 t428 t436 true))) else (some ((t436.length : Int) == 0))) = some r := by rw [if_neg (show ¬ (false = true) by decide)] at H; exact H
       clear H
       have H := H1
       clear H1
       by_cases c59 : t439 = true
       {
       subst c59
       have H1 : ((impl_Seen.f kj48 t436 t431 t433).bind fun bt464 => (if bt464.2.2.2.2 = true then (if (!(bt464.1.toList == t431.toList) || (!(bt464.2.1.toList == t432.toList) || (!(bt464.2.2.1 == t433) || (!(bt464.2.2.2.1 == t434))))) = true then (laws_FnPut.j3 kj48 t428 t436 true) else ((impl_EntriesOk.f kj48 t436).bind fun t470 => (if t470 = true then (laws_FnPut.j3 kj48 t428 t436 ((t436.length : Int) != (wrap64 ((t428.length : Int) + 1)))) else (laws_FnPut.j3 kj48 t428 t436 true)))) else (laws_FnPut.j3 kj48 t428 t436 true))) = some r := by rw [if_pos rfl] at H; exact H
       clear H
       have H := H1
       clear H1
       replace H := Option.bind_eq_some_iff.mp H
       obtain ⟨⟨t464, t465, t466, t467, t468⟩, A600, H⟩ := H
       replace H : (if t468 = true then (if (!(t464.toList == t431.toList) || (!(t465.toList == t432.toList) || (!(t466 == t433) || (!(t467 == t434))))) = true then (laws_FnPut.j3 kj48 t428 t436 true) else ((impl_EntriesOk.f kj48 t436).bind fun t470 => (if t470 = true then (laws_FnPut.j3 kj48 t428 t436 ((t436.length : Int) != (wrap64 ((t428.length : Int) + 1)))) else (laws_FnPut.j3 kj48 t428 t436 true)))) else (laws_FnPut.j3 kj48 t428 t436 true)) = some r := H
       have A60 := Aside0.mk A600
       clear A600
       have HC61 := Aside0.mk H
       clear H
       have hnb62 := NB435_450.out
       have hnc62 := NB450_435.out
       have hnb63 := NB435_463.out
       have hnc63 := NB463_435.out
       have hcz64_0 : wc.cell? ⟨gb435, 0, none⟩ = some (.string t431) := (blk_cell BK435.out 0).trans rfl
       have hcz64_1 : wc.cell? ⟨gb435, 1, none⟩ = some (.string t432) := (blk_cell BK435.out 1).trans rfl
       have hcz64_2 : wc.cell? ⟨gb435, 2, none⟩ = some (.int .i64 t433) := (blk_cell BK435.out 2).trans rfl
       have hcz64_3 : wc.cell? ⟨gb435, 3, none⟩ = some (.bool t434) := (blk_cell BK435.out 3).trans rfl
       have hfz64_0 := blk_frozen BK435.out 0
       have hfz64_1 := blk_frozen BK435.out 1
       have hfz64_2 := blk_frozen BK435.out 2
       have hfz64_3 := blk_frozen BK435.out 3
       obtain ⟨Ao65, co65, eo65⟩ := Kd.R_slice HO_5.out
       subst eo65
       go_upto_region 18 with (first | ((with_reducible refine gate_callee (f := 24) rfl ?_); refine goesL_ (some 108) rfl rfl Try.func24 (by kernel_rfl) rfl #[.slice Ao65 t436.length co65, .string t431, .int .i64 t433] rfl z4i ?_; (with_reducible refine (impl_Seen.calls kj48 _ _ t436 t431 t433 t464 t465 t466 t467 t468 _ ?side1 ?side2 A60.out).mono ?_); (case side1 => exact z4o); (case side2 => exact (Kd.R_reads' HO_5.out).2.1); rintro e w66 ⟨rfl, hb⟩; refine ⟨_, rfl, ?_⟩; have n0_ := Aside0.mk (Kd.R_below z4j hb); have n1_ := Aside0.mk (Kd.R_below z4k hb); have n2_ := Aside0.mk (blk_below (g := gb435) (o := .cells #[.string t431, .string t432, .int .i64 t433, .bool t434] 31 (0, 0)) z4d hb); have n3_ := Aside0.mk (blk_below (g := gb450) (o := .cells #[.string t445, .string t446, .int .i64 t447, .bool t448] 31 (0, 0)) z4e hb); have n4_ := Aside0.mk (blk_below (g := gb463) (o := .cells #[.string t458, .string t459, .int .i64 t460, .bool t461] 31 (0, 0)) z4f hb); have n5_ := Aside0.mk (below_step z4y hb); clear HO_3; clear HO_5; clear BK435; clear BK450; clear BK463; clear HB; have HO_3 := n0_; have HO_5 := n1_; have BK435 := n2_; have BK450 := n3_; have BK463 := n4_; have HB := n5_; clear n0_ n1_ n2_ n3_ n4_ n5_; (try clear hb); (try clear hb2); (try clear hk); (try clear hi)) | ((with_reducible refine gate_dst (N := 16) rfl ?_); (try (refine gate_guard (by rfl) ?_; dsimp only)); refine box_event ?hg (N := 16) ?hd (cs := #[.string (⟨#[]⟩ : ByteArray), .string (⟨#[]⟩ : ByteArray), .int .i64 0, .bool false]) (t := 31) ?hr ?_; (case hd => rfl); (case hg => rfl); (case hr => first | (go_simp; done) | (go_simp; rfl)); intro gb469 hg w67 hbox hb; have n0_ := Aside0.mk (Kd.R_below (Kd.R_elderB z4j gb469 (Nat.le_of_eq hg.symm)) hb); have n1_ := Aside0.mk (Kd.R_below (Kd.R_elderB z4k gb469 (Nat.le_of_eq hg.symm)) hb); have n2_ := Aside0.mk (blk_below (g := gb435) (o := .cells #[.string t431, .string t432, .int .i64 t433, .bool t434] 31 (0, 0)) z4d hb); have n3_ := Aside0.mk (blk_below (g := gb450) (o := .cells #[.string t445, .string t446, .int .i64 t447, .bool t448] 31 (0, 0)) z4e hb); have n4_ := Aside0.mk (blk_below (g := gb463) (o := .cells #[.string t458, .string t459, .int .i64 t460, .bool t461] 31 (0, 0)) z4f hb); have n5_ := Aside0.mk (below_step z4y hb); have n6_ := Aside0.mk (hbox); have n7_ := Aside0.mk ((by rw [hg]; exact (below_size z4y) : w.heap.size ≤ gb469)); have n8_ := Aside0.mk ((by rw [hg]; exact (below_size z4y) : w.heap.size ≤ gb469)); have n9_ := Aside0.mk ((by rw [hg]; exact Nat.ne_of_lt (blk_lt (g := gb435) (o := .cells #[.string t431, .string t432, .int .i64 t433, .bool t434] 31 (0, 0)) z4d) : gb435 ≠ gb469)); have n10_ := Aside0.mk ((by rw [hg]; exact Nat.ne_of_gt (blk_lt (g := gb435) (o := .cells #[.string t431, .string t432, .int .i64 t433, .bool t434] 31 (0, 0)) z4d) : gb469 ≠ gb435)); have n11_ := Aside0.mk ((by rw [hg]; exact Nat.ne_of_lt (blk_lt (g := gb450) (o := .cells #[.string t445, .string t446, .int .i64 t447, .bool t448] 31 (0, 0)) z4e) : gb450 ≠ gb469)); have n12_ := Aside0.mk ((by rw [hg]; exact Nat.ne_of_gt (blk_lt (g := gb450) (o := .cells #[.string t445, .string t446, .int .i64 t447, .bool t448] 31 (0, 0)) z4e) : gb469 ≠ gb450)); have n13_ := Aside0.mk ((by rw [hg]; exact Nat.ne_of_lt (blk_lt (g := gb463) (o := .cells #[.string t458, .string t459, .int .i64 t460, .bool t461] 31 (0, 0)) z4f) : gb463 ≠ gb469)); have n14_ := Aside0.mk ((by rw [hg]; exact Nat.ne_of_gt (blk_lt (g := gb463) (o := .cells #[.string t458, .string t459, .int .i64 t460, .bool t461] 31 (0, 0)) z4f) : gb469 ≠ gb463)); clear HO_3; clear HO_5; clear BK435; clear BK450; clear BK463; clear HB; have HO_3 := n0_; have HO_5 := n1_; have BK435 := n2_; have BK450 := n3_; have BK463 := n4_; have HB := n5_; have BK469 := n6_; have GW469 := n7_; have GE469 := n8_; have NB435_469 := n9_; have NB469_435 := n10_; have NB450_469 := n11_; have NB469_450 := n12_; have NB463_469 := n13_; have NB469_463 := n14_; clear n0_ n1_ n2_ n3_ n4_ n5_ n6_ n7_ n8_ n9_ n10_ n11_ n12_ n13_ n14_; clear hb hbox hg; have hnb68 := NB469_435.out; have hnc68 := NB435_469.out; have hnb69 := NB469_450.out; have hnc69 := NB450_469.out; have hnb70 := NB469_463.out; have hnc70 := NB463_469.out; have hcz71_0 : w67.cell? ⟨gb469, 0, none⟩ = some (.string (⟨#[]⟩ : ByteArray)) := (blk_cell BK469.out 0).trans rfl; have hcz71_1 : w67.cell? ⟨gb469, 1, none⟩ = some (.string (⟨#[]⟩ : ByteArray)) := (blk_cell BK469.out 1).trans rfl; have hcz71_2 : w67.cell? ⟨gb469, 2, none⟩ = some (.int .i64 0) := (blk_cell BK469.out 2).trans rfl; have hcz71_3 : w67.cell? ⟨gb469, 3, none⟩ = some (.bool false) := (blk_cell BK469.out 3).trans rfl; have hfz71_0 := blk_frozen BK469.out 0; have hfz71_1 := blk_frozen BK469.out 1; have hfz71_2 := blk_frozen BK469.out 2; have hfz71_3 := blk_frozen BK469.out 3))
       (try simp only [Act.put, List.setIfInBounds_toArray, List.set_cons_zero, List.set_cons_succ])
       go_cut [130] (fun v130 wc => ∃ (kq : Nat) (x130_60 : Bool), v130 = .bool x130_60 ∧ Aside0 (laws_FnPut.j3 kq t428 t436 x130_60 = some r) ∧ Aside0 (kq ≤ kj48) ∧ Aside0 (Kd.R k31 31 wc w.heap.size (fun k_ => some k_ ≠ ((.slice Ao65 t436.length co65) : Value).ownBlock ∧ k_ ≠ gb435 ∧ k_ ≠ gb450 ∧ k_ ≠ gb463 ∧ k_ ≠ gb469) (.slice Ao13 t428.length co13) t428) ∧ Aside0 (Kd.R k31 31 wc w.heap.size (fun k_ => some k_ ≠ ((.slice Ao13 t428.length co13) : Value).ownBlock ∧ k_ ≠ gb435 ∧ k_ ≠ gb450 ∧ k_ ≠ gb463 ∧ k_ ≠ gb469) (.slice Ao65 t436.length co65) t436) ∧ Aside0 (wc.heap[gb435]? = some (.cells #[.string t431, .string t432, .int .i64 t433, .bool t434] 31 (0, 0))) ∧ Aside0 (wc.heap[gb450]? = some (.cells #[.string t445, .string t446, .int .i64 t447, .bool t448] 31 (0, 0))) ∧ Aside0 (wc.heap[gb463]? = some (.cells #[.string t458, .string t459, .int .i64 t460, .bool t461] 31 (0, 0))) ∧ Aside0 (wc.heap[gb469]? = some (.cells #[.string t464, .string t465, .int .i64 t466, .bool t467] 31 (0, 0))) ∧ Aside0 (Below w.heap.size w wc))
       case first =>
        have H := HC61.out
        clear HC61
        by_cases c72 : t468 = true
        {
        subst c72
        have H1 : (if (!(t464.toList == t431.toList) || (!(t465.toList == t432.toList) || (!(t466 == t433) || (!(t467 == t434))))) = true then (laws_FnPut.j3 kj48 t428 t436 true) else ((impl_EntriesOk.f kj48 t436).bind fun t470 => (if t470 = true then (laws_FnPut.j3 kj48 t428 t436 ((t436.length : Int) != (wrap64 ((t428.length : Int) + 1)))) else (laws_FnPut.j3 kj48 t428 t436 true)))) = some r := by rw [if_pos rfl] at H; exact H
        clear H
        have H := H1
        clear H1
        by_cases c73 : (!(t464.toList == t431.toList) || (!(t465.toList == t432.toList) || (!(t466 == t433) || (!(t467 == t434))))) = true
        {
        rw [if_pos c73] at H
        have c73b0 : (!(t464.toList == t431.toList) || (!(t465.toList == t432.toList) || (!(t466 == t433) || (!(t467 == t434))))) = true := c73
        clear c73
        (first | rw [c73b0] | (simp only [i64_w, i32_w]; rw [c73b0]) | skip)
        have H' := Aside0.mk H
        clear H
        have hnb74 := NB469_435.out
        have hnc74 := NB435_469.out
        have hnb75 := NB469_450.out
        have hnc75 := NB450_469.out
        have hnb76 := NB469_463.out
        have hnc76 := NB463_469.out
        have hcz77_0 : w67.cell? ⟨gb469, 0, none⟩ = some (.string (⟨#[]⟩ : ByteArray)) := (blk_cell BK469.out 0).trans rfl
        have hcz77_1 : w67.cell? ⟨gb469, 1, none⟩ = some (.string (⟨#[]⟩ : ByteArray)) := (blk_cell BK469.out 1).trans rfl
        have hcz77_2 : w67.cell? ⟨gb469, 2, none⟩ = some (.int .i64 0) := (blk_cell BK469.out 2).trans rfl
        have hcz77_3 : w67.cell? ⟨gb469, 3, none⟩ = some (.bool false) := (blk_cell BK469.out 3).trans rfl
        have hfz77_0 := blk_frozen BK469.out 0
        have hfz77_1 := blk_frozen BK469.out 1
        have hfz77_2 := blk_frozen BK469.out 2
        have hfz77_3 := blk_frozen BK469.out 3
        have hnb78 := NB435_450.out
        have hnc78 := NB450_435.out
        have hnb79 := NB435_463.out
        have hnc79 := NB463_435.out
        have hcz80_0 : w67.cell? ⟨gb435, 0, none⟩ = some (.string t431) := (blk_cell BK435.out 0).trans rfl
        have hcz80_1 : w67.cell? ⟨gb435, 1, none⟩ = some (.string t432) := (blk_cell BK435.out 1).trans rfl
        have hcz80_2 : w67.cell? ⟨gb435, 2, none⟩ = some (.int .i64 t433) := (blk_cell BK435.out 2).trans rfl
        have hcz80_3 : w67.cell? ⟨gb435, 3, none⟩ = some (.bool t434) := (blk_cell BK435.out 3).trans rfl
        have hfz80_0 := blk_frozen BK435.out 0
        have hfz80_1 := blk_frozen BK435.out 1
        have hfz80_2 := blk_frozen BK435.out 2
        have hfz80_3 := blk_frozen BK435.out 3
        go_wp2
        go_meet
        case rel => exact ⟨_, (true), z4f1, H', ⟨by have := HJ8.out; have := HJ35.out; have := HJ48.out; first | omega | exact Nat.le_refl _⟩, ⟨by (with_reducible repeat (first | apply Kd.R_alloc | apply Kd.R_drewN | apply Kd.R_drew)); exact Kd.R_mono (Kd.R_far (p := ⟨gb469, 3, none⟩) (Kd.R_far (p := ⟨gb469, 2, none⟩) (Kd.R_far (p := ⟨gb469, 1, none⟩) (Kd.R_far (p := ⟨gb469, 0, none⟩) (Kd.R_mono HO_3.out (fun k_ hk => (⟨hk, hk.2⟩ : _ ∧ k_ ≠ gb469))) (fun _ hk => hk.2) (.string t464)) (fun _ hk => hk.2) (.string t465)) (fun _ hk => hk.2) (.int .i64 t466)) (fun _ hk => hk.2) (.bool t467)) (fun _ hk => ⟨hk.1.1.1, ⟨hk.1.1.2.1, ⟨hk.1.1.2.2.1, ⟨hk.1.1.2.2.2, hk.1.2⟩⟩⟩⟩)⟩, ⟨by (with_reducible repeat (first | apply Kd.R_alloc | apply Kd.R_drewN | apply Kd.R_drew)); exact Kd.R_mono (Kd.R_far (p := ⟨gb469, 3, none⟩) (Kd.R_far (p := ⟨gb469, 2, none⟩) (Kd.R_far (p := ⟨gb469, 1, none⟩) (Kd.R_far (p := ⟨gb469, 0, none⟩) (Kd.R_mono HO_5.out (fun k_ hk => (⟨hk, hk.2⟩ : _ ∧ k_ ≠ gb469))) (fun _ hk => hk.2) (.string t464)) (fun _ hk => hk.2) (.string t465)) (fun _ hk => hk.2) (.int .i64 t466)) (fun _ hk => hk.2) (.bool t467)) (fun _ hk => ⟨hk.1.1.1, ⟨hk.1.1.2.1, ⟨hk.1.1.2.2.1, ⟨hk.1.1.2.2.2, hk.1.2⟩⟩⟩⟩)⟩, ⟨by (with_reducible repeat (first | refine blk_drewN ?_ _ | refine blk_drew ?_ | refine blk_alloc ?_ _)); refine blk_far ?_ NB435_469.out _; (with_reducible repeat (first | refine blk_drewN ?_ _ | refine blk_drew ?_ | refine blk_alloc ?_ _)); refine blk_far ?_ NB435_469.out _; (with_reducible repeat (first | refine blk_drewN ?_ _ | refine blk_drew ?_ | refine blk_alloc ?_ _)); refine blk_far ?_ NB435_469.out _; (with_reducible repeat (first | refine blk_drewN ?_ _ | refine blk_drew ?_ | refine blk_alloc ?_ _)); refine blk_far ?_ NB435_469.out _; (with_reducible repeat (first | refine blk_drewN ?_ _ | refine blk_drew ?_ | refine blk_alloc ?_ _)); exact BK435.out⟩, ⟨by (with_reducible repeat (first | refine blk_drewN ?_ _ | refine blk_drew ?_ | refine blk_alloc ?_ _)); refine blk_far ?_ NB450_469.out _; (with_reducible repeat (first | refine blk_drewN ?_ _ | refine blk_drew ?_ | refine blk_alloc ?_ _)); refine blk_far ?_ NB450_469.out _; (with_reducible repeat (first | refine blk_drewN ?_ _ | refine blk_drew ?_ | refine blk_alloc ?_ _)); refine blk_far ?_ NB450_469.out _; (with_reducible repeat (first | refine blk_drewN ?_ _ | refine blk_drew ?_ | refine blk_alloc ?_ _)); refine blk_far ?_ NB450_469.out _; (with_reducible repeat (first | refine blk_drewN ?_ _ | refine blk_drew ?_ | refine blk_alloc ?_ _)); exact BK450.out⟩, ⟨by (with_reducible repeat (first | refine blk_drewN ?_ _ | refine blk_drew ?_ | refine blk_alloc ?_ _)); refine blk_far ?_ NB463_469.out _; (with_reducible repeat (first | refine blk_drewN ?_ _ | refine blk_drew ?_ | refine blk_alloc ?_ _)); refine blk_far ?_ NB463_469.out _; (with_reducible repeat (first | refine blk_drewN ?_ _ | refine blk_drew ?_ | refine blk_alloc ?_ _)); refine blk_far ?_ NB463_469.out _; (with_reducible repeat (first | refine blk_drewN ?_ _ | refine blk_drew ?_ | refine blk_alloc ?_ _)); refine blk_far ?_ NB463_469.out _; (with_reducible repeat (first | refine blk_drewN ?_ _ | refine blk_drew ?_ | refine blk_alloc ?_ _)); exact BK463.out⟩, ⟨by (with_reducible repeat (first | refine blk_drewN ?_ _ | refine blk_drew ?_ | refine blk_alloc ?_ _)); refine blk_put (cs := #[.string t464, .string t465, .int .i64 t466, .bool false]) ?_ 3 _ rfl; (with_reducible repeat (first | refine blk_drewN ?_ _ | refine blk_drew ?_ | refine blk_alloc ?_ _)); refine blk_put (cs := #[.string t464, .string t465, .int .i64 0, .bool false]) ?_ 2 _ rfl; (with_reducible repeat (first | refine blk_drewN ?_ _ | refine blk_drew ?_ | refine blk_alloc ?_ _)); refine blk_put (cs := #[.string t464, .string (⟨#[]⟩ : ByteArray), .int .i64 0, .bool false]) ?_ 1 _ rfl; (with_reducible repeat (first | refine blk_drewN ?_ _ | refine blk_drew ?_ | refine blk_alloc ?_ _)); refine blk_put (cs := #[.string (⟨#[]⟩ : ByteArray), .string (⟨#[]⟩ : ByteArray), .int .i64 0, .bool false]) ?_ 0 _ rfl; (with_reducible repeat (first | refine blk_drewN ?_ _ | refine blk_drew ?_ | refine blk_alloc ?_ _)); exact BK469.out⟩, ⟨by repeat (first | (with_reducible first | exact HB.out | apply below_alloc | apply pw_below_drewN | apply below_drew1 | refine below_set ?_ GE435.out | refine below_set ?_ GE450.out | refine below_set ?_ GE463.out | refine below_set ?_ GE469.out) | exact HB.out)⟩⟩
        }
        {
        rw [if_neg c73] at H
        have c73b0 : (!(t464.toList == t431.toList) || (!(t465.toList == t432.toList) || (!(t466 == t433) || (!(t467 == t434))))) = false := by simpa using c73
        clear c73
        (first | rw [c73b0] | (simp only [i64_w, i32_w]; rw [c73b0]) | skip)
        replace H := Option.bind_eq_some_iff.mp H
        obtain ⟨t470, A810, H⟩ := H
        replace H : (if t470 = true then (laws_FnPut.j3 kj48 t428 t436 ((t436.length : Int) != (wrap64 ((t428.length : Int) + 1)))) else (laws_FnPut.j3 kj48 t428 t436 true)) = some r := H
        have A81 := Aside0.mk A810
        clear A810
        by_cases c82 : t470 = true
        {
        subst c82
        have H1 : (laws_FnPut.j3 kj48 t428 t436 ((t436.length : Int) != (wrap64 ((t428.length : Int) + 1)))) = some r := by rw [if_pos rfl] at H; exact H
        clear H
        have H := H1
        clear H1
        have H' := Aside0.mk H
        clear H
        have hnb83 := NB469_435.out
        have hnc83 := NB435_469.out
        have hnb84 := NB469_450.out
        have hnc84 := NB450_469.out
        have hnb85 := NB469_463.out
        have hnc85 := NB463_469.out
        have hcz86_0 : w67.cell? ⟨gb469, 0, none⟩ = some (.string (⟨#[]⟩ : ByteArray)) := (blk_cell BK469.out 0).trans rfl
        have hcz86_1 : w67.cell? ⟨gb469, 1, none⟩ = some (.string (⟨#[]⟩ : ByteArray)) := (blk_cell BK469.out 1).trans rfl
        have hcz86_2 : w67.cell? ⟨gb469, 2, none⟩ = some (.int .i64 0) := (blk_cell BK469.out 2).trans rfl
        have hcz86_3 : w67.cell? ⟨gb469, 3, none⟩ = some (.bool false) := (blk_cell BK469.out 3).trans rfl
        have hfz86_0 := blk_frozen BK469.out 0
        have hfz86_1 := blk_frozen BK469.out 1
        have hfz86_2 := blk_frozen BK469.out 2
        have hfz86_3 := blk_frozen BK469.out 3
        have hnb87 := NB435_450.out
        have hnc87 := NB450_435.out
        have hnb88 := NB435_463.out
        have hnc88 := NB463_435.out
        have hcz89_0 : w67.cell? ⟨gb435, 0, none⟩ = some (.string t431) := (blk_cell BK435.out 0).trans rfl
        have hcz89_1 : w67.cell? ⟨gb435, 1, none⟩ = some (.string t432) := (blk_cell BK435.out 1).trans rfl
        have hcz89_2 : w67.cell? ⟨gb435, 2, none⟩ = some (.int .i64 t433) := (blk_cell BK435.out 2).trans rfl
        have hcz89_3 : w67.cell? ⟨gb435, 3, none⟩ = some (.bool t434) := (blk_cell BK435.out 3).trans rfl
        have hfz89_0 := blk_frozen BK435.out 0
        have hfz89_1 := blk_frozen BK435.out 1
        have hfz89_2 := blk_frozen BK435.out 2
        have hfz89_3 := blk_frozen BK435.out 3
        go_wp2_with (first | (go_at_call 26; (with_reducible refine (impl_EntriesOk.calls kj48 _ _ t436 true _ ?side1 ?side2 A81.out).mono ?_); (case side1 => refine (Kd.R_reads' (e := 31) (base := w.heap.size) (ok := fun k_ => ((some k_ ≠ (.slice Ao13 t428.length co13 : Value).ownBlock ∧ (k_ ≠ gb435 ∧ (k_ ≠ gb450 ∧ k_ ≠ gb463))) ∧ k_ ≠ gb469)) (n := t436.length) (c := co65) ?_).2.2; exact z4l); (case side2 => exact (Kd.R_reads' HO_5.out).2.1); rintro e w90 ⟨rfl, hb⟩; have n0_ := Aside0.mk (Kd.R_below z4l1 hb); have n1_ := Aside0.mk (Kd.R_below z4l hb); have n2_ := Aside0.mk (blk_below (g := gb435) (o := .cells #[.string t431, .string t432, .int .i64 t433, .bool t434] 31 (0, 0)) z4a1 hb); have n3_ := Aside0.mk (blk_below (g := gb450) (o := .cells #[.string t445, .string t446, .int .i64 t447, .bool t448] 31 (0, 0)) z4b1 hb); have n4_ := Aside0.mk (blk_below (g := gb463) (o := .cells #[.string t458, .string t459, .int .i64 t460, .bool t461] 31 (0, 0)) z4c1 hb); have n5_ := Aside0.mk (blk_below (g := gb469) (o := .cells #[.string t464, .string t465, .int .i64 t466, .bool t467] 31 (0, 0)) z4t hb); have n6_ := Aside0.mk (below_step z4c hb); clear HO_3; clear HO_5; clear BK435; clear BK450; clear BK463; clear BK469; clear HB; have HO_3 := n0_; have HO_5 := n1_; have BK435 := n2_; have BK450 := n3_; have BK463 := n4_; have BK469 := n5_; have HB := n6_; clear n0_ n1_ n2_ n3_ n4_ n5_ n6_; (try clear hb); (try clear hb2); (try clear hk); (try clear hi)))
        go_meet
        case rel => exact ⟨_, (((t436.length : Int) != (wrap64 ((t428.length : Int) + 1)))), z4f1, H', ⟨by have := HJ8.out; have := HJ35.out; have := HJ48.out; first | omega | exact Nat.le_refl _⟩, ⟨by (with_reducible repeat (first | apply Kd.R_alloc | apply Kd.R_drewN | apply Kd.R_drew)); exact Kd.R_mono HO_3.out (fun _ hk => ⟨hk.1.1, ⟨hk.1.2.1, ⟨hk.1.2.2.1, ⟨hk.1.2.2.2, hk.2⟩⟩⟩⟩)⟩, ⟨by (with_reducible repeat (first | apply Kd.R_alloc | apply Kd.R_drewN | apply Kd.R_drew)); exact Kd.R_mono HO_5.out (fun _ hk => ⟨hk.1.1, ⟨hk.1.2.1, ⟨hk.1.2.2.1, ⟨hk.1.2.2.2, hk.2⟩⟩⟩⟩)⟩, ⟨by (with_reducible repeat (first | refine blk_drewN ?_ _ | refine blk_drew ?_ | refine blk_alloc ?_ _)); exact BK435.out⟩, ⟨by (with_reducible repeat (first | refine blk_drewN ?_ _ | refine blk_drew ?_ | refine blk_alloc ?_ _)); exact BK450.out⟩, ⟨by (with_reducible repeat (first | refine blk_drewN ?_ _ | refine blk_drew ?_ | refine blk_alloc ?_ _)); exact BK463.out⟩, ⟨by (with_reducible repeat (first | refine blk_drewN ?_ _ | refine blk_drew ?_ | refine blk_alloc ?_ _)); exact BK469.out⟩, ⟨by repeat (first | (with_reducible first | exact HB.out | apply below_alloc | apply pw_below_drewN | apply below_drew1 | refine below_set ?_ GE435.out | refine below_set ?_ GE450.out | refine below_set ?_ GE463.out | refine below_set ?_ GE469.out) | exact HB.out)⟩⟩
        }
        {
        replace c82 := Bool.eq_false_iff.mpr c82
        subst c82
        have H1 : (laws_FnPut.j3 kj48 t428 t436 true) = some r := by rw [if_neg (show ¬ (false = true) by decide)] at H; exact H
        clear H
        have H := H1
        clear H1
        have H' := Aside0.mk H
        clear H
        have hnb91 := NB469_435.out
        have hnc91 := NB435_469.out
        have hnb92 := NB469_450.out
        have hnc92 := NB450_469.out
        have hnb93 := NB469_463.out
        have hnc93 := NB463_469.out
        have hcz94_0 : w67.cell? ⟨gb469, 0, none⟩ = some (.string (⟨#[]⟩ : ByteArray)) := (blk_cell BK469.out 0).trans rfl
        have hcz94_1 : w67.cell? ⟨gb469, 1, none⟩ = some (.string (⟨#[]⟩ : ByteArray)) := (blk_cell BK469.out 1).trans rfl
        have hcz94_2 : w67.cell? ⟨gb469, 2, none⟩ = some (.int .i64 0) := (blk_cell BK469.out 2).trans rfl
        have hcz94_3 : w67.cell? ⟨gb469, 3, none⟩ = some (.bool false) := (blk_cell BK469.out 3).trans rfl
        have hfz94_0 := blk_frozen BK469.out 0
        have hfz94_1 := blk_frozen BK469.out 1
        have hfz94_2 := blk_frozen BK469.out 2
        have hfz94_3 := blk_frozen BK469.out 3
        have hnb95 := NB435_450.out
        have hnc95 := NB450_435.out
        have hnb96 := NB435_463.out
        have hnc96 := NB463_435.out
        have hcz97_0 : w67.cell? ⟨gb435, 0, none⟩ = some (.string t431) := (blk_cell BK435.out 0).trans rfl
        have hcz97_1 : w67.cell? ⟨gb435, 1, none⟩ = some (.string t432) := (blk_cell BK435.out 1).trans rfl
        have hcz97_2 : w67.cell? ⟨gb435, 2, none⟩ = some (.int .i64 t433) := (blk_cell BK435.out 2).trans rfl
        have hcz97_3 : w67.cell? ⟨gb435, 3, none⟩ = some (.bool t434) := (blk_cell BK435.out 3).trans rfl
        have hfz97_0 := blk_frozen BK435.out 0
        have hfz97_1 := blk_frozen BK435.out 1
        have hfz97_2 := blk_frozen BK435.out 2
        have hfz97_3 := blk_frozen BK435.out 3
        go_wp2_with (first | (go_at_call 26; (with_reducible refine (impl_EntriesOk.calls kj48 _ _ t436 false _ ?side1 ?side2 A81.out).mono ?_); (case side1 => refine (Kd.R_reads' (e := 31) (base := w.heap.size) (ok := fun k_ => ((some k_ ≠ (.slice Ao13 t428.length co13 : Value).ownBlock ∧ (k_ ≠ gb435 ∧ (k_ ≠ gb450 ∧ k_ ≠ gb463))) ∧ k_ ≠ gb469)) (n := t436.length) (c := co65) ?_).2.2; exact z4l); (case side2 => exact (Kd.R_reads' HO_5.out).2.1); rintro e w98 ⟨rfl, hb⟩; have n0_ := Aside0.mk (Kd.R_below z4l1 hb); have n1_ := Aside0.mk (Kd.R_below z4l hb); have n2_ := Aside0.mk (blk_below (g := gb435) (o := .cells #[.string t431, .string t432, .int .i64 t433, .bool t434] 31 (0, 0)) z4a1 hb); have n3_ := Aside0.mk (blk_below (g := gb450) (o := .cells #[.string t445, .string t446, .int .i64 t447, .bool t448] 31 (0, 0)) z4b1 hb); have n4_ := Aside0.mk (blk_below (g := gb463) (o := .cells #[.string t458, .string t459, .int .i64 t460, .bool t461] 31 (0, 0)) z4c1 hb); have n5_ := Aside0.mk (blk_below (g := gb469) (o := .cells #[.string t464, .string t465, .int .i64 t466, .bool t467] 31 (0, 0)) z4t hb); have n6_ := Aside0.mk (below_step z4c hb); clear HO_3; clear HO_5; clear BK435; clear BK450; clear BK463; clear BK469; clear HB; have HO_3 := n0_; have HO_5 := n1_; have BK435 := n2_; have BK450 := n3_; have BK463 := n4_; have BK469 := n5_; have HB := n6_; clear n0_ n1_ n2_ n3_ n4_ n5_ n6_; (try clear hb); (try clear hb2); (try clear hk); (try clear hi)))
        go_meet
        case rel => exact ⟨_, (true), z4f1, H', ⟨by have := HJ8.out; have := HJ35.out; have := HJ48.out; first | omega | exact Nat.le_refl _⟩, ⟨by (with_reducible repeat (first | apply Kd.R_alloc | apply Kd.R_drewN | apply Kd.R_drew)); exact Kd.R_mono HO_3.out (fun _ hk => ⟨hk.1.1, ⟨hk.1.2.1, ⟨hk.1.2.2.1, ⟨hk.1.2.2.2, hk.2⟩⟩⟩⟩)⟩, ⟨by (with_reducible repeat (first | apply Kd.R_alloc | apply Kd.R_drewN | apply Kd.R_drew)); exact Kd.R_mono HO_5.out (fun _ hk => ⟨hk.1.1, ⟨hk.1.2.1, ⟨hk.1.2.2.1, ⟨hk.1.2.2.2, hk.2⟩⟩⟩⟩)⟩, ⟨by (with_reducible repeat (first | refine blk_drewN ?_ _ | refine blk_drew ?_ | refine blk_alloc ?_ _)); exact BK435.out⟩, ⟨by (with_reducible repeat (first | refine blk_drewN ?_ _ | refine blk_drew ?_ | refine blk_alloc ?_ _)); exact BK450.out⟩, ⟨by (with_reducible repeat (first | refine blk_drewN ?_ _ | refine blk_drew ?_ | refine blk_alloc ?_ _)); exact BK463.out⟩, ⟨by (with_reducible repeat (first | refine blk_drewN ?_ _ | refine blk_drew ?_ | refine blk_alloc ?_ _)); exact BK469.out⟩, ⟨by repeat (first | (with_reducible first | exact HB.out | apply below_alloc | apply pw_below_drewN | apply below_drew1 | refine below_set ?_ GE435.out | refine below_set ?_ GE450.out | refine below_set ?_ GE463.out | refine below_set ?_ GE469.out) | exact HB.out)⟩⟩
        }
        }
        }
        {
        replace c72 := Bool.eq_false_iff.mpr c72
        subst c72
        have H1 : (laws_FnPut.j3 kj48 t428 t436 true) = some r := by rw [if_neg (show ¬ (false = true) by decide)] at H; exact H
        clear H
        have H := H1
        clear H1
        have H' := Aside0.mk H
        clear H
        go_wp2
        go_meet
        case rel => exact ⟨_, (true), z4f1, H', ⟨by have := HJ8.out; have := HJ35.out; have := HJ48.out; first | omega | exact Nat.le_refl _⟩, ⟨by (with_reducible repeat (first | apply Kd.R_alloc | apply Kd.R_drewN | apply Kd.R_drew)); exact Kd.R_mono (Kd.R_far (p := ⟨gb469, 3, none⟩) (Kd.R_far (p := ⟨gb469, 2, none⟩) (Kd.R_far (p := ⟨gb469, 1, none⟩) (Kd.R_far (p := ⟨gb469, 0, none⟩) (Kd.R_mono HO_3.out (fun k_ hk => (⟨hk, hk.2⟩ : _ ∧ k_ ≠ gb469))) (fun _ hk => hk.2) (.string t464)) (fun _ hk => hk.2) (.string t465)) (fun _ hk => hk.2) (.int .i64 t466)) (fun _ hk => hk.2) (.bool t467)) (fun _ hk => ⟨hk.1.1.1, ⟨hk.1.1.2.1, ⟨hk.1.1.2.2.1, ⟨hk.1.1.2.2.2, hk.1.2⟩⟩⟩⟩)⟩, ⟨by (with_reducible repeat (first | apply Kd.R_alloc | apply Kd.R_drewN | apply Kd.R_drew)); exact Kd.R_mono (Kd.R_far (p := ⟨gb469, 3, none⟩) (Kd.R_far (p := ⟨gb469, 2, none⟩) (Kd.R_far (p := ⟨gb469, 1, none⟩) (Kd.R_far (p := ⟨gb469, 0, none⟩) (Kd.R_mono HO_5.out (fun k_ hk => (⟨hk, hk.2⟩ : _ ∧ k_ ≠ gb469))) (fun _ hk => hk.2) (.string t464)) (fun _ hk => hk.2) (.string t465)) (fun _ hk => hk.2) (.int .i64 t466)) (fun _ hk => hk.2) (.bool t467)) (fun _ hk => ⟨hk.1.1.1, ⟨hk.1.1.2.1, ⟨hk.1.1.2.2.1, ⟨hk.1.1.2.2.2, hk.1.2⟩⟩⟩⟩)⟩, ⟨by (with_reducible repeat (first | refine blk_drewN ?_ _ | refine blk_drew ?_ | refine blk_alloc ?_ _)); refine blk_far ?_ NB435_469.out _; (with_reducible repeat (first | refine blk_drewN ?_ _ | refine blk_drew ?_ | refine blk_alloc ?_ _)); refine blk_far ?_ NB435_469.out _; (with_reducible repeat (first | refine blk_drewN ?_ _ | refine blk_drew ?_ | refine blk_alloc ?_ _)); refine blk_far ?_ NB435_469.out _; (with_reducible repeat (first | refine blk_drewN ?_ _ | refine blk_drew ?_ | refine blk_alloc ?_ _)); refine blk_far ?_ NB435_469.out _; (with_reducible repeat (first | refine blk_drewN ?_ _ | refine blk_drew ?_ | refine blk_alloc ?_ _)); exact BK435.out⟩, ⟨by (with_reducible repeat (first | refine blk_drewN ?_ _ | refine blk_drew ?_ | refine blk_alloc ?_ _)); refine blk_far ?_ NB450_469.out _; (with_reducible repeat (first | refine blk_drewN ?_ _ | refine blk_drew ?_ | refine blk_alloc ?_ _)); refine blk_far ?_ NB450_469.out _; (with_reducible repeat (first | refine blk_drewN ?_ _ | refine blk_drew ?_ | refine blk_alloc ?_ _)); refine blk_far ?_ NB450_469.out _; (with_reducible repeat (first | refine blk_drewN ?_ _ | refine blk_drew ?_ | refine blk_alloc ?_ _)); refine blk_far ?_ NB450_469.out _; (with_reducible repeat (first | refine blk_drewN ?_ _ | refine blk_drew ?_ | refine blk_alloc ?_ _)); exact BK450.out⟩, ⟨by (with_reducible repeat (first | refine blk_drewN ?_ _ | refine blk_drew ?_ | refine blk_alloc ?_ _)); refine blk_far ?_ NB463_469.out _; (with_reducible repeat (first | refine blk_drewN ?_ _ | refine blk_drew ?_ | refine blk_alloc ?_ _)); refine blk_far ?_ NB463_469.out _; (with_reducible repeat (first | refine blk_drewN ?_ _ | refine blk_drew ?_ | refine blk_alloc ?_ _)); refine blk_far ?_ NB463_469.out _; (with_reducible repeat (first | refine blk_drewN ?_ _ | refine blk_drew ?_ | refine blk_alloc ?_ _)); refine blk_far ?_ NB463_469.out _; (with_reducible repeat (first | refine blk_drewN ?_ _ | refine blk_drew ?_ | refine blk_alloc ?_ _)); exact BK463.out⟩, ⟨by (with_reducible repeat (first | refine blk_drewN ?_ _ | refine blk_drew ?_ | refine blk_alloc ?_ _)); refine blk_put (cs := #[.string t464, .string t465, .int .i64 t466, .bool false]) ?_ 3 _ rfl; (with_reducible repeat (first | refine blk_drewN ?_ _ | refine blk_drew ?_ | refine blk_alloc ?_ _)); refine blk_put (cs := #[.string t464, .string t465, .int .i64 0, .bool false]) ?_ 2 _ rfl; (with_reducible repeat (first | refine blk_drewN ?_ _ | refine blk_drew ?_ | refine blk_alloc ?_ _)); refine blk_put (cs := #[.string t464, .string (⟨#[]⟩ : ByteArray), .int .i64 0, .bool false]) ?_ 1 _ rfl; (with_reducible repeat (first | refine blk_drewN ?_ _ | refine blk_drew ?_ | refine blk_alloc ?_ _)); refine blk_put (cs := #[.string (⟨#[]⟩ : ByteArray), .string (⟨#[]⟩ : ByteArray), .int .i64 0, .bool false]) ?_ 0 _ rfl; (with_reducible repeat (first | refine blk_drewN ?_ _ | refine blk_drew ?_ | refine blk_alloc ?_ _)); exact BK469.out⟩, ⟨by repeat (first | (with_reducible first | exact HB.out | apply below_alloc | apply pw_below_drewN | apply below_drew1 | refine below_set ?_ GE435.out | refine below_set ?_ GE450.out | refine below_set ?_ GE463.out | refine below_set ?_ GE469.out) | exact HB.out)⟩⟩
        }
       case rest =>
        clear HC61
        try clear c1
        try clear c2
        try clear p2
        try clear c3
        try clear c4
        try clear c5
        try clear c6
        try clear p6
        try clear c7
        try clear c8
        try clear c9
        try clear c14
        try clear c17
        try clear c19
        try clear c21
        try clear c22
        try clear c23
        try clear c23b0
        try clear c23b1
        try clear c23b2
        try clear c24
        try clear c25
        try clear c28
        try clear c34
        try clear c39
        try clear c40
        try clear c42
        try clear c42b0
        try clear c42b1
        try clear c42b2
        try clear c43
        try clear c44
        try clear c46
        try clear c48
        try clear c50
        try clear c51
        try clear c51b0
        try clear c51b1
        try clear c52
        try clear c53
        try clear c55
        try clear c56
        try clear c58
        try clear c59
        try clear c62
        try clear c63
        try clear p64
        try clear c68
        try clear c69
        try clear c70
        try clear c72
        try clear c73
        try clear c73b0
        try clear c74
        try clear c75
        try clear c76
        try clear c78
        try clear c79
        try clear c82
        try clear c83
        try clear c84
        try clear c85
        try clear c87
        try clear c88
        try clear c91
        try clear c92
        try clear c93
        try clear c95
        try clear c96
        try clear hcz12_0
        try clear hcz12_1
        try clear hcz12_2
        try clear hcz12_3
        try clear hcz20_0
        try clear hcz20_1
        try clear hcz20_2
        try clear hcz20_3
        try clear hcz21_0
        try clear hcz21_1
        try clear hcz21_2
        try clear hcz21_3
        try clear hcz41_0
        try clear hcz41_1
        try clear hcz41_2
        try clear hcz41_3
        try clear hcz45_0
        try clear hcz45_1
        try clear hcz45_2
        try clear hcz45_3
        try clear hcz47_0
        try clear hcz47_1
        try clear hcz47_2
        try clear hcz47_3
        try clear hcz54_0
        try clear hcz54_1
        try clear hcz54_2
        try clear hcz54_3
        try clear hcz57_0
        try clear hcz57_1
        try clear hcz57_2
        try clear hcz57_3
        try clear hcz64_0
        try clear hcz64_1
        try clear hcz64_2
        try clear hcz64_3
        try clear hcz71_0
        try clear hcz71_1
        try clear hcz71_2
        try clear hcz71_3
        try clear hcz77_0
        try clear hcz77_1
        try clear hcz77_2
        try clear hcz77_3
        try clear hcz80_0
        try clear hcz80_1
        try clear hcz80_2
        try clear hcz80_3
        try clear hcz86_0
        try clear hcz86_1
        try clear hcz86_2
        try clear hcz86_3
        try clear hcz89_0
        try clear hcz89_1
        try clear hcz89_2
        try clear hcz89_3
        try clear hcz94_0
        try clear hcz94_1
        try clear hcz94_2
        try clear hcz94_3
        try clear hcz97_0
        try clear hcz97_1
        try clear hcz97_2
        try clear hcz97_3
        try clear hfz12_0
        try clear hfz12_1
        try clear hfz12_2
        try clear hfz12_3
        try clear hfz20_0
        try clear hfz20_1
        try clear hfz20_2
        try clear hfz20_3
        try clear hfz21_0
        try clear hfz21_1
        try clear hfz21_2
        try clear hfz21_3
        try clear hfz41_0
        try clear hfz41_1
        try clear hfz41_2
        try clear hfz41_3
        try clear hfz45_0
        try clear hfz45_1
        try clear hfz45_2
        try clear hfz45_3
        try clear hfz47_0
        try clear hfz47_1
        try clear hfz47_2
        try clear hfz47_3
        try clear hfz54_0
        try clear hfz54_1
        try clear hfz54_2
        try clear hfz54_3
        try clear hfz57_0
        try clear hfz57_1
        try clear hfz57_2
        try clear hfz57_3
        try clear hfz64_0
        try clear hfz64_1
        try clear hfz64_2
        try clear hfz64_3
        try clear hfz71_0
        try clear hfz71_1
        try clear hfz71_2
        try clear hfz71_3
        try clear hfz77_0
        try clear hfz77_1
        try clear hfz77_2
        try clear hfz77_3
        try clear hfz80_0
        try clear hfz80_1
        try clear hfz80_2
        try clear hfz80_3
        try clear hfz86_0
        try clear hfz86_1
        try clear hfz86_2
        try clear hfz86_3
        try clear hfz89_0
        try clear hfz89_1
        try clear hfz89_2
        try clear hfz89_3
        try clear hfz94_0
        try clear hfz94_1
        try clear hfz94_2
        try clear hfz94_3
        try clear hfz97_0
        try clear hfz97_1
        try clear hfz97_2
        try clear hfz97_3
        try clear p2
        obtain ⟨kq, x130_60, rfl, HA, HJ60, HO_3, HO_5, BK435, BK450, BK463, BK469, HB⟩ := hcut
        cases kq with
        | zero => exact absurd HA.out (by simp [laws_FnPut.j3])
        | succ kj60 =>
         have H := HA.out
         clear HA
         simp only [laws_FnPut.j3] at H
         by_cases c99 : x130_60 = true
         {
         subst c99
         have H1 : (some false) = some r := by rw [if_pos rfl] at H; exact H
         clear H
         have H := H1
         clear H1
         obtain rfl := Option.some.inj H
         go_wp2
         go_ret
         exact ⟨by first | rfl | (simp [errW_none, errW_some] <;> rfl) | (simp [*, errW_none, errW_some] <;> rfl), by repeat (first | (with_reducible first | exact HB.out | apply below_alloc | apply pw_below_drewN | apply below_drew1 | refine below_set ?_ GE435.out | refine below_set ?_ GE450.out | refine below_set ?_ GE463.out | refine below_set ?_ GE469.out) | exact HB.out)⟩
         }
         {
         replace c99 := Bool.eq_false_iff.mpr c99
         subst c99
         have H1 : (laws_FnPut.l0 kj60 t428 t436 0) = some r := by rw [if_neg (show ¬ (false = true) by decide)] at H; exact H
         clear H
         have H := H1
         clear H1
         have H' := Aside0.mk H
         clear H
         go_wp2
         go_loopg [18] kj60 (fun kq v18 w' => ∃ (x18_5 : Int), v18 = .int .i64 x18_5 ∧ Aside0 (laws_FnPut.l0 kq t428 t436 x18_5 = some r) ∧ Aside0 (kq ≤ kj60) ∧ Aside0 (Kd.R k31 31 w' w.heap.size (fun k_ => some k_ ≠ ((.slice Ao65 t436.length co65) : Value).ownBlock ∧ k_ ≠ gb435 ∧ k_ ≠ gb450 ∧ k_ ≠ gb463 ∧ k_ ≠ gb469) (.slice Ao13 t428.length co13) t428) ∧ Aside0 (Kd.R k31 31 w' w.heap.size (fun k_ => some k_ ≠ ((.slice Ao13 t428.length co13) : Value).ownBlock ∧ k_ ≠ gb435 ∧ k_ ≠ gb450 ∧ k_ ≠ gb463 ∧ k_ ≠ gb469) (.slice Ao65 t436.length co65) t436) ∧ Aside0 (w'.heap[gb435]? = some (.cells #[.string t431, .string t432, .int .i64 t433, .bool t434] 31 (0, 0))) ∧ Aside0 (w'.heap[gb450]? = some (.cells #[.string t445, .string t446, .int .i64 t447, .bool t448] 31 (0, 0))) ∧ Aside0 (w'.heap[gb463]? = some (.cells #[.string t458, .string t459, .int .i64 t460, .bool t461] 31 (0, 0))) ∧ Aside0 (w'.heap[gb469]? = some (.cells #[.string t464, .string t465, .int .i64 t466, .bool t467] 31 (0, 0))) ∧ Aside0 (Below w.heap.size w w'))
         case atStart => exact ⟨(0), z4f1, H', ⟨Nat.le_refl _⟩, ⟨by (with_reducible repeat (first | apply Kd.R_alloc | apply Kd.R_drewN | apply Kd.R_drew)); exact HO_3.out⟩, ⟨by (with_reducible repeat (first | apply Kd.R_alloc | apply Kd.R_drewN | apply Kd.R_drew)); exact HO_5.out⟩, ⟨by (with_reducible repeat (first | refine blk_drewN ?_ _ | refine blk_drew ?_ | refine blk_alloc ?_ _)); exact BK435.out⟩, ⟨by (with_reducible repeat (first | refine blk_drewN ?_ _ | refine blk_drew ?_ | refine blk_alloc ?_ _)); exact BK450.out⟩, ⟨by (with_reducible repeat (first | refine blk_drewN ?_ _ | refine blk_drew ?_ | refine blk_alloc ?_ _)); exact BK463.out⟩, ⟨by (with_reducible repeat (first | refine blk_drewN ?_ _ | refine blk_drew ?_ | refine blk_alloc ?_ _)); exact BK469.out⟩, ⟨by repeat (first | (with_reducible first | exact HB.out | apply below_alloc | apply pw_below_drewN | apply below_drew1 | refine below_set ?_ GE435.out | refine below_set ?_ GE450.out | refine below_set ?_ GE463.out | refine below_set ?_ GE469.out) | exact HB.out)⟩⟩
         case round =>
          clear H'
          try clear c1
          try clear c2
          try clear p2
          try clear c3
          try clear c4
          try clear c5
          try clear c6
          try clear p6
          try clear c7
          try clear c8
          try clear c9
          try clear c14
          try clear c17
          try clear c19
          try clear c21
          try clear c22
          try clear c23
          try clear c23b0
          try clear c23b1
          try clear c23b2
          try clear c24
          try clear c25
          try clear c28
          try clear c34
          try clear c39
          try clear c40
          try clear c42
          try clear c42b0
          try clear c42b1
          try clear c42b2
          try clear c43
          try clear c44
          try clear c46
          try clear c48
          try clear c50
          try clear c51
          try clear c51b0
          try clear c51b1
          try clear c52
          try clear c53
          try clear c55
          try clear c56
          try clear c58
          try clear c59
          try clear c62
          try clear c63
          try clear p64
          try clear c68
          try clear c69
          try clear c70
          try clear c72
          try clear c73
          try clear c73b0
          try clear c74
          try clear c75
          try clear c76
          try clear c78
          try clear c79
          try clear c82
          try clear c83
          try clear c84
          try clear c85
          try clear c87
          try clear c88
          try clear c91
          try clear c92
          try clear c93
          try clear c95
          try clear c96
          try clear c99
          try clear hcz12_0
          try clear hcz12_1
          try clear hcz12_2
          try clear hcz12_3
          try clear hcz20_0
          try clear hcz20_1
          try clear hcz20_2
          try clear hcz20_3
          try clear hcz21_0
          try clear hcz21_1
          try clear hcz21_2
          try clear hcz21_3
          try clear hcz41_0
          try clear hcz41_1
          try clear hcz41_2
          try clear hcz41_3
          try clear hcz45_0
          try clear hcz45_1
          try clear hcz45_2
          try clear hcz45_3
          try clear hcz47_0
          try clear hcz47_1
          try clear hcz47_2
          try clear hcz47_3
          try clear hcz54_0
          try clear hcz54_1
          try clear hcz54_2
          try clear hcz54_3
          try clear hcz57_0
          try clear hcz57_1
          try clear hcz57_2
          try clear hcz57_3
          try clear hcz64_0
          try clear hcz64_1
          try clear hcz64_2
          try clear hcz64_3
          try clear hcz71_0
          try clear hcz71_1
          try clear hcz71_2
          try clear hcz71_3
          try clear hcz77_0
          try clear hcz77_1
          try clear hcz77_2
          try clear hcz77_3
          try clear hcz80_0
          try clear hcz80_1
          try clear hcz80_2
          try clear hcz80_3
          try clear hcz86_0
          try clear hcz86_1
          try clear hcz86_2
          try clear hcz86_3
          try clear hcz89_0
          try clear hcz89_1
          try clear hcz89_2
          try clear hcz89_3
          try clear hcz94_0
          try clear hcz94_1
          try clear hcz94_2
          try clear hcz94_3
          try clear hcz97_0
          try clear hcz97_1
          try clear hcz97_2
          try clear hcz97_3
          try clear hfz12_0
          try clear hfz12_1
          try clear hfz12_2
          try clear hfz12_3
          try clear hfz20_0
          try clear hfz20_1
          try clear hfz20_2
          try clear hfz20_3
          try clear hfz21_0
          try clear hfz21_1
          try clear hfz21_2
          try clear hfz21_3
          try clear hfz41_0
          try clear hfz41_1
          try clear hfz41_2
          try clear hfz41_3
          try clear hfz45_0
          try clear hfz45_1
          try clear hfz45_2
          try clear hfz45_3
          try clear hfz47_0
          try clear hfz47_1
          try clear hfz47_2
          try clear hfz47_3
          try clear hfz54_0
          try clear hfz54_1
          try clear hfz54_2
          try clear hfz54_3
          try clear hfz57_0
          try clear hfz57_1
          try clear hfz57_2
          try clear hfz57_3
          try clear hfz64_0
          try clear hfz64_1
          try clear hfz64_2
          try clear hfz64_3
          try clear hfz71_0
          try clear hfz71_1
          try clear hfz71_2
          try clear hfz71_3
          try clear hfz77_0
          try clear hfz77_1
          try clear hfz77_2
          try clear hfz77_3
          try clear hfz80_0
          try clear hfz80_1
          try clear hfz80_2
          try clear hfz80_3
          try clear hfz86_0
          try clear hfz86_1
          try clear hfz86_2
          try clear hfz86_3
          try clear hfz89_0
          try clear hfz89_1
          try clear hfz89_2
          try clear hfz89_3
          try clear hfz94_0
          try clear hfz94_1
          try clear hfz94_2
          try clear hfz94_3
          try clear hfz97_0
          try clear hfz97_1
          try clear hfz97_2
          try clear hfz97_3
          try clear p2
          try clear p6
          try clear p64
          obtain ⟨x18_5, rfl, HA, HK5, HO_3, HO_5, BK435, BK450, BK463, BK469, HB⟩ := hrel
          cases gk with
          | zero => exact absurd HA.out (by simp [laws_FnPut.l0])
          | succ k5 =>
           have H := HA.out
           clear HA
           simp only [laws_FnPut.l0] at H
           by_cases c100 : x18_5 < (t428.length : Int)
           {
           rw [if_pos c100] at H
           have c100b0 : decide (x18_5 < (t428.length : Int)) = true := decide_eq_true c100
           clear c100
           by_cases c101 : 0 ≤ x18_5
           {
           rw [if_pos c101] at H
           have c101b0 : decide (0 ≤ x18_5) = true := decide_eq_true c101
           clear c101
           replace H := Option.bind_eq_some_iff.mp H
           obtain ⟨⟨t473, t474, t475, t476, t477⟩, A1020, H⟩ := H
           replace H : (if t477 = true then (if (!(t473.toList == (((rd_T31 t428 x18_5).f0).toList)) || (!(t474.toList == (((rd_T31 t428 x18_5).f1).toList)) || (!(t475 == ((rd_T31 t428 x18_5).f2)) || (!(t476 == ((rd_T31 t428 x18_5).f3)))))) = true then (some false) else (laws_FnPut.l0 k5 t428 t436 (wrap64 (x18_5 + 1)))) else (some false)) = some r := H
           have A102 := Aside0.mk A1020
           clear A1020
           by_cases c103 : t477 = true
           {
           subst c103
           have H1 : (if (!(t473.toList == (((rd_T31 t428 x18_5).f0).toList)) || (!(t474.toList == (((rd_T31 t428 x18_5).f1).toList)) || (!(t475 == ((rd_T31 t428 x18_5).f2)) || (!(t476 == ((rd_T31 t428 x18_5).f3)))))) = true then (some false) else (laws_FnPut.l0 k5 t428 t436 (wrap64 (x18_5 + 1)))) = some r := by rw [if_pos rfl] at H; exact H
           clear H
           have H := H1
           clear H1
           by_cases c104 : (!(t473.toList == (((rd_T31 t428 x18_5).f0).toList)) || (!(t474.toList == (((rd_T31 t428 x18_5).f1).toList)) || (!(t475 == ((rd_T31 t428 x18_5).f2)) || (!(t476 == ((rd_T31 t428 x18_5).f3)))))) = true
           {
           rw [if_pos c104] at H
           have c104b0 : (!(t473.toList == (((rd_T31 t428 x18_5).f0).toList)) || (!(t474.toList == (((rd_T31 t428 x18_5).f1).toList)) || (!(t475 == ((rd_T31 t428 x18_5).f2)) || (!(t476 == ((rd_T31 t428 x18_5).f3)))))) = true := c104
           clear c104
           obtain rfl := Option.some.inj H
           try go_wp2
           have n0_ := Aside0.mk (Kd.R_drew HO_3.out)
           have n1_ := Aside0.mk (Kd.R_drew HO_5.out)
           have n2_ := Aside0.mk (blk_drew BK435.out)
           have n3_ := Aside0.mk (blk_drew BK450.out)
           have n4_ := Aside0.mk (blk_drew BK463.out)
           have n5_ := Aside0.mk (blk_drew BK469.out)
           have n6_ := Aside0.mk (below_drew1 HB.out)
           clear HO_3
           clear HO_5
           clear BK435
           clear BK450
           clear BK463
           clear BK469
           clear HB
           have HO_3 := n0_
           have HO_5 := n1_
           have BK435 := n2_
           have BK450 := n3_
           have BK463 := n4_
           have BK469 := n5_
           have HB := n6_
           clear n0_ n1_ n2_ n3_ n4_ n5_ n6_
           have p471 : 0 ≤ (x18_5 : Int) := of_decide_eq_true z4x
           have q471 : x18_5 < (t428.length : Int) := of_decide_eq_true z4x
           obtain ⟨ad471, e471, hx471_0, hx471_1, hx471_2, hx471_3⟩ := at_T31 (Kd.R_reads' HO_3.out).2.2 x18_5 p471 q471
           cases e471
           replace p471 := eq_true p471
           replace q471 := eq_true q471
           have p472 : 0 ≤ (x18_5 : Int) := of_decide_eq_true z4x
           have q472 : x18_5 < (t428.length : Int) := of_decide_eq_true z4x
           obtain ⟨ad472, e472, hx472_0, hx472_1, hx472_2, hx472_3⟩ := at_T31 (Kd.R_reads' HO_3.out).2.2 x18_5 p472 q472
           obtain rfl : ad471 = ad472 := (by injection e472)
           replace p472 := eq_true p472
           replace q472 := eq_true q472
           refine start_ (n := 18) (S := fun w' => w'.cell? (ad471.add ((x18_5).toNat * 4)) = some (.string ((rd_T31 t428 x18_5).f0)) ∧ w'.cell? ⟨(ad471.add ((x18_5).toNat * 4)).block, (ad471.add ((x18_5).toNat * 4)).off + 1, none⟩ = some (.string ((rd_T31 t428 x18_5).f1)) ∧ w'.cell? ⟨(ad471.add ((x18_5).toNat * 4)).block, (ad471.add ((x18_5).toNat * 4)).off + 2, none⟩ = some (.int .i64 ((rd_T31 t428 x18_5).f2)) ∧ w'.cell? ⟨(ad471.add ((x18_5).toNat * 4)).block, (ad471.add ((x18_5).toNat * 4)).off + 3, none⟩ = some (.bool ((rd_T31 t428 x18_5).f3)) ∧ w'.cell? (ad471.add ((x18_5).toNat * 4)) = some (.string ((rd_T31 t428 x18_5).f0)) ∧ w'.cell? ⟨(ad471.add ((x18_5).toNat * 4)).block, (ad471.add ((x18_5).toNat * 4)).off + 1, none⟩ = some (.string ((rd_T31 t428 x18_5).f1)) ∧ w'.cell? ⟨(ad471.add ((x18_5).toNat * 4)).block, (ad471.add ((x18_5).toNat * 4)).off + 2, none⟩ = some (.int .i64 ((rd_T31 t428 x18_5).f2)) ∧ w'.cell? ⟨(ad471.add ((x18_5).toNat * 4)).block, (ad471.add ((x18_5).toNat * 4)).off + 3, none⟩ = some (.bool ((rd_T31 t428 x18_5).f3))) (ds := []) #[X, X, X, X, X, X, X, X, X, X, X, X, X, X, X, X, X, X] (by kernel_rfl) rfl rfl ⟨hx471_0, hx471_1, hx471_2, hx471_3, hx472_0, hx472_1, hx472_2, hx472_3⟩ (fun hHeld => ?_); refine with_tabW laws_FnPut.tab23 laws_FnPut.bits23 (fun HT_ HW_ => ?_)
           generalize wr.drew = w105 at HO_3 HO_5 BK435 BK450 BK463 BK469 HB hx471_0 hx471_1 hx471_2 hx471_3 hx472_0 hx472_1 hx472_2 hx472_3 hHeld ⊢
           refine pure_ (i := 0) (N := some 138) (v := _) (a' := _) #[Y, X, X, X, X, X, X, X, X, X, X, X, X, X, X, X, X, X] rfl rfl (any_of HT_.out (by kernel_rfl)) (fun _ _ _ h => h) (Or.inl ⟨by rfl, (by intro w'; go_simp; with_reducible rfl)⟩) z4b ?_
           refine pure_ (i := 1) (N := some 139) (v := _) (a' := _) #[Y, Y, X, X, X, X, X, X, X, X, X, X, X, X, X, X, X, X] rfl rfl (any_of HT_.out (by kernel_rfl)) (fun _ _ _ h => h) (Or.inl ⟨by rfl, (by intro w'; go_simp; with_reducible rfl)⟩) z4b ?_
           refine pure_ (i := 2) (N := some 140) (v := _) (a' := _) #[Y, Y, Y, X, X, X, X, X, X, X, X, X, X, X, X, X, X, X] rfl rfl (any_of HT_.out (by kernel_rfl)) (fun _ _ _ h => h) (Or.inl ⟨by rfl, (by intro w'; go_simp; with_reducible rfl)⟩) z4b ?_
           refine pure_ (i := 3) (N := some 141) (v := _) (a' := _) #[Y, Y, Y, Y, X, X, X, X, X, X, X, X, X, X, X, X, X, X] rfl rfl (any_of HT_.out (by kernel_rfl)) (fun _ _ _ h => h) (Or.inl ⟨by rfl, (by intro w'; go_simp; with_reducible rfl)⟩) z4b ?_
           refine pure_ (i := 4) (N := some 142) (v := _) (a' := _) #[Y, Y, Y, Y, Y, X, X, X, X, X, X, X, X, X, X, X, X, X] rfl rfl (any_of HT_.out (by kernel_rfl)) (fun _ _ _ h => h) (Or.inl ⟨by rfl, (by intro w'; go_simp; with_reducible rfl)⟩) z4b ?_
           refine pure_ (i := 6) (N := some 144) (v := _) (a' := _) #[Y, Y, Y, Y, Y, X, Y, X, X, X, X, X, X, X, X, X, X, X] rfl rfl (any_of HT_.out (by kernel_rfl)) (fun _ _ _ h => h) (Or.inl ⟨by rfl, (by intro w'; go_simp; with_reducible rfl)⟩) z4b ?_
           refine pure_ (i := 7) (N := some 145) (v := _) (a' := _) #[Y, Y, Y, Y, Y, X, Y, Y, X, X, X, X, X, X, X, X, X, X] rfl rfl (any_of HT_.out (by kernel_rfl)) (fun _ _ _ h => h) (Or.inl ⟨by rfl, (by intro w'; go_simp; with_reducible rfl)⟩) z4b ?_
           refine pure_ (i := 8) (N := some 146) (v := _) (a' := _) #[Y, Y, Y, Y, Y, X, Y, Y, Y, X, X, X, X, X, X, X, X, X] rfl rfl (any_of HT_.out (by kernel_rfl)) (fun _ _ _ h => h) (Or.inl ⟨by rfl, (by intro w'; go_simp; with_reducible rfl)⟩) z4b ?_
           refine pure_ (i := 9) (N := some 147) (v := _) (a' := _) #[Y, Y, Y, Y, Y, X, Y, Y, Y, Y, X, X, X, X, X, X, X, X] rfl rfl (any_of HT_.out (by kernel_rfl)) (fun _ _ _ h => h) (Or.inl ⟨by rfl, (by intro w'; go_simp; with_reducible rfl)⟩) z4b ?_
           refine take_ (i := 5) (N := some 143) (v := _) (a' := _) #[Y, Y, Y, Y, Y, Y, Y, Y, Y, Y, X, X, X, X, X, X, X, X] rfl rfl (take_ofW HT_.out HW_.out (by kernel_rfl)) (fun _ _ _ h => h) (Or.inl ⟨by rfl, z4d1⟩) hHeld z4b ?_
           refine take_ (i := 10) (N := some 148) (v := _) (a' := _) #[Y, Y, Y, Y, Y, Y, Y, Y, Y, Y, Y, X, X, X, X, X, X, X] rfl rfl (take_ofW HT_.out HW_.out (by kernel_rfl)) (fun _ _ _ h => h) (Or.inl ⟨by rfl, z4d1⟩) hHeld z4b ?_
           refine join_ (σ := Nat) 2 #[Y, Y, Y, Y, Y, Y, Y, Y, Y, Y, Y, Y, Y, Y, Y, Y, X, X] (fun s_ => [(149, .tuple #[.agg #[.string t473, .string t474, .int .i64 t475, .bool t476], .bool true]), (19, .pointer (some ⟨s_, 0, none⟩)), (137, .tuple #[.agg #[.string t473, .string t474, .int .i64 t475, .bool t476], .bool true]), (150, .agg #[.string t473, .string t474, .int .i64 t475, .bool t476]), (151, .bool true)]) (fun s_ w' => (w'.cell? (ad471.add ((x18_5).toNat * 4)) = some (.string ((rd_T31 t428 x18_5).f0)) ∧ w'.cell? ⟨(ad471.add ((x18_5).toNat * 4)).block, (ad471.add ((x18_5).toNat * 4)).off + 1, none⟩ = some (.string ((rd_T31 t428 x18_5).f1)) ∧ w'.cell? ⟨(ad471.add ((x18_5).toNat * 4)).block, (ad471.add ((x18_5).toNat * 4)).off + 2, none⟩ = some (.int .i64 ((rd_T31 t428 x18_5).f2)) ∧ w'.cell? ⟨(ad471.add ((x18_5).toNat * 4)).block, (ad471.add ((x18_5).toNat * 4)).off + 3, none⟩ = some (.bool ((rd_T31 t428 x18_5).f3)) ∧ w'.cell? (ad471.add ((x18_5).toNat * 4)) = some (.string ((rd_T31 t428 x18_5).f0)) ∧ w'.cell? ⟨(ad471.add ((x18_5).toNat * 4)).block, (ad471.add ((x18_5).toNat * 4)).off + 1, none⟩ = some (.string ((rd_T31 t428 x18_5).f1)) ∧ w'.cell? ⟨(ad471.add ((x18_5).toNat * 4)).block, (ad471.add ((x18_5).toNat * 4)).off + 2, none⟩ = some (.int .i64 ((rd_T31 t428 x18_5).f2)) ∧ w'.cell? ⟨(ad471.add ((x18_5).toNat * 4)).block, (ad471.add ((x18_5).toNat * 4)).off + 3, none⟩ = some (.bool ((rd_T31 t428 x18_5).f3))) ∧ (Kd.R k31 31 w' w.heap.size (fun k_ => some k_ ≠ (.slice Ao65 t436.length co65 : Value).ownBlock ∧ k_ ≠ gb435 ∧ k_ ≠ gb450 ∧ k_ ≠ gb463 ∧ k_ ≠ gb469 ∧ k_ ≠ s_) (.slice (some ad471) t428.length co13) t428) ∧ (Kd.R k31 31 w' w.heap.size (fun k_ => some k_ ≠ (.slice (some ad471) t428.length co13 : Value).ownBlock ∧ k_ ≠ gb435 ∧ k_ ≠ gb450 ∧ k_ ≠ gb463 ∧ k_ ≠ gb469 ∧ k_ ≠ s_) (.slice Ao65 t436.length co65) t436) ∧ (w'.heap[gb435]? = some (.cells #[.string t431, .string t432, .int .i64 t433, .bool t434] 31 (0, 0))) ∧ (w'.heap[gb450]? = some (.cells #[.string t445, .string t446, .int .i64 t447, .bool t448] 31 (0, 0))) ∧ (w'.heap[gb463]? = some (.cells #[.string t458, .string t459, .int .i64 t460, .bool t461] 31 (0, 0))) ∧ (w'.heap[gb469]? = some (.cells #[.string t464, .string t465, .int .i64 t466, .bool t467] 31 (0, 0))) ∧ (w'.heap[s_]? = some (.cells #[.string (⟨#[]⟩ : ByteArray), .string (⟨#[]⟩ : ByteArray), .int .i64 0, .bool false] 31 (0, 0))) ∧ (w.heap.size ≤ s_) ∧ (w.heap.size ≤ s_) ∧ (gb435 ≠ s_) ∧ (s_ ≠ gb435) ∧ (gb450 ≠ s_) ∧ (s_ ≠ gb450) ∧ (gb463 ≠ s_) ∧ (s_ ≠ gb463) ∧ (gb469 ≠ s_) ∧ (s_ ≠ gb469) ∧ (Below w.heap.size w w')) ?_ ?_
           rotate_left
           {
           intro hCont
           refine two_ (i := 11) (j := 15) (Ni := some 149) (Nj := some 19) #[Y, Y, Y, Y, Y, Y, Y, Y, Y, Y, Y, Y, X, X, X, X, X, X] #[Y, Y, Y, Y, Y, Y, Y, Y, Y, Y, Y, X, X, X, X, Y, X, X] rfl rfl rfl rfl (two_of HT_.out (by kernel_rfl)) (by decide) (by decide) (fun K hK => ?_) (fun K hK => ?_)
           {
           skip
           refine goes_ Try.func24 (by kernel_rfl) rfl #[.slice Ao65 t436.length co65, .string ((rd_T31 t428 x18_5).f0), .int .i64 ((rd_T31 t428 x18_5).f2)] (by rfl) rfl rfl z4i ?_
           with_reducible refine (impl_Seen.calls k5 _ _ t436 ((rd_T31 t428 x18_5).f0) ((rd_T31 t428 x18_5).f2) t473 t474 t475 t476 true _ ?side1 ?side2 A102.out).mono ?_
           (case side1 => exact z4o)
           (case side2 => exact (Kd.R_reads' HO_5.out).2.1)
           rintro e w106 ⟨rfl, hb⟩
           have HS0_ := (hb.cell (World.block_lt_of_cell? _ _ (hHeld.1))).trans (hHeld.1)
           have HS1_ := (hb.cell (World.block_lt_of_cell? _ _ (hHeld.2.1))).trans (hHeld.2.1)
           have HS2_ := (hb.cell (World.block_lt_of_cell? _ _ (hHeld.2.2.1))).trans (hHeld.2.2.1)
           have HS3_ := (hb.cell (World.block_lt_of_cell? _ _ (hHeld.2.2.2.1))).trans (hHeld.2.2.2.1)
           have HS4_ := (hb.cell (World.block_lt_of_cell? _ _ (hHeld.2.2.2.2.1))).trans (hHeld.2.2.2.2.1)
           have HS5_ := (hb.cell (World.block_lt_of_cell? _ _ (hHeld.2.2.2.2.2.1))).trans (hHeld.2.2.2.2.2.1)
           have HS6_ := (hb.cell (World.block_lt_of_cell? _ _ (hHeld.2.2.2.2.2.2.1))).trans (hHeld.2.2.2.2.2.2.1)
           have HS7_ := (hb.cell (World.block_lt_of_cell? _ _ (hHeld.2.2.2.2.2.2.2))).trans (hHeld.2.2.2.2.2.2.2)
           refine ⟨_, rfl, ?_⟩
           have n0_ := Aside0.mk (Kd.R_below z4j hb)
           have n1_ := Aside0.mk (Kd.R_below z4k hb)
           have n2_ := Aside0.mk (blk_below (g := gb435) (o := .cells #[.string t431, .string t432, .int .i64 t433, .bool t434] 31 (0, 0)) z4d hb)
           have n3_ := Aside0.mk (blk_below (g := gb450) (o := .cells #[.string t445, .string t446, .int .i64 t447, .bool t448] 31 (0, 0)) z4e hb)
           have n4_ := Aside0.mk (blk_below (g := gb463) (o := .cells #[.string t458, .string t459, .int .i64 t460, .bool t461] 31 (0, 0)) z4f hb)
           have n5_ := Aside0.mk (blk_below (g := gb469) (o := .cells #[.string t464, .string t465, .int .i64 t466, .bool t467] 31 (0, 0)) z4g hb)
           have n6_ := Aside0.mk (below_step z4c hb)
           clear HO_3
           clear HO_5
           clear BK435
           clear BK450
           clear BK463
           clear BK469
           clear HB
           have HO_3 := n0_
           have HO_5 := n1_
           have BK435 := n2_
           have BK450 := n3_
           have BK463 := n4_
           have BK469 := n5_
           have HB := n6_
           clear n0_ n1_ n2_ n3_ n4_ n5_ n6_
           (try clear hb)
           (try clear hb2)
           (try clear hk)
           (try clear hi)
           refine hK.out _ _ ⟨HS0_, HS1_, HS2_, HS3_, HS4_, HS5_, HS6_, HS7_⟩ (fun hHeld => ?_)
           clear hK K
           refine norm_ (a' := ?_) ?_ ?_
           rotate_left
           {
           show Act.put _ (some 149) _ = _
           simp only [Act.put, List.setIfInBounds_toArray, List.set_cons_zero, List.set_cons_succ, i64_w, i32_w]
           rfl
           }
           refine pure_ (i := 12) (N := some 137) (v := _) (a' := _) #[Y, Y, Y, Y, Y, Y, Y, Y, Y, Y, Y, Y, Y, X, X, X, X, X] rfl rfl (any_of HT_.out (by kernel_rfl)) (fun _ _ _ h => h) (Or.inl ⟨by rfl, (by intro w'; go_simp; with_reducible rfl)⟩) z4b ?_
           refine pure_ (i := 13) (N := some 150) (v := _) (a' := _) #[Y, Y, Y, Y, Y, Y, Y, Y, Y, Y, Y, Y, Y, Y, X, X, X, X] rfl rfl (any_of HT_.out (by kernel_rfl)) (fun _ _ _ h => h) (Or.inl ⟨by rfl, (by intro w'; go_simp; with_reducible rfl)⟩) z4b ?_
           refine pure_ (i := 14) (N := some 151) (v := _) (a' := _) #[Y, Y, Y, Y, Y, Y, Y, Y, Y, Y, Y, Y, Y, Y, Y, X, X, X] rfl rfl (any_of HT_.out (by kernel_rfl)) (fun _ _ _ h => h) (Or.inl ⟨by rfl, (by intro w'; go_simp; with_reducible rfl)⟩) z4b ?_
           refine one_ (i := 15) (N := some 19) #[Y, Y, Y, Y, Y, Y, Y, Y, Y, Y, Y, Y, Y, Y, Y, Y, X, X] rfl rfl (one_of HT_.out (by kernel_rfl)) (by decide) (fun K hK => ?_)
           refine box_step ?hg (N := 19) ?hd (cs := #[.string (⟨#[]⟩ : ByteArray), .string (⟨#[]⟩ : ByteArray), .int .i64 0, .bool false]) (t := 31) ?hr ?_; (case hd => rfl); (case hg => rfl); (case hr => first | (go_simp; done) | (go_simp; rfl))
           intro gb478 hg w107 hbox hb
           have HS0_ := (hb.cell (World.block_lt_of_cell? _ _ (hHeld.1))).trans (hHeld.1)
           have HS1_ := (hb.cell (World.block_lt_of_cell? _ _ (hHeld.2.1))).trans (hHeld.2.1)
           have HS2_ := (hb.cell (World.block_lt_of_cell? _ _ (hHeld.2.2.1))).trans (hHeld.2.2.1)
           have HS3_ := (hb.cell (World.block_lt_of_cell? _ _ (hHeld.2.2.2.1))).trans (hHeld.2.2.2.1)
           have HS4_ := (hb.cell (World.block_lt_of_cell? _ _ (hHeld.2.2.2.2.1))).trans (hHeld.2.2.2.2.1)
           have HS5_ := (hb.cell (World.block_lt_of_cell? _ _ (hHeld.2.2.2.2.2.1))).trans (hHeld.2.2.2.2.2.1)
           have HS6_ := (hb.cell (World.block_lt_of_cell? _ _ (hHeld.2.2.2.2.2.2.1))).trans (hHeld.2.2.2.2.2.2.1)
           have HS7_ := (hb.cell (World.block_lt_of_cell? _ _ (hHeld.2.2.2.2.2.2.2))).trans (hHeld.2.2.2.2.2.2.2)
           have n0_ := Aside0.mk (Kd.R_below (Kd.R_elderB z4j gb478 (Nat.le_of_eq hg.symm)) hb)
           have n1_ := Aside0.mk (Kd.R_below (Kd.R_elderB z4k gb478 (Nat.le_of_eq hg.symm)) hb)
           have n2_ := Aside0.mk (blk_below (g := gb435) (o := .cells #[.string t431, .string t432, .int .i64 t433, .bool t434] 31 (0, 0)) z4d hb)
           have n3_ := Aside0.mk (blk_below (g := gb450) (o := .cells #[.string t445, .string t446, .int .i64 t447, .bool t448] 31 (0, 0)) z4e hb)
           have n4_ := Aside0.mk (blk_below (g := gb463) (o := .cells #[.string t458, .string t459, .int .i64 t460, .bool t461] 31 (0, 0)) z4f hb)
           have n5_ := Aside0.mk (blk_below (g := gb469) (o := .cells #[.string t464, .string t465, .int .i64 t466, .bool t467] 31 (0, 0)) z4g hb)
           have n6_ := Aside0.mk (below_step z4c hb)
           have n7_ := Aside0.mk (hbox)
           have n8_ := Aside0.mk ((by rw [hg]; exact (below_size z4c) : w.heap.size ≤ gb478))
           have n9_ := Aside0.mk ((by rw [hg]; exact (below_size z4c) : w.heap.size ≤ gb478))
           have n10_ := Aside0.mk ((by rw [hg]; exact Nat.ne_of_lt (blk_lt (g := gb435) (o := .cells #[.string t431, .string t432, .int .i64 t433, .bool t434] 31 (0, 0)) z4d) : gb435 ≠ gb478))
           have n11_ := Aside0.mk ((by rw [hg]; exact Nat.ne_of_gt (blk_lt (g := gb435) (o := .cells #[.string t431, .string t432, .int .i64 t433, .bool t434] 31 (0, 0)) z4d) : gb478 ≠ gb435))
           have n12_ := Aside0.mk ((by rw [hg]; exact Nat.ne_of_lt (blk_lt (g := gb450) (o := .cells #[.string t445, .string t446, .int .i64 t447, .bool t448] 31 (0, 0)) z4e) : gb450 ≠ gb478))
           have n13_ := Aside0.mk ((by rw [hg]; exact Nat.ne_of_gt (blk_lt (g := gb450) (o := .cells #[.string t445, .string t446, .int .i64 t447, .bool t448] 31 (0, 0)) z4e) : gb478 ≠ gb450))
           have n14_ := Aside0.mk ((by rw [hg]; exact Nat.ne_of_lt (blk_lt (g := gb463) (o := .cells #[.string t458, .string t459, .int .i64 t460, .bool t461] 31 (0, 0)) z4f) : gb463 ≠ gb478))
           have n15_ := Aside0.mk ((by rw [hg]; exact Nat.ne_of_gt (blk_lt (g := gb463) (o := .cells #[.string t458, .string t459, .int .i64 t460, .bool t461] 31 (0, 0)) z4f) : gb478 ≠ gb463))
           have n16_ := Aside0.mk ((by rw [hg]; exact Nat.ne_of_lt (blk_lt (g := gb469) (o := .cells #[.string t464, .string t465, .int .i64 t466, .bool t467] 31 (0, 0)) z4g) : gb469 ≠ gb478))
           have n17_ := Aside0.mk ((by rw [hg]; exact Nat.ne_of_gt (blk_lt (g := gb469) (o := .cells #[.string t464, .string t465, .int .i64 t466, .bool t467] 31 (0, 0)) z4g) : gb478 ≠ gb469))
           clear HO_3
           clear HO_5
           clear BK435
           clear BK450
           clear BK463
           clear BK469
           clear HB
           have HO_3 := n0_
           have HO_5 := n1_
           have BK435 := n2_
           have BK450 := n3_
           have BK463 := n4_
           have BK469 := n5_
           have HB := n6_
           have BK478 := n7_
           have GW478 := n8_
           have GE478 := n9_
           have NB435_478 := n10_
           have NB478_435 := n11_
           have NB450_478 := n12_
           have NB478_450 := n13_
           have NB463_478 := n14_
           have NB478_463 := n15_
           have NB469_478 := n16_
           have NB478_469 := n17_
           clear n0_ n1_ n2_ n3_ n4_ n5_ n6_ n7_ n8_ n9_ n10_ n11_ n12_ n13_ n14_ n15_ n16_ n17_
           clear hb hbox hg
           refine hK.out _ _ ⟨HS0_, HS1_, HS2_, HS3_, HS4_, HS5_, HS6_, HS7_⟩ (fun hHeld => ?_)
           clear hK K
           refine norm_ (a' := ?_) ?_ ?_
           rotate_left
           {
           show Act.put _ (some 19) _ = _
           simp only [Act.put, List.setIfInBounds_toArray, List.set_cons_zero, List.set_cons_succ, i64_w, i32_w]
           rfl
           }
           exact norm_ z4i1 (hCont (gb478) _ ⟨hHeld, z4p, z4q, z4d, z4e, z4f, z4g, z4w, GW478.out, GE478.out, NB435_478.out, NB478_435.out, NB450_478.out, NB478_450.out, NB463_478.out, NB478_463.out, NB469_478.out, NB478_469.out, z4h⟩)
           }
           {
           skip
           refine box_step ?hg (N := 19) ?hd (cs := #[.string (⟨#[]⟩ : ByteArray), .string (⟨#[]⟩ : ByteArray), .int .i64 0, .bool false]) (t := 31) ?hr ?_; (case hd => rfl); (case hg => rfl); (case hr => first | (go_simp; done) | (go_simp; rfl))
           intro gb478 hg w106 hbox hb
           have HS0_ := (hb.cell (World.block_lt_of_cell? _ _ (hHeld.1))).trans (hHeld.1)
           have HS1_ := (hb.cell (World.block_lt_of_cell? _ _ (hHeld.2.1))).trans (hHeld.2.1)
           have HS2_ := (hb.cell (World.block_lt_of_cell? _ _ (hHeld.2.2.1))).trans (hHeld.2.2.1)
           have HS3_ := (hb.cell (World.block_lt_of_cell? _ _ (hHeld.2.2.2.1))).trans (hHeld.2.2.2.1)
           have HS4_ := (hb.cell (World.block_lt_of_cell? _ _ (hHeld.2.2.2.2.1))).trans (hHeld.2.2.2.2.1)
           have HS5_ := (hb.cell (World.block_lt_of_cell? _ _ (hHeld.2.2.2.2.2.1))).trans (hHeld.2.2.2.2.2.1)
           have HS6_ := (hb.cell (World.block_lt_of_cell? _ _ (hHeld.2.2.2.2.2.2.1))).trans (hHeld.2.2.2.2.2.2.1)
           have HS7_ := (hb.cell (World.block_lt_of_cell? _ _ (hHeld.2.2.2.2.2.2.2))).trans (hHeld.2.2.2.2.2.2.2)
           have n0_ := Aside0.mk (Kd.R_below (Kd.R_elderB z4j gb478 (Nat.le_of_eq hg.symm)) hb)
           have n1_ := Aside0.mk (Kd.R_below (Kd.R_elderB z4k gb478 (Nat.le_of_eq hg.symm)) hb)
           have n2_ := Aside0.mk (blk_below (g := gb435) (o := .cells #[.string t431, .string t432, .int .i64 t433, .bool t434] 31 (0, 0)) z4d hb)
           have n3_ := Aside0.mk (blk_below (g := gb450) (o := .cells #[.string t445, .string t446, .int .i64 t447, .bool t448] 31 (0, 0)) z4e hb)
           have n4_ := Aside0.mk (blk_below (g := gb463) (o := .cells #[.string t458, .string t459, .int .i64 t460, .bool t461] 31 (0, 0)) z4f hb)
           have n5_ := Aside0.mk (blk_below (g := gb469) (o := .cells #[.string t464, .string t465, .int .i64 t466, .bool t467] 31 (0, 0)) z4g hb)
           have n6_ := Aside0.mk (below_step z4c hb)
           have n7_ := Aside0.mk (hbox)
           have n8_ := Aside0.mk ((by rw [hg]; exact (below_size z4c) : w.heap.size ≤ gb478))
           have n9_ := Aside0.mk ((by rw [hg]; exact (below_size z4c) : w.heap.size ≤ gb478))
           have n10_ := Aside0.mk ((by rw [hg]; exact Nat.ne_of_lt (blk_lt (g := gb435) (o := .cells #[.string t431, .string t432, .int .i64 t433, .bool t434] 31 (0, 0)) z4d) : gb435 ≠ gb478))
           have n11_ := Aside0.mk ((by rw [hg]; exact Nat.ne_of_gt (blk_lt (g := gb435) (o := .cells #[.string t431, .string t432, .int .i64 t433, .bool t434] 31 (0, 0)) z4d) : gb478 ≠ gb435))
           have n12_ := Aside0.mk ((by rw [hg]; exact Nat.ne_of_lt (blk_lt (g := gb450) (o := .cells #[.string t445, .string t446, .int .i64 t447, .bool t448] 31 (0, 0)) z4e) : gb450 ≠ gb478))
           have n13_ := Aside0.mk ((by rw [hg]; exact Nat.ne_of_gt (blk_lt (g := gb450) (o := .cells #[.string t445, .string t446, .int .i64 t447, .bool t448] 31 (0, 0)) z4e) : gb478 ≠ gb450))
           have n14_ := Aside0.mk ((by rw [hg]; exact Nat.ne_of_lt (blk_lt (g := gb463) (o := .cells #[.string t458, .string t459, .int .i64 t460, .bool t461] 31 (0, 0)) z4f) : gb463 ≠ gb478))
           have n15_ := Aside0.mk ((by rw [hg]; exact Nat.ne_of_gt (blk_lt (g := gb463) (o := .cells #[.string t458, .string t459, .int .i64 t460, .bool t461] 31 (0, 0)) z4f) : gb478 ≠ gb463))
           have n16_ := Aside0.mk ((by rw [hg]; exact Nat.ne_of_lt (blk_lt (g := gb469) (o := .cells #[.string t464, .string t465, .int .i64 t466, .bool t467] 31 (0, 0)) z4g) : gb469 ≠ gb478))
           have n17_ := Aside0.mk ((by rw [hg]; exact Nat.ne_of_gt (blk_lt (g := gb469) (o := .cells #[.string t464, .string t465, .int .i64 t466, .bool t467] 31 (0, 0)) z4g) : gb478 ≠ gb469))
           clear HO_3
           clear HO_5
           clear BK435
           clear BK450
           clear BK463
           clear BK469
           clear HB
           have HO_3 := n0_
           have HO_5 := n1_
           have BK435 := n2_
           have BK450 := n3_
           have BK463 := n4_
           have BK469 := n5_
           have HB := n6_
           have BK478 := n7_
           have GW478 := n8_
           have GE478 := n9_
           have NB435_478 := n10_
           have NB478_435 := n11_
           have NB450_478 := n12_
           have NB478_450 := n13_
           have NB463_478 := n14_
           have NB478_463 := n15_
           have NB469_478 := n16_
           have NB478_469 := n17_
           clear n0_ n1_ n2_ n3_ n4_ n5_ n6_ n7_ n8_ n9_ n10_ n11_ n12_ n13_ n14_ n15_ n16_ n17_
           clear hb hbox hg
           refine hK.out _ _ ⟨HS0_, HS1_, HS2_, HS3_, HS4_, HS5_, HS6_, HS7_⟩ (fun hHeld => ?_)
           clear hK K
           refine norm_ (a' := ?_) ?_ ?_
           rotate_left
           {
           show Act.put _ (some 19) _ = _
           simp only [Act.put, List.setIfInBounds_toArray, List.set_cons_zero, List.set_cons_succ, i64_w, i32_w]
           rfl
           }
           refine one_ (i := 11) (N := some 149) #[Y, Y, Y, Y, Y, Y, Y, Y, Y, Y, Y, Y, X, X, X, Y, X, X] rfl rfl (one_of HT_.out (by kernel_rfl)) (by decide) (fun K hK => ?_)
           refine goes_ Try.func24 (by kernel_rfl) rfl #[.slice Ao65 t436.length co65, .string ((rd_T31 t428 x18_5).f0), .int .i64 ((rd_T31 t428 x18_5).f2)] (by rfl) rfl rfl z4i ?_
           with_reducible refine (impl_Seen.calls k5 _ _ t436 ((rd_T31 t428 x18_5).f0) ((rd_T31 t428 x18_5).f2) t473 t474 t475 t476 true _ ?side1 ?side2 A102.out).mono ?_
           (case side1 => exact z4o)
           (case side2 => exact (Kd.R_reads' HO_5.out).2.1)
           rintro e w107 ⟨rfl, hb⟩
           have HS0_ := (hb.cell (World.block_lt_of_cell? _ _ (hHeld.1))).trans (hHeld.1)
           have HS1_ := (hb.cell (World.block_lt_of_cell? _ _ (hHeld.2.1))).trans (hHeld.2.1)
           have HS2_ := (hb.cell (World.block_lt_of_cell? _ _ (hHeld.2.2.1))).trans (hHeld.2.2.1)
           have HS3_ := (hb.cell (World.block_lt_of_cell? _ _ (hHeld.2.2.2.1))).trans (hHeld.2.2.2.1)
           have HS4_ := (hb.cell (World.block_lt_of_cell? _ _ (hHeld.2.2.2.2.1))).trans (hHeld.2.2.2.2.1)
           have HS5_ := (hb.cell (World.block_lt_of_cell? _ _ (hHeld.2.2.2.2.2.1))).trans (hHeld.2.2.2.2.2.1)
           have HS6_ := (hb.cell (World.block_lt_of_cell? _ _ (hHeld.2.2.2.2.2.2.1))).trans (hHeld.2.2.2.2.2.2.1)
           have HS7_ := (hb.cell (World.block_lt_of_cell? _ _ (hHeld.2.2.2.2.2.2.2))).trans (hHeld.2.2.2.2.2.2.2)
           refine ⟨_, rfl, ?_⟩
           have n0_ := Aside0.mk (Kd.R_below z4j hb)
           have n1_ := Aside0.mk (Kd.R_below z4k hb)
           have n2_ := Aside0.mk (blk_below (g := gb435) (o := .cells #[.string t431, .string t432, .int .i64 t433, .bool t434] 31 (0, 0)) z4d hb)
           have n3_ := Aside0.mk (blk_below (g := gb450) (o := .cells #[.string t445, .string t446, .int .i64 t447, .bool t448] 31 (0, 0)) z4e hb)
           have n4_ := Aside0.mk (blk_below (g := gb463) (o := .cells #[.string t458, .string t459, .int .i64 t460, .bool t461] 31 (0, 0)) z4f hb)
           have n5_ := Aside0.mk (blk_below (g := gb469) (o := .cells #[.string t464, .string t465, .int .i64 t466, .bool t467] 31 (0, 0)) z4g hb)
           have n6_ := Aside0.mk (blk_below (g := gb478) (o := .cells #[.string (⟨#[]⟩ : ByteArray), .string (⟨#[]⟩ : ByteArray), .int .i64 0, .bool false] 31 (0, 0)) z4w hb)
           have n7_ := Aside0.mk (below_step z4h hb)
           clear HO_3
           clear HO_5
           clear BK435
           clear BK450
           clear BK463
           clear BK469
           clear BK478
           clear HB
           have HO_3 := n0_
           have HO_5 := n1_
           have BK435 := n2_
           have BK450 := n3_
           have BK463 := n4_
           have BK469 := n5_
           have BK478 := n6_
           have HB := n7_
           clear n0_ n1_ n2_ n3_ n4_ n5_ n6_ n7_
           (try clear hb)
           (try clear hb2)
           (try clear hk)
           (try clear hi)
           refine hK.out _ _ ⟨HS0_, HS1_, HS2_, HS3_, HS4_, HS5_, HS6_, HS7_⟩ (fun hHeld => ?_)
           clear hK K
           refine norm_ (a' := ?_) ?_ ?_
           rotate_left
           {
           show Act.put _ (some 149) _ = _
           simp only [Act.put, List.setIfInBounds_toArray, List.set_cons_zero, List.set_cons_succ, i64_w, i32_w]
           rfl
           }
           refine pure_ (i := 12) (N := some 137) (v := _) (a' := _) #[Y, Y, Y, Y, Y, Y, Y, Y, Y, Y, Y, Y, Y, X, X, Y, X, X] rfl rfl (any_of HT_.out (by kernel_rfl)) (fun _ _ _ h => h) (Or.inl ⟨by rfl, (by intro w'; go_simp; with_reducible rfl)⟩) z4b ?_
           refine pure_ (i := 13) (N := some 150) (v := _) (a' := _) #[Y, Y, Y, Y, Y, Y, Y, Y, Y, Y, Y, Y, Y, Y, X, Y, X, X] rfl rfl (any_of HT_.out (by kernel_rfl)) (fun _ _ _ h => h) (Or.inl ⟨by rfl, (by intro w'; go_simp; with_reducible rfl)⟩) z4b ?_
           refine pure_ (i := 14) (N := some 151) (v := _) (a' := _) #[Y, Y, Y, Y, Y, Y, Y, Y, Y, Y, Y, Y, Y, Y, Y, Y, X, X] rfl rfl (any_of HT_.out (by kernel_rfl)) (fun _ _ _ h => h) (Or.inl ⟨by rfl, (by intro w'; go_simp; with_reducible rfl)⟩) z4b ?_
           exact norm_ z4i1 (hCont (gb478) _ ⟨hHeld, z4p, z4q, z4d, z4e, z4f, z4g, z4w, GW478.out, GE478.out, NB435_478.out, NB478_435.out, NB450_478.out, NB478_450.out, NB463_478.out, NB478_463.out, NB469_478.out, NB478_469.out, z4h⟩)
           }
           }
           rintro gb478 w108 ⟨hS_, h0_, h1_, h2_, h3_, h4_, h5_, h6_, h7_, h8_, h9_, h10_, h11_, h12_, h13_, h14_, h15_, h16_, h17_⟩
           have n0_ : Aside0 (Kd.R k31 31 w108 w.heap.size (fun k_ => some k_ ≠ (.slice Ao65 t436.length co65 : Value).ownBlock ∧ k_ ≠ gb435 ∧ k_ ≠ gb450 ∧ k_ ≠ gb463 ∧ k_ ≠ gb469 ∧ k_ ≠ gb478) (.slice (some ad471) t428.length co13) t428) := ⟨h0_⟩
           have n1_ : Aside0 (Kd.R k31 31 w108 w.heap.size (fun k_ => some k_ ≠ (.slice (some ad471) t428.length co13 : Value).ownBlock ∧ k_ ≠ gb435 ∧ k_ ≠ gb450 ∧ k_ ≠ gb463 ∧ k_ ≠ gb469 ∧ k_ ≠ gb478) (.slice Ao65 t436.length co65) t436) := ⟨h1_⟩
           have n2_ : Aside0 (w108.heap[gb435]? = some (.cells #[.string t431, .string t432, .int .i64 t433, .bool t434] 31 (0, 0))) := ⟨h2_⟩
           have n3_ : Aside0 (w108.heap[gb450]? = some (.cells #[.string t445, .string t446, .int .i64 t447, .bool t448] 31 (0, 0))) := ⟨h3_⟩
           have n4_ : Aside0 (w108.heap[gb463]? = some (.cells #[.string t458, .string t459, .int .i64 t460, .bool t461] 31 (0, 0))) := ⟨h4_⟩
           have n5_ : Aside0 (w108.heap[gb469]? = some (.cells #[.string t464, .string t465, .int .i64 t466, .bool t467] 31 (0, 0))) := ⟨h5_⟩
           have n6_ : Aside0 (w108.heap[gb478]? = some (.cells #[.string (⟨#[]⟩ : ByteArray), .string (⟨#[]⟩ : ByteArray), .int .i64 0, .bool false] 31 (0, 0))) := ⟨h6_⟩
           have n7_ : Aside0 (w.heap.size ≤ gb478) := ⟨h7_⟩
           have n8_ : Aside0 (w.heap.size ≤ gb478) := ⟨h8_⟩
           have n9_ : Aside0 (gb435 ≠ gb478) := ⟨h9_⟩
           have n10_ : Aside0 (gb478 ≠ gb435) := ⟨h10_⟩
           have n11_ : Aside0 (gb450 ≠ gb478) := ⟨h11_⟩
           have n12_ : Aside0 (gb478 ≠ gb450) := ⟨h12_⟩
           have n13_ : Aside0 (gb463 ≠ gb478) := ⟨h13_⟩
           have n14_ : Aside0 (gb478 ≠ gb463) := ⟨h14_⟩
           have n15_ : Aside0 (gb469 ≠ gb478) := ⟨h15_⟩
           have n16_ : Aside0 (gb478 ≠ gb469) := ⟨h16_⟩
           have n17_ : Aside0 (Below w.heap.size w w108) := ⟨h17_⟩
           clear HO_3
           clear HO_5
           clear BK435
           clear BK450
           clear BK463
           clear BK469
           clear HB
           clear h0_ h1_ h2_ h3_ h4_ h5_ h6_ h7_ h8_ h9_ h10_ h11_ h12_ h13_ h14_ h15_ h16_ h17_
           have HO_3 := n0_
           have HO_5 := n1_
           have BK435 := n2_
           have BK450 := n3_
           have BK463 := n4_
           have BK469 := n5_
           have BK478 := n6_
           have GW478 := n7_
           have GE478 := n8_
           have NB435_478 := n9_
           have NB478_435 := n10_
           have NB450_478 := n11_
           have NB478_450 := n12_
           have NB463_478 := n13_
           have NB478_463 := n14_
           have NB469_478 := n15_
           have NB478_469 := n16_
           have HB := n17_
           clear n0_ n1_ n2_ n3_ n4_ n5_ n6_ n7_ n8_ n9_ n10_ n11_ n12_ n13_ n14_ n15_ n16_ n17_
           have hHeld : w108.cell? (ad471.add ((x18_5).toNat * 4)) = some (.string ((rd_T31 t428 x18_5).f0)) ∧ w108.cell? ⟨(ad471.add ((x18_5).toNat * 4)).block, (ad471.add ((x18_5).toNat * 4)).off + 1, none⟩ = some (.string ((rd_T31 t428 x18_5).f1)) ∧ w108.cell? ⟨(ad471.add ((x18_5).toNat * 4)).block, (ad471.add ((x18_5).toNat * 4)).off + 2, none⟩ = some (.int .i64 ((rd_T31 t428 x18_5).f2)) ∧ w108.cell? ⟨(ad471.add ((x18_5).toNat * 4)).block, (ad471.add ((x18_5).toNat * 4)).off + 3, none⟩ = some (.bool ((rd_T31 t428 x18_5).f3)) ∧ w108.cell? (ad471.add ((x18_5).toNat * 4)) = some (.string ((rd_T31 t428 x18_5).f0)) ∧ w108.cell? ⟨(ad471.add ((x18_5).toNat * 4)).block, (ad471.add ((x18_5).toNat * 4)).off + 1, none⟩ = some (.string ((rd_T31 t428 x18_5).f1)) ∧ w108.cell? ⟨(ad471.add ((x18_5).toNat * 4)).block, (ad471.add ((x18_5).toNat * 4)).off + 2, none⟩ = some (.int .i64 ((rd_T31 t428 x18_5).f2)) ∧ w108.cell? ⟨(ad471.add ((x18_5).toNat * 4)).block, (ad471.add ((x18_5).toNat * 4)).off + 3, none⟩ = some (.bool ((rd_T31 t428 x18_5).f3)) := hS_
           refine norm_ (a' := ?_) ?_ ?_
           rotate_left
           exact (by simp only [putAll, Act.put, List.setIfInBounds_toArray, List.set_cons_zero, List.set_cons_succ]; rfl)
           refine one_ (i := 16) (N := none) #[Y, Y, Y, Y, Y, Y, Y, Y, Y, Y, Y, Y, Y, Y, Y, Y, Y, X] rfl rfl (one_of HT_.out (by kernel_rfl)) (by decide) (fun K hK => ?_)
           have hs109 : w108.cell? ⟨gb478, 0, none⟩ = some (.string (⟨#[]⟩ : ByteArray)) := (blk_cell BK478.out 0).trans rfl
           have hfs109 := blk_frozen BK478.out 0
           have hns109_0 := NB435_478.out
           have hns109_1 := NB450_478.out
           have hns109_2 := NB463_478.out
           have hns109_3 := NB469_478.out
           have hms109_0 := NB478_435.out
           have hms109_1 := NB478_450.out
           have hms109_2 := NB478_463.out
           have hms109_3 := NB478_469.out
           have hs110 : w108.cell? ⟨gb478, 1, none⟩ = some (.string (⟨#[]⟩ : ByteArray)) := (blk_cell BK478.out 1).trans rfl
           have hfs110 := blk_frozen BK478.out 1
           have hns110_0 := NB435_478.out
           have hns110_1 := NB450_478.out
           have hns110_2 := NB463_478.out
           have hns110_3 := NB469_478.out
           have hms110_0 := NB478_435.out
           have hms110_1 := NB478_450.out
           have hms110_2 := NB478_463.out
           have hms110_3 := NB478_469.out
           have hs111 : w108.cell? ⟨gb478, 2, none⟩ = some (.int .i64 0) := (blk_cell BK478.out 2).trans rfl
           have hfs111 := blk_frozen BK478.out 2
           have hns111_0 := NB435_478.out
           have hns111_1 := NB450_478.out
           have hns111_2 := NB463_478.out
           have hns111_3 := NB469_478.out
           have hms111_0 := NB478_435.out
           have hms111_1 := NB478_450.out
           have hms111_2 := NB478_463.out
           have hms111_3 := NB478_469.out
           have hs112 : w108.cell? ⟨gb478, 3, none⟩ = some (.bool false) := (blk_cell BK478.out 3).trans rfl
           have hfs112 := blk_frozen BK478.out 3
           have hns112_0 := NB435_478.out
           have hns112_1 := NB450_478.out
           have hns112_2 := NB463_478.out
           have hns112_3 := NB469_478.out
           have hms112_0 := NB478_435.out
           have hms112_1 := NB478_450.out
           have hms112_2 := NB478_463.out
           have hms112_3 := NB478_469.out
           refine skip_ (w1 := ?_) (by rfl) rfl ?_ ?_
           rotate_left
           {
           go_simp
           rfl
           }
           refine hK.out _ _ ⟨((cell_far (p := ⟨gb478, _, none⟩) z4a _).trans (((cell_far (p := ⟨gb478, _, none⟩) z4a _).trans (((cell_far (p := ⟨gb478, _, none⟩) z4a _).trans (((cell_far (p := ⟨gb478, _, none⟩) z4a _).trans (hHeld.1)))))))), ((cell_far (p := ⟨gb478, _, none⟩) z4a _).trans (((cell_far (p := ⟨gb478, _, none⟩) z4a _).trans (((cell_far (p := ⟨gb478, _, none⟩) z4a _).trans (((cell_far (p := ⟨gb478, _, none⟩) z4a _).trans (hHeld.2.1)))))))), ((cell_far (p := ⟨gb478, _, none⟩) z4a _).trans (((cell_far (p := ⟨gb478, _, none⟩) z4a _).trans (((cell_far (p := ⟨gb478, _, none⟩) z4a _).trans (((cell_far (p := ⟨gb478, _, none⟩) z4a _).trans (hHeld.2.2.1)))))))), ((cell_far (p := ⟨gb478, _, none⟩) z4a _).trans (((cell_far (p := ⟨gb478, _, none⟩) z4a _).trans (((cell_far (p := ⟨gb478, _, none⟩) z4a _).trans (((cell_far (p := ⟨gb478, _, none⟩) z4a _).trans (hHeld.2.2.2.1)))))))), ((cell_far (p := ⟨gb478, _, none⟩) z4a _).trans (((cell_far (p := ⟨gb478, _, none⟩) z4a _).trans (((cell_far (p := ⟨gb478, _, none⟩) z4a _).trans (((cell_far (p := ⟨gb478, _, none⟩) z4a _).trans (hHeld.2.2.2.2.1)))))))), ((cell_far (p := ⟨gb478, _, none⟩) z4a _).trans (((cell_far (p := ⟨gb478, _, none⟩) z4a _).trans (((cell_far (p := ⟨gb478, _, none⟩) z4a _).trans (((cell_far (p := ⟨gb478, _, none⟩) z4a _).trans (hHeld.2.2.2.2.2.1)))))))), ((cell_far (p := ⟨gb478, _, none⟩) z4a _).trans (((cell_far (p := ⟨gb478, _, none⟩) z4a _).trans (((cell_far (p := ⟨gb478, _, none⟩) z4a _).trans (((cell_far (p := ⟨gb478, _, none⟩) z4a _).trans (hHeld.2.2.2.2.2.2.1)))))))), ((cell_far (p := ⟨gb478, _, none⟩) z4a _).trans (((cell_far (p := ⟨gb478, _, none⟩) z4a _).trans (((cell_far (p := ⟨gb478, _, none⟩) z4a _).trans (((cell_far (p := ⟨gb478, _, none⟩) z4a _).trans (hHeld.2.2.2.2.2.2.2))))))))⟩ (fun hHeld => ?_)
           clear hK K
           refine pure_ (i := 17) (N := some 20) (v := _) (a' := _) #[Y, Y, Y, Y, Y, Y, Y, Y, Y, Y, Y, Y, Y, Y, Y, Y, Y, Y] rfl rfl (any_of HT_.out (by kernel_rfl)) (fun _ _ _ h => h) (Or.inl ⟨by rfl, (by intro w'; go_simp; with_reducible rfl)⟩) z4b ?_
           refine done_ (done_of HT_.out (by kernel_rfl)) ?_
           try go_wp2
           have n0_ : Aside0 (Kd.R k31 31 ((((w108.setCell ⟨gb478, 0, none⟩ (.string t473)).setCell ⟨gb478, 1, none⟩ (.string t474)).setCell ⟨gb478, 2, none⟩ (.int .i64 t475)).setCell ⟨gb478, 3, none⟩ (.bool t476)) w.heap.size (fun k_ => some k_ ≠ (.slice Ao65 t436.length co65 : Value).ownBlock ∧ k_ ≠ gb435 ∧ k_ ≠ gb450 ∧ k_ ≠ gb463 ∧ k_ ≠ gb469 ∧ k_ ≠ gb478) (.slice (some ad471) t428.length co13) t428) := ⟨by (with_reducible repeat (first | apply Kd.R_alloc | apply Kd.R_drewN | apply Kd.R_drew)); exact Kd.R_mono (Kd.R_far (p := ⟨gb478, 3, none⟩) (Kd.R_far (p := ⟨gb478, 2, none⟩) (Kd.R_far (p := ⟨gb478, 1, none⟩) (Kd.R_far (p := ⟨gb478, 0, none⟩) (Kd.R_mono HO_3.out (fun k_ hk => (⟨hk, hk.2.2.2.2.2⟩ : _ ∧ k_ ≠ gb478))) (fun _ hk => hk.2) (.string t473)) (fun _ hk => hk.2) (.string t474)) (fun _ hk => hk.2) (.int .i64 t475)) (fun _ hk => hk.2) (.bool t476)) (fun _ hk => ⟨hk.1.1, ⟨hk.1.2.1, ⟨hk.1.2.2.1, ⟨hk.1.2.2.2.1, ⟨hk.1.2.2.2.2.1, hk.1.2.2.2.2.2⟩⟩⟩⟩⟩)⟩
           have n1_ : Aside0 (Kd.R k31 31 ((((w108.setCell ⟨gb478, 0, none⟩ (.string t473)).setCell ⟨gb478, 1, none⟩ (.string t474)).setCell ⟨gb478, 2, none⟩ (.int .i64 t475)).setCell ⟨gb478, 3, none⟩ (.bool t476)) w.heap.size (fun k_ => some k_ ≠ (.slice (some ad471) t428.length co13 : Value).ownBlock ∧ k_ ≠ gb435 ∧ k_ ≠ gb450 ∧ k_ ≠ gb463 ∧ k_ ≠ gb469 ∧ k_ ≠ gb478) (.slice Ao65 t436.length co65) t436) := ⟨by (with_reducible repeat (first | apply Kd.R_alloc | apply Kd.R_drewN | apply Kd.R_drew)); exact Kd.R_mono (Kd.R_far (p := ⟨gb478, 3, none⟩) (Kd.R_far (p := ⟨gb478, 2, none⟩) (Kd.R_far (p := ⟨gb478, 1, none⟩) (Kd.R_far (p := ⟨gb478, 0, none⟩) (Kd.R_mono HO_5.out (fun k_ hk => (⟨hk, hk.2.2.2.2.2⟩ : _ ∧ k_ ≠ gb478))) (fun _ hk => hk.2) (.string t473)) (fun _ hk => hk.2) (.string t474)) (fun _ hk => hk.2) (.int .i64 t475)) (fun _ hk => hk.2) (.bool t476)) (fun _ hk => ⟨hk.1.1, ⟨hk.1.2.1, ⟨hk.1.2.2.1, ⟨hk.1.2.2.2.1, ⟨hk.1.2.2.2.2.1, hk.1.2.2.2.2.2⟩⟩⟩⟩⟩)⟩
           have n2_ : Aside0 (((((w108.setCell ⟨gb478, 0, none⟩ (.string t473)).setCell ⟨gb478, 1, none⟩ (.string t474)).setCell ⟨gb478, 2, none⟩ (.int .i64 t475)).setCell ⟨gb478, 3, none⟩ (.bool t476)).heap[gb435]? = some (.cells #[.string t431, .string t432, .int .i64 t433, .bool t434] 31 (0, 0))) := ⟨by (with_reducible repeat (first | refine blk_drewN ?_ _ | refine blk_drew ?_ | refine blk_alloc ?_ _)); refine blk_far ?_ NB435_478.out _; (with_reducible repeat (first | refine blk_drewN ?_ _ | refine blk_drew ?_ | refine blk_alloc ?_ _)); refine blk_far ?_ NB435_478.out _; (with_reducible repeat (first | refine blk_drewN ?_ _ | refine blk_drew ?_ | refine blk_alloc ?_ _)); refine blk_far ?_ NB435_478.out _; (with_reducible repeat (first | refine blk_drewN ?_ _ | refine blk_drew ?_ | refine blk_alloc ?_ _)); refine blk_far ?_ NB435_478.out _; (with_reducible repeat (first | refine blk_drewN ?_ _ | refine blk_drew ?_ | refine blk_alloc ?_ _)); exact BK435.out⟩
           have n3_ : Aside0 (((((w108.setCell ⟨gb478, 0, none⟩ (.string t473)).setCell ⟨gb478, 1, none⟩ (.string t474)).setCell ⟨gb478, 2, none⟩ (.int .i64 t475)).setCell ⟨gb478, 3, none⟩ (.bool t476)).heap[gb450]? = some (.cells #[.string t445, .string t446, .int .i64 t447, .bool t448] 31 (0, 0))) := ⟨by (with_reducible repeat (first | refine blk_drewN ?_ _ | refine blk_drew ?_ | refine blk_alloc ?_ _)); refine blk_far ?_ NB450_478.out _; (with_reducible repeat (first | refine blk_drewN ?_ _ | refine blk_drew ?_ | refine blk_alloc ?_ _)); refine blk_far ?_ NB450_478.out _; (with_reducible repeat (first | refine blk_drewN ?_ _ | refine blk_drew ?_ | refine blk_alloc ?_ _)); refine blk_far ?_ NB450_478.out _; (with_reducible repeat (first | refine blk_drewN ?_ _ | refine blk_drew ?_ | refine blk_alloc ?_ _)); refine blk_far ?_ NB450_478.out _; (with_reducible repeat (first | refine blk_drewN ?_ _ | refine blk_drew ?_ | refine blk_alloc ?_ _)); exact BK450.out⟩
           have n4_ : Aside0 (((((w108.setCell ⟨gb478, 0, none⟩ (.string t473)).setCell ⟨gb478, 1, none⟩ (.string t474)).setCell ⟨gb478, 2, none⟩ (.int .i64 t475)).setCell ⟨gb478, 3, none⟩ (.bool t476)).heap[gb463]? = some (.cells #[.string t458, .string t459, .int .i64 t460, .bool t461] 31 (0, 0))) := ⟨by (with_reducible repeat (first | refine blk_drewN ?_ _ | refine blk_drew ?_ | refine blk_alloc ?_ _)); refine blk_far ?_ NB463_478.out _; (with_reducible repeat (first | refine blk_drewN ?_ _ | refine blk_drew ?_ | refine blk_alloc ?_ _)); refine blk_far ?_ NB463_478.out _; (with_reducible repeat (first | refine blk_drewN ?_ _ | refine blk_drew ?_ | refine blk_alloc ?_ _)); refine blk_far ?_ NB463_478.out _; (with_reducible repeat (first | refine blk_drewN ?_ _ | refine blk_drew ?_ | refine blk_alloc ?_ _)); refine blk_far ?_ NB463_478.out _; (with_reducible repeat (first | refine blk_drewN ?_ _ | refine blk_drew ?_ | refine blk_alloc ?_ _)); exact BK463.out⟩
           have n5_ : Aside0 (((((w108.setCell ⟨gb478, 0, none⟩ (.string t473)).setCell ⟨gb478, 1, none⟩ (.string t474)).setCell ⟨gb478, 2, none⟩ (.int .i64 t475)).setCell ⟨gb478, 3, none⟩ (.bool t476)).heap[gb469]? = some (.cells #[.string t464, .string t465, .int .i64 t466, .bool t467] 31 (0, 0))) := ⟨by (with_reducible repeat (first | refine blk_drewN ?_ _ | refine blk_drew ?_ | refine blk_alloc ?_ _)); refine blk_far ?_ NB469_478.out _; (with_reducible repeat (first | refine blk_drewN ?_ _ | refine blk_drew ?_ | refine blk_alloc ?_ _)); refine blk_far ?_ NB469_478.out _; (with_reducible repeat (first | refine blk_drewN ?_ _ | refine blk_drew ?_ | refine blk_alloc ?_ _)); refine blk_far ?_ NB469_478.out _; (with_reducible repeat (first | refine blk_drewN ?_ _ | refine blk_drew ?_ | refine blk_alloc ?_ _)); refine blk_far ?_ NB469_478.out _; (with_reducible repeat (first | refine blk_drewN ?_ _ | refine blk_drew ?_ | refine blk_alloc ?_ _)); exact BK469.out⟩
           have n6_ : Aside0 (((((w108.setCell ⟨gb478, 0, none⟩ (.string t473)).setCell ⟨gb478, 1, none⟩ (.string t474)).setCell ⟨gb478, 2, none⟩ (.int .i64 t475)).setCell ⟨gb478, 3, none⟩ (.bool t476)).heap[gb478]? = some (.cells #[.string t473, .string t474, .int .i64 t475, .bool t476] 31 (0, 0))) := ⟨by (with_reducible repeat (first | refine blk_drewN ?_ _ | refine blk_drew ?_ | refine blk_alloc ?_ _)); refine blk_put (cs := #[.string t473, .string t474, .int .i64 t475, .bool false]) ?_ 3 _ rfl; (with_reducible repeat (first | refine blk_drewN ?_ _ | refine blk_drew ?_ | refine blk_alloc ?_ _)); refine blk_put (cs := #[.string t473, .string t474, .int .i64 0, .bool false]) ?_ 2 _ rfl; (with_reducible repeat (first | refine blk_drewN ?_ _ | refine blk_drew ?_ | refine blk_alloc ?_ _)); refine blk_put (cs := #[.string t473, .string (⟨#[]⟩ : ByteArray), .int .i64 0, .bool false]) ?_ 1 _ rfl; (with_reducible repeat (first | refine blk_drewN ?_ _ | refine blk_drew ?_ | refine blk_alloc ?_ _)); refine blk_put (cs := #[.string (⟨#[]⟩ : ByteArray), .string (⟨#[]⟩ : ByteArray), .int .i64 0, .bool false]) ?_ 0 _ rfl; (with_reducible repeat (first | refine blk_drewN ?_ _ | refine blk_drew ?_ | refine blk_alloc ?_ _)); exact BK478.out⟩
           have n7_ : Aside0 (Below w.heap.size w ((((w108.setCell ⟨gb478, 0, none⟩ (.string t473)).setCell ⟨gb478, 1, none⟩ (.string t474)).setCell ⟨gb478, 2, none⟩ (.int .i64 t475)).setCell ⟨gb478, 3, none⟩ (.bool t476))) := ⟨by repeat (first | (with_reducible first | exact HB.out | apply below_alloc | apply pw_below_drewN | apply below_drew1 | refine below_set ?_ GE435.out | refine below_set ?_ GE450.out | refine below_set ?_ GE463.out | refine below_set ?_ GE469.out | refine below_set ?_ GE478.out) | exact HB.out)⟩
           (try clear HO_3)
           (try clear HO_5)
           (try clear BK435)
           (try clear BK450)
           (try clear BK463)
           (try clear BK469)
           (try clear BK478)
           (try clear HB)
           generalize ((((w108.setCell ⟨gb478, 0, none⟩ (.string t473)).setCell ⟨gb478, 1, none⟩ (.string t474)).setCell ⟨gb478, 2, none⟩ (.int .i64 t475)).setCell ⟨gb478, 3, none⟩ (.bool t476)) = w113 at n0_ n1_ n2_ n3_ n4_ n5_ n6_ n7_ ⊢
           have HO_3 := n0_
           have HO_5 := n1_
           have BK435 := n2_
           have BK450 := n3_
           have BK463 := n4_
           have BK469 := n5_
           have BK478 := n6_
           have HB := n7_
           clear n0_ n1_ n2_ n3_ n4_ n5_ n6_ n7_
           have n0_ := Aside0.mk (Kd.R_drew HO_3.out)
           have n1_ := Aside0.mk (Kd.R_drew HO_5.out)
           have n2_ := Aside0.mk (blk_drew BK435.out)
           have n3_ := Aside0.mk (blk_drew BK450.out)
           have n4_ := Aside0.mk (blk_drew BK463.out)
           have n5_ := Aside0.mk (blk_drew BK469.out)
           have n6_ := Aside0.mk (blk_drew BK478.out)
           have n7_ := Aside0.mk (below_drew1 HB.out)
           clear HO_3
           clear HO_5
           clear BK435
           clear BK450
           clear BK463
           clear BK469
           clear BK478
           clear HB
           have HO_3 := n0_
           have HO_5 := n1_
           have BK435 := n2_
           have BK450 := n3_
           have BK463 := n4_
           have BK469 := n5_
           have BK478 := n6_
           have HB := n7_
           clear n0_ n1_ n2_ n3_ n4_ n5_ n6_ n7_
           have p479 : 0 ≤ (x18_5 : Int) := of_decide_eq_true z4x
           have q479 : x18_5 < (t428.length : Int) := of_decide_eq_true z4x
           obtain ⟨ad479, e479, hx479_0, hx479_1, hx479_2, hx479_3⟩ := at_T31 (Kd.R_reads' HO_3.out).2.2 x18_5 p479 q479
           obtain rfl : ad471 = ad479 := (by injection e479)
           replace p479 := eq_true p479
           replace q479 := eq_true q479
           refine start_ (n := 10) (S := fun w' => w'.cell? ⟨gb478, 0, none⟩ = some (.string t473) ∧ w'.cell? ⟨gb478, 1, none⟩ = some (.string t474) ∧ w'.cell? ⟨gb478, 2, none⟩ = some (.int .i64 t475) ∧ w'.cell? ⟨gb478, 3, none⟩ = some (.bool t476) ∧ w'.cell? (ad471.add ((x18_5).toNat * 4)) = some (.string ((rd_T31 t428 x18_5).f0)) ∧ w'.cell? ⟨(ad471.add ((x18_5).toNat * 4)).block, (ad471.add ((x18_5).toNat * 4)).off + 1, none⟩ = some (.string ((rd_T31 t428 x18_5).f1)) ∧ w'.cell? ⟨(ad471.add ((x18_5).toNat * 4)).block, (ad471.add ((x18_5).toNat * 4)).off + 2, none⟩ = some (.int .i64 ((rd_T31 t428 x18_5).f2)) ∧ w'.cell? ⟨(ad471.add ((x18_5).toNat * 4)).block, (ad471.add ((x18_5).toNat * 4)).off + 3, none⟩ = some (.bool ((rd_T31 t428 x18_5).f3))) (ds := []) #[X, X, X, X, X, X, X, X, X, X] (by kernel_rfl) rfl rfl ⟨(blk_cell BK478.out 0).trans rfl, (blk_cell BK478.out 1).trans rfl, (blk_cell BK478.out 2).trans rfl, (blk_cell BK478.out 3).trans rfl, hx479_0, hx479_1, hx479_2, hx479_3⟩ (fun hHeld => ?_); refine with_tabW laws_FnPut.tab24 laws_FnPut.bits24 (fun HT_ HW_ => ?_)
           generalize w113.drew = w114 at HO_3 HO_5 BK435 BK450 BK463 BK469 BK478 HB hx479_0 hx479_1 hx479_2 hx479_3 hHeld ⊢
           refine pure_ (i := 0) (N := some 152) (v := _) (a' := _) #[Y, X, X, X, X, X, X, X, X, X] rfl rfl (any_of HT_.out (by kernel_rfl)) (fun _ _ _ h => h) (Or.inl ⟨by rfl, (by intro w'; go_simp; with_reducible rfl)⟩) z4b ?_
           refine pure_ (i := 1) (N := some 153) (v := _) (a' := _) #[Y, Y, X, X, X, X, X, X, X, X] rfl rfl (any_of HT_.out (by kernel_rfl)) (fun _ _ _ h => h) (Or.inl ⟨by rfl, (by intro w'; go_simp; with_reducible rfl)⟩) z4b ?_
           refine pure_ (i := 2) (N := some 154) (v := _) (a' := _) #[Y, Y, Y, X, X, X, X, X, X, X] rfl rfl (any_of HT_.out (by kernel_rfl)) (fun _ _ _ h => h) (Or.inl ⟨by rfl, (by intro w'; go_simp; with_reducible rfl)⟩) z4b ?_
           refine pure_ (i := 4) (N := some 156) (v := _) (a' := _) #[Y, Y, Y, X, Y, X, X, X, X, X] rfl rfl (any_of HT_.out (by kernel_rfl)) (fun _ _ _ h => h) (Or.inl ⟨by rfl, (by intro w'; go_simp; with_reducible rfl)⟩) z4b ?_
           refine pure_ (i := 5) (N := some 157) (v := _) (a' := _) #[Y, Y, Y, X, Y, Y, X, X, X, X] rfl rfl (any_of HT_.out (by kernel_rfl)) (fun _ _ _ h => h) (Or.inl ⟨by rfl, (by intro w'; go_simp; with_reducible rfl)⟩) z4b ?_
           refine pure_ (i := 6) (N := some 158) (v := _) (a' := _) #[Y, Y, Y, X, Y, Y, Y, X, X, X] rfl rfl (any_of HT_.out (by kernel_rfl)) (fun _ _ _ h => h) (Or.inl ⟨by rfl, (by intro w'; go_simp; with_reducible rfl)⟩) z4b ?_
           refine take_ (i := 3) (N := some 155) (v := _) (a' := _) #[Y, Y, Y, Y, Y, Y, Y, X, X, X] rfl rfl (take_ofW HT_.out HW_.out (by kernel_rfl)) (fun _ _ _ h => h) (Or.inl ⟨by rfl, z4d1⟩) hHeld z4b ?_
           refine take_ (i := 7) (N := some 159) (v := _) (a' := _) #[Y, Y, Y, Y, Y, Y, Y, Y, X, X] rfl rfl (take_ofW HT_.out HW_.out (by kernel_rfl)) (fun _ _ _ h => h) (Or.inl ⟨by rfl, z4d1⟩) hHeld z4b ?_
           refine pure_ (i := 8) (N := some 160) (v := _) (a' := _) #[Y, Y, Y, Y, Y, Y, Y, Y, Y, X] rfl rfl (any_of HT_.out (by kernel_rfl)) (fun _ _ _ h => h) (Or.inl ⟨by rfl, (by intro w'; go_simp; with_reducible rfl)⟩) z4b ?_
           refine pure_ (i := 9) (N := some 161) (v := _) (a' := _) #[Y, Y, Y, Y, Y, Y, Y, Y, Y, Y] rfl rfl (any_of HT_.out (by kernel_rfl)) (fun _ _ _ h => h) (Or.inl ⟨by rfl, (by intro w'; go_simp; with_reducible rfl)⟩) z4b ?_
           refine done_ (done_of HT_.out (by kernel_rfl)) ?_
           try go_wp2
           go_ret
           exact ⟨by first | rfl | (simp [errW_none, errW_some] <;> rfl) | (simp [*, errW_none, errW_some] <;> rfl), by repeat (first | (with_reducible first | exact HB.out | apply below_alloc | apply pw_below_drewN | apply below_drew1 | refine below_set ?_ GE435.out | refine below_set ?_ GE450.out | refine below_set ?_ GE463.out | refine below_set ?_ GE469.out | refine below_set ?_ GE478.out) | exact HB.out)⟩
           }
           {
           rw [if_neg c104] at H
           have c104b0 : (!(t473.toList == (((rd_T31 t428 x18_5).f0).toList)) || (!(t474.toList == (((rd_T31 t428 x18_5).f1).toList)) || (!(t475 == ((rd_T31 t428 x18_5).f2)) || (!(t476 == ((rd_T31 t428 x18_5).f3)))))) = false := by simpa using c104
           clear c104
           have H' := Aside0.mk H
           clear H
           try go_wp2
           have n0_ := Aside0.mk (Kd.R_drew HO_3.out)
           have n1_ := Aside0.mk (Kd.R_drew HO_5.out)
           have n2_ := Aside0.mk (blk_drew BK435.out)
           have n3_ := Aside0.mk (blk_drew BK450.out)
           have n4_ := Aside0.mk (blk_drew BK463.out)
           have n5_ := Aside0.mk (blk_drew BK469.out)
           have n6_ := Aside0.mk (below_drew1 HB.out)
           clear HO_3
           clear HO_5
           clear BK435
           clear BK450
           clear BK463
           clear BK469
           clear HB
           have HO_3 := n0_
           have HO_5 := n1_
           have BK435 := n2_
           have BK450 := n3_
           have BK463 := n4_
           have BK469 := n5_
           have HB := n6_
           clear n0_ n1_ n2_ n3_ n4_ n5_ n6_
           have p471 : 0 ≤ (x18_5 : Int) := of_decide_eq_true z4x
           have q471 : x18_5 < (t428.length : Int) := of_decide_eq_true z4x
           obtain ⟨ad471, e471, hx471_0, hx471_1, hx471_2, hx471_3⟩ := at_T31 (Kd.R_reads' HO_3.out).2.2 x18_5 p471 q471
           cases e471
           replace p471 := eq_true p471
           replace q471 := eq_true q471
           have p472 : 0 ≤ (x18_5 : Int) := of_decide_eq_true z4x
           have q472 : x18_5 < (t428.length : Int) := of_decide_eq_true z4x
           obtain ⟨ad472, e472, hx472_0, hx472_1, hx472_2, hx472_3⟩ := at_T31 (Kd.R_reads' HO_3.out).2.2 x18_5 p472 q472
           obtain rfl : ad471 = ad472 := (by injection e472)
           replace p472 := eq_true p472
           replace q472 := eq_true q472
           refine start_ (n := 18) (S := fun w' => w'.cell? (ad471.add ((x18_5).toNat * 4)) = some (.string ((rd_T31 t428 x18_5).f0)) ∧ w'.cell? ⟨(ad471.add ((x18_5).toNat * 4)).block, (ad471.add ((x18_5).toNat * 4)).off + 1, none⟩ = some (.string ((rd_T31 t428 x18_5).f1)) ∧ w'.cell? ⟨(ad471.add ((x18_5).toNat * 4)).block, (ad471.add ((x18_5).toNat * 4)).off + 2, none⟩ = some (.int .i64 ((rd_T31 t428 x18_5).f2)) ∧ w'.cell? ⟨(ad471.add ((x18_5).toNat * 4)).block, (ad471.add ((x18_5).toNat * 4)).off + 3, none⟩ = some (.bool ((rd_T31 t428 x18_5).f3)) ∧ w'.cell? (ad471.add ((x18_5).toNat * 4)) = some (.string ((rd_T31 t428 x18_5).f0)) ∧ w'.cell? ⟨(ad471.add ((x18_5).toNat * 4)).block, (ad471.add ((x18_5).toNat * 4)).off + 1, none⟩ = some (.string ((rd_T31 t428 x18_5).f1)) ∧ w'.cell? ⟨(ad471.add ((x18_5).toNat * 4)).block, (ad471.add ((x18_5).toNat * 4)).off + 2, none⟩ = some (.int .i64 ((rd_T31 t428 x18_5).f2)) ∧ w'.cell? ⟨(ad471.add ((x18_5).toNat * 4)).block, (ad471.add ((x18_5).toNat * 4)).off + 3, none⟩ = some (.bool ((rd_T31 t428 x18_5).f3))) (ds := []) #[X, X, X, X, X, X, X, X, X, X, X, X, X, X, X, X, X, X] (by kernel_rfl) rfl rfl ⟨hx471_0, hx471_1, hx471_2, hx471_3, hx472_0, hx472_1, hx472_2, hx472_3⟩ (fun hHeld => ?_); refine with_tabW laws_FnPut.tab23 laws_FnPut.bits23 (fun HT_ HW_ => ?_)
           generalize wr.drew = w115 at HO_3 HO_5 BK435 BK450 BK463 BK469 HB hx471_0 hx471_1 hx471_2 hx471_3 hx472_0 hx472_1 hx472_2 hx472_3 hHeld ⊢
           refine pure_ (i := 0) (N := some 138) (v := _) (a' := _) #[Y, X, X, X, X, X, X, X, X, X, X, X, X, X, X, X, X, X] rfl rfl (any_of HT_.out (by kernel_rfl)) (fun _ _ _ h => h) (Or.inl ⟨by rfl, (by intro w'; go_simp; with_reducible rfl)⟩) z4b ?_
           refine pure_ (i := 1) (N := some 139) (v := _) (a' := _) #[Y, Y, X, X, X, X, X, X, X, X, X, X, X, X, X, X, X, X] rfl rfl (any_of HT_.out (by kernel_rfl)) (fun _ _ _ h => h) (Or.inl ⟨by rfl, (by intro w'; go_simp; with_reducible rfl)⟩) z4b ?_
           refine pure_ (i := 2) (N := some 140) (v := _) (a' := _) #[Y, Y, Y, X, X, X, X, X, X, X, X, X, X, X, X, X, X, X] rfl rfl (any_of HT_.out (by kernel_rfl)) (fun _ _ _ h => h) (Or.inl ⟨by rfl, (by intro w'; go_simp; with_reducible rfl)⟩) z4b ?_
           refine pure_ (i := 3) (N := some 141) (v := _) (a' := _) #[Y, Y, Y, Y, X, X, X, X, X, X, X, X, X, X, X, X, X, X] rfl rfl (any_of HT_.out (by kernel_rfl)) (fun _ _ _ h => h) (Or.inl ⟨by rfl, (by intro w'; go_simp; with_reducible rfl)⟩) z4b ?_
           refine pure_ (i := 4) (N := some 142) (v := _) (a' := _) #[Y, Y, Y, Y, Y, X, X, X, X, X, X, X, X, X, X, X, X, X] rfl rfl (any_of HT_.out (by kernel_rfl)) (fun _ _ _ h => h) (Or.inl ⟨by rfl, (by intro w'; go_simp; with_reducible rfl)⟩) z4b ?_
           refine pure_ (i := 6) (N := some 144) (v := _) (a' := _) #[Y, Y, Y, Y, Y, X, Y, X, X, X, X, X, X, X, X, X, X, X] rfl rfl (any_of HT_.out (by kernel_rfl)) (fun _ _ _ h => h) (Or.inl ⟨by rfl, (by intro w'; go_simp; with_reducible rfl)⟩) z4b ?_
           refine pure_ (i := 7) (N := some 145) (v := _) (a' := _) #[Y, Y, Y, Y, Y, X, Y, Y, X, X, X, X, X, X, X, X, X, X] rfl rfl (any_of HT_.out (by kernel_rfl)) (fun _ _ _ h => h) (Or.inl ⟨by rfl, (by intro w'; go_simp; with_reducible rfl)⟩) z4b ?_
           refine pure_ (i := 8) (N := some 146) (v := _) (a' := _) #[Y, Y, Y, Y, Y, X, Y, Y, Y, X, X, X, X, X, X, X, X, X] rfl rfl (any_of HT_.out (by kernel_rfl)) (fun _ _ _ h => h) (Or.inl ⟨by rfl, (by intro w'; go_simp; with_reducible rfl)⟩) z4b ?_
           refine pure_ (i := 9) (N := some 147) (v := _) (a' := _) #[Y, Y, Y, Y, Y, X, Y, Y, Y, Y, X, X, X, X, X, X, X, X] rfl rfl (any_of HT_.out (by kernel_rfl)) (fun _ _ _ h => h) (Or.inl ⟨by rfl, (by intro w'; go_simp; with_reducible rfl)⟩) z4b ?_
           refine take_ (i := 5) (N := some 143) (v := _) (a' := _) #[Y, Y, Y, Y, Y, Y, Y, Y, Y, Y, X, X, X, X, X, X, X, X] rfl rfl (take_ofW HT_.out HW_.out (by kernel_rfl)) (fun _ _ _ h => h) (Or.inl ⟨by rfl, z4d1⟩) hHeld z4b ?_
           refine take_ (i := 10) (N := some 148) (v := _) (a' := _) #[Y, Y, Y, Y, Y, Y, Y, Y, Y, Y, Y, X, X, X, X, X, X, X] rfl rfl (take_ofW HT_.out HW_.out (by kernel_rfl)) (fun _ _ _ h => h) (Or.inl ⟨by rfl, z4d1⟩) hHeld z4b ?_
           refine join_ (σ := Nat) 2 #[Y, Y, Y, Y, Y, Y, Y, Y, Y, Y, Y, Y, Y, Y, Y, Y, X, X] (fun s_ => [(149, .tuple #[.agg #[.string t473, .string t474, .int .i64 t475, .bool t476], .bool true]), (19, .pointer (some ⟨s_, 0, none⟩)), (137, .tuple #[.agg #[.string t473, .string t474, .int .i64 t475, .bool t476], .bool true]), (150, .agg #[.string t473, .string t474, .int .i64 t475, .bool t476]), (151, .bool true)]) (fun s_ w' => (w'.cell? (ad471.add ((x18_5).toNat * 4)) = some (.string ((rd_T31 t428 x18_5).f0)) ∧ w'.cell? ⟨(ad471.add ((x18_5).toNat * 4)).block, (ad471.add ((x18_5).toNat * 4)).off + 1, none⟩ = some (.string ((rd_T31 t428 x18_5).f1)) ∧ w'.cell? ⟨(ad471.add ((x18_5).toNat * 4)).block, (ad471.add ((x18_5).toNat * 4)).off + 2, none⟩ = some (.int .i64 ((rd_T31 t428 x18_5).f2)) ∧ w'.cell? ⟨(ad471.add ((x18_5).toNat * 4)).block, (ad471.add ((x18_5).toNat * 4)).off + 3, none⟩ = some (.bool ((rd_T31 t428 x18_5).f3)) ∧ w'.cell? (ad471.add ((x18_5).toNat * 4)) = some (.string ((rd_T31 t428 x18_5).f0)) ∧ w'.cell? ⟨(ad471.add ((x18_5).toNat * 4)).block, (ad471.add ((x18_5).toNat * 4)).off + 1, none⟩ = some (.string ((rd_T31 t428 x18_5).f1)) ∧ w'.cell? ⟨(ad471.add ((x18_5).toNat * 4)).block, (ad471.add ((x18_5).toNat * 4)).off + 2, none⟩ = some (.int .i64 ((rd_T31 t428 x18_5).f2)) ∧ w'.cell? ⟨(ad471.add ((x18_5).toNat * 4)).block, (ad471.add ((x18_5).toNat * 4)).off + 3, none⟩ = some (.bool ((rd_T31 t428 x18_5).f3))) ∧ (Kd.R k31 31 w' w.heap.size (fun k_ => some k_ ≠ (.slice Ao65 t436.length co65 : Value).ownBlock ∧ k_ ≠ gb435 ∧ k_ ≠ gb450 ∧ k_ ≠ gb463 ∧ k_ ≠ gb469 ∧ k_ ≠ s_) (.slice (some ad471) t428.length co13) t428) ∧ (Kd.R k31 31 w' w.heap.size (fun k_ => some k_ ≠ (.slice (some ad471) t428.length co13 : Value).ownBlock ∧ k_ ≠ gb435 ∧ k_ ≠ gb450 ∧ k_ ≠ gb463 ∧ k_ ≠ gb469 ∧ k_ ≠ s_) (.slice Ao65 t436.length co65) t436) ∧ (w'.heap[gb435]? = some (.cells #[.string t431, .string t432, .int .i64 t433, .bool t434] 31 (0, 0))) ∧ (w'.heap[gb450]? = some (.cells #[.string t445, .string t446, .int .i64 t447, .bool t448] 31 (0, 0))) ∧ (w'.heap[gb463]? = some (.cells #[.string t458, .string t459, .int .i64 t460, .bool t461] 31 (0, 0))) ∧ (w'.heap[gb469]? = some (.cells #[.string t464, .string t465, .int .i64 t466, .bool t467] 31 (0, 0))) ∧ (w'.heap[s_]? = some (.cells #[.string (⟨#[]⟩ : ByteArray), .string (⟨#[]⟩ : ByteArray), .int .i64 0, .bool false] 31 (0, 0))) ∧ (w.heap.size ≤ s_) ∧ (w.heap.size ≤ s_) ∧ (gb435 ≠ s_) ∧ (s_ ≠ gb435) ∧ (gb450 ≠ s_) ∧ (s_ ≠ gb450) ∧ (gb463 ≠ s_) ∧ (s_ ≠ gb463) ∧ (gb469 ≠ s_) ∧ (s_ ≠ gb469) ∧ (Below w.heap.size w w')) ?_ ?_
           rotate_left
           {
           intro hCont
           refine two_ (i := 11) (j := 15) (Ni := some 149) (Nj := some 19) #[Y, Y, Y, Y, Y, Y, Y, Y, Y, Y, Y, Y, X, X, X, X, X, X] #[Y, Y, Y, Y, Y, Y, Y, Y, Y, Y, Y, X, X, X, X, Y, X, X] rfl rfl rfl rfl (two_of HT_.out (by kernel_rfl)) (by decide) (by decide) (fun K hK => ?_) (fun K hK => ?_)
           {
           skip
           refine goes_ Try.func24 (by kernel_rfl) rfl #[.slice Ao65 t436.length co65, .string ((rd_T31 t428 x18_5).f0), .int .i64 ((rd_T31 t428 x18_5).f2)] (by rfl) rfl rfl z4i ?_
           with_reducible refine (impl_Seen.calls k5 _ _ t436 ((rd_T31 t428 x18_5).f0) ((rd_T31 t428 x18_5).f2) t473 t474 t475 t476 true _ ?side1 ?side2 A102.out).mono ?_
           (case side1 => exact z4o)
           (case side2 => exact (Kd.R_reads' HO_5.out).2.1)
           rintro e w116 ⟨rfl, hb⟩
           have HS0_ := (hb.cell (World.block_lt_of_cell? _ _ (hHeld.1))).trans (hHeld.1)
           have HS1_ := (hb.cell (World.block_lt_of_cell? _ _ (hHeld.2.1))).trans (hHeld.2.1)
           have HS2_ := (hb.cell (World.block_lt_of_cell? _ _ (hHeld.2.2.1))).trans (hHeld.2.2.1)
           have HS3_ := (hb.cell (World.block_lt_of_cell? _ _ (hHeld.2.2.2.1))).trans (hHeld.2.2.2.1)
           have HS4_ := (hb.cell (World.block_lt_of_cell? _ _ (hHeld.2.2.2.2.1))).trans (hHeld.2.2.2.2.1)
           have HS5_ := (hb.cell (World.block_lt_of_cell? _ _ (hHeld.2.2.2.2.2.1))).trans (hHeld.2.2.2.2.2.1)
           have HS6_ := (hb.cell (World.block_lt_of_cell? _ _ (hHeld.2.2.2.2.2.2.1))).trans (hHeld.2.2.2.2.2.2.1)
           have HS7_ := (hb.cell (World.block_lt_of_cell? _ _ (hHeld.2.2.2.2.2.2.2))).trans (hHeld.2.2.2.2.2.2.2)
           refine ⟨_, rfl, ?_⟩
           have n0_ := Aside0.mk (Kd.R_below z4j hb)
           have n1_ := Aside0.mk (Kd.R_below z4k hb)
           have n2_ := Aside0.mk (blk_below (g := gb435) (o := .cells #[.string t431, .string t432, .int .i64 t433, .bool t434] 31 (0, 0)) z4d hb)
           have n3_ := Aside0.mk (blk_below (g := gb450) (o := .cells #[.string t445, .string t446, .int .i64 t447, .bool t448] 31 (0, 0)) z4e hb)
           have n4_ := Aside0.mk (blk_below (g := gb463) (o := .cells #[.string t458, .string t459, .int .i64 t460, .bool t461] 31 (0, 0)) z4f hb)
           have n5_ := Aside0.mk (blk_below (g := gb469) (o := .cells #[.string t464, .string t465, .int .i64 t466, .bool t467] 31 (0, 0)) z4g hb)
           have n6_ := Aside0.mk (below_step z4c hb)
           clear HO_3
           clear HO_5
           clear BK435
           clear BK450
           clear BK463
           clear BK469
           clear HB
           have HO_3 := n0_
           have HO_5 := n1_
           have BK435 := n2_
           have BK450 := n3_
           have BK463 := n4_
           have BK469 := n5_
           have HB := n6_
           clear n0_ n1_ n2_ n3_ n4_ n5_ n6_
           (try clear hb)
           (try clear hb2)
           (try clear hk)
           (try clear hi)
           refine hK.out _ _ ⟨HS0_, HS1_, HS2_, HS3_, HS4_, HS5_, HS6_, HS7_⟩ (fun hHeld => ?_)
           clear hK K
           refine norm_ (a' := ?_) ?_ ?_
           rotate_left
           {
           show Act.put _ (some 149) _ = _
           simp only [Act.put, List.setIfInBounds_toArray, List.set_cons_zero, List.set_cons_succ, i64_w, i32_w]
           rfl
           }
           refine pure_ (i := 12) (N := some 137) (v := _) (a' := _) #[Y, Y, Y, Y, Y, Y, Y, Y, Y, Y, Y, Y, Y, X, X, X, X, X] rfl rfl (any_of HT_.out (by kernel_rfl)) (fun _ _ _ h => h) (Or.inl ⟨by rfl, (by intro w'; go_simp; with_reducible rfl)⟩) z4b ?_
           refine pure_ (i := 13) (N := some 150) (v := _) (a' := _) #[Y, Y, Y, Y, Y, Y, Y, Y, Y, Y, Y, Y, Y, Y, X, X, X, X] rfl rfl (any_of HT_.out (by kernel_rfl)) (fun _ _ _ h => h) (Or.inl ⟨by rfl, (by intro w'; go_simp; with_reducible rfl)⟩) z4b ?_
           refine pure_ (i := 14) (N := some 151) (v := _) (a' := _) #[Y, Y, Y, Y, Y, Y, Y, Y, Y, Y, Y, Y, Y, Y, Y, X, X, X] rfl rfl (any_of HT_.out (by kernel_rfl)) (fun _ _ _ h => h) (Or.inl ⟨by rfl, (by intro w'; go_simp; with_reducible rfl)⟩) z4b ?_
           refine one_ (i := 15) (N := some 19) #[Y, Y, Y, Y, Y, Y, Y, Y, Y, Y, Y, Y, Y, Y, Y, Y, X, X] rfl rfl (one_of HT_.out (by kernel_rfl)) (by decide) (fun K hK => ?_)
           refine box_step ?hg (N := 19) ?hd (cs := #[.string (⟨#[]⟩ : ByteArray), .string (⟨#[]⟩ : ByteArray), .int .i64 0, .bool false]) (t := 31) ?hr ?_; (case hd => rfl); (case hg => rfl); (case hr => first | (go_simp; done) | (go_simp; rfl))
           intro gb478 hg w117 hbox hb
           have HS0_ := (hb.cell (World.block_lt_of_cell? _ _ (hHeld.1))).trans (hHeld.1)
           have HS1_ := (hb.cell (World.block_lt_of_cell? _ _ (hHeld.2.1))).trans (hHeld.2.1)
           have HS2_ := (hb.cell (World.block_lt_of_cell? _ _ (hHeld.2.2.1))).trans (hHeld.2.2.1)
           have HS3_ := (hb.cell (World.block_lt_of_cell? _ _ (hHeld.2.2.2.1))).trans (hHeld.2.2.2.1)
           have HS4_ := (hb.cell (World.block_lt_of_cell? _ _ (hHeld.2.2.2.2.1))).trans (hHeld.2.2.2.2.1)
           have HS5_ := (hb.cell (World.block_lt_of_cell? _ _ (hHeld.2.2.2.2.2.1))).trans (hHeld.2.2.2.2.2.1)
           have HS6_ := (hb.cell (World.block_lt_of_cell? _ _ (hHeld.2.2.2.2.2.2.1))).trans (hHeld.2.2.2.2.2.2.1)
           have HS7_ := (hb.cell (World.block_lt_of_cell? _ _ (hHeld.2.2.2.2.2.2.2))).trans (hHeld.2.2.2.2.2.2.2)
           have n0_ := Aside0.mk (Kd.R_below (Kd.R_elderB z4j gb478 (Nat.le_of_eq hg.symm)) hb)
           have n1_ := Aside0.mk (Kd.R_below (Kd.R_elderB z4k gb478 (Nat.le_of_eq hg.symm)) hb)
           have n2_ := Aside0.mk (blk_below (g := gb435) (o := .cells #[.string t431, .string t432, .int .i64 t433, .bool t434] 31 (0, 0)) z4d hb)
           have n3_ := Aside0.mk (blk_below (g := gb450) (o := .cells #[.string t445, .string t446, .int .i64 t447, .bool t448] 31 (0, 0)) z4e hb)
           have n4_ := Aside0.mk (blk_below (g := gb463) (o := .cells #[.string t458, .string t459, .int .i64 t460, .bool t461] 31 (0, 0)) z4f hb)
           have n5_ := Aside0.mk (blk_below (g := gb469) (o := .cells #[.string t464, .string t465, .int .i64 t466, .bool t467] 31 (0, 0)) z4g hb)
           have n6_ := Aside0.mk (below_step z4c hb)
           have n7_ := Aside0.mk (hbox)
           have n8_ := Aside0.mk ((by rw [hg]; exact (below_size z4c) : w.heap.size ≤ gb478))
           have n9_ := Aside0.mk ((by rw [hg]; exact (below_size z4c) : w.heap.size ≤ gb478))
           have n10_ := Aside0.mk ((by rw [hg]; exact Nat.ne_of_lt (blk_lt (g := gb435) (o := .cells #[.string t431, .string t432, .int .i64 t433, .bool t434] 31 (0, 0)) z4d) : gb435 ≠ gb478))
           have n11_ := Aside0.mk ((by rw [hg]; exact Nat.ne_of_gt (blk_lt (g := gb435) (o := .cells #[.string t431, .string t432, .int .i64 t433, .bool t434] 31 (0, 0)) z4d) : gb478 ≠ gb435))
           have n12_ := Aside0.mk ((by rw [hg]; exact Nat.ne_of_lt (blk_lt (g := gb450) (o := .cells #[.string t445, .string t446, .int .i64 t447, .bool t448] 31 (0, 0)) z4e) : gb450 ≠ gb478))
           have n13_ := Aside0.mk ((by rw [hg]; exact Nat.ne_of_gt (blk_lt (g := gb450) (o := .cells #[.string t445, .string t446, .int .i64 t447, .bool t448] 31 (0, 0)) z4e) : gb478 ≠ gb450))
           have n14_ := Aside0.mk ((by rw [hg]; exact Nat.ne_of_lt (blk_lt (g := gb463) (o := .cells #[.string t458, .string t459, .int .i64 t460, .bool t461] 31 (0, 0)) z4f) : gb463 ≠ gb478))
           have n15_ := Aside0.mk ((by rw [hg]; exact Nat.ne_of_gt (blk_lt (g := gb463) (o := .cells #[.string t458, .string t459, .int .i64 t460, .bool t461] 31 (0, 0)) z4f) : gb478 ≠ gb463))
           have n16_ := Aside0.mk ((by rw [hg]; exact Nat.ne_of_lt (blk_lt (g := gb469) (o := .cells #[.string t464, .string t465, .int .i64 t466, .bool t467] 31 (0, 0)) z4g) : gb469 ≠ gb478))
           have n17_ := Aside0.mk ((by rw [hg]; exact Nat.ne_of_gt (blk_lt (g := gb469) (o := .cells #[.string t464, .string t465, .int .i64 t466, .bool t467] 31 (0, 0)) z4g) : gb478 ≠ gb469))
           clear HO_3
           clear HO_5
           clear BK435
           clear BK450
           clear BK463
           clear BK469
           clear HB
           have HO_3 := n0_
           have HO_5 := n1_
           have BK435 := n2_
           have BK450 := n3_
           have BK463 := n4_
           have BK469 := n5_
           have HB := n6_
           have BK478 := n7_
           have GW478 := n8_
           have GE478 := n9_
           have NB435_478 := n10_
           have NB478_435 := n11_
           have NB450_478 := n12_
           have NB478_450 := n13_
           have NB463_478 := n14_
           have NB478_463 := n15_
           have NB469_478 := n16_
           have NB478_469 := n17_
           clear n0_ n1_ n2_ n3_ n4_ n5_ n6_ n7_ n8_ n9_ n10_ n11_ n12_ n13_ n14_ n15_ n16_ n17_
           clear hb hbox hg
           refine hK.out _ _ ⟨HS0_, HS1_, HS2_, HS3_, HS4_, HS5_, HS6_, HS7_⟩ (fun hHeld => ?_)
           clear hK K
           refine norm_ (a' := ?_) ?_ ?_
           rotate_left
           {
           show Act.put _ (some 19) _ = _
           simp only [Act.put, List.setIfInBounds_toArray, List.set_cons_zero, List.set_cons_succ, i64_w, i32_w]
           rfl
           }
           exact norm_ z4i1 (hCont (gb478) _ ⟨hHeld, z4p, z4q, z4d, z4e, z4f, z4g, z4w, GW478.out, GE478.out, NB435_478.out, NB478_435.out, NB450_478.out, NB478_450.out, NB463_478.out, NB478_463.out, NB469_478.out, NB478_469.out, z4h⟩)
           }
           {
           skip
           refine box_step ?hg (N := 19) ?hd (cs := #[.string (⟨#[]⟩ : ByteArray), .string (⟨#[]⟩ : ByteArray), .int .i64 0, .bool false]) (t := 31) ?hr ?_; (case hd => rfl); (case hg => rfl); (case hr => first | (go_simp; done) | (go_simp; rfl))
           intro gb478 hg w116 hbox hb
           have HS0_ := (hb.cell (World.block_lt_of_cell? _ _ (hHeld.1))).trans (hHeld.1)
           have HS1_ := (hb.cell (World.block_lt_of_cell? _ _ (hHeld.2.1))).trans (hHeld.2.1)
           have HS2_ := (hb.cell (World.block_lt_of_cell? _ _ (hHeld.2.2.1))).trans (hHeld.2.2.1)
           have HS3_ := (hb.cell (World.block_lt_of_cell? _ _ (hHeld.2.2.2.1))).trans (hHeld.2.2.2.1)
           have HS4_ := (hb.cell (World.block_lt_of_cell? _ _ (hHeld.2.2.2.2.1))).trans (hHeld.2.2.2.2.1)
           have HS5_ := (hb.cell (World.block_lt_of_cell? _ _ (hHeld.2.2.2.2.2.1))).trans (hHeld.2.2.2.2.2.1)
           have HS6_ := (hb.cell (World.block_lt_of_cell? _ _ (hHeld.2.2.2.2.2.2.1))).trans (hHeld.2.2.2.2.2.2.1)
           have HS7_ := (hb.cell (World.block_lt_of_cell? _ _ (hHeld.2.2.2.2.2.2.2))).trans (hHeld.2.2.2.2.2.2.2)
           have n0_ := Aside0.mk (Kd.R_below (Kd.R_elderB z4j gb478 (Nat.le_of_eq hg.symm)) hb)
           have n1_ := Aside0.mk (Kd.R_below (Kd.R_elderB z4k gb478 (Nat.le_of_eq hg.symm)) hb)
           have n2_ := Aside0.mk (blk_below (g := gb435) (o := .cells #[.string t431, .string t432, .int .i64 t433, .bool t434] 31 (0, 0)) z4d hb)
           have n3_ := Aside0.mk (blk_below (g := gb450) (o := .cells #[.string t445, .string t446, .int .i64 t447, .bool t448] 31 (0, 0)) z4e hb)
           have n4_ := Aside0.mk (blk_below (g := gb463) (o := .cells #[.string t458, .string t459, .int .i64 t460, .bool t461] 31 (0, 0)) z4f hb)
           have n5_ := Aside0.mk (blk_below (g := gb469) (o := .cells #[.string t464, .string t465, .int .i64 t466, .bool t467] 31 (0, 0)) z4g hb)
           have n6_ := Aside0.mk (below_step z4c hb)
           have n7_ := Aside0.mk (hbox)
           have n8_ := Aside0.mk ((by rw [hg]; exact (below_size z4c) : w.heap.size ≤ gb478))
           have n9_ := Aside0.mk ((by rw [hg]; exact (below_size z4c) : w.heap.size ≤ gb478))
           have n10_ := Aside0.mk ((by rw [hg]; exact Nat.ne_of_lt (blk_lt (g := gb435) (o := .cells #[.string t431, .string t432, .int .i64 t433, .bool t434] 31 (0, 0)) z4d) : gb435 ≠ gb478))
           have n11_ := Aside0.mk ((by rw [hg]; exact Nat.ne_of_gt (blk_lt (g := gb435) (o := .cells #[.string t431, .string t432, .int .i64 t433, .bool t434] 31 (0, 0)) z4d) : gb478 ≠ gb435))
           have n12_ := Aside0.mk ((by rw [hg]; exact Nat.ne_of_lt (blk_lt (g := gb450) (o := .cells #[.string t445, .string t446, .int .i64 t447, .bool t448] 31 (0, 0)) z4e) : gb450 ≠ gb478))
           have n13_ := Aside0.mk ((by rw [hg]; exact Nat.ne_of_gt (blk_lt (g := gb450) (o := .cells #[.string t445, .string t446, .int .i64 t447, .bool t448] 31 (0, 0)) z4e) : gb478 ≠ gb450))
           have n14_ := Aside0.mk ((by rw [hg]; exact Nat.ne_of_lt (blk_lt (g := gb463) (o := .cells #[.string t458, .string t459, .int .i64 t460, .bool t461] 31 (0, 0)) z4f) : gb463 ≠ gb478))
           have n15_ := Aside0.mk ((by rw [hg]; exact Nat.ne_of_gt (blk_lt (g := gb463) (o := .cells #[.string t458, .string t459, .int .i64 t460, .bool t461] 31 (0, 0)) z4f) : gb478 ≠ gb463))
           have n16_ := Aside0.mk ((by rw [hg]; exact Nat.ne_of_lt (blk_lt (g := gb469) (o := .cells #[.string t464, .string t465, .int .i64 t466, .bool t467] 31 (0, 0)) z4g) : gb469 ≠ gb478))
           have n17_ := Aside0.mk ((by rw [hg]; exact Nat.ne_of_gt (blk_lt (g := gb469) (o := .cells #[.string t464, .string t465, .int .i64 t466, .bool t467] 31 (0, 0)) z4g) : gb478 ≠ gb469))
           clear HO_3
           clear HO_5
           clear BK435
           clear BK450
           clear BK463
           clear BK469
           clear HB
           have HO_3 := n0_
           have HO_5 := n1_
           have BK435 := n2_
           have BK450 := n3_
           have BK463 := n4_
           have BK469 := n5_
           have HB := n6_
           have BK478 := n7_
           have GW478 := n8_
           have GE478 := n9_
           have NB435_478 := n10_
           have NB478_435 := n11_
           have NB450_478 := n12_
           have NB478_450 := n13_
           have NB463_478 := n14_
           have NB478_463 := n15_
           have NB469_478 := n16_
           have NB478_469 := n17_
           clear n0_ n1_ n2_ n3_ n4_ n5_ n6_ n7_ n8_ n9_ n10_ n11_ n12_ n13_ n14_ n15_ n16_ n17_
           clear hb hbox hg
           refine hK.out _ _ ⟨HS0_, HS1_, HS2_, HS3_, HS4_, HS5_, HS6_, HS7_⟩ (fun hHeld => ?_)
           clear hK K
           refine norm_ (a' := ?_) ?_ ?_
           rotate_left
           {
           show Act.put _ (some 19) _ = _
           simp only [Act.put, List.setIfInBounds_toArray, List.set_cons_zero, List.set_cons_succ, i64_w, i32_w]
           rfl
           }
           refine one_ (i := 11) (N := some 149) #[Y, Y, Y, Y, Y, Y, Y, Y, Y, Y, Y, Y, X, X, X, Y, X, X] rfl rfl (one_of HT_.out (by kernel_rfl)) (by decide) (fun K hK => ?_)
           refine goes_ Try.func24 (by kernel_rfl) rfl #[.slice Ao65 t436.length co65, .string ((rd_T31 t428 x18_5).f0), .int .i64 ((rd_T31 t428 x18_5).f2)] (by rfl) rfl rfl z4i ?_
           with_reducible refine (impl_Seen.calls k5 _ _ t436 ((rd_T31 t428 x18_5).f0) ((rd_T31 t428 x18_5).f2) t473 t474 t475 t476 true _ ?side1 ?side2 A102.out).mono ?_
           (case side1 => exact z4o)
           (case side2 => exact (Kd.R_reads' HO_5.out).2.1)
           rintro e w117 ⟨rfl, hb⟩
           have HS0_ := (hb.cell (World.block_lt_of_cell? _ _ (hHeld.1))).trans (hHeld.1)
           have HS1_ := (hb.cell (World.block_lt_of_cell? _ _ (hHeld.2.1))).trans (hHeld.2.1)
           have HS2_ := (hb.cell (World.block_lt_of_cell? _ _ (hHeld.2.2.1))).trans (hHeld.2.2.1)
           have HS3_ := (hb.cell (World.block_lt_of_cell? _ _ (hHeld.2.2.2.1))).trans (hHeld.2.2.2.1)
           have HS4_ := (hb.cell (World.block_lt_of_cell? _ _ (hHeld.2.2.2.2.1))).trans (hHeld.2.2.2.2.1)
           have HS5_ := (hb.cell (World.block_lt_of_cell? _ _ (hHeld.2.2.2.2.2.1))).trans (hHeld.2.2.2.2.2.1)
           have HS6_ := (hb.cell (World.block_lt_of_cell? _ _ (hHeld.2.2.2.2.2.2.1))).trans (hHeld.2.2.2.2.2.2.1)
           have HS7_ := (hb.cell (World.block_lt_of_cell? _ _ (hHeld.2.2.2.2.2.2.2))).trans (hHeld.2.2.2.2.2.2.2)
           refine ⟨_, rfl, ?_⟩
           have n0_ := Aside0.mk (Kd.R_below z4j hb)
           have n1_ := Aside0.mk (Kd.R_below z4k hb)
           have n2_ := Aside0.mk (blk_below (g := gb435) (o := .cells #[.string t431, .string t432, .int .i64 t433, .bool t434] 31 (0, 0)) z4d hb)
           have n3_ := Aside0.mk (blk_below (g := gb450) (o := .cells #[.string t445, .string t446, .int .i64 t447, .bool t448] 31 (0, 0)) z4e hb)
           have n4_ := Aside0.mk (blk_below (g := gb463) (o := .cells #[.string t458, .string t459, .int .i64 t460, .bool t461] 31 (0, 0)) z4f hb)
           have n5_ := Aside0.mk (blk_below (g := gb469) (o := .cells #[.string t464, .string t465, .int .i64 t466, .bool t467] 31 (0, 0)) z4g hb)
           have n6_ := Aside0.mk (blk_below (g := gb478) (o := .cells #[.string (⟨#[]⟩ : ByteArray), .string (⟨#[]⟩ : ByteArray), .int .i64 0, .bool false] 31 (0, 0)) z4w hb)
           have n7_ := Aside0.mk (below_step z4h hb)
           clear HO_3
           clear HO_5
           clear BK435
           clear BK450
           clear BK463
           clear BK469
           clear BK478
           clear HB
           have HO_3 := n0_
           have HO_5 := n1_
           have BK435 := n2_
           have BK450 := n3_
           have BK463 := n4_
           have BK469 := n5_
           have BK478 := n6_
           have HB := n7_
           clear n0_ n1_ n2_ n3_ n4_ n5_ n6_ n7_
           (try clear hb)
           (try clear hb2)
           (try clear hk)
           (try clear hi)
           refine hK.out _ _ ⟨HS0_, HS1_, HS2_, HS3_, HS4_, HS5_, HS6_, HS7_⟩ (fun hHeld => ?_)
           clear hK K
           refine norm_ (a' := ?_) ?_ ?_
           rotate_left
           {
           show Act.put _ (some 149) _ = _
           simp only [Act.put, List.setIfInBounds_toArray, List.set_cons_zero, List.set_cons_succ, i64_w, i32_w]
           rfl
           }
           refine pure_ (i := 12) (N := some 137) (v := _) (a' := _) #[Y, Y, Y, Y, Y, Y, Y, Y, Y, Y, Y, Y, Y, X, X, Y, X, X] rfl rfl (any_of HT_.out (by kernel_rfl)) (fun _ _ _ h => h) (Or.inl ⟨by rfl, (by intro w'; go_simp; with_reducible rfl)⟩) z4b ?_
           refine pure_ (i := 13) (N := some 150) (v := _) (a' := _) #[Y, Y, Y, Y, Y, Y, Y, Y, Y, Y, Y, Y, Y, Y, X, Y, X, X] rfl rfl (any_of HT_.out (by kernel_rfl)) (fun _ _ _ h => h) (Or.inl ⟨by rfl, (by intro w'; go_simp; with_reducible rfl)⟩) z4b ?_
           refine pure_ (i := 14) (N := some 151) (v := _) (a' := _) #[Y, Y, Y, Y, Y, Y, Y, Y, Y, Y, Y, Y, Y, Y, Y, Y, X, X] rfl rfl (any_of HT_.out (by kernel_rfl)) (fun _ _ _ h => h) (Or.inl ⟨by rfl, (by intro w'; go_simp; with_reducible rfl)⟩) z4b ?_
           exact norm_ z4i1 (hCont (gb478) _ ⟨hHeld, z4p, z4q, z4d, z4e, z4f, z4g, z4w, GW478.out, GE478.out, NB435_478.out, NB478_435.out, NB450_478.out, NB478_450.out, NB463_478.out, NB478_463.out, NB469_478.out, NB478_469.out, z4h⟩)
           }
           }
           rintro gb478 w118 ⟨hS_, h0_, h1_, h2_, h3_, h4_, h5_, h6_, h7_, h8_, h9_, h10_, h11_, h12_, h13_, h14_, h15_, h16_, h17_⟩
           have n0_ : Aside0 (Kd.R k31 31 w118 w.heap.size (fun k_ => some k_ ≠ (.slice Ao65 t436.length co65 : Value).ownBlock ∧ k_ ≠ gb435 ∧ k_ ≠ gb450 ∧ k_ ≠ gb463 ∧ k_ ≠ gb469 ∧ k_ ≠ gb478) (.slice (some ad471) t428.length co13) t428) := ⟨h0_⟩
           have n1_ : Aside0 (Kd.R k31 31 w118 w.heap.size (fun k_ => some k_ ≠ (.slice (some ad471) t428.length co13 : Value).ownBlock ∧ k_ ≠ gb435 ∧ k_ ≠ gb450 ∧ k_ ≠ gb463 ∧ k_ ≠ gb469 ∧ k_ ≠ gb478) (.slice Ao65 t436.length co65) t436) := ⟨h1_⟩
           have n2_ : Aside0 (w118.heap[gb435]? = some (.cells #[.string t431, .string t432, .int .i64 t433, .bool t434] 31 (0, 0))) := ⟨h2_⟩
           have n3_ : Aside0 (w118.heap[gb450]? = some (.cells #[.string t445, .string t446, .int .i64 t447, .bool t448] 31 (0, 0))) := ⟨h3_⟩
           have n4_ : Aside0 (w118.heap[gb463]? = some (.cells #[.string t458, .string t459, .int .i64 t460, .bool t461] 31 (0, 0))) := ⟨h4_⟩
           have n5_ : Aside0 (w118.heap[gb469]? = some (.cells #[.string t464, .string t465, .int .i64 t466, .bool t467] 31 (0, 0))) := ⟨h5_⟩
           have n6_ : Aside0 (w118.heap[gb478]? = some (.cells #[.string (⟨#[]⟩ : ByteArray), .string (⟨#[]⟩ : ByteArray), .int .i64 0, .bool false] 31 (0, 0))) := ⟨h6_⟩
           have n7_ : Aside0 (w.heap.size ≤ gb478) := ⟨h7_⟩
           have n8_ : Aside0 (w.heap.size ≤ gb478) := ⟨h8_⟩
           have n9_ : Aside0 (gb435 ≠ gb478) := ⟨h9_⟩
           have n10_ : Aside0 (gb478 ≠ gb435) := ⟨h10_⟩
           have n11_ : Aside0 (gb450 ≠ gb478) := ⟨h11_⟩
           have n12_ : Aside0 (gb478 ≠ gb450) := ⟨h12_⟩
           have n13_ : Aside0 (gb463 ≠ gb478) := ⟨h13_⟩
           have n14_ : Aside0 (gb478 ≠ gb463) := ⟨h14_⟩
           have n15_ : Aside0 (gb469 ≠ gb478) := ⟨h15_⟩
           have n16_ : Aside0 (gb478 ≠ gb469) := ⟨h16_⟩
           have n17_ : Aside0 (Below w.heap.size w w118) := ⟨h17_⟩
           clear HO_3
           clear HO_5
           clear BK435
           clear BK450
           clear BK463
           clear BK469
           clear HB
           clear h0_ h1_ h2_ h3_ h4_ h5_ h6_ h7_ h8_ h9_ h10_ h11_ h12_ h13_ h14_ h15_ h16_ h17_
           have HO_3 := n0_
           have HO_5 := n1_
           have BK435 := n2_
           have BK450 := n3_
           have BK463 := n4_
           have BK469 := n5_
           have BK478 := n6_
           have GW478 := n7_
           have GE478 := n8_
           have NB435_478 := n9_
           have NB478_435 := n10_
           have NB450_478 := n11_
           have NB478_450 := n12_
           have NB463_478 := n13_
           have NB478_463 := n14_
           have NB469_478 := n15_
           have NB478_469 := n16_
           have HB := n17_
           clear n0_ n1_ n2_ n3_ n4_ n5_ n6_ n7_ n8_ n9_ n10_ n11_ n12_ n13_ n14_ n15_ n16_ n17_
           have hHeld : w118.cell? (ad471.add ((x18_5).toNat * 4)) = some (.string ((rd_T31 t428 x18_5).f0)) ∧ w118.cell? ⟨(ad471.add ((x18_5).toNat * 4)).block, (ad471.add ((x18_5).toNat * 4)).off + 1, none⟩ = some (.string ((rd_T31 t428 x18_5).f1)) ∧ w118.cell? ⟨(ad471.add ((x18_5).toNat * 4)).block, (ad471.add ((x18_5).toNat * 4)).off + 2, none⟩ = some (.int .i64 ((rd_T31 t428 x18_5).f2)) ∧ w118.cell? ⟨(ad471.add ((x18_5).toNat * 4)).block, (ad471.add ((x18_5).toNat * 4)).off + 3, none⟩ = some (.bool ((rd_T31 t428 x18_5).f3)) ∧ w118.cell? (ad471.add ((x18_5).toNat * 4)) = some (.string ((rd_T31 t428 x18_5).f0)) ∧ w118.cell? ⟨(ad471.add ((x18_5).toNat * 4)).block, (ad471.add ((x18_5).toNat * 4)).off + 1, none⟩ = some (.string ((rd_T31 t428 x18_5).f1)) ∧ w118.cell? ⟨(ad471.add ((x18_5).toNat * 4)).block, (ad471.add ((x18_5).toNat * 4)).off + 2, none⟩ = some (.int .i64 ((rd_T31 t428 x18_5).f2)) ∧ w118.cell? ⟨(ad471.add ((x18_5).toNat * 4)).block, (ad471.add ((x18_5).toNat * 4)).off + 3, none⟩ = some (.bool ((rd_T31 t428 x18_5).f3)) := hS_
           refine norm_ (a' := ?_) ?_ ?_
           rotate_left
           exact (by simp only [putAll, Act.put, List.setIfInBounds_toArray, List.set_cons_zero, List.set_cons_succ]; rfl)
           refine one_ (i := 16) (N := none) #[Y, Y, Y, Y, Y, Y, Y, Y, Y, Y, Y, Y, Y, Y, Y, Y, Y, X] rfl rfl (one_of HT_.out (by kernel_rfl)) (by decide) (fun K hK => ?_)
           have hs119 : w118.cell? ⟨gb478, 0, none⟩ = some (.string (⟨#[]⟩ : ByteArray)) := (blk_cell BK478.out 0).trans rfl
           have hfs119 := blk_frozen BK478.out 0
           have hns119_0 := NB435_478.out
           have hns119_1 := NB450_478.out
           have hns119_2 := NB463_478.out
           have hns119_3 := NB469_478.out
           have hms119_0 := NB478_435.out
           have hms119_1 := NB478_450.out
           have hms119_2 := NB478_463.out
           have hms119_3 := NB478_469.out
           have hs120 : w118.cell? ⟨gb478, 1, none⟩ = some (.string (⟨#[]⟩ : ByteArray)) := (blk_cell BK478.out 1).trans rfl
           have hfs120 := blk_frozen BK478.out 1
           have hns120_0 := NB435_478.out
           have hns120_1 := NB450_478.out
           have hns120_2 := NB463_478.out
           have hns120_3 := NB469_478.out
           have hms120_0 := NB478_435.out
           have hms120_1 := NB478_450.out
           have hms120_2 := NB478_463.out
           have hms120_3 := NB478_469.out
           have hs121 : w118.cell? ⟨gb478, 2, none⟩ = some (.int .i64 0) := (blk_cell BK478.out 2).trans rfl
           have hfs121 := blk_frozen BK478.out 2
           have hns121_0 := NB435_478.out
           have hns121_1 := NB450_478.out
           have hns121_2 := NB463_478.out
           have hns121_3 := NB469_478.out
           have hms121_0 := NB478_435.out
           have hms121_1 := NB478_450.out
           have hms121_2 := NB478_463.out
           have hms121_3 := NB478_469.out
           have hs122 : w118.cell? ⟨gb478, 3, none⟩ = some (.bool false) := (blk_cell BK478.out 3).trans rfl
           have hfs122 := blk_frozen BK478.out 3
           have hns122_0 := NB435_478.out
           have hns122_1 := NB450_478.out
           have hns122_2 := NB463_478.out
           have hns122_3 := NB469_478.out
           have hms122_0 := NB478_435.out
           have hms122_1 := NB478_450.out
           have hms122_2 := NB478_463.out
           have hms122_3 := NB478_469.out
           refine skip_ (w1 := ?_) (by rfl) rfl ?_ ?_
           rotate_left
           {
           go_simp
           rfl
           }
           refine hK.out _ _ ⟨((cell_far (p := ⟨gb478, _, none⟩) z4a _).trans (((cell_far (p := ⟨gb478, _, none⟩) z4a _).trans (((cell_far (p := ⟨gb478, _, none⟩) z4a _).trans (((cell_far (p := ⟨gb478, _, none⟩) z4a _).trans (hHeld.1)))))))), ((cell_far (p := ⟨gb478, _, none⟩) z4a _).trans (((cell_far (p := ⟨gb478, _, none⟩) z4a _).trans (((cell_far (p := ⟨gb478, _, none⟩) z4a _).trans (((cell_far (p := ⟨gb478, _, none⟩) z4a _).trans (hHeld.2.1)))))))), ((cell_far (p := ⟨gb478, _, none⟩) z4a _).trans (((cell_far (p := ⟨gb478, _, none⟩) z4a _).trans (((cell_far (p := ⟨gb478, _, none⟩) z4a _).trans (((cell_far (p := ⟨gb478, _, none⟩) z4a _).trans (hHeld.2.2.1)))))))), ((cell_far (p := ⟨gb478, _, none⟩) z4a _).trans (((cell_far (p := ⟨gb478, _, none⟩) z4a _).trans (((cell_far (p := ⟨gb478, _, none⟩) z4a _).trans (((cell_far (p := ⟨gb478, _, none⟩) z4a _).trans (hHeld.2.2.2.1)))))))), ((cell_far (p := ⟨gb478, _, none⟩) z4a _).trans (((cell_far (p := ⟨gb478, _, none⟩) z4a _).trans (((cell_far (p := ⟨gb478, _, none⟩) z4a _).trans (((cell_far (p := ⟨gb478, _, none⟩) z4a _).trans (hHeld.2.2.2.2.1)))))))), ((cell_far (p := ⟨gb478, _, none⟩) z4a _).trans (((cell_far (p := ⟨gb478, _, none⟩) z4a _).trans (((cell_far (p := ⟨gb478, _, none⟩) z4a _).trans (((cell_far (p := ⟨gb478, _, none⟩) z4a _).trans (hHeld.2.2.2.2.2.1)))))))), ((cell_far (p := ⟨gb478, _, none⟩) z4a _).trans (((cell_far (p := ⟨gb478, _, none⟩) z4a _).trans (((cell_far (p := ⟨gb478, _, none⟩) z4a _).trans (((cell_far (p := ⟨gb478, _, none⟩) z4a _).trans (hHeld.2.2.2.2.2.2.1)))))))), ((cell_far (p := ⟨gb478, _, none⟩) z4a _).trans (((cell_far (p := ⟨gb478, _, none⟩) z4a _).trans (((cell_far (p := ⟨gb478, _, none⟩) z4a _).trans (((cell_far (p := ⟨gb478, _, none⟩) z4a _).trans (hHeld.2.2.2.2.2.2.2))))))))⟩ (fun hHeld => ?_)
           clear hK K
           refine pure_ (i := 17) (N := some 20) (v := _) (a' := _) #[Y, Y, Y, Y, Y, Y, Y, Y, Y, Y, Y, Y, Y, Y, Y, Y, Y, Y] rfl rfl (any_of HT_.out (by kernel_rfl)) (fun _ _ _ h => h) (Or.inl ⟨by rfl, (by intro w'; go_simp; with_reducible rfl)⟩) z4b ?_
           refine done_ (done_of HT_.out (by kernel_rfl)) ?_
           try go_wp2
           have n0_ : Aside0 (Kd.R k31 31 ((((w118.setCell ⟨gb478, 0, none⟩ (.string t473)).setCell ⟨gb478, 1, none⟩ (.string t474)).setCell ⟨gb478, 2, none⟩ (.int .i64 t475)).setCell ⟨gb478, 3, none⟩ (.bool t476)) w.heap.size (fun k_ => some k_ ≠ (.slice Ao65 t436.length co65 : Value).ownBlock ∧ k_ ≠ gb435 ∧ k_ ≠ gb450 ∧ k_ ≠ gb463 ∧ k_ ≠ gb469 ∧ k_ ≠ gb478) (.slice (some ad471) t428.length co13) t428) := ⟨by (with_reducible repeat (first | apply Kd.R_alloc | apply Kd.R_drewN | apply Kd.R_drew)); exact Kd.R_mono (Kd.R_far (p := ⟨gb478, 3, none⟩) (Kd.R_far (p := ⟨gb478, 2, none⟩) (Kd.R_far (p := ⟨gb478, 1, none⟩) (Kd.R_far (p := ⟨gb478, 0, none⟩) (Kd.R_mono HO_3.out (fun k_ hk => (⟨hk, hk.2.2.2.2.2⟩ : _ ∧ k_ ≠ gb478))) (fun _ hk => hk.2) (.string t473)) (fun _ hk => hk.2) (.string t474)) (fun _ hk => hk.2) (.int .i64 t475)) (fun _ hk => hk.2) (.bool t476)) (fun _ hk => ⟨hk.1.1, ⟨hk.1.2.1, ⟨hk.1.2.2.1, ⟨hk.1.2.2.2.1, ⟨hk.1.2.2.2.2.1, hk.1.2.2.2.2.2⟩⟩⟩⟩⟩)⟩
           have n1_ : Aside0 (Kd.R k31 31 ((((w118.setCell ⟨gb478, 0, none⟩ (.string t473)).setCell ⟨gb478, 1, none⟩ (.string t474)).setCell ⟨gb478, 2, none⟩ (.int .i64 t475)).setCell ⟨gb478, 3, none⟩ (.bool t476)) w.heap.size (fun k_ => some k_ ≠ (.slice (some ad471) t428.length co13 : Value).ownBlock ∧ k_ ≠ gb435 ∧ k_ ≠ gb450 ∧ k_ ≠ gb463 ∧ k_ ≠ gb469 ∧ k_ ≠ gb478) (.slice Ao65 t436.length co65) t436) := ⟨by (with_reducible repeat (first | apply Kd.R_alloc | apply Kd.R_drewN | apply Kd.R_drew)); exact Kd.R_mono (Kd.R_far (p := ⟨gb478, 3, none⟩) (Kd.R_far (p := ⟨gb478, 2, none⟩) (Kd.R_far (p := ⟨gb478, 1, none⟩) (Kd.R_far (p := ⟨gb478, 0, none⟩) (Kd.R_mono HO_5.out (fun k_ hk => (⟨hk, hk.2.2.2.2.2⟩ : _ ∧ k_ ≠ gb478))) (fun _ hk => hk.2) (.string t473)) (fun _ hk => hk.2) (.string t474)) (fun _ hk => hk.2) (.int .i64 t475)) (fun _ hk => hk.2) (.bool t476)) (fun _ hk => ⟨hk.1.1, ⟨hk.1.2.1, ⟨hk.1.2.2.1, ⟨hk.1.2.2.2.1, ⟨hk.1.2.2.2.2.1, hk.1.2.2.2.2.2⟩⟩⟩⟩⟩)⟩
           have n2_ : Aside0 (((((w118.setCell ⟨gb478, 0, none⟩ (.string t473)).setCell ⟨gb478, 1, none⟩ (.string t474)).setCell ⟨gb478, 2, none⟩ (.int .i64 t475)).setCell ⟨gb478, 3, none⟩ (.bool t476)).heap[gb435]? = some (.cells #[.string t431, .string t432, .int .i64 t433, .bool t434] 31 (0, 0))) := ⟨by (with_reducible repeat (first | refine blk_drewN ?_ _ | refine blk_drew ?_ | refine blk_alloc ?_ _)); refine blk_far ?_ NB435_478.out _; (with_reducible repeat (first | refine blk_drewN ?_ _ | refine blk_drew ?_ | refine blk_alloc ?_ _)); refine blk_far ?_ NB435_478.out _; (with_reducible repeat (first | refine blk_drewN ?_ _ | refine blk_drew ?_ | refine blk_alloc ?_ _)); refine blk_far ?_ NB435_478.out _; (with_reducible repeat (first | refine blk_drewN ?_ _ | refine blk_drew ?_ | refine blk_alloc ?_ _)); refine blk_far ?_ NB435_478.out _; (with_reducible repeat (first | refine blk_drewN ?_ _ | refine blk_drew ?_ | refine blk_alloc ?_ _)); exact BK435.out⟩
           have n3_ : Aside0 (((((w118.setCell ⟨gb478, 0, none⟩ (.string t473)).setCell ⟨gb478, 1, none⟩ (.string t474)).setCell ⟨gb478, 2, none⟩ (.int .i64 t475)).setCell ⟨gb478, 3, none⟩ (.bool t476)).heap[gb450]? = some (.cells #[.string t445, .string t446, .int .i64 t447, .bool t448] 31 (0, 0))) := ⟨by (with_reducible repeat (first | refine blk_drewN ?_ _ | refine blk_drew ?_ | refine blk_alloc ?_ _)); refine blk_far ?_ NB450_478.out _; (with_reducible repeat (first | refine blk_drewN ?_ _ | refine blk_drew ?_ | refine blk_alloc ?_ _)); refine blk_far ?_ NB450_478.out _; (with_reducible repeat (first | refine blk_drewN ?_ _ | refine blk_drew ?_ | refine blk_alloc ?_ _)); refine blk_far ?_ NB450_478.out _; (with_reducible repeat (first | refine blk_drewN ?_ _ | refine blk_drew ?_ | refine blk_alloc ?_ _)); refine blk_far ?_ NB450_478.out _; (with_reducible repeat (first | refine blk_drewN ?_ _ | refine blk_drew ?_ | refine blk_alloc ?_ _)); exact BK450.out⟩
           have n4_ : Aside0 (((((w118.setCell ⟨gb478, 0, none⟩ (.string t473)).setCell ⟨gb478, 1, none⟩ (.string t474)).setCell ⟨gb478, 2, none⟩ (.int .i64 t475)).setCell ⟨gb478, 3, none⟩ (.bool t476)).heap[gb463]? = some (.cells #[.string t458, .string t459, .int .i64 t460, .bool t461] 31 (0, 0))) := ⟨by (with_reducible repeat (first | refine blk_drewN ?_ _ | refine blk_drew ?_ | refine blk_alloc ?_ _)); refine blk_far ?_ NB463_478.out _; (with_reducible repeat (first | refine blk_drewN ?_ _ | refine blk_drew ?_ | refine blk_alloc ?_ _)); refine blk_far ?_ NB463_478.out _; (with_reducible repeat (first | refine blk_drewN ?_ _ | refine blk_drew ?_ | refine blk_alloc ?_ _)); refine blk_far ?_ NB463_478.out _; (with_reducible repeat (first | refine blk_drewN ?_ _ | refine blk_drew ?_ | refine blk_alloc ?_ _)); refine blk_far ?_ NB463_478.out _; (with_reducible repeat (first | refine blk_drewN ?_ _ | refine blk_drew ?_ | refine blk_alloc ?_ _)); exact BK463.out⟩
           have n5_ : Aside0 (((((w118.setCell ⟨gb478, 0, none⟩ (.string t473)).setCell ⟨gb478, 1, none⟩ (.string t474)).setCell ⟨gb478, 2, none⟩ (.int .i64 t475)).setCell ⟨gb478, 3, none⟩ (.bool t476)).heap[gb469]? = some (.cells #[.string t464, .string t465, .int .i64 t466, .bool t467] 31 (0, 0))) := ⟨by (with_reducible repeat (first | refine blk_drewN ?_ _ | refine blk_drew ?_ | refine blk_alloc ?_ _)); refine blk_far ?_ NB469_478.out _; (with_reducible repeat (first | refine blk_drewN ?_ _ | refine blk_drew ?_ | refine blk_alloc ?_ _)); refine blk_far ?_ NB469_478.out _; (with_reducible repeat (first | refine blk_drewN ?_ _ | refine blk_drew ?_ | refine blk_alloc ?_ _)); refine blk_far ?_ NB469_478.out _; (with_reducible repeat (first | refine blk_drewN ?_ _ | refine blk_drew ?_ | refine blk_alloc ?_ _)); refine blk_far ?_ NB469_478.out _; (with_reducible repeat (first | refine blk_drewN ?_ _ | refine blk_drew ?_ | refine blk_alloc ?_ _)); exact BK469.out⟩
           have n6_ : Aside0 (((((w118.setCell ⟨gb478, 0, none⟩ (.string t473)).setCell ⟨gb478, 1, none⟩ (.string t474)).setCell ⟨gb478, 2, none⟩ (.int .i64 t475)).setCell ⟨gb478, 3, none⟩ (.bool t476)).heap[gb478]? = some (.cells #[.string t473, .string t474, .int .i64 t475, .bool t476] 31 (0, 0))) := ⟨by (with_reducible repeat (first | refine blk_drewN ?_ _ | refine blk_drew ?_ | refine blk_alloc ?_ _)); refine blk_put (cs := #[.string t473, .string t474, .int .i64 t475, .bool false]) ?_ 3 _ rfl; (with_reducible repeat (first | refine blk_drewN ?_ _ | refine blk_drew ?_ | refine blk_alloc ?_ _)); refine blk_put (cs := #[.string t473, .string t474, .int .i64 0, .bool false]) ?_ 2 _ rfl; (with_reducible repeat (first | refine blk_drewN ?_ _ | refine blk_drew ?_ | refine blk_alloc ?_ _)); refine blk_put (cs := #[.string t473, .string (⟨#[]⟩ : ByteArray), .int .i64 0, .bool false]) ?_ 1 _ rfl; (with_reducible repeat (first | refine blk_drewN ?_ _ | refine blk_drew ?_ | refine blk_alloc ?_ _)); refine blk_put (cs := #[.string (⟨#[]⟩ : ByteArray), .string (⟨#[]⟩ : ByteArray), .int .i64 0, .bool false]) ?_ 0 _ rfl; (with_reducible repeat (first | refine blk_drewN ?_ _ | refine blk_drew ?_ | refine blk_alloc ?_ _)); exact BK478.out⟩
           have n7_ : Aside0 (Below w.heap.size w ((((w118.setCell ⟨gb478, 0, none⟩ (.string t473)).setCell ⟨gb478, 1, none⟩ (.string t474)).setCell ⟨gb478, 2, none⟩ (.int .i64 t475)).setCell ⟨gb478, 3, none⟩ (.bool t476))) := ⟨by repeat (first | (with_reducible first | exact HB.out | apply below_alloc | apply pw_below_drewN | apply below_drew1 | refine below_set ?_ GE435.out | refine below_set ?_ GE450.out | refine below_set ?_ GE463.out | refine below_set ?_ GE469.out | refine below_set ?_ GE478.out) | exact HB.out)⟩
           (try clear HO_3)
           (try clear HO_5)
           (try clear BK435)
           (try clear BK450)
           (try clear BK463)
           (try clear BK469)
           (try clear BK478)
           (try clear HB)
           generalize ((((w118.setCell ⟨gb478, 0, none⟩ (.string t473)).setCell ⟨gb478, 1, none⟩ (.string t474)).setCell ⟨gb478, 2, none⟩ (.int .i64 t475)).setCell ⟨gb478, 3, none⟩ (.bool t476)) = w123 at n0_ n1_ n2_ n3_ n4_ n5_ n6_ n7_ ⊢
           have HO_3 := n0_
           have HO_5 := n1_
           have BK435 := n2_
           have BK450 := n3_
           have BK463 := n4_
           have BK469 := n5_
           have BK478 := n6_
           have HB := n7_
           clear n0_ n1_ n2_ n3_ n4_ n5_ n6_ n7_
           have n0_ := Aside0.mk (Kd.R_drew HO_3.out)
           have n1_ := Aside0.mk (Kd.R_drew HO_5.out)
           have n2_ := Aside0.mk (blk_drew BK435.out)
           have n3_ := Aside0.mk (blk_drew BK450.out)
           have n4_ := Aside0.mk (blk_drew BK463.out)
           have n5_ := Aside0.mk (blk_drew BK469.out)
           have n6_ := Aside0.mk (blk_drew BK478.out)
           have n7_ := Aside0.mk (below_drew1 HB.out)
           clear HO_3
           clear HO_5
           clear BK435
           clear BK450
           clear BK463
           clear BK469
           clear BK478
           clear HB
           have HO_3 := n0_
           have HO_5 := n1_
           have BK435 := n2_
           have BK450 := n3_
           have BK463 := n4_
           have BK469 := n5_
           have BK478 := n6_
           have HB := n7_
           clear n0_ n1_ n2_ n3_ n4_ n5_ n6_ n7_
           have p479 : 0 ≤ (x18_5 : Int) := of_decide_eq_true z4x
           have q479 : x18_5 < (t428.length : Int) := of_decide_eq_true z4x
           obtain ⟨ad479, e479, hx479_0, hx479_1, hx479_2, hx479_3⟩ := at_T31 (Kd.R_reads' HO_3.out).2.2 x18_5 p479 q479
           obtain rfl : ad471 = ad479 := (by injection e479)
           replace p479 := eq_true p479
           replace q479 := eq_true q479
           refine start_ (n := 10) (S := fun w' => w'.cell? ⟨gb478, 0, none⟩ = some (.string t473) ∧ w'.cell? ⟨gb478, 1, none⟩ = some (.string t474) ∧ w'.cell? ⟨gb478, 2, none⟩ = some (.int .i64 t475) ∧ w'.cell? ⟨gb478, 3, none⟩ = some (.bool t476) ∧ w'.cell? (ad471.add ((x18_5).toNat * 4)) = some (.string ((rd_T31 t428 x18_5).f0)) ∧ w'.cell? ⟨(ad471.add ((x18_5).toNat * 4)).block, (ad471.add ((x18_5).toNat * 4)).off + 1, none⟩ = some (.string ((rd_T31 t428 x18_5).f1)) ∧ w'.cell? ⟨(ad471.add ((x18_5).toNat * 4)).block, (ad471.add ((x18_5).toNat * 4)).off + 2, none⟩ = some (.int .i64 ((rd_T31 t428 x18_5).f2)) ∧ w'.cell? ⟨(ad471.add ((x18_5).toNat * 4)).block, (ad471.add ((x18_5).toNat * 4)).off + 3, none⟩ = some (.bool ((rd_T31 t428 x18_5).f3))) (ds := []) #[X, X, X, X, X, X, X, X, X, X] (by kernel_rfl) rfl rfl ⟨(blk_cell BK478.out 0).trans rfl, (blk_cell BK478.out 1).trans rfl, (blk_cell BK478.out 2).trans rfl, (blk_cell BK478.out 3).trans rfl, hx479_0, hx479_1, hx479_2, hx479_3⟩ (fun hHeld => ?_); refine with_tabW laws_FnPut.tab24 laws_FnPut.bits24 (fun HT_ HW_ => ?_)
           generalize w123.drew = w124 at HO_3 HO_5 BK435 BK450 BK463 BK469 BK478 HB hx479_0 hx479_1 hx479_2 hx479_3 hHeld ⊢
           refine pure_ (i := 0) (N := some 152) (v := _) (a' := _) #[Y, X, X, X, X, X, X, X, X, X] rfl rfl (any_of HT_.out (by kernel_rfl)) (fun _ _ _ h => h) (Or.inl ⟨by rfl, (by intro w'; go_simp; with_reducible rfl)⟩) z4b ?_
           refine pure_ (i := 1) (N := some 153) (v := _) (a' := _) #[Y, Y, X, X, X, X, X, X, X, X] rfl rfl (any_of HT_.out (by kernel_rfl)) (fun _ _ _ h => h) (Or.inl ⟨by rfl, (by intro w'; go_simp; with_reducible rfl)⟩) z4b ?_
           refine pure_ (i := 2) (N := some 154) (v := _) (a' := _) #[Y, Y, Y, X, X, X, X, X, X, X] rfl rfl (any_of HT_.out (by kernel_rfl)) (fun _ _ _ h => h) (Or.inl ⟨by rfl, (by intro w'; go_simp; with_reducible rfl)⟩) z4b ?_
           refine pure_ (i := 4) (N := some 156) (v := _) (a' := _) #[Y, Y, Y, X, Y, X, X, X, X, X] rfl rfl (any_of HT_.out (by kernel_rfl)) (fun _ _ _ h => h) (Or.inl ⟨by rfl, (by intro w'; go_simp; with_reducible rfl)⟩) z4b ?_
           refine pure_ (i := 5) (N := some 157) (v := _) (a' := _) #[Y, Y, Y, X, Y, Y, X, X, X, X] rfl rfl (any_of HT_.out (by kernel_rfl)) (fun _ _ _ h => h) (Or.inl ⟨by rfl, (by intro w'; go_simp; with_reducible rfl)⟩) z4b ?_
           refine pure_ (i := 6) (N := some 158) (v := _) (a' := _) #[Y, Y, Y, X, Y, Y, Y, X, X, X] rfl rfl (any_of HT_.out (by kernel_rfl)) (fun _ _ _ h => h) (Or.inl ⟨by rfl, (by intro w'; go_simp; with_reducible rfl)⟩) z4b ?_
           refine take_ (i := 3) (N := some 155) (v := _) (a' := _) #[Y, Y, Y, Y, Y, Y, Y, X, X, X] rfl rfl (take_ofW HT_.out HW_.out (by kernel_rfl)) (fun _ _ _ h => h) (Or.inl ⟨by rfl, z4d1⟩) hHeld z4b ?_
           refine take_ (i := 7) (N := some 159) (v := _) (a' := _) #[Y, Y, Y, Y, Y, Y, Y, Y, X, X] rfl rfl (take_ofW HT_.out HW_.out (by kernel_rfl)) (fun _ _ _ h => h) (Or.inl ⟨by rfl, z4d1⟩) hHeld z4b ?_
           refine pure_ (i := 8) (N := some 160) (v := _) (a' := _) #[Y, Y, Y, Y, Y, Y, Y, Y, Y, X] rfl rfl (any_of HT_.out (by kernel_rfl)) (fun _ _ _ h => h) (Or.inl ⟨by rfl, (by intro w'; go_simp; with_reducible rfl)⟩) z4b ?_
           refine pure_ (i := 9) (N := some 161) (v := _) (a' := _) #[Y, Y, Y, Y, Y, Y, Y, Y, Y, Y] rfl rfl (any_of HT_.out (by kernel_rfl)) (fun _ _ _ h => h) (Or.inl ⟨by rfl, (by intro w'; go_simp; with_reducible rfl)⟩) z4b ?_
           refine done_ (done_of HT_.out (by kernel_rfl)) ?_
           try go_wp2
           go_roundg k5
           case measure => have := HJ8.out; have := HJ35.out; have := HJ48.out; have := HJ60.out; have := HK5.out; omega
           case rel => exact ⟨(wrap64 (x18_5 + 1)), z4f1, H', ⟨by have := HJ8.out; have := HJ35.out; have := HJ48.out; have := HJ60.out; have := HK5.out; omega⟩, ⟨by (with_reducible repeat (first | apply Kd.R_alloc | apply Kd.R_drewN | apply Kd.R_drew)); exact Kd.R_mono HO_3.out (fun _ hk => ⟨hk.1, ⟨hk.2.1, ⟨hk.2.2.1, ⟨hk.2.2.2.1, hk.2.2.2.2.1⟩⟩⟩⟩)⟩, ⟨by (with_reducible repeat (first | apply Kd.R_alloc | apply Kd.R_drewN | apply Kd.R_drew)); exact Kd.R_mono HO_5.out (fun _ hk => ⟨hk.1, ⟨hk.2.1, ⟨hk.2.2.1, ⟨hk.2.2.2.1, hk.2.2.2.2.1⟩⟩⟩⟩)⟩, ⟨by (with_reducible repeat (first | refine blk_drewN ?_ _ | refine blk_drew ?_ | refine blk_alloc ?_ _)); exact BK435.out⟩, ⟨by (with_reducible repeat (first | refine blk_drewN ?_ _ | refine blk_drew ?_ | refine blk_alloc ?_ _)); exact BK450.out⟩, ⟨by (with_reducible repeat (first | refine blk_drewN ?_ _ | refine blk_drew ?_ | refine blk_alloc ?_ _)); exact BK463.out⟩, ⟨by (with_reducible repeat (first | refine blk_drewN ?_ _ | refine blk_drew ?_ | refine blk_alloc ?_ _)); exact BK469.out⟩, ⟨by repeat (first | (with_reducible first | exact HB.out | apply below_alloc | apply pw_below_drewN | apply below_drew1 | refine below_set ?_ GE435.out | refine below_set ?_ GE450.out | refine below_set ?_ GE463.out | refine below_set ?_ GE469.out | refine below_set ?_ GE478.out) | exact HB.out)⟩⟩
           }
           }
           {
           replace c103 := Bool.eq_false_iff.mpr c103
           subst c103
           have H1 : (some false) = some r := by rw [if_neg (show ¬ (false = true) by decide)] at H; exact H
           clear H
           have H := H1
           clear H1
           obtain rfl := Option.some.inj H
           try go_wp2
           have n0_ := Aside0.mk (Kd.R_drew HO_3.out)
           have n1_ := Aside0.mk (Kd.R_drew HO_5.out)
           have n2_ := Aside0.mk (blk_drew BK435.out)
           have n3_ := Aside0.mk (blk_drew BK450.out)
           have n4_ := Aside0.mk (blk_drew BK463.out)
           have n5_ := Aside0.mk (blk_drew BK469.out)
           have n6_ := Aside0.mk (below_drew1 HB.out)
           clear HO_3
           clear HO_5
           clear BK435
           clear BK450
           clear BK463
           clear BK469
           clear HB
           have HO_3 := n0_
           have HO_5 := n1_
           have BK435 := n2_
           have BK450 := n3_
           have BK463 := n4_
           have BK469 := n5_
           have HB := n6_
           clear n0_ n1_ n2_ n3_ n4_ n5_ n6_
           have p471 : 0 ≤ (x18_5 : Int) := of_decide_eq_true z4x
           have q471 : x18_5 < (t428.length : Int) := of_decide_eq_true z4x
           obtain ⟨ad471, e471, hx471_0, hx471_1, hx471_2, hx471_3⟩ := at_T31 (Kd.R_reads' HO_3.out).2.2 x18_5 p471 q471
           cases e471
           replace p471 := eq_true p471
           replace q471 := eq_true q471
           have p472 : 0 ≤ (x18_5 : Int) := of_decide_eq_true z4x
           have q472 : x18_5 < (t428.length : Int) := of_decide_eq_true z4x
           obtain ⟨ad472, e472, hx472_0, hx472_1, hx472_2, hx472_3⟩ := at_T31 (Kd.R_reads' HO_3.out).2.2 x18_5 p472 q472
           obtain rfl : ad471 = ad472 := (by injection e472)
           replace p472 := eq_true p472
           replace q472 := eq_true q472
           refine start_ (n := 18) (S := fun w' => w'.cell? (ad471.add ((x18_5).toNat * 4)) = some (.string ((rd_T31 t428 x18_5).f0)) ∧ w'.cell? ⟨(ad471.add ((x18_5).toNat * 4)).block, (ad471.add ((x18_5).toNat * 4)).off + 1, none⟩ = some (.string ((rd_T31 t428 x18_5).f1)) ∧ w'.cell? ⟨(ad471.add ((x18_5).toNat * 4)).block, (ad471.add ((x18_5).toNat * 4)).off + 2, none⟩ = some (.int .i64 ((rd_T31 t428 x18_5).f2)) ∧ w'.cell? ⟨(ad471.add ((x18_5).toNat * 4)).block, (ad471.add ((x18_5).toNat * 4)).off + 3, none⟩ = some (.bool ((rd_T31 t428 x18_5).f3)) ∧ w'.cell? (ad471.add ((x18_5).toNat * 4)) = some (.string ((rd_T31 t428 x18_5).f0)) ∧ w'.cell? ⟨(ad471.add ((x18_5).toNat * 4)).block, (ad471.add ((x18_5).toNat * 4)).off + 1, none⟩ = some (.string ((rd_T31 t428 x18_5).f1)) ∧ w'.cell? ⟨(ad471.add ((x18_5).toNat * 4)).block, (ad471.add ((x18_5).toNat * 4)).off + 2, none⟩ = some (.int .i64 ((rd_T31 t428 x18_5).f2)) ∧ w'.cell? ⟨(ad471.add ((x18_5).toNat * 4)).block, (ad471.add ((x18_5).toNat * 4)).off + 3, none⟩ = some (.bool ((rd_T31 t428 x18_5).f3))) (ds := []) #[X, X, X, X, X, X, X, X, X, X, X, X, X, X, X, X, X, X] (by kernel_rfl) rfl rfl ⟨hx471_0, hx471_1, hx471_2, hx471_3, hx472_0, hx472_1, hx472_2, hx472_3⟩ (fun hHeld => ?_); refine with_tabW laws_FnPut.tab23 laws_FnPut.bits23 (fun HT_ HW_ => ?_)
           generalize wr.drew = w125 at HO_3 HO_5 BK435 BK450 BK463 BK469 HB hx471_0 hx471_1 hx471_2 hx471_3 hx472_0 hx472_1 hx472_2 hx472_3 hHeld ⊢
           refine pure_ (i := 0) (N := some 138) (v := _) (a' := _) #[Y, X, X, X, X, X, X, X, X, X, X, X, X, X, X, X, X, X] rfl rfl (any_of HT_.out (by kernel_rfl)) (fun _ _ _ h => h) (Or.inl ⟨by rfl, (by intro w'; go_simp; with_reducible rfl)⟩) z4b ?_
           refine pure_ (i := 1) (N := some 139) (v := _) (a' := _) #[Y, Y, X, X, X, X, X, X, X, X, X, X, X, X, X, X, X, X] rfl rfl (any_of HT_.out (by kernel_rfl)) (fun _ _ _ h => h) (Or.inl ⟨by rfl, (by intro w'; go_simp; with_reducible rfl)⟩) z4b ?_
           refine pure_ (i := 2) (N := some 140) (v := _) (a' := _) #[Y, Y, Y, X, X, X, X, X, X, X, X, X, X, X, X, X, X, X] rfl rfl (any_of HT_.out (by kernel_rfl)) (fun _ _ _ h => h) (Or.inl ⟨by rfl, (by intro w'; go_simp; with_reducible rfl)⟩) z4b ?_
           refine pure_ (i := 3) (N := some 141) (v := _) (a' := _) #[Y, Y, Y, Y, X, X, X, X, X, X, X, X, X, X, X, X, X, X] rfl rfl (any_of HT_.out (by kernel_rfl)) (fun _ _ _ h => h) (Or.inl ⟨by rfl, (by intro w'; go_simp; with_reducible rfl)⟩) z4b ?_
           refine pure_ (i := 4) (N := some 142) (v := _) (a' := _) #[Y, Y, Y, Y, Y, X, X, X, X, X, X, X, X, X, X, X, X, X] rfl rfl (any_of HT_.out (by kernel_rfl)) (fun _ _ _ h => h) (Or.inl ⟨by rfl, (by intro w'; go_simp; with_reducible rfl)⟩) z4b ?_
           refine pure_ (i := 6) (N := some 144) (v := _) (a' := _) #[Y, Y, Y, Y, Y, X, Y, X, X, X, X, X, X, X, X, X, X, X] rfl rfl (any_of HT_.out (by kernel_rfl)) (fun _ _ _ h => h) (Or.inl ⟨by rfl, (by intro w'; go_simp; with_reducible rfl)⟩) z4b ?_
           refine pure_ (i := 7) (N := some 145) (v := _) (a' := _) #[Y, Y, Y, Y, Y, X, Y, Y, X, X, X, X, X, X, X, X, X, X] rfl rfl (any_of HT_.out (by kernel_rfl)) (fun _ _ _ h => h) (Or.inl ⟨by rfl, (by intro w'; go_simp; with_reducible rfl)⟩) z4b ?_
           refine pure_ (i := 8) (N := some 146) (v := _) (a' := _) #[Y, Y, Y, Y, Y, X, Y, Y, Y, X, X, X, X, X, X, X, X, X] rfl rfl (any_of HT_.out (by kernel_rfl)) (fun _ _ _ h => h) (Or.inl ⟨by rfl, (by intro w'; go_simp; with_reducible rfl)⟩) z4b ?_
           refine pure_ (i := 9) (N := some 147) (v := _) (a' := _) #[Y, Y, Y, Y, Y, X, Y, Y, Y, Y, X, X, X, X, X, X, X, X] rfl rfl (any_of HT_.out (by kernel_rfl)) (fun _ _ _ h => h) (Or.inl ⟨by rfl, (by intro w'; go_simp; with_reducible rfl)⟩) z4b ?_
           refine take_ (i := 5) (N := some 143) (v := _) (a' := _) #[Y, Y, Y, Y, Y, Y, Y, Y, Y, Y, X, X, X, X, X, X, X, X] rfl rfl (take_ofW HT_.out HW_.out (by kernel_rfl)) (fun _ _ _ h => h) (Or.inl ⟨by rfl, z4d1⟩) hHeld z4b ?_
           refine take_ (i := 10) (N := some 148) (v := _) (a' := _) #[Y, Y, Y, Y, Y, Y, Y, Y, Y, Y, Y, X, X, X, X, X, X, X] rfl rfl (take_ofW HT_.out HW_.out (by kernel_rfl)) (fun _ _ _ h => h) (Or.inl ⟨by rfl, z4d1⟩) hHeld z4b ?_
           refine join_ (σ := Nat) 2 #[Y, Y, Y, Y, Y, Y, Y, Y, Y, Y, Y, Y, Y, Y, Y, Y, X, X] (fun s_ => [(149, .tuple #[.agg #[.string t473, .string t474, .int .i64 t475, .bool t476], .bool false]), (19, .pointer (some ⟨s_, 0, none⟩)), (137, .tuple #[.agg #[.string t473, .string t474, .int .i64 t475, .bool t476], .bool false]), (150, .agg #[.string t473, .string t474, .int .i64 t475, .bool t476]), (151, .bool false)]) (fun s_ w' => (w'.cell? (ad471.add ((x18_5).toNat * 4)) = some (.string ((rd_T31 t428 x18_5).f0)) ∧ w'.cell? ⟨(ad471.add ((x18_5).toNat * 4)).block, (ad471.add ((x18_5).toNat * 4)).off + 1, none⟩ = some (.string ((rd_T31 t428 x18_5).f1)) ∧ w'.cell? ⟨(ad471.add ((x18_5).toNat * 4)).block, (ad471.add ((x18_5).toNat * 4)).off + 2, none⟩ = some (.int .i64 ((rd_T31 t428 x18_5).f2)) ∧ w'.cell? ⟨(ad471.add ((x18_5).toNat * 4)).block, (ad471.add ((x18_5).toNat * 4)).off + 3, none⟩ = some (.bool ((rd_T31 t428 x18_5).f3)) ∧ w'.cell? (ad471.add ((x18_5).toNat * 4)) = some (.string ((rd_T31 t428 x18_5).f0)) ∧ w'.cell? ⟨(ad471.add ((x18_5).toNat * 4)).block, (ad471.add ((x18_5).toNat * 4)).off + 1, none⟩ = some (.string ((rd_T31 t428 x18_5).f1)) ∧ w'.cell? ⟨(ad471.add ((x18_5).toNat * 4)).block, (ad471.add ((x18_5).toNat * 4)).off + 2, none⟩ = some (.int .i64 ((rd_T31 t428 x18_5).f2)) ∧ w'.cell? ⟨(ad471.add ((x18_5).toNat * 4)).block, (ad471.add ((x18_5).toNat * 4)).off + 3, none⟩ = some (.bool ((rd_T31 t428 x18_5).f3))) ∧ (Kd.R k31 31 w' w.heap.size (fun k_ => some k_ ≠ (.slice Ao65 t436.length co65 : Value).ownBlock ∧ k_ ≠ gb435 ∧ k_ ≠ gb450 ∧ k_ ≠ gb463 ∧ k_ ≠ gb469 ∧ k_ ≠ s_) (.slice (some ad471) t428.length co13) t428) ∧ (Kd.R k31 31 w' w.heap.size (fun k_ => some k_ ≠ (.slice (some ad471) t428.length co13 : Value).ownBlock ∧ k_ ≠ gb435 ∧ k_ ≠ gb450 ∧ k_ ≠ gb463 ∧ k_ ≠ gb469 ∧ k_ ≠ s_) (.slice Ao65 t436.length co65) t436) ∧ (w'.heap[gb435]? = some (.cells #[.string t431, .string t432, .int .i64 t433, .bool t434] 31 (0, 0))) ∧ (w'.heap[gb450]? = some (.cells #[.string t445, .string t446, .int .i64 t447, .bool t448] 31 (0, 0))) ∧ (w'.heap[gb463]? = some (.cells #[.string t458, .string t459, .int .i64 t460, .bool t461] 31 (0, 0))) ∧ (w'.heap[gb469]? = some (.cells #[.string t464, .string t465, .int .i64 t466, .bool t467] 31 (0, 0))) ∧ (w'.heap[s_]? = some (.cells #[.string (⟨#[]⟩ : ByteArray), .string (⟨#[]⟩ : ByteArray), .int .i64 0, .bool false] 31 (0, 0))) ∧ (w.heap.size ≤ s_) ∧ (w.heap.size ≤ s_) ∧ (gb435 ≠ s_) ∧ (s_ ≠ gb435) ∧ (gb450 ≠ s_) ∧ (s_ ≠ gb450) ∧ (gb463 ≠ s_) ∧ (s_ ≠ gb463) ∧ (gb469 ≠ s_) ∧ (s_ ≠ gb469) ∧ (Below w.heap.size w w')) ?_ ?_
           rotate_left
           {
           intro hCont
           refine two_ (i := 11) (j := 15) (Ni := some 149) (Nj := some 19) #[Y, Y, Y, Y, Y, Y, Y, Y, Y, Y, Y, Y, X, X, X, X, X, X] #[Y, Y, Y, Y, Y, Y, Y, Y, Y, Y, Y, X, X, X, X, Y, X, X] rfl rfl rfl rfl (two_of HT_.out (by kernel_rfl)) (by decide) (by decide) (fun K hK => ?_) (fun K hK => ?_)
           {
           skip
           refine goes_ Try.func24 (by kernel_rfl) rfl #[.slice Ao65 t436.length co65, .string ((rd_T31 t428 x18_5).f0), .int .i64 ((rd_T31 t428 x18_5).f2)] (by rfl) rfl rfl z4i ?_
           with_reducible refine (impl_Seen.calls k5 _ _ t436 ((rd_T31 t428 x18_5).f0) ((rd_T31 t428 x18_5).f2) t473 t474 t475 t476 false _ ?side1 ?side2 A102.out).mono ?_
           (case side1 => exact z4o)
           (case side2 => exact (Kd.R_reads' HO_5.out).2.1)
           rintro e w126 ⟨rfl, hb⟩
           have HS0_ := (hb.cell (World.block_lt_of_cell? _ _ (hHeld.1))).trans (hHeld.1)
           have HS1_ := (hb.cell (World.block_lt_of_cell? _ _ (hHeld.2.1))).trans (hHeld.2.1)
           have HS2_ := (hb.cell (World.block_lt_of_cell? _ _ (hHeld.2.2.1))).trans (hHeld.2.2.1)
           have HS3_ := (hb.cell (World.block_lt_of_cell? _ _ (hHeld.2.2.2.1))).trans (hHeld.2.2.2.1)
           have HS4_ := (hb.cell (World.block_lt_of_cell? _ _ (hHeld.2.2.2.2.1))).trans (hHeld.2.2.2.2.1)
           have HS5_ := (hb.cell (World.block_lt_of_cell? _ _ (hHeld.2.2.2.2.2.1))).trans (hHeld.2.2.2.2.2.1)
           have HS6_ := (hb.cell (World.block_lt_of_cell? _ _ (hHeld.2.2.2.2.2.2.1))).trans (hHeld.2.2.2.2.2.2.1)
           have HS7_ := (hb.cell (World.block_lt_of_cell? _ _ (hHeld.2.2.2.2.2.2.2))).trans (hHeld.2.2.2.2.2.2.2)
           refine ⟨_, rfl, ?_⟩
           have n0_ := Aside0.mk (Kd.R_below z4j hb)
           have n1_ := Aside0.mk (Kd.R_below z4k hb)
           have n2_ := Aside0.mk (blk_below (g := gb435) (o := .cells #[.string t431, .string t432, .int .i64 t433, .bool t434] 31 (0, 0)) z4d hb)
           have n3_ := Aside0.mk (blk_below (g := gb450) (o := .cells #[.string t445, .string t446, .int .i64 t447, .bool t448] 31 (0, 0)) z4e hb)
           have n4_ := Aside0.mk (blk_below (g := gb463) (o := .cells #[.string t458, .string t459, .int .i64 t460, .bool t461] 31 (0, 0)) z4f hb)
           have n5_ := Aside0.mk (blk_below (g := gb469) (o := .cells #[.string t464, .string t465, .int .i64 t466, .bool t467] 31 (0, 0)) z4g hb)
           have n6_ := Aside0.mk (below_step z4c hb)
           clear HO_3
           clear HO_5
           clear BK435
           clear BK450
           clear BK463
           clear BK469
           clear HB
           have HO_3 := n0_
           have HO_5 := n1_
           have BK435 := n2_
           have BK450 := n3_
           have BK463 := n4_
           have BK469 := n5_
           have HB := n6_
           clear n0_ n1_ n2_ n3_ n4_ n5_ n6_
           (try clear hb)
           (try clear hb2)
           (try clear hk)
           (try clear hi)
           refine hK.out _ _ ⟨HS0_, HS1_, HS2_, HS3_, HS4_, HS5_, HS6_, HS7_⟩ (fun hHeld => ?_)
           clear hK K
           refine norm_ (a' := ?_) ?_ ?_
           rotate_left
           {
           show Act.put _ (some 149) _ = _
           simp only [Act.put, List.setIfInBounds_toArray, List.set_cons_zero, List.set_cons_succ, i64_w, i32_w]
           rfl
           }
           refine pure_ (i := 12) (N := some 137) (v := _) (a' := _) #[Y, Y, Y, Y, Y, Y, Y, Y, Y, Y, Y, Y, Y, X, X, X, X, X] rfl rfl (any_of HT_.out (by kernel_rfl)) (fun _ _ _ h => h) (Or.inl ⟨by rfl, (by intro w'; go_simp; with_reducible rfl)⟩) z4b ?_
           refine pure_ (i := 13) (N := some 150) (v := _) (a' := _) #[Y, Y, Y, Y, Y, Y, Y, Y, Y, Y, Y, Y, Y, Y, X, X, X, X] rfl rfl (any_of HT_.out (by kernel_rfl)) (fun _ _ _ h => h) (Or.inl ⟨by rfl, (by intro w'; go_simp; with_reducible rfl)⟩) z4b ?_
           refine pure_ (i := 14) (N := some 151) (v := _) (a' := _) #[Y, Y, Y, Y, Y, Y, Y, Y, Y, Y, Y, Y, Y, Y, Y, X, X, X] rfl rfl (any_of HT_.out (by kernel_rfl)) (fun _ _ _ h => h) (Or.inl ⟨by rfl, (by intro w'; go_simp; with_reducible rfl)⟩) z4b ?_
           refine one_ (i := 15) (N := some 19) #[Y, Y, Y, Y, Y, Y, Y, Y, Y, Y, Y, Y, Y, Y, Y, Y, X, X] rfl rfl (one_of HT_.out (by kernel_rfl)) (by decide) (fun K hK => ?_)
           refine box_step ?hg (N := 19) ?hd (cs := #[.string (⟨#[]⟩ : ByteArray), .string (⟨#[]⟩ : ByteArray), .int .i64 0, .bool false]) (t := 31) ?hr ?_; (case hd => rfl); (case hg => rfl); (case hr => first | (go_simp; done) | (go_simp; rfl))
           intro gb478 hg w127 hbox hb
           have HS0_ := (hb.cell (World.block_lt_of_cell? _ _ (hHeld.1))).trans (hHeld.1)
           have HS1_ := (hb.cell (World.block_lt_of_cell? _ _ (hHeld.2.1))).trans (hHeld.2.1)
           have HS2_ := (hb.cell (World.block_lt_of_cell? _ _ (hHeld.2.2.1))).trans (hHeld.2.2.1)
           have HS3_ := (hb.cell (World.block_lt_of_cell? _ _ (hHeld.2.2.2.1))).trans (hHeld.2.2.2.1)
           have HS4_ := (hb.cell (World.block_lt_of_cell? _ _ (hHeld.2.2.2.2.1))).trans (hHeld.2.2.2.2.1)
           have HS5_ := (hb.cell (World.block_lt_of_cell? _ _ (hHeld.2.2.2.2.2.1))).trans (hHeld.2.2.2.2.2.1)
           have HS6_ := (hb.cell (World.block_lt_of_cell? _ _ (hHeld.2.2.2.2.2.2.1))).trans (hHeld.2.2.2.2.2.2.1)
           have HS7_ := (hb.cell (World.block_lt_of_cell? _ _ (hHeld.2.2.2.2.2.2.2))).trans (hHeld.2.2.2.2.2.2.2)
           have n0_ := Aside0.mk (Kd.R_below (Kd.R_elderB z4j gb478 (Nat.le_of_eq hg.symm)) hb)
           have n1_ := Aside0.mk (Kd.R_below (Kd.R_elderB z4k gb478 (Nat.le_of_eq hg.symm)) hb)
           have n2_ := Aside0.mk (blk_below (g := gb435) (o := .cells #[.string t431, .string t432, .int .i64 t433, .bool t434] 31 (0, 0)) z4d hb)
           have n3_ := Aside0.mk (blk_below (g := gb450) (o := .cells #[.string t445, .string t446, .int .i64 t447, .bool t448] 31 (0, 0)) z4e hb)
           have n4_ := Aside0.mk (blk_below (g := gb463) (o := .cells #[.string t458, .string t459, .int .i64 t460, .bool t461] 31 (0, 0)) z4f hb)
           have n5_ := Aside0.mk (blk_below (g := gb469) (o := .cells #[.string t464, .string t465, .int .i64 t466, .bool t467] 31 (0, 0)) z4g hb)
           have n6_ := Aside0.mk (below_step z4c hb)
           have n7_ := Aside0.mk (hbox)
           have n8_ := Aside0.mk ((by rw [hg]; exact (below_size z4c) : w.heap.size ≤ gb478))
           have n9_ := Aside0.mk ((by rw [hg]; exact (below_size z4c) : w.heap.size ≤ gb478))
           have n10_ := Aside0.mk ((by rw [hg]; exact Nat.ne_of_lt (blk_lt (g := gb435) (o := .cells #[.string t431, .string t432, .int .i64 t433, .bool t434] 31 (0, 0)) z4d) : gb435 ≠ gb478))
           have n11_ := Aside0.mk ((by rw [hg]; exact Nat.ne_of_gt (blk_lt (g := gb435) (o := .cells #[.string t431, .string t432, .int .i64 t433, .bool t434] 31 (0, 0)) z4d) : gb478 ≠ gb435))
           have n12_ := Aside0.mk ((by rw [hg]; exact Nat.ne_of_lt (blk_lt (g := gb450) (o := .cells #[.string t445, .string t446, .int .i64 t447, .bool t448] 31 (0, 0)) z4e) : gb450 ≠ gb478))
           have n13_ := Aside0.mk ((by rw [hg]; exact Nat.ne_of_gt (blk_lt (g := gb450) (o := .cells #[.string t445, .string t446, .int .i64 t447, .bool t448] 31 (0, 0)) z4e) : gb478 ≠ gb450))
           have n14_ := Aside0.mk ((by rw [hg]; exact Nat.ne_of_lt (blk_lt (g := gb463) (o := .cells #[.string t458, .string t459, .int .i64 t460, .bool t461] 31 (0, 0)) z4f) : gb463 ≠ gb478))
           have n15_ := Aside0.mk ((by rw [hg]; exact Nat.ne_of_gt (blk_lt (g := gb463) (o := .cells #[.string t458, .string t459, .int .i64 t460, .bool t461] 31 (0, 0)) z4f) : gb478 ≠ gb463))
           have n16_ := Aside0.mk ((by rw [hg]; exact Nat.ne_of_lt (blk_lt (g := gb469) (o := .cells #[.string t464, .string t465, .int .i64 t466, .bool t467] 31 (0, 0)) z4g) : gb469 ≠ gb478))
           have n17_ := Aside0.mk ((by rw [hg]; exact Nat.ne_of_gt (blk_lt (g := gb469) (o := .cells #[.string t464, .string t465, .int .i64 t466, .bool t467] 31 (0, 0)) z4g) : gb478 ≠ gb469))
           clear HO_3
           clear HO_5
           clear BK435
           clear BK450
           clear BK463
           clear BK469
           clear HB
           have HO_3 := n0_
           have HO_5 := n1_
           have BK435 := n2_
           have BK450 := n3_
           have BK463 := n4_
           have BK469 := n5_
           have HB := n6_
           have BK478 := n7_
           have GW478 := n8_
           have GE478 := n9_
           have NB435_478 := n10_
           have NB478_435 := n11_
           have NB450_478 := n12_
           have NB478_450 := n13_
           have NB463_478 := n14_
           have NB478_463 := n15_
           have NB469_478 := n16_
           have NB478_469 := n17_
           clear n0_ n1_ n2_ n3_ n4_ n5_ n6_ n7_ n8_ n9_ n10_ n11_ n12_ n13_ n14_ n15_ n16_ n17_
           clear hb hbox hg
           refine hK.out _ _ ⟨HS0_, HS1_, HS2_, HS3_, HS4_, HS5_, HS6_, HS7_⟩ (fun hHeld => ?_)
           clear hK K
           refine norm_ (a' := ?_) ?_ ?_
           rotate_left
           {
           show Act.put _ (some 19) _ = _
           simp only [Act.put, List.setIfInBounds_toArray, List.set_cons_zero, List.set_cons_succ, i64_w, i32_w]
           rfl
           }
           exact norm_ z4i1 (hCont (gb478) _ ⟨hHeld, z4p, z4q, z4d, z4e, z4f, z4g, z4w, GW478.out, GE478.out, NB435_478.out, NB478_435.out, NB450_478.out, NB478_450.out, NB463_478.out, NB478_463.out, NB469_478.out, NB478_469.out, z4h⟩)
           }
           {
           skip
           refine box_step ?hg (N := 19) ?hd (cs := #[.string (⟨#[]⟩ : ByteArray), .string (⟨#[]⟩ : ByteArray), .int .i64 0, .bool false]) (t := 31) ?hr ?_; (case hd => rfl); (case hg => rfl); (case hr => first | (go_simp; done) | (go_simp; rfl))
           intro gb478 hg w126 hbox hb
           have HS0_ := (hb.cell (World.block_lt_of_cell? _ _ (hHeld.1))).trans (hHeld.1)
           have HS1_ := (hb.cell (World.block_lt_of_cell? _ _ (hHeld.2.1))).trans (hHeld.2.1)
           have HS2_ := (hb.cell (World.block_lt_of_cell? _ _ (hHeld.2.2.1))).trans (hHeld.2.2.1)
           have HS3_ := (hb.cell (World.block_lt_of_cell? _ _ (hHeld.2.2.2.1))).trans (hHeld.2.2.2.1)
           have HS4_ := (hb.cell (World.block_lt_of_cell? _ _ (hHeld.2.2.2.2.1))).trans (hHeld.2.2.2.2.1)
           have HS5_ := (hb.cell (World.block_lt_of_cell? _ _ (hHeld.2.2.2.2.2.1))).trans (hHeld.2.2.2.2.2.1)
           have HS6_ := (hb.cell (World.block_lt_of_cell? _ _ (hHeld.2.2.2.2.2.2.1))).trans (hHeld.2.2.2.2.2.2.1)
           have HS7_ := (hb.cell (World.block_lt_of_cell? _ _ (hHeld.2.2.2.2.2.2.2))).trans (hHeld.2.2.2.2.2.2.2)
           have n0_ := Aside0.mk (Kd.R_below (Kd.R_elderB z4j gb478 (Nat.le_of_eq hg.symm)) hb)
           have n1_ := Aside0.mk (Kd.R_below (Kd.R_elderB z4k gb478 (Nat.le_of_eq hg.symm)) hb)
           have n2_ := Aside0.mk (blk_below (g := gb435) (o := .cells #[.string t431, .string t432, .int .i64 t433, .bool t434] 31 (0, 0)) z4d hb)
           have n3_ := Aside0.mk (blk_below (g := gb450) (o := .cells #[.string t445, .string t446, .int .i64 t447, .bool t448] 31 (0, 0)) z4e hb)
           have n4_ := Aside0.mk (blk_below (g := gb463) (o := .cells #[.string t458, .string t459, .int .i64 t460, .bool t461] 31 (0, 0)) z4f hb)
           have n5_ := Aside0.mk (blk_below (g := gb469) (o := .cells #[.string t464, .string t465, .int .i64 t466, .bool t467] 31 (0, 0)) z4g hb)
           have n6_ := Aside0.mk (below_step z4c hb)
           have n7_ := Aside0.mk (hbox)
           have n8_ := Aside0.mk ((by rw [hg]; exact (below_size z4c) : w.heap.size ≤ gb478))
           have n9_ := Aside0.mk ((by rw [hg]; exact (below_size z4c) : w.heap.size ≤ gb478))
           have n10_ := Aside0.mk ((by rw [hg]; exact Nat.ne_of_lt (blk_lt (g := gb435) (o := .cells #[.string t431, .string t432, .int .i64 t433, .bool t434] 31 (0, 0)) z4d) : gb435 ≠ gb478))
           have n11_ := Aside0.mk ((by rw [hg]; exact Nat.ne_of_gt (blk_lt (g := gb435) (o := .cells #[.string t431, .string t432, .int .i64 t433, .bool t434] 31 (0, 0)) z4d) : gb478 ≠ gb435))
           have n12_ := Aside0.mk ((by rw [hg]; exact Nat.ne_of_lt (blk_lt (g := gb450) (o := .cells #[.string t445, .string t446, .int .i64 t447, .bool t448] 31 (0, 0)) z4e) : gb450 ≠ gb478))
           have n13_ := Aside0.mk ((by rw [hg]; exact Nat.ne_of_gt (blk_lt (g := gb450) (o := .cells #[.string t445, .string t446, .int .i64 t447, .bool t448] 31 (0, 0)) z4e) : gb478 ≠ gb450))
           have n14_ := Aside0.mk ((by rw [hg]; exact Nat.ne_of_lt (blk_lt (g := gb463) (o := .cells #[.string t458, .string t459, .int .i64 t460, .bool t461] 31 (0, 0)) z4f) : gb463 ≠ gb478))
           have n15_ := Aside0.mk ((by rw [hg]; exact Nat.ne_of_gt (blk_lt (g := gb463) (o := .cells #[.string t458, .string t459, .int .i64 t460, .bool t461] 31 (0, 0)) z4f) : gb478 ≠ gb463))
           have n16_ := Aside0.mk ((by rw [hg]; exact Nat.ne_of_lt (blk_lt (g := gb469) (o := .cells #[.string t464, .string t465, .int .i64 t466, .bool t467] 31 (0, 0)) z4g) : gb469 ≠ gb478))
           have n17_ := Aside0.mk ((by rw [hg]; exact Nat.ne_of_gt (blk_lt (g := gb469) (o := .cells #[.string t464, .string t465, .int .i64 t466, .bool t467] 31 (0, 0)) z4g) : gb478 ≠ gb469))
           clear HO_3
           clear HO_5
           clear BK435
           clear BK450
           clear BK463
           clear BK469
           clear HB
           have HO_3 := n0_
           have HO_5 := n1_
           have BK435 := n2_
           have BK450 := n3_
           have BK463 := n4_
           have BK469 := n5_
           have HB := n6_
           have BK478 := n7_
           have GW478 := n8_
           have GE478 := n9_
           have NB435_478 := n10_
           have NB478_435 := n11_
           have NB450_478 := n12_
           have NB478_450 := n13_
           have NB463_478 := n14_
           have NB478_463 := n15_
           have NB469_478 := n16_
           have NB478_469 := n17_
           clear n0_ n1_ n2_ n3_ n4_ n5_ n6_ n7_ n8_ n9_ n10_ n11_ n12_ n13_ n14_ n15_ n16_ n17_
           clear hb hbox hg
           refine hK.out _ _ ⟨HS0_, HS1_, HS2_, HS3_, HS4_, HS5_, HS6_, HS7_⟩ (fun hHeld => ?_)
           clear hK K
           refine norm_ (a' := ?_) ?_ ?_
           rotate_left
           {
           show Act.put _ (some 19) _ = _
           simp only [Act.put, List.setIfInBounds_toArray, List.set_cons_zero, List.set_cons_succ, i64_w, i32_w]
           rfl
           }
           refine one_ (i := 11) (N := some 149) #[Y, Y, Y, Y, Y, Y, Y, Y, Y, Y, Y, Y, X, X, X, Y, X, X] rfl rfl (one_of HT_.out (by kernel_rfl)) (by decide) (fun K hK => ?_)
           refine goes_ Try.func24 (by kernel_rfl) rfl #[.slice Ao65 t436.length co65, .string ((rd_T31 t428 x18_5).f0), .int .i64 ((rd_T31 t428 x18_5).f2)] (by rfl) rfl rfl z4i ?_
           with_reducible refine (impl_Seen.calls k5 _ _ t436 ((rd_T31 t428 x18_5).f0) ((rd_T31 t428 x18_5).f2) t473 t474 t475 t476 false _ ?side1 ?side2 A102.out).mono ?_
           (case side1 => exact z4o)
           (case side2 => exact (Kd.R_reads' HO_5.out).2.1)
           rintro e w127 ⟨rfl, hb⟩
           have HS0_ := (hb.cell (World.block_lt_of_cell? _ _ (hHeld.1))).trans (hHeld.1)
           have HS1_ := (hb.cell (World.block_lt_of_cell? _ _ (hHeld.2.1))).trans (hHeld.2.1)
           have HS2_ := (hb.cell (World.block_lt_of_cell? _ _ (hHeld.2.2.1))).trans (hHeld.2.2.1)
           have HS3_ := (hb.cell (World.block_lt_of_cell? _ _ (hHeld.2.2.2.1))).trans (hHeld.2.2.2.1)
           have HS4_ := (hb.cell (World.block_lt_of_cell? _ _ (hHeld.2.2.2.2.1))).trans (hHeld.2.2.2.2.1)
           have HS5_ := (hb.cell (World.block_lt_of_cell? _ _ (hHeld.2.2.2.2.2.1))).trans (hHeld.2.2.2.2.2.1)
           have HS6_ := (hb.cell (World.block_lt_of_cell? _ _ (hHeld.2.2.2.2.2.2.1))).trans (hHeld.2.2.2.2.2.2.1)
           have HS7_ := (hb.cell (World.block_lt_of_cell? _ _ (hHeld.2.2.2.2.2.2.2))).trans (hHeld.2.2.2.2.2.2.2)
           refine ⟨_, rfl, ?_⟩
           have n0_ := Aside0.mk (Kd.R_below z4j hb)
           have n1_ := Aside0.mk (Kd.R_below z4k hb)
           have n2_ := Aside0.mk (blk_below (g := gb435) (o := .cells #[.string t431, .string t432, .int .i64 t433, .bool t434] 31 (0, 0)) z4d hb)
           have n3_ := Aside0.mk (blk_below (g := gb450) (o := .cells #[.string t445, .string t446, .int .i64 t447, .bool t448] 31 (0, 0)) z4e hb)
           have n4_ := Aside0.mk (blk_below (g := gb463) (o := .cells #[.string t458, .string t459, .int .i64 t460, .bool t461] 31 (0, 0)) z4f hb)
           have n5_ := Aside0.mk (blk_below (g := gb469) (o := .cells #[.string t464, .string t465, .int .i64 t466, .bool t467] 31 (0, 0)) z4g hb)
           have n6_ := Aside0.mk (blk_below (g := gb478) (o := .cells #[.string (⟨#[]⟩ : ByteArray), .string (⟨#[]⟩ : ByteArray), .int .i64 0, .bool false] 31 (0, 0)) z4w hb)
           have n7_ := Aside0.mk (below_step z4h hb)
           clear HO_3
           clear HO_5
           clear BK435
           clear BK450
           clear BK463
           clear BK469
           clear BK478
           clear HB
           have HO_3 := n0_
           have HO_5 := n1_
           have BK435 := n2_
           have BK450 := n3_
           have BK463 := n4_
           have BK469 := n5_
           have BK478 := n6_
           have HB := n7_
           clear n0_ n1_ n2_ n3_ n4_ n5_ n6_ n7_
           (try clear hb)
           (try clear hb2)
           (try clear hk)
           (try clear hi)
           refine hK.out _ _ ⟨HS0_, HS1_, HS2_, HS3_, HS4_, HS5_, HS6_, HS7_⟩ (fun hHeld => ?_)
           clear hK K
           refine norm_ (a' := ?_) ?_ ?_
           rotate_left
           {
           show Act.put _ (some 149) _ = _
           simp only [Act.put, List.setIfInBounds_toArray, List.set_cons_zero, List.set_cons_succ, i64_w, i32_w]
           rfl
           }
           refine pure_ (i := 12) (N := some 137) (v := _) (a' := _) #[Y, Y, Y, Y, Y, Y, Y, Y, Y, Y, Y, Y, Y, X, X, Y, X, X] rfl rfl (any_of HT_.out (by kernel_rfl)) (fun _ _ _ h => h) (Or.inl ⟨by rfl, (by intro w'; go_simp; with_reducible rfl)⟩) z4b ?_
           refine pure_ (i := 13) (N := some 150) (v := _) (a' := _) #[Y, Y, Y, Y, Y, Y, Y, Y, Y, Y, Y, Y, Y, Y, X, Y, X, X] rfl rfl (any_of HT_.out (by kernel_rfl)) (fun _ _ _ h => h) (Or.inl ⟨by rfl, (by intro w'; go_simp; with_reducible rfl)⟩) z4b ?_
           refine pure_ (i := 14) (N := some 151) (v := _) (a' := _) #[Y, Y, Y, Y, Y, Y, Y, Y, Y, Y, Y, Y, Y, Y, Y, Y, X, X] rfl rfl (any_of HT_.out (by kernel_rfl)) (fun _ _ _ h => h) (Or.inl ⟨by rfl, (by intro w'; go_simp; with_reducible rfl)⟩) z4b ?_
           exact norm_ z4i1 (hCont (gb478) _ ⟨hHeld, z4p, z4q, z4d, z4e, z4f, z4g, z4w, GW478.out, GE478.out, NB435_478.out, NB478_435.out, NB450_478.out, NB478_450.out, NB463_478.out, NB478_463.out, NB469_478.out, NB478_469.out, z4h⟩)
           }
           }
           rintro gb478 w128 ⟨hS_, h0_, h1_, h2_, h3_, h4_, h5_, h6_, h7_, h8_, h9_, h10_, h11_, h12_, h13_, h14_, h15_, h16_, h17_⟩
           have n0_ : Aside0 (Kd.R k31 31 w128 w.heap.size (fun k_ => some k_ ≠ (.slice Ao65 t436.length co65 : Value).ownBlock ∧ k_ ≠ gb435 ∧ k_ ≠ gb450 ∧ k_ ≠ gb463 ∧ k_ ≠ gb469 ∧ k_ ≠ gb478) (.slice (some ad471) t428.length co13) t428) := ⟨h0_⟩
           have n1_ : Aside0 (Kd.R k31 31 w128 w.heap.size (fun k_ => some k_ ≠ (.slice (some ad471) t428.length co13 : Value).ownBlock ∧ k_ ≠ gb435 ∧ k_ ≠ gb450 ∧ k_ ≠ gb463 ∧ k_ ≠ gb469 ∧ k_ ≠ gb478) (.slice Ao65 t436.length co65) t436) := ⟨h1_⟩
           have n2_ : Aside0 (w128.heap[gb435]? = some (.cells #[.string t431, .string t432, .int .i64 t433, .bool t434] 31 (0, 0))) := ⟨h2_⟩
           have n3_ : Aside0 (w128.heap[gb450]? = some (.cells #[.string t445, .string t446, .int .i64 t447, .bool t448] 31 (0, 0))) := ⟨h3_⟩
           have n4_ : Aside0 (w128.heap[gb463]? = some (.cells #[.string t458, .string t459, .int .i64 t460, .bool t461] 31 (0, 0))) := ⟨h4_⟩
           have n5_ : Aside0 (w128.heap[gb469]? = some (.cells #[.string t464, .string t465, .int .i64 t466, .bool t467] 31 (0, 0))) := ⟨h5_⟩
           have n6_ : Aside0 (w128.heap[gb478]? = some (.cells #[.string (⟨#[]⟩ : ByteArray), .string (⟨#[]⟩ : ByteArray), .int .i64 0, .bool false] 31 (0, 0))) := ⟨h6_⟩
           have n7_ : Aside0 (w.heap.size ≤ gb478) := ⟨h7_⟩
           have n8_ : Aside0 (w.heap.size ≤ gb478) := ⟨h8_⟩
           have n9_ : Aside0 (gb435 ≠ gb478) := ⟨h9_⟩
           have n10_ : Aside0 (gb478 ≠ gb435) := ⟨h10_⟩
           have n11_ : Aside0 (gb450 ≠ gb478) := ⟨h11_⟩
           have n12_ : Aside0 (gb478 ≠ gb450) := ⟨h12_⟩
           have n13_ : Aside0 (gb463 ≠ gb478) := ⟨h13_⟩
           have n14_ : Aside0 (gb478 ≠ gb463) := ⟨h14_⟩
           have n15_ : Aside0 (gb469 ≠ gb478) := ⟨h15_⟩
           have n16_ : Aside0 (gb478 ≠ gb469) := ⟨h16_⟩
           have n17_ : Aside0 (Below w.heap.size w w128) := ⟨h17_⟩
           clear HO_3
           clear HO_5
           clear BK435
           clear BK450
           clear BK463
           clear BK469
           clear HB
           clear h0_ h1_ h2_ h3_ h4_ h5_ h6_ h7_ h8_ h9_ h10_ h11_ h12_ h13_ h14_ h15_ h16_ h17_
           have HO_3 := n0_
           have HO_5 := n1_
           have BK435 := n2_
           have BK450 := n3_
           have BK463 := n4_
           have BK469 := n5_
           have BK478 := n6_
           have GW478 := n7_
           have GE478 := n8_
           have NB435_478 := n9_
           have NB478_435 := n10_
           have NB450_478 := n11_
           have NB478_450 := n12_
           have NB463_478 := n13_
           have NB478_463 := n14_
           have NB469_478 := n15_
           have NB478_469 := n16_
           have HB := n17_
           clear n0_ n1_ n2_ n3_ n4_ n5_ n6_ n7_ n8_ n9_ n10_ n11_ n12_ n13_ n14_ n15_ n16_ n17_
           have hHeld : w128.cell? (ad471.add ((x18_5).toNat * 4)) = some (.string ((rd_T31 t428 x18_5).f0)) ∧ w128.cell? ⟨(ad471.add ((x18_5).toNat * 4)).block, (ad471.add ((x18_5).toNat * 4)).off + 1, none⟩ = some (.string ((rd_T31 t428 x18_5).f1)) ∧ w128.cell? ⟨(ad471.add ((x18_5).toNat * 4)).block, (ad471.add ((x18_5).toNat * 4)).off + 2, none⟩ = some (.int .i64 ((rd_T31 t428 x18_5).f2)) ∧ w128.cell? ⟨(ad471.add ((x18_5).toNat * 4)).block, (ad471.add ((x18_5).toNat * 4)).off + 3, none⟩ = some (.bool ((rd_T31 t428 x18_5).f3)) ∧ w128.cell? (ad471.add ((x18_5).toNat * 4)) = some (.string ((rd_T31 t428 x18_5).f0)) ∧ w128.cell? ⟨(ad471.add ((x18_5).toNat * 4)).block, (ad471.add ((x18_5).toNat * 4)).off + 1, none⟩ = some (.string ((rd_T31 t428 x18_5).f1)) ∧ w128.cell? ⟨(ad471.add ((x18_5).toNat * 4)).block, (ad471.add ((x18_5).toNat * 4)).off + 2, none⟩ = some (.int .i64 ((rd_T31 t428 x18_5).f2)) ∧ w128.cell? ⟨(ad471.add ((x18_5).toNat * 4)).block, (ad471.add ((x18_5).toNat * 4)).off + 3, none⟩ = some (.bool ((rd_T31 t428 x18_5).f3)) := hS_
           refine norm_ (a' := ?_) ?_ ?_
           rotate_left
           exact (by simp only [putAll, Act.put, List.setIfInBounds_toArray, List.set_cons_zero, List.set_cons_succ]; rfl)
           refine one_ (i := 16) (N := none) #[Y, Y, Y, Y, Y, Y, Y, Y, Y, Y, Y, Y, Y, Y, Y, Y, Y, X] rfl rfl (one_of HT_.out (by kernel_rfl)) (by decide) (fun K hK => ?_)
           have hs129 : w128.cell? ⟨gb478, 0, none⟩ = some (.string (⟨#[]⟩ : ByteArray)) := (blk_cell BK478.out 0).trans rfl
           have hfs129 := blk_frozen BK478.out 0
           have hns129_0 := NB435_478.out
           have hns129_1 := NB450_478.out
           have hns129_2 := NB463_478.out
           have hns129_3 := NB469_478.out
           have hms129_0 := NB478_435.out
           have hms129_1 := NB478_450.out
           have hms129_2 := NB478_463.out
           have hms129_3 := NB478_469.out
           have hs130 : w128.cell? ⟨gb478, 1, none⟩ = some (.string (⟨#[]⟩ : ByteArray)) := (blk_cell BK478.out 1).trans rfl
           have hfs130 := blk_frozen BK478.out 1
           have hns130_0 := NB435_478.out
           have hns130_1 := NB450_478.out
           have hns130_2 := NB463_478.out
           have hns130_3 := NB469_478.out
           have hms130_0 := NB478_435.out
           have hms130_1 := NB478_450.out
           have hms130_2 := NB478_463.out
           have hms130_3 := NB478_469.out
           have hs131 : w128.cell? ⟨gb478, 2, none⟩ = some (.int .i64 0) := (blk_cell BK478.out 2).trans rfl
           have hfs131 := blk_frozen BK478.out 2
           have hns131_0 := NB435_478.out
           have hns131_1 := NB450_478.out
           have hns131_2 := NB463_478.out
           have hns131_3 := NB469_478.out
           have hms131_0 := NB478_435.out
           have hms131_1 := NB478_450.out
           have hms131_2 := NB478_463.out
           have hms131_3 := NB478_469.out
           have hs132 : w128.cell? ⟨gb478, 3, none⟩ = some (.bool false) := (blk_cell BK478.out 3).trans rfl
           have hfs132 := blk_frozen BK478.out 3
           have hns132_0 := NB435_478.out
           have hns132_1 := NB450_478.out
           have hns132_2 := NB463_478.out
           have hns132_3 := NB469_478.out
           have hms132_0 := NB478_435.out
           have hms132_1 := NB478_450.out
           have hms132_2 := NB478_463.out
           have hms132_3 := NB478_469.out
           refine skip_ (w1 := ?_) (by rfl) rfl ?_ ?_
           rotate_left
           {
           go_simp
           rfl
           }
           refine hK.out _ _ ⟨((cell_far (p := ⟨gb478, _, none⟩) z4a _).trans (((cell_far (p := ⟨gb478, _, none⟩) z4a _).trans (((cell_far (p := ⟨gb478, _, none⟩) z4a _).trans (((cell_far (p := ⟨gb478, _, none⟩) z4a _).trans (hHeld.1)))))))), ((cell_far (p := ⟨gb478, _, none⟩) z4a _).trans (((cell_far (p := ⟨gb478, _, none⟩) z4a _).trans (((cell_far (p := ⟨gb478, _, none⟩) z4a _).trans (((cell_far (p := ⟨gb478, _, none⟩) z4a _).trans (hHeld.2.1)))))))), ((cell_far (p := ⟨gb478, _, none⟩) z4a _).trans (((cell_far (p := ⟨gb478, _, none⟩) z4a _).trans (((cell_far (p := ⟨gb478, _, none⟩) z4a _).trans (((cell_far (p := ⟨gb478, _, none⟩) z4a _).trans (hHeld.2.2.1)))))))), ((cell_far (p := ⟨gb478, _, none⟩) z4a _).trans (((cell_far (p := ⟨gb478, _, none⟩) z4a _).trans (((cell_far (p := ⟨gb478, _, none⟩) z4a _).trans (((cell_far (p := ⟨gb478, _, none⟩) z4a _).trans (hHeld.2.2.2.1)))))))), ((cell_far (p := ⟨gb478, _, none⟩) z4a _).trans (((cell_far (p := ⟨gb478, _, none⟩) z4a _).trans (((cell_far (p := ⟨gb478, _, none⟩) z4a _).trans (((cell_far (p := ⟨gb478, _, none⟩) z4a _).trans (hHeld.2.2.2.2.1)))))))), ((cell_far (p := ⟨gb478, _, none⟩) z4a _).trans (((cell_far (p := ⟨gb478, _, none⟩) z4a _).trans (((cell_far (p := ⟨gb478, _, none⟩) z4a _).trans (((cell_far (p := ⟨gb478, _, none⟩) z4a _).trans (hHeld.2.2.2.2.2.1)))))))), ((cell_far (p := ⟨gb478, _, none⟩) z4a _).trans (((cell_far (p := ⟨gb478, _, none⟩) z4a _).trans (((cell_far (p := ⟨gb478, _, none⟩) z4a _).trans (((cell_far (p := ⟨gb478, _, none⟩) z4a _).trans (hHeld.2.2.2.2.2.2.1)))))))), ((cell_far (p := ⟨gb478, _, none⟩) z4a _).trans (((cell_far (p := ⟨gb478, _, none⟩) z4a _).trans (((cell_far (p := ⟨gb478, _, none⟩) z4a _).trans (((cell_far (p := ⟨gb478, _, none⟩) z4a _).trans (hHeld.2.2.2.2.2.2.2))))))))⟩ (fun hHeld => ?_)
           clear hK K
           refine pure_ (i := 17) (N := some 20) (v := _) (a' := _) #[Y, Y, Y, Y, Y, Y, Y, Y, Y, Y, Y, Y, Y, Y, Y, Y, Y, Y] rfl rfl (any_of HT_.out (by kernel_rfl)) (fun _ _ _ h => h) (Or.inl ⟨by rfl, (by intro w'; go_simp; with_reducible rfl)⟩) z4b ?_
           refine done_ (done_of HT_.out (by kernel_rfl)) ?_
           try go_wp2
           have n0_ : Aside0 (Kd.R k31 31 ((((w128.setCell ⟨gb478, 0, none⟩ (.string t473)).setCell ⟨gb478, 1, none⟩ (.string t474)).setCell ⟨gb478, 2, none⟩ (.int .i64 t475)).setCell ⟨gb478, 3, none⟩ (.bool t476)) w.heap.size (fun k_ => some k_ ≠ (.slice Ao65 t436.length co65 : Value).ownBlock ∧ k_ ≠ gb435 ∧ k_ ≠ gb450 ∧ k_ ≠ gb463 ∧ k_ ≠ gb469 ∧ k_ ≠ gb478) (.slice (some ad471) t428.length co13) t428) := ⟨by (with_reducible repeat (first | apply Kd.R_alloc | apply Kd.R_drewN | apply Kd.R_drew)); exact Kd.R_mono (Kd.R_far (p := ⟨gb478, 3, none⟩) (Kd.R_far (p := ⟨gb478, 2, none⟩) (Kd.R_far (p := ⟨gb478, 1, none⟩) (Kd.R_far (p := ⟨gb478, 0, none⟩) (Kd.R_mono HO_3.out (fun k_ hk => (⟨hk, hk.2.2.2.2.2⟩ : _ ∧ k_ ≠ gb478))) (fun _ hk => hk.2) (.string t473)) (fun _ hk => hk.2) (.string t474)) (fun _ hk => hk.2) (.int .i64 t475)) (fun _ hk => hk.2) (.bool t476)) (fun _ hk => ⟨hk.1.1, ⟨hk.1.2.1, ⟨hk.1.2.2.1, ⟨hk.1.2.2.2.1, ⟨hk.1.2.2.2.2.1, hk.1.2.2.2.2.2⟩⟩⟩⟩⟩)⟩
           have n1_ : Aside0 (Kd.R k31 31 ((((w128.setCell ⟨gb478, 0, none⟩ (.string t473)).setCell ⟨gb478, 1, none⟩ (.string t474)).setCell ⟨gb478, 2, none⟩ (.int .i64 t475)).setCell ⟨gb478, 3, none⟩ (.bool t476)) w.heap.size (fun k_ => some k_ ≠ (.slice (some ad471) t428.length co13 : Value).ownBlock ∧ k_ ≠ gb435 ∧ k_ ≠ gb450 ∧ k_ ≠ gb463 ∧ k_ ≠ gb469 ∧ k_ ≠ gb478) (.slice Ao65 t436.length co65) t436) := ⟨by (with_reducible repeat (first | apply Kd.R_alloc | apply Kd.R_drewN | apply Kd.R_drew)); exact Kd.R_mono (Kd.R_far (p := ⟨gb478, 3, none⟩) (Kd.R_far (p := ⟨gb478, 2, none⟩) (Kd.R_far (p := ⟨gb478, 1, none⟩) (Kd.R_far (p := ⟨gb478, 0, none⟩) (Kd.R_mono HO_5.out (fun k_ hk => (⟨hk, hk.2.2.2.2.2⟩ : _ ∧ k_ ≠ gb478))) (fun _ hk => hk.2) (.string t473)) (fun _ hk => hk.2) (.string t474)) (fun _ hk => hk.2) (.int .i64 t475)) (fun _ hk => hk.2) (.bool t476)) (fun _ hk => ⟨hk.1.1, ⟨hk.1.2.1, ⟨hk.1.2.2.1, ⟨hk.1.2.2.2.1, ⟨hk.1.2.2.2.2.1, hk.1.2.2.2.2.2⟩⟩⟩⟩⟩)⟩
           have n2_ : Aside0 (((((w128.setCell ⟨gb478, 0, none⟩ (.string t473)).setCell ⟨gb478, 1, none⟩ (.string t474)).setCell ⟨gb478, 2, none⟩ (.int .i64 t475)).setCell ⟨gb478, 3, none⟩ (.bool t476)).heap[gb435]? = some (.cells #[.string t431, .string t432, .int .i64 t433, .bool t434] 31 (0, 0))) := ⟨by (with_reducible repeat (first | refine blk_drewN ?_ _ | refine blk_drew ?_ | refine blk_alloc ?_ _)); refine blk_far ?_ NB435_478.out _; (with_reducible repeat (first | refine blk_drewN ?_ _ | refine blk_drew ?_ | refine blk_alloc ?_ _)); refine blk_far ?_ NB435_478.out _; (with_reducible repeat (first | refine blk_drewN ?_ _ | refine blk_drew ?_ | refine blk_alloc ?_ _)); refine blk_far ?_ NB435_478.out _; (with_reducible repeat (first | refine blk_drewN ?_ _ | refine blk_drew ?_ | refine blk_alloc ?_ _)); refine blk_far ?_ NB435_478.out _; (with_reducible repeat (first | refine blk_drewN ?_ _ | refine blk_drew ?_ | refine blk_alloc ?_ _)); exact BK435.out⟩
           have n3_ : Aside0 (((((w128.setCell ⟨gb478, 0, none⟩ (.string t473)).setCell ⟨gb478, 1, none⟩ (.string t474)).setCell ⟨gb478, 2, none⟩ (.int .i64 t475)).setCell ⟨gb478, 3, none⟩ (.bool t476)).heap[gb450]? = some (.cells #[.string t445, .string t446, .int .i64 t447, .bool t448] 31 (0, 0))) := ⟨by (with_reducible repeat (first | refine blk_drewN ?_ _ | refine blk_drew ?_ | refine blk_alloc ?_ _)); refine blk_far ?_ NB450_478.out _; (with_reducible repeat (first | refine blk_drewN ?_ _ | refine blk_drew ?_ | refine blk_alloc ?_ _)); refine blk_far ?_ NB450_478.out _; (with_reducible repeat (first | refine blk_drewN ?_ _ | refine blk_drew ?_ | refine blk_alloc ?_ _)); refine blk_far ?_ NB450_478.out _; (with_reducible repeat (first | refine blk_drewN ?_ _ | refine blk_drew ?_ | refine blk_alloc ?_ _)); refine blk_far ?_ NB450_478.out _; (with_reducible repeat (first | refine blk_drewN ?_ _ | refine blk_drew ?_ | refine blk_alloc ?_ _)); exact BK450.out⟩
           have n4_ : Aside0 (((((w128.setCell ⟨gb478, 0, none⟩ (.string t473)).setCell ⟨gb478, 1, none⟩ (.string t474)).setCell ⟨gb478, 2, none⟩ (.int .i64 t475)).setCell ⟨gb478, 3, none⟩ (.bool t476)).heap[gb463]? = some (.cells #[.string t458, .string t459, .int .i64 t460, .bool t461] 31 (0, 0))) := ⟨by (with_reducible repeat (first | refine blk_drewN ?_ _ | refine blk_drew ?_ | refine blk_alloc ?_ _)); refine blk_far ?_ NB463_478.out _; (with_reducible repeat (first | refine blk_drewN ?_ _ | refine blk_drew ?_ | refine blk_alloc ?_ _)); refine blk_far ?_ NB463_478.out _; (with_reducible repeat (first | refine blk_drewN ?_ _ | refine blk_drew ?_ | refine blk_alloc ?_ _)); refine blk_far ?_ NB463_478.out _; (with_reducible repeat (first | refine blk_drewN ?_ _ | refine blk_drew ?_ | refine blk_alloc ?_ _)); refine blk_far ?_ NB463_478.out _; (with_reducible repeat (first | refine blk_drewN ?_ _ | refine blk_drew ?_ | refine blk_alloc ?_ _)); exact BK463.out⟩
           have n5_ : Aside0 (((((w128.setCell ⟨gb478, 0, none⟩ (.string t473)).setCell ⟨gb478, 1, none⟩ (.string t474)).setCell ⟨gb478, 2, none⟩ (.int .i64 t475)).setCell ⟨gb478, 3, none⟩ (.bool t476)).heap[gb469]? = some (.cells #[.string t464, .string t465, .int .i64 t466, .bool t467] 31 (0, 0))) := ⟨by (with_reducible repeat (first | refine blk_drewN ?_ _ | refine blk_drew ?_ | refine blk_alloc ?_ _)); refine blk_far ?_ NB469_478.out _; (with_reducible repeat (first | refine blk_drewN ?_ _ | refine blk_drew ?_ | refine blk_alloc ?_ _)); refine blk_far ?_ NB469_478.out _; (with_reducible repeat (first | refine blk_drewN ?_ _ | refine blk_drew ?_ | refine blk_alloc ?_ _)); refine blk_far ?_ NB469_478.out _; (with_reducible repeat (first | refine blk_drewN ?_ _ | refine blk_drew ?_ | refine blk_alloc ?_ _)); refine blk_far ?_ NB469_478.out _; (with_reducible repeat (first | refine blk_drewN ?_ _ | refine blk_drew ?_ | refine blk_alloc ?_ _)); exact BK469.out⟩
           have n6_ : Aside0 (((((w128.setCell ⟨gb478, 0, none⟩ (.string t473)).setCell ⟨gb478, 1, none⟩ (.string t474)).setCell ⟨gb478, 2, none⟩ (.int .i64 t475)).setCell ⟨gb478, 3, none⟩ (.bool t476)).heap[gb478]? = some (.cells #[.string t473, .string t474, .int .i64 t475, .bool t476] 31 (0, 0))) := ⟨by (with_reducible repeat (first | refine blk_drewN ?_ _ | refine blk_drew ?_ | refine blk_alloc ?_ _)); refine blk_put (cs := #[.string t473, .string t474, .int .i64 t475, .bool false]) ?_ 3 _ rfl; (with_reducible repeat (first | refine blk_drewN ?_ _ | refine blk_drew ?_ | refine blk_alloc ?_ _)); refine blk_put (cs := #[.string t473, .string t474, .int .i64 0, .bool false]) ?_ 2 _ rfl; (with_reducible repeat (first | refine blk_drewN ?_ _ | refine blk_drew ?_ | refine blk_alloc ?_ _)); refine blk_put (cs := #[.string t473, .string (⟨#[]⟩ : ByteArray), .int .i64 0, .bool false]) ?_ 1 _ rfl; (with_reducible repeat (first | refine blk_drewN ?_ _ | refine blk_drew ?_ | refine blk_alloc ?_ _)); refine blk_put (cs := #[.string (⟨#[]⟩ : ByteArray), .string (⟨#[]⟩ : ByteArray), .int .i64 0, .bool false]) ?_ 0 _ rfl; (with_reducible repeat (first | refine blk_drewN ?_ _ | refine blk_drew ?_ | refine blk_alloc ?_ _)); exact BK478.out⟩
           have n7_ : Aside0 (Below w.heap.size w ((((w128.setCell ⟨gb478, 0, none⟩ (.string t473)).setCell ⟨gb478, 1, none⟩ (.string t474)).setCell ⟨gb478, 2, none⟩ (.int .i64 t475)).setCell ⟨gb478, 3, none⟩ (.bool t476))) := ⟨by repeat (first | (with_reducible first | exact HB.out | apply below_alloc | apply pw_below_drewN | apply below_drew1 | refine below_set ?_ GE435.out | refine below_set ?_ GE450.out | refine below_set ?_ GE463.out | refine below_set ?_ GE469.out | refine below_set ?_ GE478.out) | exact HB.out)⟩
           (try clear HO_3)
           (try clear HO_5)
           (try clear BK435)
           (try clear BK450)
           (try clear BK463)
           (try clear BK469)
           (try clear BK478)
           (try clear HB)
           generalize ((((w128.setCell ⟨gb478, 0, none⟩ (.string t473)).setCell ⟨gb478, 1, none⟩ (.string t474)).setCell ⟨gb478, 2, none⟩ (.int .i64 t475)).setCell ⟨gb478, 3, none⟩ (.bool t476)) = w133 at n0_ n1_ n2_ n3_ n4_ n5_ n6_ n7_ ⊢
           have HO_3 := n0_
           have HO_5 := n1_
           have BK435 := n2_
           have BK450 := n3_
           have BK463 := n4_
           have BK469 := n5_
           have BK478 := n6_
           have HB := n7_
           clear n0_ n1_ n2_ n3_ n4_ n5_ n6_ n7_
           have n0_ := Aside0.mk (Kd.R_drew HO_3.out)
           have n1_ := Aside0.mk (Kd.R_drew HO_5.out)
           have n2_ := Aside0.mk (blk_drew BK435.out)
           have n3_ := Aside0.mk (blk_drew BK450.out)
           have n4_ := Aside0.mk (blk_drew BK463.out)
           have n5_ := Aside0.mk (blk_drew BK469.out)
           have n6_ := Aside0.mk (blk_drew BK478.out)
           have n7_ := Aside0.mk (below_drew1 HB.out)
           clear HO_3
           clear HO_5
           clear BK435
           clear BK450
           clear BK463
           clear BK469
           clear BK478
           clear HB
           have HO_3 := n0_
           have HO_5 := n1_
           have BK435 := n2_
           have BK450 := n3_
           have BK463 := n4_
           have BK469 := n5_
           have BK478 := n6_
           have HB := n7_
           clear n0_ n1_ n2_ n3_ n4_ n5_ n6_ n7_
           refine start_ (n := 10) (S := fun w' => True) (ds := []) #[X, X, X, X, X, X, X, X, X, X] (by kernel_rfl) rfl rfl trivial (fun hHeld => ?_); refine with_tabW laws_FnPut.tab24 laws_FnPut.bits24 (fun HT_ HW_ => ?_)
           generalize w133.drew = w134 at HO_3 HO_5 BK435 BK450 BK463 BK469 BK478 HB hHeld ⊢
           refine pure_ (i := 0) (N := some 152) (v := _) (a' := _) #[Y, X, X, X, X, X, X, X, X, X] rfl rfl (any_of HT_.out (by kernel_rfl)) (fun _ _ _ h => h) (Or.inl ⟨by rfl, (by intro w'; go_simp; with_reducible rfl)⟩) z4b ?_
           refine pure_ (i := 1) (N := some 153) (v := _) (a' := _) #[Y, Y, X, X, X, X, X, X, X, X] rfl rfl (any_of HT_.out (by kernel_rfl)) (fun _ _ _ h => h) (Or.inl ⟨by rfl, (by intro w'; go_simp; with_reducible rfl)⟩) z4b ?_
           refine pure_ (i := 2) (N := some 154) (v := _) (a' := _) #[Y, Y, Y, X, X, X, X, X, X, X] rfl rfl (any_of HT_.out (by kernel_rfl)) (fun _ _ _ h => h) (Or.inl ⟨by rfl, (by intro w'; go_simp; with_reducible rfl)⟩) z4b ?_
           refine pure_ (i := 3) (N := some 155) (v := undef) (a' := ?_) #[Y, Y, Y, Y, X, X, X, X, X, X] rfl rfl (any_of HT_.out (by kernel_rfl)) (fun _ _ _ h => h) (Or.inr ⟨by rfl, rfl⟩) ?_ ?_
           rotate_left
           exact z4b
           refine pure_ (i := 4) (N := some 156) (v := undef) (a' := ?_) #[Y, Y, Y, Y, Y, X, X, X, X, X] rfl rfl (any_of HT_.out (by kernel_rfl)) (fun _ _ _ h => h) (Or.inr ⟨by rfl, rfl⟩) ?_ ?_
           rotate_left
           exact z4b
           refine pure_ (i := 5) (N := some 157) (v := undef) (a' := ?_) #[Y, Y, Y, Y, Y, Y, X, X, X, X] rfl rfl (any_of HT_.out (by kernel_rfl)) (fun _ _ _ h => h) (Or.inr ⟨by rfl, rfl⟩) ?_ ?_
           rotate_left
           exact z4b
           refine pure_ (i := 6) (N := some 158) (v := undef) (a' := ?_) #[Y, Y, Y, Y, Y, Y, Y, X, X, X] rfl rfl (any_of HT_.out (by kernel_rfl)) (fun _ _ _ h => h) (Or.inr ⟨by rfl, rfl⟩) ?_ ?_
           rotate_left
           exact z4b
           refine pure_ (i := 7) (N := some 159) (v := undef) (a' := ?_) #[Y, Y, Y, Y, Y, Y, Y, Y, X, X] rfl rfl (any_of HT_.out (by kernel_rfl)) (fun _ _ _ h => h) (Or.inr ⟨by rfl, rfl⟩) ?_ ?_
           rotate_left
           exact z4b
           refine pure_ (i := 8) (N := some 160) (v := undef) (a' := ?_) #[Y, Y, Y, Y, Y, Y, Y, Y, Y, X] rfl rfl (any_of HT_.out (by kernel_rfl)) (fun _ _ _ h => h) (Or.inr ⟨by rfl, rfl⟩) ?_ ?_
           rotate_left
           exact z4b
           refine pure_ (i := 9) (N := some 161) (v := _) (a' := _) #[Y, Y, Y, Y, Y, Y, Y, Y, Y, Y] rfl rfl (any_of HT_.out (by kernel_rfl)) (fun _ _ _ h => h) (Or.inl ⟨by rfl, (by intro w'; go_simp; with_reducible rfl)⟩) z4b ?_
           refine done_ (done_of HT_.out (by kernel_rfl)) ?_
           try go_wp2
           go_ret
           exact ⟨by first | rfl | (simp [errW_none, errW_some] <;> rfl) | (simp [*, errW_none, errW_some] <;> rfl), by repeat (first | (with_reducible first | exact HB.out | apply below_alloc | apply pw_below_drewN | apply below_drew1 | refine below_set ?_ GE435.out | refine below_set ?_ GE450.out | refine below_set ?_ GE463.out | refine below_set ?_ GE469.out | refine below_set ?_ GE478.out) | exact HB.out)⟩
           }
           }
           {
           rw [if_neg c101] at H
           exact absurd H (by simp)
           }
           }
           {
           rw [if_neg c100] at H
           have c100b0 : decide (x18_5 < (t428.length : Int)) = false := decide_eq_false c100
           clear c100
           obtain rfl := Option.some.inj H
           go_wp2
           go_ret
           exact ⟨by first | rfl | (simp [errW_none, errW_some] <;> rfl) | (simp [*, errW_none, errW_some] <;> rfl), by repeat (first | (with_reducible first | exact HB.out | apply below_alloc | apply pw_below_drewN | apply below_drew1 | refine below_set ?_ GE435.out | refine below_set ?_ GE450.out | refine below_set ?_ GE463.out | refine below_set ?_ GE469.out) | exact HB.out)⟩
           }
         }
       }
       {
       replace c59 := Bool.eq_false_iff.mpr c59
       subst c59
       have H1 : (some ((t436.length : Int) == 0)) = some r := by rw [if_neg (show ¬ (false = true) by decide)] at H; exact H
       clear H
       have H := H1
       clear H1
       obtain rfl := Option.some.inj H
       obtain ⟨Ao135, co135, eo135⟩ := Kd.R_slice HO_5.out
       subst eo135
       go_wp2
       go_ret
       exact ⟨by first | rfl | (simp [errW_none, errW_some] <;> rfl) | (simp [*, errW_none, errW_some] <;> rfl), by repeat (first | (with_reducible first | exact HB.out | apply below_alloc | apply pw_below_drewN | apply below_drew1 | refine below_set ?_ GE435.out | refine below_set ?_ GE450.out | refine below_set ?_ GE463.out) | exact HB.out)⟩
       
       }
       }
     }
   }
 }
end Go.Proofs.Ytaiggfjkikfcbaa.PFnPut

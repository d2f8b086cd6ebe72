-- by a program of this session (wip/print/run.py) for this claim
import Derived.Test.YtaiggfjkikfcbaaLibPu
import Derived.Test.YtaiggfjkikfcbaaPFnExactBuiltx0
import Derived.Test.YtaiggfjkikfcbaaPFnExactBuiltx1
import Derived.Test.YtaiggfjkikfcbaaPFnExactBuiltx2
import Derived.Test.YtaiggfjkikfcbaaPFnExactBuiltx7
import Derived.Test.YtaiggfjkikfcbaaPFnExactBuiltx13
import Derived.Test.YtaiggfjkikfcbaaPFnExactBuiltx14
namespace Go.Proofs.Ytaiggfjkikfcbaa.PFnExactBuilt
open Go.Proofs.Ytaiggfjkikfcbaa.Lib Go.RowKit Go.Proofs.YtaiggfjkikfcbaaW.PrintWords Go.Proofs.YtaiggfjkikfcbaaW.PrintLast Go.Proofs.YtaiggfjkikfcbaaW.PrintMore
attribute [local go_sem] max2_int min2_int max_two min_two max_three min_three max_four min_four   -- for this text's walks alone
set_option linter.unusedVariables false
set_option linter.unusedSimpArgs false

theorem z7a {p_ : Prop} (h_ : p_ := by repeat (first | (with_reducible first | exact HB.out | apply below_alloc | apply pw_below_drewN | apply below_drew1 | refine below_set ?_ GE424.out | refine below_set ?_ GE437.out) | exact HB.out)) : p_ := h_
theorem z7b {p_ : Prop} (h_ : p_ := by (try simp only [List.map_toArray, List.map_cons, List.map_nil]); first | done | rfl | (simp only [List.length_drop, List.length_take]; rfl)) : p_ := h_
theorem z7c {p_ : Prop} (h_ : p_ := by (with_reducible repeat (first | refine blk_drewN ?_ _ | refine blk_drew ?_ | refine blk_alloc ?_ _)); exact BK424.out) : p_ := h_
theorem z7d {p_ : Prop} (h_ : p_ := by (with_reducible repeat (first | refine blk_drewN ?_ _ | refine blk_drew ?_ | refine blk_alloc ?_ _)); exact BK437.out) : p_ := h_
theorem z7e {p_ : Prop} (h_ : p_ := by (with_reducible repeat (first | apply Kd.R_alloc | apply Kd.R_drewN | apply Kd.R_drew)); exact HO_425002.out) : p_ := h_
theorem z7f {p_ : Prop} (h_ : p_ := by (with_reducible repeat (first | apply Kd.R_alloc | apply Kd.R_drewN | apply Kd.R_drew)); exact HO_425003.out) : p_ := h_
theorem z7g {p_ : Prop} (h_ : p_ := by (with_reducible repeat (first | apply Kd.R_alloc | apply Kd.R_drewN | apply Kd.R_drew)); exact HO_438002.out) : p_ := h_
theorem z7h {p_ : Prop} (h_ : p_ := by (with_reducible repeat (first | apply Kd.R_alloc | apply Kd.R_drewN | apply Kd.R_drew)); exact HO_438003.out) : p_ := h_
theorem z7i {p_ : Prop} (h_ : p_ := by (with_reducible repeat (first | apply Kd.R_alloc | apply Kd.R_drewN | apply Kd.R_drew)); exact (Kd.R_mono (Kd.R_far (p := ⟨gb462, 3, none⟩) (Kd.R_far (p := ⟨gb462, 2, none⟩) (Kd.R_far (p := ⟨gb462, 1, none⟩) (Kd.R_far (p := ⟨gb462, 0, none⟩) (Kd.R_types HO_425002.out BK462.out (by decide)) (fun _ hk => hk.2) (.string t453)) (fun _ hk => hk.2) (.string t454)) (fun _ hk => hk.2) (.slice Ao82 t455.length co82)) (fun _ hk => hk.2) (.slice Ao83 t458.length co83)) (fun _ h_ => h_.1))) : p_ := h_
theorem z7j {p_ : Prop} (h_ : p_ := by (with_reducible repeat (first | apply Kd.R_alloc | apply Kd.R_drewN | apply Kd.R_drew)); exact (Kd.R_mono (Kd.R_far (p := ⟨gb462, 3, none⟩) (Kd.R_far (p := ⟨gb462, 2, none⟩) (Kd.R_far (p := ⟨gb462, 1, none⟩) (Kd.R_far (p := ⟨gb462, 0, none⟩) (Kd.R_types HO_425003.out BK462.out (by decide)) (fun _ hk => hk.2) (.string t453)) (fun _ hk => hk.2) (.string t454)) (fun _ hk => hk.2) (.slice Ao82 t455.length co82)) (fun _ hk => hk.2) (.slice Ao83 t458.length co83)) (fun _ h_ => h_.1))) : p_ := h_
theorem z7k {p_ : Prop} (h_ : p_ := by (with_reducible repeat (first | apply Kd.R_alloc | apply Kd.R_drewN | apply Kd.R_drew)); exact (Kd.R_mono (Kd.R_far (p := ⟨gb437, 3, none⟩) (Kd.R_far (p := ⟨gb437, 2, none⟩) (Kd.R_far (p := ⟨gb437, 1, none⟩) (Kd.R_far (p := ⟨gb437, 0, none⟩) (Kd.R_types HO432.out BK437.out (by decide)) (fun _ hk => hk.2) (.string t428)) (fun _ hk => hk.2) (.string t429)) (fun _ hk => hk.2) (.slice Ao24 t430.length co24)) (fun _ hk => hk.2) (.slice Ao25 t433.length co25)) (fun _ h_ => h_.1))) : p_ := h_
theorem z7l {p_ : Prop} (h_ : p_ := by (with_reducible repeat (first | apply Kd.R_alloc | apply Kd.R_drewN | apply Kd.R_drew)); exact (Kd.R_mono (Kd.R_far (p := ⟨gb437, 3, none⟩) (Kd.R_far (p := ⟨gb437, 2, none⟩) (Kd.R_far (p := ⟨gb437, 1, none⟩) (Kd.R_far (p := ⟨gb437, 0, none⟩) (Kd.R_types HO435.out BK437.out (by decide)) (fun _ hk => hk.2) (.string t428)) (fun _ hk => hk.2) (.string t429)) (fun _ hk => hk.2) (.slice Ao24 t430.length co24)) (fun _ hk => hk.2) (.slice Ao25 t433.length co25)) (fun _ h_ => h_.1))) : p_ := h_
theorem z7m {p_ : Prop} (h_ : p_ := by (with_reducible repeat (first | apply Kd.R_alloc | apply Kd.R_drewN | apply Kd.R_drew)); exact (Kd.R_mono (Kd.R_far (p := ⟨gb437, 3, none⟩) (Kd.R_far (p := ⟨gb437, 2, none⟩) (Kd.R_far (p := ⟨gb437, 1, none⟩) (Kd.R_far (p := ⟨gb437, 0, none⟩) (Kd.R_types HO419.out BK437.out (by decide)) (fun _ hk => hk.2) (.string t428)) (fun _ hk => hk.2) (.string t429)) (fun _ hk => hk.2) (.slice Ao24 t430.length co24)) (fun _ hk => hk.2) (.slice Ao25 t433.length co25)) (fun _ h_ => h_.1))) : p_ := h_
theorem z7n {p_ : Prop} (h_ : p_ := by (with_reducible repeat (first | apply Kd.R_alloc | apply Kd.R_drewN | apply Kd.R_drew)); exact (Kd.R_mono (Kd.R_far (p := ⟨gb437, 3, none⟩) (Kd.R_far (p := ⟨gb437, 2, none⟩) (Kd.R_far (p := ⟨gb437, 1, none⟩) (Kd.R_far (p := ⟨gb437, 0, none⟩) (Kd.R_types HO422.out BK437.out (by decide)) (fun _ hk => hk.2) (.string t428)) (fun _ hk => hk.2) (.string t429)) (fun _ hk => hk.2) (.slice Ao24 t430.length co24)) (fun _ hk => hk.2) (.slice Ao25 t433.length co25)) (fun _ h_ => h_.1))) : p_ := h_
theorem z7o {p_ : Prop} (h_ : p_ := by (with_reducible repeat (first | apply Kd.R_alloc | apply Kd.R_drewN | apply Kd.R_drew)); exact (Kd.R_mono (Kd.R_far (p := ⟨gb462, 3, none⟩) (Kd.R_far (p := ⟨gb462, 2, none⟩) (Kd.R_far (p := ⟨gb462, 1, none⟩) (Kd.R_far (p := ⟨gb462, 0, none⟩) (Kd.R_types HO457.out BK462.out (by decide)) (fun _ hk => hk.2) (.string t453)) (fun _ hk => hk.2) (.string t454)) (fun _ hk => hk.2) (.slice Ao82 t455.length co82)) (fun _ hk => hk.2) (.slice Ao83 t458.length co83)) (fun _ h_ => h_.1))) : p_ := h_
theorem z7p {p_ : Prop} (h_ : p_ := by (with_reducible repeat (first | apply Kd.R_alloc | apply Kd.R_drewN | apply Kd.R_drew)); exact (Kd.R_mono (Kd.R_far (p := ⟨gb462, 3, none⟩) (Kd.R_far (p := ⟨gb462, 2, none⟩) (Kd.R_far (p := ⟨gb462, 1, none⟩) (Kd.R_far (p := ⟨gb462, 0, none⟩) (Kd.R_types HO460.out BK462.out (by decide)) (fun _ hk => hk.2) (.string t453)) (fun _ hk => hk.2) (.string t454)) (fun _ hk => hk.2) (.slice Ao82 t455.length co82)) (fun _ hk => hk.2) (.slice Ao83 t458.length co83)) (fun _ h_ => h_.1))) : p_ := h_
theorem z7q {p_ : Prop} (h_ : p_ := by repeat (first | (with_reducible first | exact HB.out | apply below_alloc | apply pw_below_drewN | apply below_drew1 | refine below_set ?_ GE424.out) | exact HB.out)) : p_ := h_
theorem z7r {p_ : Prop} (h_ : p_ := by repeat (first | exact (Kd.R_reads' HO_438002.out).2.2 | (with_reducible refine Kd.C_alloc ?_ _) | (with_reducible refine Kd.C_drewN ?_ _) | (with_reducible refine Kd.C_drew ?_))) : p_ := h_
theorem z7s {p_ : Prop} (h_ : p_ := by repeat (first | exact (Kd.R_reads' HO_438003.out).2.2 | (with_reducible refine Kd.C_alloc ?_ _) | (with_reducible refine Kd.C_drewN ?_ _) | (with_reducible refine Kd.C_drew ?_))) : p_ := h_
theorem z7t {p_ : Prop} (h_ : p_ := by repeat (first | (with_reducible first | exact HB.out | apply below_alloc | apply pw_below_drewN | apply below_drew1) | exact HB.out)) : p_ := h_
theorem z7u {p_ : Prop} (h_ : p_ := by (with_reducible repeat (first | refine blk_drewN ?_ _ | refine blk_drew ?_ | refine blk_alloc ?_ _)); refine blk_put (cs := #[.string t428, .string t429, .slice Ao24 t430.length co24, .slice none 0 0]) ?_ 3 _ rfl; (with_reducible repeat (first | refine blk_drewN ?_ _ | refine blk_drew ?_ | refine blk_alloc ?_ _)); refine blk_put (cs := #[.string t428, .string t429, .slice none 0 0, .slice none 0 0]) ?_ 2 _ rfl; (with_reducible repeat (first | refine blk_drewN ?_ _ | refine blk_drew ?_ | refine blk_alloc ?_ _)); refine blk_put (cs := #[.string t428, .string (⟨#[]⟩ : ByteArray), .slice none 0 0, .slice none 0 0]) ?_ 1 _ rfl; (with_reducible repeat (first | refine blk_drewN ?_ _ | refine blk_drew ?_ | refine blk_alloc ?_ _)); refine blk_put (cs := #[.string (⟨#[]⟩ : ByteArray), .string (⟨#[]⟩ : ByteArray), .slice none 0 0, .slice none 0 0]) ?_ 0 _ rfl; (with_reducible repeat (first | refine blk_drewN ?_ _ | refine blk_drew ?_ | refine blk_alloc ?_ _)); exact BK437.out) : p_ := h_
theorem z7v {p_ : Prop} (h_ : p_ := by (with_reducible repeat (first | refine blk_drewN ?_ _ | refine blk_drew ?_ | refine blk_alloc ?_ _)); refine blk_put (cs := #[.string t453, .string t454, .slice Ao82 t455.length co82, .slice none 0 0]) ?_ 3 _ rfl; (with_reducible repeat (first | refine blk_drewN ?_ _ | refine blk_drew ?_ | refine blk_alloc ?_ _)); refine blk_put (cs := #[.string t453, .string t454, .slice none 0 0, .slice none 0 0]) ?_ 2 _ rfl; (with_reducible repeat (first | refine blk_drewN ?_ _ | refine blk_drew ?_ | refine blk_alloc ?_ _)); refine blk_put (cs := #[.string t453, .string (⟨#[]⟩ : ByteArray), .slice none 0 0, .slice none 0 0]) ?_ 1 _ rfl; (with_reducible repeat (first | refine blk_drewN ?_ _ | refine blk_drew ?_ | refine blk_alloc ?_ _)); refine blk_put (cs := #[.string (⟨#[]⟩ : ByteArray), .string (⟨#[]⟩ : ByteArray), .slice none 0 0, .slice none 0 0]) ?_ 0 _ rfl; (with_reducible repeat (first | refine blk_drewN ?_ _ | refine blk_drew ?_ | refine blk_alloc ?_ _)); exact BK462.out) : p_ := h_
theorem z7w {p_ : Prop} (h_ : p_ := by repeat (first | (with_reducible first | exact HB.out | apply below_alloc | apply pw_below_drewN | apply below_drew1 | refine below_set ?_ GE424.out | refine below_set ?_ GE437.out | refine below_set ?_ GE462.out) | exact HB.out)) : p_ := h_
theorem z7x {p_ : Prop} (h_ : p_ := by (with_reducible repeat (first | apply Kd.R_alloc | apply Kd.R_drewN | apply Kd.R_drew)); exact HO_6.out) : p_ := h_
theorem z7y {p_ : Prop} (h_ : p_ := by (with_reducible repeat (first | refine blk_drewN ?_ _ | refine blk_drew ?_ | refine blk_alloc ?_ _)); refine blk_far ?_ NB424_437.out _; (with_reducible repeat (first | refine blk_drewN ?_ _ | refine blk_drew ?_ | refine blk_alloc ?_ _)); refine blk_far ?_ NB424_437.out _; (with_reducible repeat (first | refine blk_drewN ?_ _ | refine blk_drew ?_ | refine blk_alloc ?_ _)); refine blk_far ?_ NB424_437.out _; (with_reducible repeat (first | refine blk_drewN ?_ _ | refine blk_drew ?_ | refine blk_alloc ?_ _)); refine blk_far ?_ NB424_437.out _; (with_reducible repeat (first | refine blk_drewN ?_ _ | refine blk_drew ?_ | refine blk_alloc ?_ _)); exact BK424.out) : p_ := h_
theorem z7z {p_ : Prop} (h_ : p_ := by (with_reducible repeat (first | refine blk_drewN ?_ _ | refine blk_drew ?_ | refine blk_alloc ?_ _)); refine blk_far ?_ NB424_462.out _; (with_reducible repeat (first | refine blk_drewN ?_ _ | refine blk_drew ?_ | refine blk_alloc ?_ _)); refine blk_far ?_ NB424_462.out _; (with_reducible repeat (first | refine blk_drewN ?_ _ | refine blk_drew ?_ | refine blk_alloc ?_ _)); refine blk_far ?_ NB424_462.out _; (with_reducible repeat (first | refine blk_drewN ?_ _ | refine blk_drew ?_ | refine blk_alloc ?_ _)); refine blk_far ?_ NB424_462.out _; (with_reducible repeat (first | refine blk_drewN ?_ _ | refine blk_drew ?_ | refine blk_alloc ?_ _)); exact BK424.out) : p_ := h_
theorem z7a1 {p_ : Prop} (h_ : p_ := by (with_reducible repeat (first | refine blk_drewN ?_ _ | refine blk_drew ?_ | refine blk_alloc ?_ _)); refine blk_far ?_ NB437_462.out _; (with_reducible repeat (first | refine blk_drewN ?_ _ | refine blk_drew ?_ | refine blk_alloc ?_ _)); refine blk_far ?_ NB437_462.out _; (with_reducible repeat (first | refine blk_drewN ?_ _ | refine blk_drew ?_ | refine blk_alloc ?_ _)); refine blk_far ?_ NB437_462.out _; (with_reducible repeat (first | refine blk_drewN ?_ _ | refine blk_drew ?_ | refine blk_alloc ?_ _)); refine blk_far ?_ NB437_462.out _; (with_reducible repeat (first | refine blk_drewN ?_ _ | refine blk_drew ?_ | refine blk_alloc ?_ _)); exact BK437.out) : p_ := h_
theorem z7b1 {p_ : Prop} (h_ : p_ := by (try simp only [List.map_toArray, List.map_cons, List.map_nil]); first | done | (rw [show t447.length = t430.length from (Kd.R_reads' HO_438002.out).1.symm, show t448.length = t433.length from (Kd.R_reads' HO_438003.out).1.symm] <;> rfl) | rfl | (simp only [List.length_drop, List.length_take]; rfl)) : p_ := h_
theorem z7c1 {p_ : Prop} (h_ : p_ := by repeat (first | exact (Kd.C_below HR0.out HB.out) | (with_reducible refine Kd.C_alloc ?_ _) | (with_reducible refine Kd.C_drewN ?_ _) | (with_reducible refine Kd.C_drew ?_))) : p_ := h_
theorem z7d1 {p_ : Prop} (h_ : p_ := by (with_reducible repeat (first | apply Kd.R_alloc | apply Kd.R_drewN | apply Kd.R_drew)); exact (Kd.R_mono (Kd.R_far (p := ⟨gb462, 3, none⟩) (Kd.R_far (p := ⟨gb462, 2, none⟩) (Kd.R_far (p := ⟨gb462, 1, none⟩) (Kd.R_far (p := ⟨gb462, 0, none⟩) (Kd.R_types HO_438002.out BK462.out (by decide)) (fun _ hk => hk.2) (.string t453)) (fun _ hk => hk.2) (.string t454)) (fun _ hk => hk.2) (.slice Ao82 t455.length co82)) (fun _ hk => hk.2) (.slice Ao83 t458.length co83)) (fun _ h_ => h_.1))) : p_ := h_
theorem z7e1 {p_ : Prop} (h_ : p_ := by (with_reducible repeat (first | apply Kd.R_alloc | apply Kd.R_drewN | apply Kd.R_drew)); exact (Kd.R_mono (Kd.R_far (p := ⟨gb462, 3, none⟩) (Kd.R_far (p := ⟨gb462, 2, none⟩) (Kd.R_far (p := ⟨gb462, 1, none⟩) (Kd.R_far (p := ⟨gb462, 0, none⟩) (Kd.R_types HO_438003.out BK462.out (by decide)) (fun _ hk => hk.2) (.string t453)) (fun _ hk => hk.2) (.string t454)) (fun _ hk => hk.2) (.slice Ao82 t455.length co82)) (fun _ hk => hk.2) (.slice Ao83 t458.length co83)) (fun _ h_ => h_.1))) : p_ := h_
theorem z7f1 {p_ : Prop} (h_ : p_ := by (with_reducible repeat (first | apply Kd.R_alloc | apply Kd.R_drewN | apply Kd.R_drew)); exact (Kd.R_mono (Kd.R_far (p := ⟨gb424, 3, none⟩) (Kd.R_far (p := ⟨gb424, 2, none⟩) (Kd.R_far (p := ⟨gb424, 1, none⟩) (Kd.R_far (p := ⟨gb424, 0, none⟩) (Kd.R_types HO414.out BK424.out (by decide)) (fun _ hk => hk.2) (.string t415)) (fun _ hk => hk.2) (.string t416)) (fun _ hk => hk.2) (.slice Ao16 t417.length co16)) (fun _ hk => hk.2) (.slice Ao17 t420.length co17)) (fun _ h_ => h_.1))) : p_ := h_
theorem z7g1 {p_ : Prop} (h_ : p_ := by (with_reducible repeat (first | apply Kd.R_alloc | apply Kd.R_drewN | apply Kd.R_drew)); exact (Kd.R_mono (Kd.R_far (p := ⟨gb437, 3, none⟩) (Kd.R_far (p := ⟨gb437, 2, none⟩) (Kd.R_far (p := ⟨gb437, 1, none⟩) (Kd.R_far (p := ⟨gb437, 0, none⟩) (Kd.R_types HO414.out BK437.out (by decide)) (fun _ hk => hk.2) (.string t428)) (fun _ hk => hk.2) (.string t429)) (fun _ hk => hk.2) (.slice Ao24 t430.length co24)) (fun _ hk => hk.2) (.slice Ao25 t433.length co25)) (fun _ h_ => h_.1))) : p_ := h_
theorem z7h1 {p_ : Prop} (h_ : p_ := by (with_reducible repeat (first | apply Kd.R_alloc | apply Kd.R_drewN | apply Kd.R_drew)); exact (Kd.R_mono (Kd.R_far (p := ⟨gb437, 3, none⟩) (Kd.R_far (p := ⟨gb437, 2, none⟩) (Kd.R_far (p := ⟨gb437, 1, none⟩) (Kd.R_far (p := ⟨gb437, 0, none⟩) (Kd.R_types HO427.out BK437.out (by decide)) (fun _ hk => hk.2) (.string t428)) (fun _ hk => hk.2) (.string t429)) (fun _ hk => hk.2) (.slice Ao24 t430.length co24)) (fun _ hk => hk.2) (.slice Ao25 t433.length co25)) (fun _ h_ => h_.1))) : p_ := h_
theorem z7i1 {p_ : Prop} (h_ : p_ := by (with_reducible repeat (first | apply Kd.R_alloc | apply Kd.R_drewN | apply Kd.R_drew)); exact (Kd.R_mono (Kd.R_far (p := ⟨gb462, 3, none⟩) (Kd.R_far (p := ⟨gb462, 2, none⟩) (Kd.R_far (p := ⟨gb462, 1, none⟩) (Kd.R_far (p := ⟨gb462, 0, none⟩) (Kd.R_types HO452.out BK462.out (by decide)) (fun _ hk => hk.2) (.string t453)) (fun _ hk => hk.2) (.string t454)) (fun _ hk => hk.2) (.slice Ao82 t455.length co82)) (fun _ hk => hk.2) (.slice Ao83 t458.length co83)) (fun _ h_ => h_.1))) : p_ := h_
mutual
def laws_FnExactBuilt.j0 : Nat → List (S24) → Bool → List (S31) → Bool → Bool → ByteArray → ByteArray → List Int → List ByteArray → ByteArray → ByteArray → List Int → List ByteArray → Option (Bool)
 | 0, _, _, _, _, _, _, _, _, _, _, _, _, _ => none
 | k + 1, x0, x5, x6, x8, x40, x425000, x425001, x425002, x425003, x438000, x438001, x438002, x438003 => if x40 = true then (some false) else ((laws_toEntryS.f k x0).bind fun t439 => ((laws_eqEntryS.f k x6 t439).bind fun t442 => (if t442 = true then ((laws_markEntryS.f k x6 1).bind fun bt443 => (if bt443.1 < 0 then (laws_FnExactBuilt.j1 k x0 x5 true x425000 x425001 x425002 x425003 x438000 x438001 x438002 x438003) else ((laws_eqTable.f k x438000 x438001 x438002 x438003 x425000 x425001 x425002 x425003).bind fun t445 => (if t445 = true then (laws_FnExactBuilt.j1 k x0 x5 (x8 != x5) x425000 x425001 x425002 x425003 x438000 x438001 x438002 x438003) else (laws_FnExactBuilt.j1 k x0 x5 true x425000 x425001 x425002 x425003 x438000 x438001 x438002 x438003))))) else (some false))))
def laws_FnExactBuilt.j1 : Nat → List (S24) → Bool → Bool → ByteArray → ByteArray → List Int → List ByteArray → ByteArray → ByteArray → List Int → List ByteArray → Option (Bool)
 | 0, _, _, _, _, _, _, _, _, _, _, _ => none
 | k + 1, x0, x5, x61, x425000, x425001, x425002, x425003, x438000, x438001, x438002, x438003 => if x61 = true then (some false) else ((laws_markTable.f k x438000 x438001 x438002 x438003 1).bind fun bt446 => ((laws_heldTable.f k x438000 x438001 bt446.2.1 bt446.2.2 1).bind fun t449 => (if t449 < 0 then (some false) else (if t449 = bt446.1 then ((laws_toEntryS.f k x0).bind fun t450 => ((impl_Built.f k t450).bind fun bt453 => ((laws_eqTable.f k bt453.1 bt453.2.1 bt453.2.2.1 bt453.2.2.2.1 x425000 x425001 x425002 x425003).bind fun t463 => (if t463 = true then (laws_FnExactBuilt.j2 k bt446.1 (bt453.2.2.2.2 != x5) x438000 x438001 bt446.2.1 bt446.2.2) else (laws_FnExactBuilt.j2 k bt446.1 true x438000 x438001 bt446.2.1 bt446.2.2))))) else (some false)))))
def laws_FnExactBuilt.j2 : Nat → Int → Bool → ByteArray → ByteArray → List Int → List ByteArray → Option (Bool)
 | 0, _, _, _, _, _, _ => none
 | k + 1, x10, x87, x438000, x438001, x438002, x438003 => if x87 = true then (some false) else ((laws_heldTable.f k x438000 x438001 x438002 x438003 1).bind fun t464 => (if t464 < 0 then (some false) else (if t464 = x10 then (some true) else (some false))))
end
def laws_FnExactBuilt.f (k : Nat) (l0 : List (S24)) : Option (Bool) := (laws_szEntryS.f k l0 1048576).bind fun t411 => (if t411 < 0 then (some true) else ((laws_toEntryS.f k l0).bind fun t412 => ((spec_Built.f k t412).bind fun bt415 => ((laws_toEntryS.f k l0).bind fun t425 => ((impl_Built.f k t425).bind fun bt428 => ((laws_eqTable.f k bt428.1 bt428.2.1 bt428.2.2.1 bt428.2.2.2.1 bt415.1 bt415.2.1 bt415.2.2.1 bt415.2.2.2.1).bind fun t438 => (if t438 = true then (laws_FnExactBuilt.j0 k l0 bt415.2.2.2.2 t425 bt428.2.2.2.2 (bt428.2.2.2.2 != bt415.2.2.2.2) bt415.1 bt415.2.1 bt415.2.2.1 bt415.2.2.2.1 bt428.1 bt428.2.1 bt428.2.2.1 bt428.2.2.2.1) else (laws_FnExactBuilt.j0 k l0 bt415.2.2.2.2 t425 bt428.2.2.2.2 true bt415.1 bt415.2.1 bt415.2.2.1 bt415.2.2.2.1 bt428.1 bt428.2.1 bt428.2.2.1 bt428.2.2.2.1))))))))
set_option maxHeartbeats 8000000 in
set_option maxRecDepth 100000 in
theorem laws_FnExactBuilt.calls (k : Nat) (A0 : Option Addr) (c0 : Nat) (l0 : List (S24)) (r : Bool) (w : World) (hr0 : Kd.C k24 w A0 l0.length l0) (hc0 : l0.length ≤ c0) (h : laws_FnExactBuilt.f k l0 = some r) :
  Calls Try.prog 7 #[.slice A0 l0.length c0] w fun e w' => e = .returned (.bool r) ∧ Below w.heap.size w w' := by
 have hu57 := Try.underlying57
 have HR0 := A_ hr0
 have HC0 := A_ hc0
 clear hr0 hc0
 have HB := A_ (Below.refl w.heap.size w)
 have H : ((laws_szEntryS.f k l0 1048576).bind fun t411 => (if t411 < 0 then (some true) else ((laws_toEntryS.f k l0).bind fun t412 => ((spec_Built.f k t412).bind fun bt415 => ((laws_toEntryS.f k l0).bind fun t425 => ((impl_Built.f k t425).bind fun bt428 => ((laws_eqTable.f k bt428.1 bt428.2.1 bt428.2.2.1 bt428.2.2.2.1 bt415.1 bt415.2.1 bt415.2.2.1 bt415.2.2.2.1).bind fun t438 => (if t438 = true then (laws_FnExactBuilt.j0 k l0 bt415.2.2.2.2 t425 bt428.2.2.2.2 (bt428.2.2.2.2 != bt415.2.2.2.2) bt415.1 bt415.2.1 bt415.2.2.1 bt415.2.2.2.1 bt428.1 bt428.2.1 bt428.2.2.1 bt428.2.2.2.1) else (laws_FnExactBuilt.j0 k l0 bt415.2.2.2.2 t425 bt428.2.2.2.2 true bt415.1 bt415.2.1 bt415.2.2.1 bt415.2.2.2.1 bt428.1 bt428.2.1 bt428.2.2.1 bt428.2.2.2.1))))))))) = some r := h
 clear h
 replace H := Option.bind_eq_some_iff.mp H
 obtain ⟨t411, A20, H⟩ := H
 replace H : (if t411 < 0 then (some true) else ((laws_toEntryS.f k l0).bind fun t412 => ((spec_Built.f k t412).bind fun bt415 => ((laws_toEntryS.f k l0).bind fun t425 => ((impl_Built.f k t425).bind fun bt428 => ((laws_eqTable.f k bt428.1 bt428.2.1 bt428.2.2.1 bt428.2.2.2.1 bt415.1 bt415.2.1 bt415.2.2.1 bt415.2.2.2.1).bind fun t438 => (if t438 = true then (laws_FnExactBuilt.j0 k l0 bt415.2.2.2.2 t425 bt428.2.2.2.2 (bt428.2.2.2.2 != bt415.2.2.2.2) bt415.1 bt415.2.1 bt415.2.2.1 bt415.2.2.2.1 bt428.1 bt428.2.1 bt428.2.2.1 bt428.2.2.2.1) else (laws_FnExactBuilt.j0 k l0 bt415.2.2.2.2 t425 bt428.2.2.2.2 true bt415.1 bt415.2.1 bt415.2.2.1 bt415.2.2.2.1 bt428.1 bt428.2.1 bt428.2.2.1 bt428.2.2.2.1)))))))) = some r := H
 have A2 := A_ A20
 clear A20
 by_cases c3 : t411 < 0
 {
 rw [if_pos c3] at H
 have c3b0 : decide (t411 < 0) = true := decide_eq_true c3
 clear c3
 obtain rfl := Option.some.inj H
 go_enter Try.func7, Try.ntmps7
 go_wp2_with (first | ((with_reducible refine gate_callee (f := 12) rfl ?_); refine goesL_ (some 16) rfl rfl Try.func12 (by kernel_rfl) rfl #[.slice A0 l0.length c0, .int .i64 1048576] rfl z7b ?_; (with_reducible refine (laws_szEntryS.calls k _ _ l0 1048576 t411 _ ?side1 ?side2 A2.out).mono ?_); (case side1 => exact (by repeat (first | exact HR0.out | (with_reducible refine Kd.C_alloc ?_ _) | (with_reducible refine Kd.C_drewN ?_ _) | (with_reducible refine Kd.C_drew ?_)))); (case side2 => exact HC0.out); rintro e w4 ⟨rfl, hb⟩; refine ⟨_, rfl, ?_⟩; replace HB := A_ (below_step z7t hb)))
 go_ret
 exact ⟨by first | rfl | (simp [errW_none, errW_some] <;> rfl) | (simp [*, errW_none, errW_some] <;> rfl), by repeat (first | (with_reducible first | exact HB.out | apply below_alloc | apply pw_below_drewN | apply below_drew1) | exact HB.out)⟩
 }
 {
 rw [if_neg c3] at H
 have c3b0 : decide (t411 < 0) = false := decide_eq_false c3
 clear c3
 replace H := Option.bind_eq_some_iff.mp H
 obtain ⟨t412, A50, H⟩ := H
 replace H : ((spec_Built.f k t412).bind fun bt415 => ((laws_toEntryS.f k l0).bind fun t425 => ((impl_Built.f k t425).bind fun bt428 => ((laws_eqTable.f k bt428.1 bt428.2.1 bt428.2.2.1 bt428.2.2.2.1 bt415.1 bt415.2.1 bt415.2.2.1 bt415.2.2.2.1).bind fun t438 => (if t438 = true then (laws_FnExactBuilt.j0 k l0 bt415.2.2.2.2 t425 bt428.2.2.2.2 (bt428.2.2.2.2 != bt415.2.2.2.2) bt415.1 bt415.2.1 bt415.2.2.1 bt415.2.2.2.1 bt428.1 bt428.2.1 bt428.2.2.1 bt428.2.2.2.1) else (laws_FnExactBuilt.j0 k l0 bt415.2.2.2.2 t425 bt428.2.2.2.2 true bt415.1 bt415.2.1 bt415.2.2.1 bt415.2.2.2.1 bt428.1 bt428.2.1 bt428.2.2.1 bt428.2.2.2.1)))))) = some r := H
 have A5 := A_ A50
 clear A50
 replace H := Option.bind_eq_some_iff.mp H
 obtain ⟨⟨t415, t416, t417, t420, t423⟩, A60, H⟩ := H
 replace H : ((laws_toEntryS.f k l0).bind fun t425 => ((impl_Built.f k t425).bind fun bt428 => ((laws_eqTable.f k bt428.1 bt428.2.1 bt428.2.2.1 bt428.2.2.2.1 t415 t416 t417 t420).bind fun t438 => (if t438 = true then (laws_FnExactBuilt.j0 k l0 t423 t425 bt428.2.2.2.2 (bt428.2.2.2.2 != t423) t415 t416 t417 t420 bt428.1 bt428.2.1 bt428.2.2.1 bt428.2.2.2.1) else (laws_FnExactBuilt.j0 k l0 t423 t425 bt428.2.2.2.2 true t415 t416 t417 t420 bt428.1 bt428.2.1 bt428.2.2.1 bt428.2.2.2.1))))) = some r := H
 have A6 := A_ A60
 clear A60
 replace H := Option.bind_eq_some_iff.mp H
 obtain ⟨t425, A70, H⟩ := H
 replace H : ((impl_Built.f k t425).bind fun bt428 => ((laws_eqTable.f k bt428.1 bt428.2.1 bt428.2.2.1 bt428.2.2.2.1 t415 t416 t417 t420).bind fun t438 => (if t438 = true then (laws_FnExactBuilt.j0 k l0 t423 t425 bt428.2.2.2.2 (bt428.2.2.2.2 != t423) t415 t416 t417 t420 bt428.1 bt428.2.1 bt428.2.2.1 bt428.2.2.2.1) else (laws_FnExactBuilt.j0 k l0 t423 t425 bt428.2.2.2.2 true t415 t416 t417 t420 bt428.1 bt428.2.1 bt428.2.2.1 bt428.2.2.2.1)))) = some r := H
 have A7 := A_ A70
 clear A70
 replace H := Option.bind_eq_some_iff.mp H
 obtain ⟨⟨t428, t429, t430, t433, t436⟩, A80, H⟩ := H
 replace H : ((laws_eqTable.f k t428 t429 t430 t433 t415 t416 t417 t420).bind fun t438 => (if t438 = true then (laws_FnExactBuilt.j0 k l0 t423 t425 t436 (t436 != t423) t415 t416 t417 t420 t428 t429 t430 t433) else (laws_FnExactBuilt.j0 k l0 t423 t425 t436 true t415 t416 t417 t420 t428 t429 t430 t433))) = some r := H
 have A8 := A_ A80
 clear A80
 have HC9 := A_ H
 clear H
 go_enter Try.func7, Try.ntmps7
 go_upto_region 8 with (first | ((with_reducible refine gate_callee (f := 12) rfl ?_); refine goesL_ (some 16) rfl rfl Try.func12 (by kernel_rfl) rfl #[.slice A0 l0.length c0, .int .i64 1048576] rfl z7b ?_; (with_reducible refine (laws_szEntryS.calls k _ _ l0 1048576 t411 _ ?side1 ?side2 A2.out).mono ?_); (case side1 => exact (by repeat (first | exact HR0.out | (with_reducible refine Kd.C_alloc ?_ _) | (with_reducible refine Kd.C_drewN ?_ _) | (with_reducible refine Kd.C_drew ?_)))); (case side2 => exact HC0.out); rintro e w10 ⟨rfl, hb⟩; refine ⟨_, rfl, ?_⟩; replace HB := A_ (below_step z7t hb)) | ((with_reducible refine gate_callee (f := 15) rfl ?_); refine goesL_ (some 21) rfl rfl Try.func15 (by kernel_rfl) rfl #[.slice A0 l0.length c0] rfl z7b ?_; (with_reducible refine (laws_toEntryS.calls k _ _ l0 t412 _ ?side1 ?side2 A5.out).mono ?_); (case side1 => exact z7c1); (case side2 => exact HC0.out); rintro e w11 ⟨v413, rfl, ho0, hb⟩; refine ⟨_, rfl, ?_⟩; have n0_ := A_ (Kd.R_lower ho0 (below_size z7t)); have n1_ := A_ (below_step z7t hb); clear HB; have HO414 := n0_; have HB := n1_; clear n0_ n1_; obtain ⟨Ao12, co12, eo12⟩ := Kd.R_slice HO414.out; subst eo12) | ((with_reducible refine gate_callee (f := 36) rfl ?_); refine goesL_ (some 22) rfl rfl Try.func36 (by kernel_rfl) rfl #[.slice Ao12 t412.length co12] rfl z7b ?_; (with_reducible refine (spec_Built.calls k _ _ t412 t415 t416 t417 t420 t423 _ ?side1 ?side2 A6.out).mono ?_); (case side1 => exact (by repeat (first | exact (Kd.R_reads' HO414.out).2.2 | (with_reducible refine Kd.C_alloc ?_ _) | (with_reducible refine Kd.C_drewN ?_ _) | (with_reducible refine Kd.C_drew ?_)))); (case side2 => exact (Kd.R_reads' HO414.out).2.1); rintro e w13 ⟨v418, v421, rfl, ho0, ho1, hb⟩; refine ⟨_, rfl, ?_⟩; have n0_ := A_ (Kd.R_below (by (with_reducible repeat (first | apply Kd.R_alloc | apply Kd.R_drewN | apply Kd.R_drew)); exact HO414.out) hb); have n1_ := A_ (Kd.R_lower ho0 (below_size z7t)); have n2_ := A_ (Kd.R_lower ho1 (below_size z7t)); have n3_ := A_ (below_step z7t hb); clear HO414; clear HB; have HO414 := n0_; have HO419 := n1_; have HO422 := n2_; have HB := n3_; clear n0_ n1_ n2_ n3_; (try clear ho1)) | ((with_reducible refine gate_dst (N := 4) rfl ?_); refine box_event ?hg (N := 4) ?hd (cs := #[.string (⟨#[]⟩ : ByteArray), .string (⟨#[]⟩ : ByteArray), .slice none 0 0, .slice none 0 0]) (t := 57) ?hr ?_; (case hd => rfl); (case hg => rfl); (case hr => first | (go_simp; done) | (go_simp; rfl)); intro gb424 hg w14 hbox hb; have n0_ := A_ (Kd.R_below (by (with_reducible repeat (first | apply Kd.R_alloc | apply Kd.R_drewN | apply Kd.R_drew)); exact HO414.out) hb); have n1_ := A_ (Kd.R_below (by (with_reducible repeat (first | apply Kd.R_alloc | apply Kd.R_drewN | apply Kd.R_drew)); exact HO419.out) hb); have n2_ := A_ (Kd.R_below (by (with_reducible repeat (first | apply Kd.R_alloc | apply Kd.R_drewN | apply Kd.R_drew)); exact HO422.out) hb); have n3_ := A_ (below_step z7t hb); have n4_ := A_ (hbox); have n5_ := A_ ((by rw [hg]; exact (below_size z7t) : w.heap.size ≤ gb424)); have n6_ := A_ ((by rw [hg]; exact (below_size z7t) : w.heap.size ≤ gb424)); clear HO414; clear HO419; clear HO422; clear HB; have HO414 := n0_; have HO419 := n1_; have HO422 := n2_; have HB := n3_; have BK424 := n4_; have GW424 := n5_; have GE424 := n6_; clear n0_ n1_ n2_ n3_ n4_ n5_ n6_; clear hb hbox hg; have hcz15_0 : w14.cell? ⟨gb424, 0, none⟩ = some (.string (⟨#[]⟩ : ByteArray)) := (blk_cell BK424.out 0).trans rfl; have hcz15_1 : w14.cell? ⟨gb424, 1, none⟩ = some (.string (⟨#[]⟩ : ByteArray)) := (blk_cell BK424.out 1).trans rfl; have hcz15_2 : w14.cell? ⟨gb424, 2, none⟩ = some (.slice none 0 0) := (blk_cell BK424.out 2).trans rfl; have hcz15_3 : w14.cell? ⟨gb424, 3, none⟩ = some (.slice none 0 0) := (blk_cell BK424.out 3).trans rfl; have hfz15_0 := blk_frozen BK424.out 0; have hfz15_1 := blk_frozen BK424.out 1; have hfz15_2 := blk_frozen BK424.out 2; have hfz15_3 := blk_frozen BK424.out 3; obtain ⟨Ao16, co16, eo16⟩ := Kd.R_slice HO419.out; subst eo16; obtain ⟨Ao17, co17, eo17⟩ := Kd.R_slice HO422.out; subst eo17) | ((with_reducible refine gate_callee (f := 15) rfl ?_); refine goesL_ (some 26) rfl rfl Try.func15 (by kernel_rfl) rfl #[.slice A0 l0.length c0] rfl z7b ?_; (with_reducible refine (laws_toEntryS.calls k _ _ l0 t425 _ ?side1 ?side2 A7.out).mono ?_); (case side1 => exact Kd.C_below HR0.out z7q); (case side2 => exact HC0.out); rintro e w18 ⟨v426, rfl, ho0, hb⟩; refine ⟨_, rfl, ?_⟩; have n0_ := A_ (Kd.R_elder' z7f1 (Kd.R_base ho0) hb); have n1_ := A_ (Kd.R_below (by (with_reducible repeat (first | apply Kd.R_alloc | apply Kd.R_drewN | apply Kd.R_drew)); exact (Kd.R_mono (Kd.R_far (p := ⟨gb424, 3, none⟩) (Kd.R_far (p := ⟨gb424, 2, none⟩) (Kd.R_far (p := ⟨gb424, 1, none⟩) (Kd.R_far (p := ⟨gb424, 0, none⟩) (Kd.R_types HO419.out BK424.out (by decide)) (fun _ hk => hk.2) (.string t415)) (fun _ hk => hk.2) (.string t416)) (fun _ hk => hk.2) (.slice Ao16 t417.length co16)) (fun _ hk => hk.2) (.slice Ao17 t420.length co17)) (fun _ h_ => h_.1))) hb); have n2_ := A_ (Kd.R_below (by (with_reducible repeat (first | apply Kd.R_alloc | apply Kd.R_drewN | apply Kd.R_drew)); exact (Kd.R_mono (Kd.R_far (p := ⟨gb424, 3, none⟩) (Kd.R_far (p := ⟨gb424, 2, none⟩) (Kd.R_far (p := ⟨gb424, 1, none⟩) (Kd.R_far (p := ⟨gb424, 0, none⟩) (Kd.R_types HO422.out BK424.out (by decide)) (fun _ hk => hk.2) (.string t415)) (fun _ hk => hk.2) (.string t416)) (fun _ hk => hk.2) (.slice Ao16 t417.length co16)) (fun _ hk => hk.2) (.slice Ao17 t420.length co17)) (fun _ h_ => h_.1))) hb); have n3_ := A_ (Kd.R_lower (Kd.R_new' ho0 (Kd.R_lt z7f1)) (below_size z7q)); have n4_ := A_ (blk_below (g := gb424) (o := .cells #[.string t415, .string t416, .slice Ao16 t417.length co16, .slice Ao17 t420.length co17] 57 (0, 0)) (by (with_reducible repeat (first | refine blk_drewN ?_ _ | refine blk_drew ?_ | refine blk_alloc ?_ _)); refine blk_put (cs := #[.string t415, .string t416, .slice Ao16 t417.length co16, .slice none 0 0]) ?_ 3 _ rfl; (with_reducible repeat (first | refine blk_drewN ?_ _ | refine blk_drew ?_ | refine blk_alloc ?_ _)); refine blk_put (cs := #[.string t415, .string t416, .slice none 0 0, .slice none 0 0]) ?_ 2 _ rfl; (with_reducible repeat (first | refine blk_drewN ?_ _ | refine blk_drew ?_ | refine blk_alloc ?_ _)); refine blk_put (cs := #[.string t415, .string (⟨#[]⟩ : ByteArray), .slice none 0 0, .slice none 0 0]) ?_ 1 _ rfl; (with_reducible repeat (first | refine blk_drewN ?_ _ | refine blk_drew ?_ | refine blk_alloc ?_ _)); refine blk_put (cs := #[.string (⟨#[]⟩ : ByteArray), .string (⟨#[]⟩ : ByteArray), .slice none 0 0, .slice none 0 0]) ?_ 0 _ rfl; (with_reducible repeat (first | refine blk_drewN ?_ _ | refine blk_drew ?_ | refine blk_alloc ?_ _)); exact BK424.out) hb); have n5_ := A_ (below_step z7q hb); clear HO414; clear HO419; clear HO422; clear BK424; clear HB; have HO414 := n0_; have HO419 := n1_; have HO422 := n2_; have HO427 := n3_; have BK424 := n4_; have HB := n5_; clear n0_ n1_ n2_ n3_ n4_ n5_; obtain ⟨Ao19, co19, eo19⟩ := Kd.R_slice HO427.out; subst eo19) | ((with_reducible refine gate_callee (f := 37) rfl ?_); refine goesL_ (some 29) rfl rfl Try.func37 (by kernel_rfl) rfl #[.slice Ao19 t425.length co19] rfl z7b ?_; (with_reducible refine (impl_Built.calls k _ _ t425 t428 t429 t430 t433 t436 _ ?side1 ?side2 A8.out).mono ?_); (case side1 => exact (by repeat (first | exact (Kd.R_reads' HO427.out).2.2 | (with_reducible refine Kd.C_alloc ?_ _) | (with_reducible refine Kd.C_drewN ?_ _) | (with_reducible refine Kd.C_drew ?_)))); (case side2 => exact (Kd.R_reads' HO427.out).2.1); rintro e w20 ⟨v431, v434, rfl, ho0, ho1, hb⟩; refine ⟨_, rfl, ?_⟩; have n0_ := A_ (Kd.R_below (by (with_reducible repeat (first | apply Kd.R_alloc | apply Kd.R_drewN | apply Kd.R_drew)); exact HO414.out) hb); have n1_ := A_ (Kd.R_elder' (by (with_reducible repeat (first | apply Kd.R_alloc | apply Kd.R_drewN | apply Kd.R_drew)); exact HO419.out) (Kd.R_base ho0) hb); have n2_ := A_ (Kd.R_elder' (by (with_reducible repeat (first | apply Kd.R_alloc | apply Kd.R_drewN | apply Kd.R_drew)); exact HO422.out) (Kd.R_base ho1) hb); have n3_ := A_ (Kd.R_below (by (with_reducible repeat (first | apply Kd.R_alloc | apply Kd.R_drewN | apply Kd.R_drew)); exact HO427.out) hb); have n4_ := A_ (Kd.R_lower (Kd.R_new' ho0 (Kd.R_lt (by (with_reducible repeat (first | apply Kd.R_alloc | apply Kd.R_drewN | apply Kd.R_drew)); exact HO419.out))) (below_size z7q)); have n5_ := A_ (Kd.R_lower (Kd.R_new' ho1 (Kd.R_lt (by (with_reducible repeat (first | apply Kd.R_alloc | apply Kd.R_drewN | apply Kd.R_drew)); exact HO422.out))) (below_size z7q)); have n6_ := A_ (blk_below (g := gb424) (o := .cells #[.string t415, .string t416, .slice Ao16 t417.length co16, .slice Ao17 t420.length co17] 57 (0, 0)) z7c hb); have n7_ := A_ (below_step z7q hb); clear HO414; clear HO419; clear HO422; clear HO427; clear BK424; clear HB; have HO414 := n0_; have HO419 := n1_; have HO422 := n2_; have HO427 := n3_; have HO432 := n4_; have HO435 := n5_; have BK424 := n6_; have HB := n7_; clear n0_ n1_ n2_ n3_ n4_ n5_ n6_ n7_; (try clear ho1)) | ((with_reducible refine gate_dst (N := 7) rfl ?_); refine box_event ?hg (N := 7) ?hd (cs := #[.string (⟨#[]⟩ : ByteArray), .string (⟨#[]⟩ : ByteArray), .slice none 0 0, .slice none 0 0]) (t := 57) ?hr ?_; (case hd => rfl); (case hg => rfl); (case hr => first | (go_simp; done) | (go_simp; rfl)); intro gb437 hg w21 hbox hb; have n0_ := A_ (Kd.R_below (by (with_reducible repeat (first | apply Kd.R_alloc | apply Kd.R_drewN | apply Kd.R_drew)); exact HO414.out) hb); have n1_ := A_ (Kd.R_below (by (with_reducible repeat (first | apply Kd.R_alloc | apply Kd.R_drewN | apply Kd.R_drew)); exact HO419.out) hb); have n2_ := A_ (Kd.R_below (by (with_reducible repeat (first | apply Kd.R_alloc | apply Kd.R_drewN | apply Kd.R_drew)); exact HO422.out) hb); have n3_ := A_ (Kd.R_below (by (with_reducible repeat (first | apply Kd.R_alloc | apply Kd.R_drewN | apply Kd.R_drew)); exact HO427.out) hb); have n4_ := A_ (Kd.R_below (by (with_reducible repeat (first | apply Kd.R_alloc | apply Kd.R_drewN | apply Kd.R_drew)); exact HO432.out) hb); have n5_ := A_ (Kd.R_below (by (with_reducible repeat (first | apply Kd.R_alloc | apply Kd.R_drewN | apply Kd.R_drew)); exact HO435.out) hb); have n6_ := A_ (blk_below (g := gb424) (o := .cells #[.string t415, .string t416, .slice Ao16 t417.length co16, .slice Ao17 t420.length co17] 57 (0, 0)) z7c hb); have n7_ := A_ (below_step z7q hb); have n8_ := A_ (hbox); have n9_ := A_ ((by rw [hg]; exact (below_size z7q) : w.heap.size ≤ gb437)); have n10_ := A_ ((by rw [hg]; exact (below_size z7q) : w.heap.size ≤ gb437)); have n11_ := A_ ((by rw [hg]; exact Nat.ne_of_lt (blk_lt (g := gb424) (o := .cells #[.string t415, .string t416, .slice Ao16 t417.length co16, .slice Ao17 t420.length co17] 57 (0, 0)) z7c) : gb424 ≠ gb437)); have n12_ := A_ ((by rw [hg]; exact Nat.ne_of_gt (blk_lt (g := gb424) (o := .cells #[.string t415, .string t416, .slice Ao16 t417.length co16, .slice Ao17 t420.length co17] 57 (0, 0)) z7c) : gb437 ≠ gb424)); clear HO414; clear HO419; clear HO422; clear HO427; clear HO432; clear HO435; clear BK424; clear HB; have HO414 := n0_; have HO419 := n1_; have HO422 := n2_; have HO427 := n3_; have HO432 := n4_; have HO435 := n5_; have BK424 := n6_; have HB := n7_; have BK437 := n8_; have GW437 := n9_; have GE437 := n10_; have NB424_437 := n11_; have NB437_424 := n12_; clear n0_ n1_ n2_ n3_ n4_ n5_ n6_ n7_ n8_ n9_ n10_ n11_ n12_; clear hb hbox hg; have hnb22 := NB437_424.out; have hnc22 := NB424_437.out; have hcz23_0 : w21.cell? ⟨gb437, 0, none⟩ = some (.string (⟨#[]⟩ : ByteArray)) := (blk_cell BK437.out 0).trans rfl; have hcz23_1 : w21.cell? ⟨gb437, 1, none⟩ = some (.string (⟨#[]⟩ : ByteArray)) := (blk_cell BK437.out 1).trans rfl; have hcz23_2 : w21.cell? ⟨gb437, 2, none⟩ = some (.slice none 0 0) := (blk_cell BK437.out 2).trans rfl; have hcz23_3 : w21.cell? ⟨gb437, 3, none⟩ = some (.slice none 0 0) := (blk_cell BK437.out 3).trans rfl; have hfz23_0 := blk_frozen BK437.out 0; have hfz23_1 := blk_frozen BK437.out 1; have hfz23_2 := blk_frozen BK437.out 2; have hfz23_3 := blk_frozen BK437.out 3; obtain ⟨Ao24, co24, eo24⟩ := Kd.R_slice HO432.out; subst eo24; obtain ⟨Ao25, co25, eo25⟩ := Kd.R_slice HO435.out; subst eo25))
 (try simp only [Act.put, List.setIfInBounds_toArray, List.set_cons_zero, List.set_cons_succ])
 go_cut [40] (fun v40 wc => ∃ (kq : Nat) (x40_8 : Bool), v40 = .bool x40_8 ∧ Aside0 (laws_FnExactBuilt.j0 kq l0 t423 t425 t436 x40_8 t415 t416 t417 t420 t428 t429 t430 t433 = some r) ∧ Aside0 (kq ≤ k) ∧ Aside0 (Kd.R k31 31 wc w.heap.size (fun _ => True) (.slice Ao19 t425.length co19) t425) ∧ Aside0 (Kd.R (Kd.int .i64) 2 wc w.heap.size (fun k_ => some k_ ≠ ((.slice Ao24 t430.length co24) : Value).ownBlock) (.slice Ao16 t417.length co16) t417) ∧ Aside0 (Kd.R Kd.string 9 wc w.heap.size (fun k_ => some k_ ≠ ((.slice Ao25 t433.length co25) : Value).ownBlock) (.slice Ao17 t420.length co17) t420) ∧ Aside0 (Kd.R (Kd.int .i64) 2 wc w.heap.size (fun k_ => some k_ ≠ ((.slice Ao16 t417.length co16) : Value).ownBlock) (.slice Ao24 t430.length co24) t430) ∧ Aside0 (Kd.R Kd.string 9 wc w.heap.size (fun k_ => some k_ ≠ ((.slice Ao17 t420.length co17) : Value).ownBlock) (.slice Ao25 t433.length co25) t433) ∧ Aside0 (wc.heap[gb424]? = some (.cells #[.string t415, .string t416, (.slice Ao16 t417.length co16), (.slice Ao17 t420.length co17)] 57 (0, 0))) ∧ Aside0 (wc.heap[gb437]? = some (.cells #[.string t428, .string t429, (.slice Ao24 t430.length co24), (.slice Ao25 t433.length co25)] 57 (0, 0))) ∧ Aside0 (Below w.heap.size w wc))
 case first =>
  have H := HC9.out
  clear HC9
  replace H := Option.bind_eq_some_iff.mp H
  obtain ⟨t438, A260, H⟩ := H
  replace H : (if t438 = true then (laws_FnExactBuilt.j0 k l0 t423 t425 t436 (t436 != t423) t415 t416 t417 t420 t428 t429 t430 t433) else (laws_FnExactBuilt.j0 k l0 t423 t425 t436 true t415 t416 t417 t420 t428 t429 t430 t433)) = some r := H
  have A26 := A_ A260
  clear A260
  by_cases c27 : t438 = true
  {
  subst c27
  have H1 : (laws_FnExactBuilt.j0 k l0 t423 t425 t436 (t436 != t423) t415 t416 t417 t420 t428 t429 t430 t433) = some r := by rw [if_pos rfl] at H; exact H
  clear H
  have H := H1
  clear H1
  have H' := A_ H
  clear H
  have hnb28 := NB437_424.out
  have hnc28 := NB424_437.out
  have hcz29_0 : w21.cell? ⟨gb437, 0, none⟩ = some (.string (⟨#[]⟩ : ByteArray)) := (blk_cell BK437.out 0).trans rfl
  have hcz29_1 : w21.cell? ⟨gb437, 1, none⟩ = some (.string (⟨#[]⟩ : ByteArray)) := (blk_cell BK437.out 1).trans rfl
  have hcz29_2 : w21.cell? ⟨gb437, 2, none⟩ = some (.slice none 0 0) := (blk_cell BK437.out 2).trans rfl
  have hcz29_3 : w21.cell? ⟨gb437, 3, none⟩ = some (.slice none 0 0) := (blk_cell BK437.out 3).trans rfl
  have hfz29_0 := blk_frozen BK437.out 0
  have hfz29_1 := blk_frozen BK437.out 1
  have hfz29_2 := blk_frozen BK437.out 2
  have hfz29_3 := blk_frozen BK437.out 3
  have hcz30_0 : w21.cell? ⟨gb424, 0, none⟩ = some (.string t415) := (blk_cell BK424.out 0).trans rfl
  have hcz30_1 : w21.cell? ⟨gb424, 1, none⟩ = some (.string t416) := (blk_cell BK424.out 1).trans rfl
  have hcz30_2 : w21.cell? ⟨gb424, 2, none⟩ = some (.slice Ao16 t417.length co16) := (blk_cell BK424.out 2).trans rfl
  have hcz30_3 : w21.cell? ⟨gb424, 3, none⟩ = some (.slice Ao17 t420.length co17) := (blk_cell BK424.out 3).trans rfl
  have hfz30_0 := blk_frozen BK424.out 0
  have hfz30_1 := blk_frozen BK424.out 1
  have hfz30_2 := blk_frozen BK424.out 2
  have hfz30_3 := blk_frozen BK424.out 3
  go_wp2_with (first | ((with_reducible refine gate_callee (f := 38) rfl ?_); refine goesL_ (some 34) rfl rfl Try.func38 (by kernel_rfl) rfl #[.agg #[.string t428, .string t429, .slice Ao24 t430.length co24, .slice Ao25 t433.length co25], .agg #[.string t415, .string t416, .slice Ao16 t417.length co16, .slice Ao17 t420.length co17]] rfl z7b ?_; (with_reducible refine (laws_eqTable.calls k t428 t429 _ _ t430 _ _ t433 t415 t416 _ _ t417 _ _ t420 true _ ?side1 ?side2 ?side3 ?side4 ?side5 ?side6 ?side7 ?side8 A26.out).mono ?_); (case side1 => refine (Kd.R_reads' (e := 2) (base := w.heap.size) (ok := fun k_ => (True ∧ some k_ ≠ (.slice Ao16 t417.length co16 : Value).ownBlock)) (n := t430.length) (c := co24) ?_).2.2; exact z7k); (case side2 => exact (Kd.R_reads' HO432.out).2.1); (case side3 => refine (Kd.R_reads' (e := 9) (base := w.heap.size) (ok := fun k_ => (True ∧ some k_ ≠ (.slice Ao17 t420.length co17 : Value).ownBlock)) (n := t433.length) (c := co25) ?_).2.2; exact z7l); (case side4 => exact (Kd.R_reads' HO435.out).2.1); (case side5 => refine (Kd.R_reads' (e := 2) (base := w.heap.size) (ok := fun k_ => (True ∧ some k_ ≠ (.slice Ao24 t430.length co24 : Value).ownBlock)) (n := t417.length) (c := co16) ?_).2.2; exact z7m); (case side6 => exact (Kd.R_reads' HO419.out).2.1); (case side7 => refine (Kd.R_reads' (e := 9) (base := w.heap.size) (ok := fun k_ => (True ∧ some k_ ≠ (.slice Ao25 t433.length co25 : Value).ownBlock)) (n := t420.length) (c := co17) ?_).2.2; exact z7n); (case side8 => exact (Kd.R_reads' HO422.out).2.1); rintro e w31 ⟨rfl, hb⟩; refine ⟨_, rfl, ?_⟩; replace HO414 := A_ (Kd.R_below z7g1 hb); replace HO419 := A_ (Kd.R_below z7m hb); replace HO422 := A_ (Kd.R_below z7n hb); replace HO427 := A_ (Kd.R_below z7h1 hb); replace HO432 := A_ (Kd.R_below z7k hb); replace HO435 := A_ (Kd.R_below z7l hb); replace BK424 := A_ (blk_below (g := gb424) (o := .cells #[.string t415, .string t416, .slice Ao16 t417.length co16, .slice Ao17 t420.length co17] 57 (0, 0)) z7y hb); replace BK437 := A_ (blk_below (g := gb437) (o := .cells #[.string t428, .string t429, .slice Ao24 t430.length co24, .slice Ao25 t433.length co25] 57 (0, 0)) z7u hb); replace HB := A_ (below_step z7a hb)))
  go_meet
  case rel => exact ⟨_, ((t436 != t423)), (by first | rfl | (simp; done) | (simp [*]; done)), H', ⟨by first | omega | exact Nat.le_refl _⟩, ⟨by (with_reducible repeat (first | apply Kd.R_alloc | apply Kd.R_drewN | apply Kd.R_drew)); exact Kd.R_mono HO427.out (fun _ hk => trivial)⟩, ⟨by (with_reducible repeat (first | apply Kd.R_alloc | apply Kd.R_drewN | apply Kd.R_drew)); exact Kd.R_mono HO419.out (fun _ hk => hk.2)⟩, ⟨by (with_reducible repeat (first | apply Kd.R_alloc | apply Kd.R_drewN | apply Kd.R_drew)); exact Kd.R_mono HO422.out (fun _ hk => hk.2)⟩, ⟨by (with_reducible repeat (first | apply Kd.R_alloc | apply Kd.R_drewN | apply Kd.R_drew)); exact Kd.R_mono HO432.out (fun _ hk => hk.2)⟩, ⟨by (with_reducible repeat (first | apply Kd.R_alloc | apply Kd.R_drewN | apply Kd.R_drew)); exact Kd.R_mono HO435.out (fun _ hk => hk.2)⟩, ⟨by (with_reducible repeat (first | refine blk_drewN ?_ _ | refine blk_drew ?_ | refine blk_alloc ?_ _)); exact BK424.out⟩, ⟨by (with_reducible repeat (first | refine blk_drewN ?_ _ | refine blk_drew ?_ | refine blk_alloc ?_ _)); exact BK437.out⟩, ⟨by repeat (first | (with_reducible first | exact HB.out | apply below_alloc | apply pw_below_drewN | apply below_drew1 | refine below_set ?_ GE424.out | refine below_set ?_ GE437.out) | exact HB.out)⟩⟩
  }
  {
  replace c27 := Bool.eq_false_iff.mpr c27
  subst c27
  have H1 : (laws_FnExactBuilt.j0 k l0 t423 t425 t436 true t415 t416 t417 t420 t428 t429 t430 t433) = some r := by rw [if_neg (show ¬ (false = true) by decide)] at H; exact H
  clear H
  have H := H1
  clear H1
  have H' := A_ H
  clear H
  have hnb32 := NB437_424.out
  have hnc32 := NB424_437.out
  have hcz33_0 : w21.cell? ⟨gb437, 0, none⟩ = some (.string (⟨#[]⟩ : ByteArray)) := (blk_cell BK437.out 0).trans rfl
  have hcz33_1 : w21.cell? ⟨gb437, 1, none⟩ = some (.string (⟨#[]⟩ : ByteArray)) := (blk_cell BK437.out 1).trans rfl
  have hcz33_2 : w21.cell? ⟨gb437, 2, none⟩ = some (.slice none 0 0) := (blk_cell BK437.out 2).trans rfl
  have hcz33_3 : w21.cell? ⟨gb437, 3, none⟩ = some (.slice none 0 0) := (blk_cell BK437.out 3).trans rfl
  have hfz33_0 := blk_frozen BK437.out 0
  have hfz33_1 := blk_frozen BK437.out 1
  have hfz33_2 := blk_frozen BK437.out 2
  have hfz33_3 := blk_frozen BK437.out 3
  have hcz34_0 : w21.cell? ⟨gb424, 0, none⟩ = some (.string t415) := (blk_cell BK424.out 0).trans rfl
  have hcz34_1 : w21.cell? ⟨gb424, 1, none⟩ = some (.string t416) := (blk_cell BK424.out 1).trans rfl
  have hcz34_2 : w21.cell? ⟨gb424, 2, none⟩ = some (.slice Ao16 t417.length co16) := (blk_cell BK424.out 2).trans rfl
  have hcz34_3 : w21.cell? ⟨gb424, 3, none⟩ = some (.slice Ao17 t420.length co17) := (blk_cell BK424.out 3).trans rfl
  have hfz34_0 := blk_frozen BK424.out 0
  have hfz34_1 := blk_frozen BK424.out 1
  have hfz34_2 := blk_frozen BK424.out 2
  have hfz34_3 := blk_frozen BK424.out 3
  go_wp2_with (first | ((with_reducible refine gate_callee (f := 38) rfl ?_); refine goesL_ (some 34) rfl rfl Try.func38 (by kernel_rfl) rfl #[.agg #[.string t428, .string t429, .slice Ao24 t430.length co24, .slice Ao25 t433.length co25], .agg #[.string t415, .string t416, .slice Ao16 t417.length co16, .slice Ao17 t420.length co17]] rfl z7b ?_; (with_reducible refine (laws_eqTable.calls k t428 t429 _ _ t430 _ _ t433 t415 t416 _ _ t417 _ _ t420 false _ ?side1 ?side2 ?side3 ?side4 ?side5 ?side6 ?side7 ?side8 A26.out).mono ?_); (case side1 => refine (Kd.R_reads' (e := 2) (base := w.heap.size) (ok := fun k_ => (True ∧ some k_ ≠ (.slice Ao16 t417.length co16 : Value).ownBlock)) (n := t430.length) (c := co24) ?_).2.2; exact z7k); (case side2 => exact (Kd.R_reads' HO432.out).2.1); (case side3 => refine (Kd.R_reads' (e := 9) (base := w.heap.size) (ok := fun k_ => (True ∧ some k_ ≠ (.slice Ao17 t420.length co17 : Value).ownBlock)) (n := t433.length) (c := co25) ?_).2.2; exact z7l); (case side4 => exact (Kd.R_reads' HO435.out).2.1); (case side5 => refine (Kd.R_reads' (e := 2) (base := w.heap.size) (ok := fun k_ => (True ∧ some k_ ≠ (.slice Ao24 t430.length co24 : Value).ownBlock)) (n := t417.length) (c := co16) ?_).2.2; exact z7m); (case side6 => exact (Kd.R_reads' HO419.out).2.1); (case side7 => refine (Kd.R_reads' (e := 9) (base := w.heap.size) (ok := fun k_ => (True ∧ some k_ ≠ (.slice Ao25 t433.length co25 : Value).ownBlock)) (n := t420.length) (c := co17) ?_).2.2; exact z7n); (case side8 => exact (Kd.R_reads' HO422.out).2.1); rintro e w35 ⟨rfl, hb⟩; refine ⟨_, rfl, ?_⟩; replace HO414 := A_ (Kd.R_below z7g1 hb); replace HO419 := A_ (Kd.R_below z7m hb); replace HO422 := A_ (Kd.R_below z7n hb); replace HO427 := A_ (Kd.R_below z7h1 hb); replace HO432 := A_ (Kd.R_below z7k hb); replace HO435 := A_ (Kd.R_below z7l hb); replace BK424 := A_ (blk_below (g := gb424) (o := .cells #[.string t415, .string t416, .slice Ao16 t417.length co16, .slice Ao17 t420.length co17] 57 (0, 0)) z7y hb); replace BK437 := A_ (blk_below (g := gb437) (o := .cells #[.string t428, .string t429, .slice Ao24 t430.length co24, .slice Ao25 t433.length co25] 57 (0, 0)) z7u hb); replace HB := A_ (below_step z7a hb)))
  go_meet
  case rel => exact ⟨_, (true), (by first | rfl | (simp; done) | (simp [*]; done)), H', ⟨by first | omega | exact Nat.le_refl _⟩, ⟨by (with_reducible repeat (first | apply Kd.R_alloc | apply Kd.R_drewN | apply Kd.R_drew)); exact Kd.R_mono HO427.out (fun _ hk => trivial)⟩, ⟨by (with_reducible repeat (first | apply Kd.R_alloc | apply Kd.R_drewN | apply Kd.R_drew)); exact Kd.R_mono HO419.out (fun _ hk => hk.2)⟩, ⟨by (with_reducible repeat (first | apply Kd.R_alloc | apply Kd.R_drewN | apply Kd.R_drew)); exact Kd.R_mono HO422.out (fun _ hk => hk.2)⟩, ⟨by (with_reducible repeat (first | apply Kd.R_alloc | apply Kd.R_drewN | apply Kd.R_drew)); exact Kd.R_mono HO432.out (fun _ hk => hk.2)⟩, ⟨by (with_reducible repeat (first | apply Kd.R_alloc | apply Kd.R_drewN | apply Kd.R_drew)); exact Kd.R_mono HO435.out (fun _ hk => hk.2)⟩, ⟨by (with_reducible repeat (first | refine blk_drewN ?_ _ | refine blk_drew ?_ | refine blk_alloc ?_ _)); exact BK424.out⟩, ⟨by (with_reducible repeat (first | refine blk_drewN ?_ _ | refine blk_drew ?_ | refine blk_alloc ?_ _)); exact BK437.out⟩, ⟨by repeat (first | (with_reducible first | exact HB.out | apply below_alloc | apply pw_below_drewN | apply below_drew1 | refine below_set ?_ GE424.out | refine below_set ?_ GE437.out) | exact HB.out)⟩⟩
  }
 case rest =>
  clear HC9
  try clear c1
  try clear c2
  try clear p2
  try clear c3
  try clear c3b0
  try clear c7
  try clear c12
  try clear c15
  try clear c22
  try clear c27
  try clear c28
  try clear c32
  try clear hcz15_0
  try clear hcz15_1
  try clear hcz15_2
  try clear hcz15_3
  try clear hcz23_0
  try clear hcz23_1
  try clear hcz23_2
  try clear hcz23_3
  try clear hcz29_0
  try clear hcz29_1
  try clear hcz29_2
  try clear hcz29_3
  try clear hcz30_0
  try clear hcz30_1
  try clear hcz30_2
  try clear hcz30_3
  try clear hcz33_0
  try clear hcz33_1
  try clear hcz33_2
  try clear hcz33_3
  try clear hcz34_0
  try clear hcz34_1
  try clear hcz34_2
  try clear hcz34_3
  try clear hfz15_0
  try clear hfz15_1
  try clear hfz15_2
  try clear hfz15_3
  try clear hfz23_0
  try clear hfz23_1
  try clear hfz23_2
  try clear hfz23_3
  try clear hfz29_0
  try clear hfz29_1
  try clear hfz29_2
  try clear hfz29_3
  try clear hfz30_0
  try clear hfz30_1
  try clear hfz30_2
  try clear hfz30_3
  try clear hfz33_0
  try clear hfz33_1
  try clear hfz33_2
  try clear hfz33_3
  try clear hfz34_0
  try clear hfz34_1
  try clear hfz34_2
  try clear hfz34_3
  obtain ⟨kq, x40_8, rfl, HA, HJ8, HO_6, HO_425002, HO_425003, HO_438002, HO_438003, BK424, BK437, HB⟩ := hcut
  cases kq with
  | zero => exact absurd HA.out (by simp [laws_FnExactBuilt.j0])
  | succ kj8 =>
   have H := HA.out
   clear HA
   simp only [laws_FnExactBuilt.j0] at H
   by_cases c36 : x40_8 = true
   {
   subst c36
   have H1 : (some false) = some r := by rw [if_pos rfl] at H; exact H
   clear H
   have H := H1
   clear H1
   obtain rfl := Option.some.inj H
   go_wp2
   go_ret
   exact ⟨by first | rfl | (simp [errW_none, errW_some] <;> rfl) | (simp [*, errW_none, errW_some] <;> rfl), by repeat (first | (with_reducible first | exact HB.out | apply below_alloc | apply pw_below_drewN | apply below_drew1 | refine below_set ?_ GE424.out | refine below_set ?_ GE437.out) | exact HB.out)⟩
   }
   {
   replace c36 := Bool.eq_false_iff.mpr c36
   subst c36
   have H1 : ((laws_toEntryS.f kj8 l0).bind fun t439 => ((laws_eqEntryS.f kj8 t425 t439).bind fun t442 => (if t442 = true then ((laws_markEntryS.f kj8 t425 1).bind fun bt443 => (if bt443.1 < 0 then (laws_FnExactBuilt.j1 kj8 l0 t423 true t415 t416 t417 t420 t428 t429 t430 t433) else ((laws_eqTable.f kj8 t428 t429 t430 t433 t415 t416 t417 t420).bind fun t445 => (if t445 = true then (laws_FnExactBuilt.j1 kj8 l0 t423 (t436 != t423) t415 t416 t417 t420 t428 t429 t430 t433) else (laws_FnExactBuilt.j1 kj8 l0 t423 true t415 t416 t417 t420 t428 t429 t430 t433))))) else (some false)))) = some r := by rw [if_neg (show ¬ (false = true) by decide)] at H; exact H
   clear H
   have H := H1
   clear H1
   replace H := Option.bind_eq_some_iff.mp H
   obtain ⟨t439, A370, H⟩ := H
   replace H : ((laws_eqEntryS.f kj8 t425 t439).bind fun t442 => (if t442 = true then ((laws_markEntryS.f kj8 t425 1).bind fun bt443 => (if bt443.1 < 0 then (laws_FnExactBuilt.j1 kj8 l0 t423 true t415 t416 t417 t420 t428 t429 t430 t433) else ((laws_eqTable.f kj8 t428 t429 t430 t433 t415 t416 t417 t420).bind fun t445 => (if t445 = true then (laws_FnExactBuilt.j1 kj8 l0 t423 (t436 != t423) t415 t416 t417 t420 t428 t429 t430 t433) else (laws_FnExactBuilt.j1 kj8 l0 t423 true t415 t416 t417 t420 t428 t429 t430 t433))))) else (some false))) = some r := H
   have A37 := A_ A370
   clear A370
   replace H := Option.bind_eq_some_iff.mp H
   obtain ⟨t442, A380, H⟩ := H
   replace H : (if t442 = true then ((laws_markEntryS.f kj8 t425 1).bind fun bt443 => (if bt443.1 < 0 then (laws_FnExactBuilt.j1 kj8 l0 t423 true t415 t416 t417 t420 t428 t429 t430 t433) else ((laws_eqTable.f kj8 t428 t429 t430 t433 t415 t416 t417 t420).bind fun t445 => (if t445 = true then (laws_FnExactBuilt.j1 kj8 l0 t423 (t436 != t423) t415 t416 t417 t420 t428 t429 t430 t433) else (laws_FnExactBuilt.j1 kj8 l0 t423 true t415 t416 t417 t420 t428 t429 t430 t433))))) else (some false)) = some r := H
   have A38 := A_ A380
   clear A380
   by_cases c39 : t442 = true
   {
   subst c39
   have H1 : ((laws_markEntryS.f kj8 t425 1).bind fun bt443 => (if bt443.1 < 0 then (laws_FnExactBuilt.j1 kj8 l0 t423 true t415 t416 t417 t420 t428 t429 t430 t433) else ((laws_eqTable.f kj8 t428 t429 t430 t433 t415 t416 t417 t420).bind fun t445 => (if t445 = true then (laws_FnExactBuilt.j1 kj8 l0 t423 (t436 != t423) t415 t416 t417 t420 t428 t429 t430 t433) else (laws_FnExactBuilt.j1 kj8 l0 t423 true t415 t416 t417 t420 t428 t429 t430 t433))))) = some r := by rw [if_pos rfl] at H; exact H
   clear H
   have H := H1
   clear H1
   replace H := Option.bind_eq_some_iff.mp H
   obtain ⟨⟨t443, t444⟩, A400, H⟩ := H
   replace H : (if t443 < 0 then (laws_FnExactBuilt.j1 kj8 l0 t423 true t415 t416 t417 t420 t428 t429 t430 t433) else ((laws_eqTable.f kj8 t428 t429 t430 t433 t415 t416 t417 t420).bind fun t445 => (if t445 = true then (laws_FnExactBuilt.j1 kj8 l0 t423 (t436 != t423) t415 t416 t417 t420 t428 t429 t430 t433) else (laws_FnExactBuilt.j1 kj8 l0 t423 true t415 t416 t417 t420 t428 t429 t430 t433)))) = some r := H
   have A40 := A_ A400
   clear A400
   have HC41 := A_ H
   clear H
   go_upto_region 14 with (first | ((with_reducible refine gate_callee (f := 15) rfl ?_); refine goesL_ (some 43) rfl rfl Try.func15 (by kernel_rfl) rfl #[.slice A0 l0.length c0] rfl z7b ?_; (with_reducible refine (laws_toEntryS.calls kj8 _ _ l0 t439 _ ?side1 ?side2 A37.out).mono ?_); (case side1 => exact z7c1); (case side2 => exact HC0.out); rintro e w42 ⟨v440, rfl, ho0, hb⟩; refine ⟨_, rfl, ?_⟩; have n0_ := A_ (Kd.R_elder' z7x (Kd.R_base ho0) hb); have n1_ := A_ (Kd.R_below z7e hb); have n2_ := A_ (Kd.R_below z7f hb); have n3_ := A_ (Kd.R_below z7g hb); have n4_ := A_ (Kd.R_below z7h hb); have n5_ := A_ (Kd.R_lower (Kd.R_new' ho0 (Kd.R_lt z7x)) (below_size z7a)); have n6_ := A_ (blk_below (g := gb424) (o := .cells #[.string t415, .string t416, .slice Ao16 t417.length co16, .slice Ao17 t420.length co17] 57 (0, 0)) z7c hb); have n7_ := A_ (blk_below (g := gb437) (o := .cells #[.string t428, .string t429, .slice Ao24 t430.length co24, .slice Ao25 t433.length co25] 57 (0, 0)) z7d hb); have n8_ := A_ (below_step z7a hb); clear HO_6; clear HO_425002; clear HO_425003; clear HO_438002; clear HO_438003; clear BK424; clear BK437; clear HB; have HO_6 := n0_; have HO_425002 := n1_; have HO_425003 := n2_; have HO_438002 := n3_; have HO_438003 := n4_; have HO441 := n5_; have BK424 := n6_; have BK437 := n7_; have HB := n8_; clear n0_ n1_ n2_ n3_ n4_ n5_ n6_ n7_ n8_; obtain ⟨Ao43, co43, eo43⟩ := Kd.R_slice HO441.out; subst eo43) | ((with_reducible refine gate_callee (f := 18) rfl ?_); refine goesL_ (some 44) rfl rfl Try.func18 (by kernel_rfl) rfl #[.slice Ao19 t425.length co19, .slice Ao43 t439.length co43] rfl z7b ?_; (with_reducible refine (laws_eqEntryS.calls kj8 _ _ t425 _ _ t439 true _ ?side1 ?side2 ?side3 ?side4 A38.out).mono ?_); (case side1 => exact (by repeat (first | exact (Kd.R_reads' HO_6.out).2.2 | (with_reducible refine Kd.C_alloc ?_ _) | (with_reducible refine Kd.C_drewN ?_ _) | (with_reducible refine Kd.C_drew ?_)))); (case side2 => exact (Kd.R_reads' HO_6.out).2.1); (case side3 => exact (by repeat (first | exact (Kd.R_reads' HO441.out).2.2 | (with_reducible refine Kd.C_alloc ?_ _) | (with_reducible refine Kd.C_drewN ?_ _) | (with_reducible refine Kd.C_drew ?_)))); (case side4 => exact (Kd.R_reads' HO441.out).2.1); rintro e w44 ⟨rfl, hb⟩; refine ⟨_, rfl, ?_⟩; replace HO_6 := A_ (Kd.R_below z7x hb); replace HO_425002 := A_ (Kd.R_below z7e hb); replace HO_425003 := A_ (Kd.R_below z7f hb); replace HO_438002 := A_ (Kd.R_below z7g hb); replace HO_438003 := A_ (Kd.R_below z7h hb); replace HO441 := A_ (Kd.R_below (by (with_reducible repeat (first | apply Kd.R_alloc | apply Kd.R_drewN | apply Kd.R_drew)); exact HO441.out) hb); replace BK424 := A_ (blk_below (g := gb424) (o := .cells #[.string t415, .string t416, .slice Ao16 t417.length co16, .slice Ao17 t420.length co17] 57 (0, 0)) z7c hb); replace BK437 := A_ (blk_below (g := gb437) (o := .cells #[.string t428, .string t429, .slice Ao24 t430.length co24, .slice Ao25 t433.length co25] 57 (0, 0)) z7d hb); replace HB := A_ (below_step z7a hb)) | ((with_reducible refine gate_callee (f := 19) rfl ?_); refine goesL_ (some 48) rfl rfl Try.func19 (by kernel_rfl) rfl #[.slice Ao19 t425.length co19, .int .i64 1] rfl z7b ?_; (with_reducible refine (laws_markEntryS.calls kj8 (fun k_ => some k_ = (.slice Ao19 t425.length co19 : Value).ownBlock) (.slice Ao19 t425.length co19) t425 1 t443 t444 w _ ?side1 ?side2 A40.out).mono ?_); (case side1 => exact z7a); (case side2 => exact Kd.R_tight rfl HO_6.out); rintro e w45 ⟨rfl, hy0, hb, hkp⟩; refine ⟨_, rfl, ?_⟩; have n0_ := A_ (Kd.R_reok rfl hy0 (fun k_ e_ => HO_6.out.1 k_ e_)); have n1_ := A_ (Kd.R_mono (ok' := fun k_ => some k_ ≠ (.slice Ao24 t430.length co24 : Value).ownBlock) (Kd.R_keptB ((Kd.R_apart' HO_425002.out (Kd.R_typed HO_6.out) (by decide))) hkp (fun k_ hk_ hs_ => (hk_.2) hs_)) (fun k_ hk_ => hk_.1.1)); have n2_ := A_ (Kd.R_mono (ok' := fun k_ => some k_ ≠ (.slice Ao25 t433.length co25 : Value).ownBlock) (Kd.R_keptB ((Kd.R_apart' HO_425003.out (Kd.R_typed HO_6.out) (by decide))) hkp (fun k_ hk_ hs_ => (hk_.2) hs_)) (fun k_ hk_ => hk_.1.1)); have n3_ := A_ (Kd.R_mono (ok' := fun k_ => some k_ ≠ (.slice Ao16 t417.length co16 : Value).ownBlock) (Kd.R_keptB ((Kd.R_apart' HO_438002.out (Kd.R_typed HO_6.out) (by decide))) hkp (fun k_ hk_ hs_ => (hk_.2) hs_)) (fun k_ hk_ => hk_.1.1)); have n4_ := A_ (Kd.R_mono (ok' := fun k_ => some k_ ≠ (.slice Ao17 t420.length co17 : Value).ownBlock) (Kd.R_keptB ((Kd.R_apart' HO_438003.out (Kd.R_typed HO_6.out) (by decide))) hkp (fun k_ hk_ hs_ => (hk_.2) hs_)) (fun k_ hk_ => hk_.1.1)); have n5_ := A_ (blk_kept z7c hkp (fun hs_ => (fun e_ => (Kd.R_ne HO_6.out BK424.out (by decide)) e_) hs_)); have n6_ := A_ (blk_kept z7d hkp (fun hs_ => (fun e_ => (Kd.R_ne HO_6.out BK437.out (by decide)) e_) hs_)); have n7_ := A_ (Kd.R_mono (ok' := fun k_ => some k_ ≠ (.slice Ao19 t425.length co19 : Value).ownBlock) (Kd.R_keptB (HO441.out) hkp (fun k_ hk_ hs_ => (hk_.2) hs_)) (fun k_ hk_ => hk_.1.2)); have n8_ := A_ (hb); clear HO_6; clear HO_425002; clear HO_425003; clear HO_438002; clear HO_438003; clear BK424; clear BK437; clear HO441; clear HB; have HO_6 := n0_; have HO_425002 := n1_; have HO_425003 := n2_; have HO_438002 := n3_; have HO_438003 := n4_; have BK424 := n5_; have BK437 := n6_; have HO441 := n7_; have HB := n8_; clear n0_ n1_ n2_ n3_ n4_ n5_ n6_ n7_ n8_; (try clear hkp); (try clear hy0)))
   (try simp only [Act.put, List.setIfInBounds_toArray, List.set_cons_zero, List.set_cons_succ])
   go_cut [61] (fun v61 wc => ∃ (kq : Nat) (x61_40 : Bool), v61 = .bool x61_40 ∧ Aside0 (laws_FnExactBuilt.j1 kq l0 t423 x61_40 t415 t416 t417 t420 t428 t429 t430 t433 = some r) ∧ Aside0 (kq ≤ kj8) ∧ Aside0 (Kd.R (Kd.int .i64) 2 wc w.heap.size (fun k_ => some k_ ≠ ((.slice Ao24 t430.length co24) : Value).ownBlock) (.slice Ao16 t417.length co16) t417) ∧ Aside0 (Kd.R Kd.string 9 wc w.heap.size (fun k_ => some k_ ≠ ((.slice Ao25 t433.length co25) : Value).ownBlock) (.slice Ao17 t420.length co17) t420) ∧ Aside0 (Kd.R (Kd.int .i64) 2 wc w.heap.size (fun k_ => some k_ ≠ ((.slice Ao16 t417.length co16) : Value).ownBlock) (.slice Ao24 t430.length co24) t430) ∧ Aside0 (Kd.R Kd.string 9 wc w.heap.size (fun k_ => some k_ ≠ ((.slice Ao17 t420.length co17) : Value).ownBlock) (.slice Ao25 t433.length co25) t433) ∧ Aside0 (wc.heap[gb424]? = some (.cells #[.string t415, .string t416, (.slice Ao16 t417.length co16), (.slice Ao17 t420.length co17)] 57 (0, 0))) ∧ Aside0 (wc.heap[gb437]? = some (.cells #[.string t428, .string t429, (.slice Ao24 t430.length co24), (.slice Ao25 t433.length co25)] 57 (0, 0))) ∧ Aside0 (Below w.heap.size w wc))
   case first =>
    have H := HC41.out
    clear HC41
    by_cases c46 : t443 < 0
    {
    rw [if_pos c46] at H
    have c46b0 : decide (t443 < 0) = true := decide_eq_true c46
    clear c46
    (first | rw [c46b0] | (simp only [i64_w, i32_w]; rw [c46b0]) | skip)
    have H' := A_ H
    clear H
    go_wp2
    go_meet
    case rel => exact ⟨_, (true), (by first | rfl | (simp; done) | (simp [*]; done)), H', ⟨by have := HJ8.out; first | omega | exact Nat.le_refl _⟩, ⟨by (with_reducible repeat (first | apply Kd.R_alloc | apply Kd.R_drewN | apply Kd.R_drew)); exact HO_425002.out⟩, ⟨by (with_reducible repeat (first | apply Kd.R_alloc | apply Kd.R_drewN | apply Kd.R_drew)); exact HO_425003.out⟩, ⟨by (with_reducible repeat (first | apply Kd.R_alloc | apply Kd.R_drewN | apply Kd.R_drew)); exact HO_438002.out⟩, ⟨by (with_reducible repeat (first | apply Kd.R_alloc | apply Kd.R_drewN | apply Kd.R_drew)); exact HO_438003.out⟩, ⟨by (with_reducible repeat (first | refine blk_drewN ?_ _ | refine blk_drew ?_ | refine blk_alloc ?_ _)); exact BK424.out⟩, ⟨by (with_reducible repeat (first | refine blk_drewN ?_ _ | refine blk_drew ?_ | refine blk_alloc ?_ _)); exact BK437.out⟩, ⟨by repeat (first | (with_reducible first | exact HB.out | apply below_alloc | apply pw_below_drewN | apply below_drew1 | refine below_set ?_ GE424.out | refine below_set ?_ GE437.out) | exact HB.out)⟩⟩
    }
    {
    rw [if_neg c46] at H
    have c46b0 : decide (t443 < 0) = false := decide_eq_false c46
    clear c46
    (first | rw [c46b0] | (simp only [i64_w, i32_w]; rw [c46b0]) | skip)
    replace H := Option.bind_eq_some_iff.mp H
    obtain ⟨t445, A470, H⟩ := H
    replace H : (if t445 = true then (laws_FnExactBuilt.j1 kj8 l0 t423 (t436 != t423) t415 t416 t417 t420 t428 t429 t430 t433) else (laws_FnExactBuilt.j1 kj8 l0 t423 true t415 t416 t417 t420 t428 t429 t430 t433)) = some r := H
    have A47 := A_ A470
    clear A470
    by_cases c48 : t445 = true
    {
    subst c48
    have H1 : (laws_FnExactBuilt.j1 kj8 l0 t423 (t436 != t423) t415 t416 t417 t420 t428 t429 t430 t433) = some r := by rw [if_pos rfl] at H; exact H
    clear H
    have H := H1
    clear H1
    have H' := A_ H
    clear H
    have hnb49 := NB437_424.out
    have hnc49 := NB424_437.out
    have hcz50_0 : w45.cell? ⟨gb437, 0, none⟩ = some (.string t428) := (blk_cell BK437.out 0).trans rfl
    have hcz50_1 : w45.cell? ⟨gb437, 1, none⟩ = some (.string t429) := (blk_cell BK437.out 1).trans rfl
    have hcz50_2 : w45.cell? ⟨gb437, 2, none⟩ = some (.slice Ao24 t430.length co24) := (blk_cell BK437.out 2).trans rfl
    have hcz50_3 : w45.cell? ⟨gb437, 3, none⟩ = some (.slice Ao25 t433.length co25) := (blk_cell BK437.out 3).trans rfl
    have hfz50_0 := blk_frozen BK437.out 0
    have hfz50_1 := blk_frozen BK437.out 1
    have hfz50_2 := blk_frozen BK437.out 2
    have hfz50_3 := blk_frozen BK437.out 3
    have hcz51_0 : w45.cell? ⟨gb424, 0, none⟩ = some (.string t415) := (blk_cell BK424.out 0).trans rfl
    have hcz51_1 : w45.cell? ⟨gb424, 1, none⟩ = some (.string t416) := (blk_cell BK424.out 1).trans rfl
    have hcz51_2 : w45.cell? ⟨gb424, 2, none⟩ = some (.slice Ao16 t417.length co16) := (blk_cell BK424.out 2).trans rfl
    have hcz51_3 : w45.cell? ⟨gb424, 3, none⟩ = some (.slice Ao17 t420.length co17) := (blk_cell BK424.out 3).trans rfl
    have hfz51_0 := blk_frozen BK424.out 0
    have hfz51_1 := blk_frozen BK424.out 1
    have hfz51_2 := blk_frozen BK424.out 2
    have hfz51_3 := blk_frozen BK424.out 3
    go_wp2_with (first | (go_at_call 38; (with_reducible refine (laws_eqTable.calls kj8 t428 t429 _ _ t430 _ _ t433 t415 t416 _ _ t417 _ _ t420 true _ ?side1 ?side2 ?side3 ?side4 ?side5 ?side6 ?side7 ?side8 A47.out).mono ?_); (case side1 => exact z7r); (case side2 => exact (Kd.R_reads' HO_438002.out).2.1); (case side3 => exact z7s); (case side4 => exact (Kd.R_reads' HO_438003.out).2.1); (case side5 => exact (by repeat (first | exact (Kd.R_reads' HO_425002.out).2.2 | (with_reducible refine Kd.C_alloc ?_ _) | (with_reducible refine Kd.C_drewN ?_ _) | (with_reducible refine Kd.C_drew ?_)))); (case side6 => exact (Kd.R_reads' HO_425002.out).2.1); (case side7 => exact (by repeat (first | exact (Kd.R_reads' HO_425003.out).2.2 | (with_reducible refine Kd.C_alloc ?_ _) | (with_reducible refine Kd.C_drewN ?_ _) | (with_reducible refine Kd.C_drew ?_)))); (case side8 => exact (Kd.R_reads' HO_425003.out).2.1); rintro e w52 ⟨rfl, hb⟩; replace HO_6 := A_ (Kd.R_below z7x hb); replace HO_425002 := A_ (Kd.R_below z7e hb); replace HO_425003 := A_ (Kd.R_below z7f hb); replace HO_438002 := A_ (Kd.R_below z7g hb); replace HO_438003 := A_ (Kd.R_below z7h hb); replace HO441 := A_ (Kd.R_below (by (with_reducible repeat (first | apply Kd.R_alloc | apply Kd.R_drewN | apply Kd.R_drew)); exact HO441.out) hb); replace BK424 := A_ (blk_below (g := gb424) (o := .cells #[.string t415, .string t416, .slice Ao16 t417.length co16, .slice Ao17 t420.length co17] 57 (0, 0)) z7c hb); replace BK437 := A_ (blk_below (g := gb437) (o := .cells #[.string t428, .string t429, .slice Ao24 t430.length co24, .slice Ao25 t433.length co25] 57 (0, 0)) z7d hb); replace HB := A_ (below_step z7a hb)))
    go_meet
    case rel => exact ⟨_, ((t436 != t423)), (by first | rfl | (simp; done) | (simp [*]; done)), H', ⟨by have := HJ8.out; first | omega | exact Nat.le_refl _⟩, ⟨by (with_reducible repeat (first | apply Kd.R_alloc | apply Kd.R_drewN | apply Kd.R_drew)); exact HO_425002.out⟩, ⟨by (with_reducible repeat (first | apply Kd.R_alloc | apply Kd.R_drewN | apply Kd.R_drew)); exact HO_425003.out⟩, ⟨by (with_reducible repeat (first | apply Kd.R_alloc | apply Kd.R_drewN | apply Kd.R_drew)); exact HO_438002.out⟩, ⟨by (with_reducible repeat (first | apply Kd.R_alloc | apply Kd.R_drewN | apply Kd.R_drew)); exact HO_438003.out⟩, ⟨by (with_reducible repeat (first | refine blk_drewN ?_ _ | refine blk_drew ?_ | refine blk_alloc ?_ _)); exact BK424.out⟩, ⟨by (with_reducible repeat (first | refine blk_drewN ?_ _ | refine blk_drew ?_ | refine blk_alloc ?_ _)); exact BK437.out⟩, ⟨by repeat (first | (with_reducible first | exact HB.out | apply below_alloc | apply pw_below_drewN | apply below_drew1 | refine below_set ?_ GE424.out | refine below_set ?_ GE437.out) | exact HB.out)⟩⟩
    }
    {
    replace c48 := Bool.eq_false_iff.mpr c48
    subst c48
    have H1 : (laws_FnExactBuilt.j1 kj8 l0 t423 true t415 t416 t417 t420 t428 t429 t430 t433) = some r := by rw [if_neg (show ¬ (false = true) by decide)] at H; exact H
    clear H
    have H := H1
    clear H1
    have H' := A_ H
    clear H
    have hnb53 := NB437_424.out
    have hnc53 := NB424_437.out
    have hcz54_0 : w45.cell? ⟨gb437, 0, none⟩ = some (.string t428) := (blk_cell BK437.out 0).trans rfl
    have hcz54_1 : w45.cell? ⟨gb437, 1, none⟩ = some (.string t429) := (blk_cell BK437.out 1).trans rfl
    have hcz54_2 : w45.cell? ⟨gb437, 2, none⟩ = some (.slice Ao24 t430.length co24) := (blk_cell BK437.out 2).trans rfl
    have hcz54_3 : w45.cell? ⟨gb437, 3, none⟩ = some (.slice Ao25 t433.length co25) := (blk_cell BK437.out 3).trans rfl
    have hfz54_0 := blk_frozen BK437.out 0
    have hfz54_1 := blk_frozen BK437.out 1
    have hfz54_2 := blk_frozen BK437.out 2
    have hfz54_3 := blk_frozen BK437.out 3
    have hcz55_0 : w45.cell? ⟨gb424, 0, none⟩ = some (.string t415) := (blk_cell BK424.out 0).trans rfl
    have hcz55_1 : w45.cell? ⟨gb424, 1, none⟩ = some (.string t416) := (blk_cell BK424.out 1).trans rfl
    have hcz55_2 : w45.cell? ⟨gb424, 2, none⟩ = some (.slice Ao16 t417.length co16) := (blk_cell BK424.out 2).trans rfl
    have hcz55_3 : w45.cell? ⟨gb424, 3, none⟩ = some (.slice Ao17 t420.length co17) := (blk_cell BK424.out 3).trans rfl
    have hfz55_0 := blk_frozen BK424.out 0
    have hfz55_1 := blk_frozen BK424.out 1
    have hfz55_2 := blk_frozen BK424.out 2
    have hfz55_3 := blk_frozen BK424.out 3
    go_wp2_with (first | (go_at_call 38; (with_reducible refine (laws_eqTable.calls kj8 t428 t429 _ _ t430 _ _ t433 t415 t416 _ _ t417 _ _ t420 false _ ?side1 ?side2 ?side3 ?side4 ?side5 ?side6 ?side7 ?side8 A47.out).mono ?_); (case side1 => exact z7r); (case side2 => exact (Kd.R_reads' HO_438002.out).2.1); (case side3 => exact z7s); (case side4 => exact (Kd.R_reads' HO_438003.out).2.1); (case side5 => exact (by repeat (first | exact (Kd.R_reads' HO_425002.out).2.2 | (with_reducible refine Kd.C_alloc ?_ _) | (with_reducible refine Kd.C_drewN ?_ _) | (with_reducible refine Kd.C_drew ?_)))); (case side6 => exact (Kd.R_reads' HO_425002.out).2.1); (case side7 => exact (by repeat (first | exact (Kd.R_reads' HO_425003.out).2.2 | (with_reducible refine Kd.C_alloc ?_ _) | (with_reducible refine Kd.C_drewN ?_ _) | (with_reducible refine Kd.C_drew ?_)))); (case side8 => exact (Kd.R_reads' HO_425003.out).2.1); rintro e w56 ⟨rfl, hb⟩; replace HO_6 := A_ (Kd.R_below z7x hb); replace HO_425002 := A_ (Kd.R_below z7e hb); replace HO_425003 := A_ (Kd.R_below z7f hb); replace HO_438002 := A_ (Kd.R_below z7g hb); replace HO_438003 := A_ (Kd.R_below z7h hb); replace HO441 := A_ (Kd.R_below (by (with_reducible repeat (first | apply Kd.R_alloc | apply Kd.R_drewN | apply Kd.R_drew)); exact HO441.out) hb); replace BK424 := A_ (blk_below (g := gb424) (o := .cells #[.string t415, .string t416, .slice Ao16 t417.length co16, .slice Ao17 t420.length co17] 57 (0, 0)) z7c hb); replace BK437 := A_ (blk_below (g := gb437) (o := .cells #[.string t428, .string t429, .slice Ao24 t430.length co24, .slice Ao25 t433.length co25] 57 (0, 0)) z7d hb); replace HB := A_ (below_step z7a hb)))
    go_meet
    case rel => exact ⟨_, (true), (by first | rfl | (simp; done) | (simp [*]; done)), H', ⟨by have := HJ8.out; first | omega | exact Nat.le_refl _⟩, ⟨by (with_reducible repeat (first | apply Kd.R_alloc | apply Kd.R_drewN | apply Kd.R_drew)); exact HO_425002.out⟩, ⟨by (with_reducible repeat (first | apply Kd.R_alloc | apply Kd.R_drewN | apply Kd.R_drew)); exact HO_425003.out⟩, ⟨by (with_reducible repeat (first | apply Kd.R_alloc | apply Kd.R_drewN | apply Kd.R_drew)); exact HO_438002.out⟩, ⟨by (with_reducible repeat (first | apply Kd.R_alloc | apply Kd.R_drewN | apply Kd.R_drew)); exact HO_438003.out⟩, ⟨by (with_reducible repeat (first | refine blk_drewN ?_ _ | refine blk_drew ?_ | refine blk_alloc ?_ _)); exact BK424.out⟩, ⟨by (with_reducible repeat (first | refine blk_drewN ?_ _ | refine blk_drew ?_ | refine blk_alloc ?_ _)); exact BK437.out⟩, ⟨by repeat (first | (with_reducible first | exact HB.out | apply below_alloc | apply pw_below_drewN | apply below_drew1 | refine below_set ?_ GE424.out | refine below_set ?_ GE437.out) | exact HB.out)⟩⟩
    }
    }
   case rest =>
    clear HC41
    try clear c1
    try clear c2
    try clear p2
    try clear c3
    try clear c3b0
    try clear c4
    try clear c5
    try clear c7
    try clear c12
    try clear c15
    try clear c18
    try clear c19
    try clear c22
    try clear c27
    try clear c28
    try clear c32
    try clear c36
    try clear c37
    try clear c38
    try clear c39
    try clear c46
    try clear c46b0
    try clear c48
    try clear c49
    try clear c53
    try clear hcz15_0
    try clear hcz15_1
    try clear hcz15_2
    try clear hcz15_3
    try clear hcz23_0
    try clear hcz23_1
    try clear hcz23_2
    try clear hcz23_3
    try clear hcz29_0
    try clear hcz29_1
    try clear hcz29_2
    try clear hcz29_3
    try clear hcz30_0
    try clear hcz30_1
    try clear hcz30_2
    try clear hcz30_3
    try clear hcz33_0
    try clear hcz33_1
    try clear hcz33_2
    try clear hcz33_3
    try clear hcz34_0
    try clear hcz34_1
    try clear hcz34_2
    try clear hcz34_3
    try clear hcz50_0
    try clear hcz50_1
    try clear hcz50_2
    try clear hcz50_3
    try clear hcz51_0
    try clear hcz51_1
    try clear hcz51_2
    try clear hcz51_3
    try clear hcz54_0
    try clear hcz54_1
    try clear hcz54_2
    try clear hcz54_3
    try clear hcz55_0
    try clear hcz55_1
    try clear hcz55_2
    try clear hcz55_3
    try clear hfz15_0
    try clear hfz15_1
    try clear hfz15_2
    try clear hfz15_3
    try clear hfz23_0
    try clear hfz23_1
    try clear hfz23_2
    try clear hfz23_3
    try clear hfz29_0
    try clear hfz29_1
    try clear hfz29_2
    try clear hfz29_3
    try clear hfz30_0
    try clear hfz30_1
    try clear hfz30_2
    try clear hfz30_3
    try clear hfz33_0
    try clear hfz33_1
    try clear hfz33_2
    try clear hfz33_3
    try clear hfz34_0
    try clear hfz34_1
    try clear hfz34_2
    try clear hfz34_3
    try clear hfz50_0
    try clear hfz50_1
    try clear hfz50_2
    try clear hfz50_3
    try clear hfz51_0
    try clear hfz51_1
    try clear hfz51_2
    try clear hfz51_3
    try clear hfz54_0
    try clear hfz54_1
    try clear hfz54_2
    try clear hfz54_3
    try clear hfz55_0
    try clear hfz55_1
    try clear hfz55_2
    try clear hfz55_3
    try clear p2
    obtain ⟨kq, x61_40, rfl, HA, HJ40, HO_425002, HO_425003, HO_438002, HO_438003, BK424, BK437, HB⟩ := hcut
    cases kq with
    | zero => exact absurd HA.out (by simp [laws_FnExactBuilt.j1])
    | succ kj40 =>
     have H := HA.out
     clear HA
     simp only [laws_FnExactBuilt.j1] at H
     by_cases c57 : x61_40 = true
     {
     subst c57
     have H1 : (some false) = some r := by rw [if_pos rfl] at H; exact H
     clear H
     have H := H1
     clear H1
     obtain rfl := Option.some.inj H
     go_wp2
     go_ret
     exact ⟨by first | rfl | (simp [errW_none, errW_some] <;> rfl) | (simp [*, errW_none, errW_some] <;> rfl), by repeat (first | (with_reducible first | exact HB.out | apply below_alloc | apply pw_below_drewN | apply below_drew1 | refine below_set ?_ GE424.out | refine below_set ?_ GE437.out) | exact HB.out)⟩
     }
     {
     replace c57 := Bool.eq_false_iff.mpr c57
     subst c57
     have H1 : ((laws_markTable.f kj40 t428 t429 t430 t433 1).bind fun bt446 => ((laws_heldTable.f kj40 t428 t429 bt446.2.1 bt446.2.2 1).bind fun t449 => (if t449 < 0 then (some false) else (if t449 = bt446.1 then ((laws_toEntryS.f kj40 l0).bind fun t450 => ((impl_Built.f kj40 t450).bind fun bt453 => ((laws_eqTable.f kj40 bt453.1 bt453.2.1 bt453.2.2.1 bt453.2.2.2.1 t415 t416 t417 t420).bind fun t463 => (if t463 = true then (laws_FnExactBuilt.j2 kj40 bt446.1 (bt453.2.2.2.2 != t423) t428 t429 bt446.2.1 bt446.2.2) else (laws_FnExactBuilt.j2 kj40 bt446.1 true t428 t429 bt446.2.1 bt446.2.2))))) else (some false))))) = some r := by rw [if_neg (show ¬ (false = true) by decide)] at H; exact H
     clear H
     have H := H1
     clear H1
     replace H := Option.bind_eq_some_iff.mp H
     obtain ⟨⟨t446, t447, t448⟩, A580, H⟩ := H
     replace H : ((laws_heldTable.f kj40 t428 t429 t447 t448 1).bind fun t449 => (if t449 < 0 then (some false) else (if t449 = t446 then ((laws_toEntryS.f kj40 l0).bind fun t450 => ((impl_Built.f kj40 t450).bind fun bt453 => ((laws_eqTable.f kj40 bt453.1 bt453.2.1 bt453.2.2.1 bt453.2.2.2.1 t415 t416 t417 t420).bind fun t463 => (if t463 = true then (laws_FnExactBuilt.j2 kj40 t446 (bt453.2.2.2.2 != t423) t428 t429 t447 t448) else (laws_FnExactBuilt.j2 kj40 t446 true t428 t429 t447 t448))))) else (some false)))) = some r := H
     have A58 := A_ A580
     clear A580
     replace H := Option.bind_eq_some_iff.mp H
     obtain ⟨t449, A590, H⟩ := H
     replace H : (if t449 < 0 then (some false) else (if t449 = t446 then ((laws_toEntryS.f kj40 l0).bind fun t450 => ((impl_Built.f kj40 t450).bind fun bt453 => ((laws_eqTable.f kj40 bt453.1 bt453.2.1 bt453.2.2.1 bt453.2.2.2.1 t415 t416 t417 t420).bind fun t463 => (if t463 = true then (laws_FnExactBuilt.j2 kj40 t446 (bt453.2.2.2.2 != t423) t428 t429 t447 t448) else (laws_FnExactBuilt.j2 kj40 t446 true t428 t429 t447 t448))))) else (some false))) = some r := H
     have A59 := A_ A590
     clear A590
     by_cases c60 : t449 < 0
     {
     rw [if_pos c60] at H
     have c60b0 : decide (t449 < 0) = true := decide_eq_true c60
     clear c60
     obtain rfl := Option.some.inj H
     have hnb61 := NB437_424.out
     have hnc61 := NB424_437.out
     have hcz62_0 : wc.cell? ⟨gb437, 0, none⟩ = some (.string t428) := (blk_cell BK437.out 0).trans rfl
     have hcz62_1 : wc.cell? ⟨gb437, 1, none⟩ = some (.string t429) := (blk_cell BK437.out 1).trans rfl
     have hcz62_2 : wc.cell? ⟨gb437, 2, none⟩ = some (.slice Ao24 t430.length co24) := (blk_cell BK437.out 2).trans rfl
     have hcz62_3 : wc.cell? ⟨gb437, 3, none⟩ = some (.slice Ao25 t433.length co25) := (blk_cell BK437.out 3).trans rfl
     have hfz62_0 := blk_frozen BK437.out 0
     have hfz62_1 := blk_frozen BK437.out 1
     have hfz62_2 := blk_frozen BK437.out 2
     have hfz62_3 := blk_frozen BK437.out 3
     go_wp2_with (first | ((with_reducible refine gate_callee (f := 39) rfl ?_); refine goesL_ (some 64) rfl rfl Try.func39 (by kernel_rfl) rfl #[.agg #[.string t428, .string t429, .slice Ao24 t430.length co24, .slice Ao25 t433.length co25], .int .i64 1] rfl z7b ?_; (with_reducible refine (laws_markTable.calls kj40 t428 t429 (fun k_ => some k_ = (.slice Ao24 t430.length co24 : Value).ownBlock) (.slice Ao24 t430.length co24) t430 (fun k_ => some k_ = (.slice Ao25 t433.length co25 : Value).ownBlock) (.slice Ao25 t433.length co25) t433 1 t446 t447 t448 w _ ?side1 ?side2 ?side3 A58.out).mono ?_); (case side1 => exact z7a); (case side2 => exact Kd.R_tight rfl HO_438002.out); (case side3 => exact Kd.R_tight rfl HO_438003.out); rintro e w63 ⟨rfl, hy0, hy1, hb, hkp⟩; refine ⟨_, rfl, ?_⟩; have n0_ := A_ (Kd.R_mono (ok' := fun k_ => some k_ ≠ (.slice Ao24 t430.length co24 : Value).ownBlock) (Kd.R_keptB ((Kd.R_apart' HO_425002.out (Kd.R_typed HO_438003.out) (by decide))) hkp (fun k_ hk_ hs_ => Or.elim hs_ (fun e_ => (hk_.1) e_) (fun e_ => (hk_.2) e_))) (fun k_ hk_ => hk_.1.1)); have n1_ := A_ (Kd.R_mono (ok' := fun k_ => some k_ ≠ (.slice Ao25 t433.length co25 : Value).ownBlock) (Kd.R_keptB ((Kd.R_apart' HO_425003.out (Kd.R_typed HO_438002.out) (by decide))) hkp (fun k_ hk_ hs_ => Or.elim hs_ (fun e_ => (hk_.2) e_) (fun e_ => (hk_.1) e_))) (fun k_ hk_ => hk_.1.1)); have n2_ := A_ (Kd.R_reok rfl hy0 (fun k_ e_ => HO_438002.out.1 k_ e_)); have n3_ := A_ (Kd.R_reok rfl hy1 (fun k_ e_ => HO_438003.out.1 k_ e_)); have n4_ := A_ (blk_kept z7c hkp (fun hs_ => Or.elim hs_ (fun e_ => (fun e_ => (Kd.R_ne HO_438002.out BK424.out (by decide)) e_) e_) (fun e_ => (fun e_ => (Kd.R_ne HO_438003.out BK424.out (by decide)) e_) e_))); have n5_ := A_ (blk_kept z7d hkp (fun hs_ => Or.elim hs_ (fun e_ => (fun e_ => (Kd.R_ne HO_438002.out BK437.out (by decide)) e_) e_) (fun e_ => (fun e_ => (Kd.R_ne HO_438003.out BK437.out (by decide)) e_) e_))); have n6_ := A_ (hb); clear HO_425002; clear HO_425003; clear HO_438002; clear HO_438003; clear BK424; clear BK437; clear HB; have HO_425002 := n0_; have HO_425003 := n1_; have HO_438002 := n2_; have HO_438003 := n3_; have BK424 := n4_; have BK437 := n5_; have HB := n6_; clear n0_ n1_ n2_ n3_ n4_ n5_ n6_; (try clear hkp); (try clear hy0); (try clear hy1); have hcz64_0 : w63.cell? ⟨gb437, 0, none⟩ = some (.string t428) := (blk_cell BK437.out 0).trans rfl; have hcz64_1 : w63.cell? ⟨gb437, 1, none⟩ = some (.string t429) := (blk_cell BK437.out 1).trans rfl; have hcz64_2 : w63.cell? ⟨gb437, 2, none⟩ = some (.slice Ao24 t430.length co24) := (blk_cell BK437.out 2).trans rfl; have hcz64_3 : w63.cell? ⟨gb437, 3, none⟩ = some (.slice Ao25 t433.length co25) := (blk_cell BK437.out 3).trans rfl; have hfz64_0 := blk_frozen BK437.out 0; have hfz64_1 := blk_frozen BK437.out 1; have hfz64_2 := blk_frozen BK437.out 2; have hfz64_3 := blk_frozen BK437.out 3) | ((with_reducible refine gate_callee (f := 40) rfl ?_); refine goesL_ (some 67) rfl rfl Try.func40 (by kernel_rfl) rfl #[.agg #[.string t428, .string t429, .slice Ao24 t447.length co24, .slice Ao25 t448.length co25], .int .i64 1] rfl z7b1 ?_; (with_reducible refine (laws_heldTable.calls kj40 t428 t429 _ _ t447 _ _ t448 1 t449 _ ?side1 ?side2 ?side3 ?side4 A59.out).mono ?_); (case side1 => exact z7r); (case side2 => rw [show t447.length = t430.length from (Kd.R_reads' HO_438002.out).1.symm]; exact (Kd.R_reads' HO_438002.out).2.1); (case side3 => exact z7s); (case side4 => rw [show t448.length = t433.length from (Kd.R_reads' HO_438003.out).1.symm]; exact (Kd.R_reads' HO_438003.out).2.1); rintro e w65 ⟨rfl, hb⟩; refine ⟨_, rfl, ?_⟩; replace HO_425002 := A_ (Kd.R_below z7e hb); replace HO_425003 := A_ (Kd.R_below z7f hb); replace HO_438002 := A_ (Kd.R_below z7g hb); replace HO_438003 := A_ (Kd.R_below z7h hb); replace BK424 := A_ (blk_below (g := gb424) (o := .cells #[.string t415, .string t416, .slice Ao16 t417.length co16, .slice Ao17 t420.length co17] 57 (0, 0)) z7c hb); replace BK437 := A_ (blk_below (g := gb437) (o := .cells #[.string t428, .string t429, .slice Ao24 t430.length co24, .slice Ao25 t433.length co25] 57 (0, 0)) z7d hb); replace HB := A_ (below_step z7a hb)))
     go_ret
     exact ⟨by first | rfl | (simp [errW_none, errW_some] <;> rfl) | (simp [*, errW_none, errW_some] <;> rfl), by repeat (first | (with_reducible first | exact HB.out | apply below_alloc | apply pw_below_drewN | apply below_drew1 | refine below_set ?_ GE424.out | refine below_set ?_ GE437.out) | exact HB.out)⟩
     }
     {
     rw [if_neg c60] at H
     have c60b0 : decide (t449 < 0) = false := decide_eq_false c60
     clear c60
     by_cases c66 : t449 = t446
     {
     rw [if_pos c66] at H
     have c66b0 : (t449 == t446) = true := beq_iff_eq.mpr c66
     have c66b1 : (t449 != t446) = false := bne_eq_false_iff_eq.mpr c66
     clear c66
     replace H := Option.bind_eq_some_iff.mp H
     obtain ⟨t450, A670, H⟩ := H
     replace H : ((impl_Built.f kj40 t450).bind fun bt453 => ((laws_eqTable.f kj40 bt453.1 bt453.2.1 bt453.2.2.1 bt453.2.2.2.1 t415 t416 t417 t420).bind fun t463 => (if t463 = true then (laws_FnExactBuilt.j2 kj40 t446 (bt453.2.2.2.2 != t423) t428 t429 t447 t448) else (laws_FnExactBuilt.j2 kj40 t446 true t428 t429 t447 t448)))) = some r := H
     have A67 := A_ A670
     clear A670
     replace H := Option.bind_eq_some_iff.mp H
     obtain ⟨⟨t453, t454, t455, t458, t461⟩, A680, H⟩ := H
     replace H : ((laws_eqTable.f kj40 t453 t454 t455 t458 t415 t416 t417 t420).bind fun t463 => (if t463 = true then (laws_FnExactBuilt.j2 kj40 t446 (t461 != t423) t428 t429 t447 t448) else (laws_FnExactBuilt.j2 kj40 t446 true t428 t429 t447 t448))) = some r := H
     have A68 := A_ A680
     clear A680
     have HC69 := A_ H
     clear H
     have hnb70 := NB437_424.out
     have hnc70 := NB424_437.out
     have hcz71_0 : wc.cell? ⟨gb437, 0, none⟩ = some (.string t428) := (blk_cell BK437.out 0).trans rfl
     have hcz71_1 : wc.cell? ⟨gb437, 1, none⟩ = some (.string t429) := (blk_cell BK437.out 1).trans rfl
     have hcz71_2 : wc.cell? ⟨gb437, 2, none⟩ = some (.slice Ao24 t430.length co24) := (blk_cell BK437.out 2).trans rfl
     have hcz71_3 : wc.cell? ⟨gb437, 3, none⟩ = some (.slice Ao25 t433.length co25) := (blk_cell BK437.out 3).trans rfl
     have hfz71_0 := blk_frozen BK437.out 0
     have hfz71_1 := blk_frozen BK437.out 1
     have hfz71_2 := blk_frozen BK437.out 2
     have hfz71_3 := blk_frozen BK437.out 3
     go_upto_region 25 with (first | ((with_reducible refine gate_callee (f := 39) rfl ?_); refine goesL_ (some 64) rfl rfl Try.func39 (by kernel_rfl) rfl #[.agg #[.string t428, .string t429, .slice Ao24 t430.length co24, .slice Ao25 t433.length co25], .int .i64 1] rfl z7b ?_; (with_reducible refine (laws_markTable.calls kj40 t428 t429 (fun k_ => some k_ = (.slice Ao24 t430.length co24 : Value).ownBlock) (.slice Ao24 t430.length co24) t430 (fun k_ => some k_ = (.slice Ao25 t433.length co25 : Value).ownBlock) (.slice Ao25 t433.length co25) t433 1 t446 t447 t448 w _ ?side1 ?side2 ?side3 A58.out).mono ?_); (case side1 => exact z7a); (case side2 => exact Kd.R_tight rfl HO_438002.out); (case side3 => exact Kd.R_tight rfl HO_438003.out); rintro e w72 ⟨rfl, hy0, hy1, hb, hkp⟩; refine ⟨_, rfl, ?_⟩; have n0_ := A_ (Kd.R_mono (ok' := fun k_ => some k_ ≠ (.slice Ao24 t430.length co24 : Value).ownBlock) (Kd.R_keptB ((Kd.R_apart' HO_425002.out (Kd.R_typed HO_438003.out) (by decide))) hkp (fun k_ hk_ hs_ => Or.elim hs_ (fun e_ => (hk_.1) e_) (fun e_ => (hk_.2) e_))) (fun k_ hk_ => hk_.1.1)); have n1_ := A_ (Kd.R_mono (ok' := fun k_ => some k_ ≠ (.slice Ao25 t433.length co25 : Value).ownBlock) (Kd.R_keptB ((Kd.R_apart' HO_425003.out (Kd.R_typed HO_438002.out) (by decide))) hkp (fun k_ hk_ hs_ => Or.elim hs_ (fun e_ => (hk_.2) e_) (fun e_ => (hk_.1) e_))) (fun k_ hk_ => hk_.1.1)); have n2_ := A_ (Kd.R_reok rfl hy0 (fun k_ e_ => HO_438002.out.1 k_ e_)); have n3_ := A_ (Kd.R_reok rfl hy1 (fun k_ e_ => HO_438003.out.1 k_ e_)); have n4_ := A_ (blk_kept z7c hkp (fun hs_ => Or.elim hs_ (fun e_ => (fun e_ => (Kd.R_ne HO_438002.out BK424.out (by decide)) e_) e_) (fun e_ => (fun e_ => (Kd.R_ne HO_438003.out BK424.out (by decide)) e_) e_))); have n5_ := A_ (blk_kept z7d hkp (fun hs_ => Or.elim hs_ (fun e_ => (fun e_ => (Kd.R_ne HO_438002.out BK437.out (by decide)) e_) e_) (fun e_ => (fun e_ => (Kd.R_ne HO_438003.out BK437.out (by decide)) e_) e_))); have n6_ := A_ (hb); clear HO_425002; clear HO_425003; clear HO_438002; clear HO_438003; clear BK424; clear BK437; clear HB; have HO_425002 := n0_; have HO_425003 := n1_; have HO_438002 := n2_; have HO_438003 := n3_; have BK424 := n4_; have BK437 := n5_; have HB := n6_; clear n0_ n1_ n2_ n3_ n4_ n5_ n6_; (try clear hkp); (try clear hy0); (try clear hy1); have hcz73_0 : w72.cell? ⟨gb437, 0, none⟩ = some (.string t428) := (blk_cell BK437.out 0).trans rfl; have hcz73_1 : w72.cell? ⟨gb437, 1, none⟩ = some (.string t429) := (blk_cell BK437.out 1).trans rfl; have hcz73_2 : w72.cell? ⟨gb437, 2, none⟩ = some (.slice Ao24 t430.length co24) := (blk_cell BK437.out 2).trans rfl; have hcz73_3 : w72.cell? ⟨gb437, 3, none⟩ = some (.slice Ao25 t433.length co25) := (blk_cell BK437.out 3).trans rfl; have hfz73_0 := blk_frozen BK437.out 0; have hfz73_1 := blk_frozen BK437.out 1; have hfz73_2 := blk_frozen BK437.out 2; have hfz73_3 := blk_frozen BK437.out 3) | ((with_reducible refine gate_callee (f := 40) rfl ?_); refine goesL_ (some 67) rfl rfl Try.func40 (by kernel_rfl) rfl #[.agg #[.string t428, .string t429, .slice Ao24 t447.length co24, .slice Ao25 t448.length co25], .int .i64 1] rfl z7b1 ?_; (with_reducible refine (laws_heldTable.calls kj40 t428 t429 _ _ t447 _ _ t448 1 t449 _ ?side1 ?side2 ?side3 ?side4 A59.out).mono ?_); (case side1 => exact z7r); (case side2 => rw [show t447.length = t430.length from (Kd.R_reads' HO_438002.out).1.symm]; exact (Kd.R_reads' HO_438002.out).2.1); (case side3 => exact z7s); (case side4 => rw [show t448.length = t433.length from (Kd.R_reads' HO_438003.out).1.symm]; exact (Kd.R_reads' HO_438003.out).2.1); rintro e w74 ⟨rfl, hb⟩; refine ⟨_, rfl, ?_⟩; replace HO_425002 := A_ (Kd.R_below z7e hb); replace HO_425003 := A_ (Kd.R_below z7f hb); replace HO_438002 := A_ (Kd.R_below z7g hb); replace HO_438003 := A_ (Kd.R_below z7h hb); replace BK424 := A_ (blk_below (g := gb424) (o := .cells #[.string t415, .string t416, .slice Ao16 t417.length co16, .slice Ao17 t420.length co17] 57 (0, 0)) z7c hb); replace BK437 := A_ (blk_below (g := gb437) (o := .cells #[.string t428, .string t429, .slice Ao24 t430.length co24, .slice Ao25 t433.length co25] 57 (0, 0)) z7d hb); replace HB := A_ (below_step z7a hb)) | ((with_reducible refine gate_callee (f := 15) rfl ?_); refine goesL_ (some 75) rfl rfl Try.func15 (by kernel_rfl) rfl #[.slice A0 l0.length c0] rfl z7b ?_; (with_reducible refine (laws_toEntryS.calls kj40 _ _ l0 t450 _ ?side1 ?side2 A67.out).mono ?_); (case side1 => exact z7c1); (case side2 => exact HC0.out); rintro e w75 ⟨v451, rfl, ho0, hb⟩; refine ⟨_, rfl, ?_⟩; have n0_ := A_ (Kd.R_below z7e hb); have n1_ := A_ (Kd.R_below z7f hb); have n2_ := A_ (Kd.R_below z7g hb); have n3_ := A_ (Kd.R_below z7h hb); have n4_ := A_ (Kd.R_lower ho0 (below_size z7a)); have n5_ := A_ (blk_below (g := gb424) (o := .cells #[.string t415, .string t416, .slice Ao16 t417.length co16, .slice Ao17 t420.length co17] 57 (0, 0)) z7c hb); have n6_ := A_ (blk_below (g := gb437) (o := .cells #[.string t428, .string t429, .slice Ao24 t430.length co24, .slice Ao25 t433.length co25] 57 (0, 0)) z7d hb); have n7_ := A_ (below_step z7a hb); clear HO_425002; clear HO_425003; clear HO_438002; clear HO_438003; clear BK424; clear BK437; clear HB; have HO_425002 := n0_; have HO_425003 := n1_; have HO_438002 := n2_; have HO_438003 := n3_; have HO452 := n4_; have BK424 := n5_; have BK437 := n6_; have HB := n7_; clear n0_ n1_ n2_ n3_ n4_ n5_ n6_ n7_; obtain ⟨Ao76, co76, eo76⟩ := Kd.R_slice HO452.out; subst eo76) | ((with_reducible refine gate_callee (f := 37) rfl ?_); refine goesL_ (some 76) rfl rfl Try.func37 (by kernel_rfl) rfl #[.slice Ao76 t450.length co76] rfl z7b ?_; (with_reducible refine (impl_Built.calls kj40 _ _ t450 t453 t454 t455 t458 t461 _ ?side1 ?side2 A68.out).mono ?_); (case side1 => exact (by repeat (first | exact (Kd.R_reads' HO452.out).2.2 | (with_reducible refine Kd.C_alloc ?_ _) | (with_reducible refine Kd.C_drewN ?_ _) | (with_reducible refine Kd.C_drew ?_)))); (case side2 => exact (Kd.R_reads' HO452.out).2.1); rintro e w77 ⟨v456, v459, rfl, ho0, ho1, hb⟩; refine ⟨_, rfl, ?_⟩; have n0_ := A_ (Kd.R_elder' z7e (Kd.R_base ho0) hb); have n1_ := A_ (Kd.R_elder' z7f (Kd.R_base ho1) hb); have n2_ := A_ (Kd.R_elder' z7g (Kd.R_base ho0) hb); have n3_ := A_ (Kd.R_elder' z7h (Kd.R_base ho1) hb); have n4_ := A_ (Kd.R_below (by (with_reducible repeat (first | apply Kd.R_alloc | apply Kd.R_drewN | apply Kd.R_drew)); exact HO452.out) hb); have n5_ := A_ (Kd.R_lower (Kd.R_new' (Kd.R_new' ho0 (Kd.R_lt z7e)) (Kd.R_lt z7g)) (below_size z7a)); have n6_ := A_ (Kd.R_lower (Kd.R_new' (Kd.R_new' ho1 (Kd.R_lt z7f)) (Kd.R_lt z7h)) (below_size z7a)); have n7_ := A_ (blk_below (g := gb424) (o := .cells #[.string t415, .string t416, .slice Ao16 t417.length co16, .slice Ao17 t420.length co17] 57 (0, 0)) z7c hb); have n8_ := A_ (blk_below (g := gb437) (o := .cells #[.string t428, .string t429, .slice Ao24 t430.length co24, .slice Ao25 t433.length co25] 57 (0, 0)) z7d hb); have n9_ := A_ (below_step z7a hb); clear HO_425002; clear HO_425003; clear HO_438002; clear HO_438003; clear HO452; clear BK424; clear BK437; clear HB; have HO_425002 := n0_; have HO_425003 := n1_; have HO_438002 := n2_; have HO_438003 := n3_; have HO452 := n4_; have HO457 := n5_; have HO460 := n6_; have BK424 := n7_; have BK437 := n8_; have HB := n9_; clear n0_ n1_ n2_ n3_ n4_ n5_ n6_ n7_ n8_ n9_; (try clear ho1)) | ((with_reducible refine gate_dst (N := 12) rfl ?_); refine box_event ?hg (N := 12) ?hd (cs := #[.string (⟨#[]⟩ : ByteArray), .string (⟨#[]⟩ : ByteArray), .slice none 0 0, .slice none 0 0]) (t := 57) ?hr ?_; (case hd => rfl); (case hg => rfl); (case hr => first | (go_simp; done) | (go_simp; rfl)); intro gb462 hg w78 hbox hb; have n0_ := A_ (Kd.R_below z7e hb); have n1_ := A_ (Kd.R_below z7f hb); have n2_ := A_ (Kd.R_below z7g hb); have n3_ := A_ (Kd.R_below z7h hb); have n4_ := A_ (Kd.R_below (by (with_reducible repeat (first | apply Kd.R_alloc | apply Kd.R_drewN | apply Kd.R_drew)); exact HO452.out) hb); have n5_ := A_ (Kd.R_below (by (with_reducible repeat (first | apply Kd.R_alloc | apply Kd.R_drewN | apply Kd.R_drew)); exact HO457.out) hb); have n6_ := A_ (Kd.R_below (by (with_reducible repeat (first | apply Kd.R_alloc | apply Kd.R_drewN | apply Kd.R_drew)); exact HO460.out) hb); have n7_ := A_ (blk_below (g := gb424) (o := .cells #[.string t415, .string t416, .slice Ao16 t417.length co16, .slice Ao17 t420.length co17] 57 (0, 0)) z7c hb); have n8_ := A_ (blk_below (g := gb437) (o := .cells #[.string t428, .string t429, .slice Ao24 t430.length co24, .slice Ao25 t433.length co25] 57 (0, 0)) z7d hb); have n9_ := A_ (below_step z7a hb); have n10_ := A_ (hbox); have n11_ := A_ ((by rw [hg]; exact (below_size z7a) : w.heap.size ≤ gb462)); have n12_ := A_ ((by rw [hg]; exact (below_size z7a) : w.heap.size ≤ gb462)); have n13_ := A_ ((by rw [hg]; exact Nat.ne_of_lt (blk_lt (g := gb424) (o := .cells #[.string t415, .string t416, .slice Ao16 t417.length co16, .slice Ao17 t420.length co17] 57 (0, 0)) z7c) : gb424 ≠ gb462)); have n14_ := A_ ((by rw [hg]; exact Nat.ne_of_gt (blk_lt (g := gb424) (o := .cells #[.string t415, .string t416, .slice Ao16 t417.length co16, .slice Ao17 t420.length co17] 57 (0, 0)) z7c) : gb462 ≠ gb424)); have n15_ := A_ ((by rw [hg]; exact Nat.ne_of_lt (blk_lt (g := gb437) (o := .cells #[.string t428, .string t429, .slice Ao24 t430.length co24, .slice Ao25 t433.length co25] 57 (0, 0)) z7d) : gb437 ≠ gb462)); have n16_ := A_ ((by rw [hg]; exact Nat.ne_of_gt (blk_lt (g := gb437) (o := .cells #[.string t428, .string t429, .slice Ao24 t430.length co24, .slice Ao25 t433.length co25] 57 (0, 0)) z7d) : gb462 ≠ gb437)); clear HO_425002; clear HO_425003; clear HO_438002; clear HO_438003; clear HO452; clear HO457; clear HO460; clear BK424; clear BK437; clear HB; have HO_425002 := n0_; have HO_425003 := n1_; have HO_438002 := n2_; have HO_438003 := n3_; have HO452 := n4_; have HO457 := n5_; have HO460 := n6_; have BK424 := n7_; have BK437 := n8_; have HB := n9_; have BK462 := n10_; have GW462 := n11_; have GE462 := n12_; have NB424_462 := n13_; have NB462_424 := n14_; have NB437_462 := n15_; have NB462_437 := n16_; clear n0_ n1_ n2_ n3_ n4_ n5_ n6_ n7_ n8_ n9_ n10_ n11_ n12_ n13_ n14_ n15_ n16_; clear hb hbox hg; have hnb79 := NB462_424.out; have hnc79 := NB424_462.out; have hnb80 := NB462_437.out; have hnc80 := NB437_462.out; have hcz81_0 : w78.cell? ⟨gb462, 0, none⟩ = some (.string (⟨#[]⟩ : ByteArray)) := (blk_cell BK462.out 0).trans rfl; have hcz81_1 : w78.cell? ⟨gb462, 1, none⟩ = some (.string (⟨#[]⟩ : ByteArray)) := (blk_cell BK462.out 1).trans rfl; have hcz81_2 : w78.cell? ⟨gb462, 2, none⟩ = some (.slice none 0 0) := (blk_cell BK462.out 2).trans rfl; have hcz81_3 : w78.cell? ⟨gb462, 3, none⟩ = some (.slice none 0 0) := (blk_cell BK462.out 3).trans rfl; have hfz81_0 := blk_frozen BK462.out 0; have hfz81_1 := blk_frozen BK462.out 1; have hfz81_2 := blk_frozen BK462.out 2; have hfz81_3 := blk_frozen BK462.out 3; obtain ⟨Ao82, co82, eo82⟩ := Kd.R_slice HO457.out; subst eo82; obtain ⟨Ao83, co83, eo83⟩ := Kd.R_slice HO460.out; subst eo83))
     (try simp only [Act.put, List.setIfInBounds_toArray, List.set_cons_zero, List.set_cons_succ])
     go_cut [87] (fun v87 wc => ∃ (kq : Nat) (x87_68 : Bool), v87 = .bool x87_68 ∧ Aside0 (laws_FnExactBuilt.j2 kq t446 x87_68 t428 t429 t447 t448 = some r) ∧ Aside0 (kq ≤ kj40) ∧ Aside0 (Kd.R (Kd.int .i64) 2 wc w.heap.size (fun k_ => some k_ ≠ ((.slice Ao24 t430.length co24) : Value).ownBlock ∧ some k_ ≠ ((.slice Ao82 t455.length co82) : Value).ownBlock) (.slice Ao16 t417.length co16) t417) ∧ Aside0 (Kd.R Kd.string 9 wc w.heap.size (fun k_ => some k_ ≠ ((.slice Ao25 t433.length co25) : Value).ownBlock ∧ some k_ ≠ ((.slice Ao83 t458.length co83) : Value).ownBlock) (.slice Ao17 t420.length co17) t420) ∧ Aside0 (Kd.R (Kd.int .i64) 2 wc w.heap.size (fun k_ => some k_ ≠ ((.slice Ao16 t417.length co16) : Value).ownBlock ∧ some k_ ≠ ((.slice Ao82 t455.length co82) : Value).ownBlock) (.slice Ao24 t430.length co24) t447) ∧ Aside0 (Kd.R Kd.string 9 wc w.heap.size (fun k_ => some k_ ≠ ((.slice Ao17 t420.length co17) : Value).ownBlock ∧ some k_ ≠ ((.slice Ao83 t458.length co83) : Value).ownBlock) (.slice Ao25 t433.length co25) t448) ∧ Aside0 (Kd.R (Kd.int .i64) 2 wc w.heap.size (fun k_ => some k_ ≠ ((.slice Ao16 t417.length co16) : Value).ownBlock ∧ some k_ ≠ ((.slice Ao24 t430.length co24) : Value).ownBlock) (.slice Ao82 t455.length co82) t455) ∧ Aside0 (Kd.R Kd.string 9 wc w.heap.size (fun k_ => some k_ ≠ ((.slice Ao17 t420.length co17) : Value).ownBlock ∧ some k_ ≠ ((.slice Ao25 t433.length co25) : Value).ownBlock) (.slice Ao83 t458.length co83) t458) ∧ Aside0 (wc.heap[gb424]? = some (.cells #[.string t415, .string t416, (.slice Ao16 t417.length co16), (.slice Ao17 t420.length co17)] 57 (0, 0))) ∧ Aside0 (wc.heap[gb437]? = some (.cells #[.string t428, .string t429, (.slice Ao24 t430.length co24), (.slice Ao25 t433.length co25)] 57 (0, 0))) ∧ Aside0 (wc.heap[gb462]? = some (.cells #[.string t453, .string t454, (.slice Ao82 t455.length co82), (.slice Ao83 t458.length co83)] 57 (0, 0))) ∧ Aside0 (Below w.heap.size w wc))
     case first =>
      have H := HC69.out
      clear HC69
      replace H := Option.bind_eq_some_iff.mp H
      obtain ⟨t463, A840, H⟩ := H
      replace H : (if t463 = true then (laws_FnExactBuilt.j2 kj40 t446 (t461 != t423) t428 t429 t447 t448) else (laws_FnExactBuilt.j2 kj40 t446 true t428 t429 t447 t448)) = some r := H
      have A84 := A_ A840
      clear A840
      by_cases c85 : t463 = true
      {
      subst c85
      have H1 : (laws_FnExactBuilt.j2 kj40 t446 (t461 != t423) t428 t429 t447 t448) = some r := by rw [if_pos rfl] at H; exact H
      clear H
      have H := H1
      clear H1
      have H' := A_ H
      clear H
      have hnb86 := NB462_424.out
      have hnc86 := NB424_462.out
      have hnb87 := NB462_437.out
      have hnc87 := NB437_462.out
      have hcz88_0 : w78.cell? ⟨gb462, 0, none⟩ = some (.string (⟨#[]⟩ : ByteArray)) := (blk_cell BK462.out 0).trans rfl
      have hcz88_1 : w78.cell? ⟨gb462, 1, none⟩ = some (.string (⟨#[]⟩ : ByteArray)) := (blk_cell BK462.out 1).trans rfl
      have hcz88_2 : w78.cell? ⟨gb462, 2, none⟩ = some (.slice none 0 0) := (blk_cell BK462.out 2).trans rfl
      have hcz88_3 : w78.cell? ⟨gb462, 3, none⟩ = some (.slice none 0 0) := (blk_cell BK462.out 3).trans rfl
      have hfz88_0 := blk_frozen BK462.out 0
      have hfz88_1 := blk_frozen BK462.out 1
      have hfz88_2 := blk_frozen BK462.out 2
      have hfz88_3 := blk_frozen BK462.out 3
      have hnb89 := NB424_437.out
      have hnc89 := NB437_424.out
      have hcz90_0 : w78.cell? ⟨gb424, 0, none⟩ = some (.string t415) := (blk_cell BK424.out 0).trans rfl
      have hcz90_1 : w78.cell? ⟨gb424, 1, none⟩ = some (.string t416) := (blk_cell BK424.out 1).trans rfl
      have hcz90_2 : w78.cell? ⟨gb424, 2, none⟩ = some (.slice Ao16 t417.length co16) := (blk_cell BK424.out 2).trans rfl
      have hcz90_3 : w78.cell? ⟨gb424, 3, none⟩ = some (.slice Ao17 t420.length co17) := (blk_cell BK424.out 3).trans rfl
      have hfz90_0 := blk_frozen BK424.out 0
      have hfz90_1 := blk_frozen BK424.out 1
      have hfz90_2 := blk_frozen BK424.out 2
      have hfz90_3 := blk_frozen BK424.out 3
      go_wp2_with (first | ((with_reducible refine gate_callee (f := 38) rfl ?_); refine goesL_ (some 81) rfl rfl Try.func38 (by kernel_rfl) rfl #[.agg #[.string t453, .string t454, .slice Ao82 t455.length co82, .slice Ao83 t458.length co83], .agg #[.string t415, .string t416, .slice Ao16 t417.length co16, .slice Ao17 t420.length co17]] rfl z7b ?_; (with_reducible refine (laws_eqTable.calls kj40 t453 t454 _ _ t455 _ _ t458 t415 t416 _ _ t417 _ _ t420 true _ ?side1 ?side2 ?side3 ?side4 ?side5 ?side6 ?side7 ?side8 A84.out).mono ?_); (case side1 => refine (Kd.R_reads' (e := 2) (base := w.heap.size) (ok := fun k_ => ((True ∧ some k_ ≠ (.slice Ao16 t417.length co16 : Value).ownBlock) ∧ some k_ ≠ (.slice Ao24 t430.length co24 : Value).ownBlock)) (n := t455.length) (c := co82) ?_).2.2; exact z7o); (case side2 => exact (Kd.R_reads' HO457.out).2.1); (case side3 => refine (Kd.R_reads' (e := 9) (base := w.heap.size) (ok := fun k_ => ((True ∧ some k_ ≠ (.slice Ao17 t420.length co17 : Value).ownBlock) ∧ some k_ ≠ (.slice Ao25 t433.length co25 : Value).ownBlock)) (n := t458.length) (c := co83) ?_).2.2; exact z7p); (case side4 => exact (Kd.R_reads' HO460.out).2.1); (case side5 => refine (Kd.R_reads' (e := 2) (base := w.heap.size) (ok := fun k_ => (some k_ ≠ (.slice Ao24 t430.length co24 : Value).ownBlock ∧ some k_ ≠ (.slice Ao82 t455.length co82 : Value).ownBlock)) (n := t417.length) (c := co16) ?_).2.2; exact z7i); (case side6 => exact (Kd.R_reads' HO_425002.out).2.1); (case side7 => refine (Kd.R_reads' (e := 9) (base := w.heap.size) (ok := fun k_ => (some k_ ≠ (.slice Ao25 t433.length co25 : Value).ownBlock ∧ some k_ ≠ (.slice Ao83 t458.length co83 : Value).ownBlock)) (n := t420.length) (c := co17) ?_).2.2; exact z7j); (case side8 => exact (Kd.R_reads' HO_425003.out).2.1); rintro e w91 ⟨rfl, hb⟩; refine ⟨_, rfl, ?_⟩; replace HO_425002 := A_ (Kd.R_below z7i hb); replace HO_425003 := A_ (Kd.R_below z7j hb); replace HO_438002 := A_ (Kd.R_below z7d1 hb); replace HO_438003 := A_ (Kd.R_below z7e1 hb); replace HO452 := A_ (Kd.R_below z7i1 hb); replace HO457 := A_ (Kd.R_below z7o hb); replace HO460 := A_ (Kd.R_below z7p hb); replace BK424 := A_ (blk_below (g := gb424) (o := .cells #[.string t415, .string t416, .slice Ao16 t417.length co16, .slice Ao17 t420.length co17] 57 (0, 0)) z7z hb); replace BK437 := A_ (blk_below (g := gb437) (o := .cells #[.string t428, .string t429, .slice Ao24 t430.length co24, .slice Ao25 t433.length co25] 57 (0, 0)) z7a1 hb); replace BK462 := A_ (blk_below (g := gb462) (o := .cells #[.string t453, .string t454, .slice Ao82 t455.length co82, .slice Ao83 t458.length co83] 57 (0, 0)) z7v hb); replace HB := A_ (below_step z7w hb)))
      go_meet
      case rel => exact ⟨_, ((t461 != t423)), (by first | rfl | (simp; done) | (simp [*]; done)), H', ⟨by have := HJ8.out; have := HJ40.out; first | omega | exact Nat.le_refl _⟩, ⟨by (with_reducible repeat (first | apply Kd.R_alloc | apply Kd.R_drewN | apply Kd.R_drew)); exact HO_425002.out⟩, ⟨by (with_reducible repeat (first | apply Kd.R_alloc | apply Kd.R_drewN | apply Kd.R_drew)); exact HO_425003.out⟩, ⟨by (with_reducible repeat (first | apply Kd.R_alloc | apply Kd.R_drewN | apply Kd.R_drew)); exact HO_438002.out⟩, ⟨by (with_reducible repeat (first | apply Kd.R_alloc | apply Kd.R_drewN | apply Kd.R_drew)); exact HO_438003.out⟩, ⟨by (with_reducible repeat (first | apply Kd.R_alloc | apply Kd.R_drewN | apply Kd.R_drew)); exact Kd.R_mono HO457.out (fun _ hk => ⟨hk.1.2, hk.2⟩)⟩, ⟨by (with_reducible repeat (first | apply Kd.R_alloc | apply Kd.R_drewN | apply Kd.R_drew)); exact Kd.R_mono HO460.out (fun _ hk => ⟨hk.1.2, hk.2⟩)⟩, ⟨by (with_reducible repeat (first | refine blk_drewN ?_ _ | refine blk_drew ?_ | refine blk_alloc ?_ _)); exact BK424.out⟩, ⟨by (with_reducible repeat (first | refine blk_drewN ?_ _ | refine blk_drew ?_ | refine blk_alloc ?_ _)); exact BK437.out⟩, ⟨by (with_reducible repeat (first | refine blk_drewN ?_ _ | refine blk_drew ?_ | refine blk_alloc ?_ _)); exact BK462.out⟩, ⟨by repeat (first | (with_reducible first | exact HB.out | apply below_alloc | apply pw_below_drewN | apply below_drew1 | refine below_set ?_ GE424.out | refine below_set ?_ GE437.out | refine below_set ?_ GE462.out) | exact HB.out)⟩⟩
      }
      {
      replace c85 := Bool.eq_false_iff.mpr c85
      subst c85
      have H1 : (laws_FnExactBuilt.j2 kj40 t446 true t428 t429 t447 t448) = some r := by rw [if_neg (show ¬ (false = true) by decide)] at H; exact H
      clear H
      have H := H1
      clear H1
      have H' := A_ H
      clear H
      have hnb92 := NB462_424.out
      have hnc92 := NB424_462.out
      have hnb93 := NB462_437.out
      have hnc93 := NB437_462.out
      have hcz94_0 : w78.cell? ⟨gb462, 0, none⟩ = some (.string (⟨#[]⟩ : ByteArray)) := (blk_cell BK462.out 0).trans rfl
      have hcz94_1 : w78.cell? ⟨gb462, 1, none⟩ = some (.string (⟨#[]⟩ : ByteArray)) := (blk_cell BK462.out 1).trans rfl
      have hcz94_2 : w78.cell? ⟨gb462, 2, none⟩ = some (.slice none 0 0) := (blk_cell BK462.out 2).trans rfl
      have hcz94_3 : w78.cell? ⟨gb462, 3, none⟩ = some (.slice none 0 0) := (blk_cell BK462.out 3).trans rfl
      have hfz94_0 := blk_frozen BK462.out 0
      have hfz94_1 := blk_frozen BK462.out 1
      have hfz94_2 := blk_frozen BK462.out 2
      have hfz94_3 := blk_frozen BK462.out 3
      have hnb95 := NB424_437.out
      have hnc95 := NB437_424.out
      have hcz96_0 : w78.cell? ⟨gb424, 0, none⟩ = some (.string t415) := (blk_cell BK424.out 0).trans rfl
      have hcz96_1 : w78.cell? ⟨gb424, 1, none⟩ = some (.string t416) := (blk_cell BK424.out 1).trans rfl
      have hcz96_2 : w78.cell? ⟨gb424, 2, none⟩ = some (.slice Ao16 t417.length co16) := (blk_cell BK424.out 2).trans rfl
      have hcz96_3 : w78.cell? ⟨gb424, 3, none⟩ = some (.slice Ao17 t420.length co17) := (blk_cell BK424.out 3).trans rfl
      have hfz96_0 := blk_frozen BK424.out 0
      have hfz96_1 := blk_frozen BK424.out 1
      have hfz96_2 := blk_frozen BK424.out 2
      have hfz96_3 := blk_frozen BK424.out 3
      go_wp2_with (first | ((with_reducible refine gate_callee (f := 38) rfl ?_); refine goesL_ (some 81) rfl rfl Try.func38 (by kernel_rfl) rfl #[.agg #[.string t453, .string t454, .slice Ao82 t455.length co82, .slice Ao83 t458.length co83], .agg #[.string t415, .string t416, .slice Ao16 t417.length co16, .slice Ao17 t420.length co17]] rfl z7b ?_; (with_reducible refine (laws_eqTable.calls kj40 t453 t454 _ _ t455 _ _ t458 t415 t416 _ _ t417 _ _ t420 false _ ?side1 ?side2 ?side3 ?side4 ?side5 ?side6 ?side7 ?side8 A84.out).mono ?_); (case side1 => refine (Kd.R_reads' (e := 2) (base := w.heap.size) (ok := fun k_ => ((True ∧ some k_ ≠ (.slice Ao16 t417.length co16 : Value).ownBlock) ∧ some k_ ≠ (.slice Ao24 t430.length co24 : Value).ownBlock)) (n := t455.length) (c := co82) ?_).2.2; exact z7o); (case side2 => exact (Kd.R_reads' HO457.out).2.1); (case side3 => refine (Kd.R_reads' (e := 9) (base := w.heap.size) (ok := fun k_ => ((True ∧ some k_ ≠ (.slice Ao17 t420.length co17 : Value).ownBlock) ∧ some k_ ≠ (.slice Ao25 t433.length co25 : Value).ownBlock)) (n := t458.length) (c := co83) ?_).2.2; exact z7p); (case side4 => exact (Kd.R_reads' HO460.out).2.1); (case side5 => refine (Kd.R_reads' (e := 2) (base := w.heap.size) (ok := fun k_ => (some k_ ≠ (.slice Ao24 t430.length co24 : Value).ownBlock ∧ some k_ ≠ (.slice Ao82 t455.length co82 : Value).ownBlock)) (n := t417.length) (c := co16) ?_).2.2; exact z7i); (case side6 => exact (Kd.R_reads' HO_425002.out).2.1); (case side7 => refine (Kd.R_reads' (e := 9) (base := w.heap.size) (ok := fun k_ => (some k_ ≠ (.slice Ao25 t433.length co25 : Value).ownBlock ∧ some k_ ≠ (.slice Ao83 t458.length co83 : Value).ownBlock)) (n := t420.length) (c := co17) ?_).2.2; exact z7j); (case side8 => exact (Kd.R_reads' HO_425003.out).2.1); rintro e w97 ⟨rfl, hb⟩; refine ⟨_, rfl, ?_⟩; replace HO_425002 := A_ (Kd.R_below z7i hb); replace HO_425003 := A_ (Kd.R_below z7j hb); replace HO_438002 := A_ (Kd.R_below z7d1 hb); replace HO_438003 := A_ (Kd.R_below z7e1 hb); replace HO452 := A_ (Kd.R_below z7i1 hb); replace HO457 := A_ (Kd.R_below z7o hb); replace HO460 := A_ (Kd.R_below z7p hb); replace BK424 := A_ (blk_below (g := gb424) (o := .cells #[.string t415, .string t416, .slice Ao16 t417.length co16, .slice Ao17 t420.length co17] 57 (0, 0)) z7z hb); replace BK437 := A_ (blk_below (g := gb437) (o := .cells #[.string t428, .string t429, .slice Ao24 t430.length co24, .slice Ao25 t433.length co25] 57 (0, 0)) z7a1 hb); replace BK462 := A_ (blk_below (g := gb462) (o := .cells #[.string t453, .string t454, .slice Ao82 t455.length co82, .slice Ao83 t458.length co83] 57 (0, 0)) z7v hb); replace HB := A_ (below_step z7w hb)))
      go_meet
      case rel => exact ⟨_, (true), (by first | rfl | (simp; done) | (simp [*]; done)), H', ⟨by have := HJ8.out; have := HJ40.out; first | omega | exact Nat.le_refl _⟩, ⟨by (with_reducible repeat (first | apply Kd.R_alloc | apply Kd.R_drewN | apply Kd.R_drew)); exact HO_425002.out⟩, ⟨by (with_reducible repeat (first | apply Kd.R_alloc | apply Kd.R_drewN | apply Kd.R_drew)); exact HO_425003.out⟩, ⟨by (with_reducible repeat (first | apply Kd.R_alloc | apply Kd.R_drewN | apply Kd.R_drew)); exact HO_438002.out⟩, ⟨by (with_reducible repeat (first | apply Kd.R_alloc | apply Kd.R_drewN | apply Kd.R_drew)); exact HO_438003.out⟩, ⟨by (with_reducible repeat (first | apply Kd.R_alloc | apply Kd.R_drewN | apply Kd.R_drew)); exact Kd.R_mono HO457.out (fun _ hk => ⟨hk.1.2, hk.2⟩)⟩, ⟨by (with_reducible repeat (first | apply Kd.R_alloc | apply Kd.R_drewN | apply Kd.R_drew)); exact Kd.R_mono HO460.out (fun _ hk => ⟨hk.1.2, hk.2⟩)⟩, ⟨by (with_reducible repeat (first | refine blk_drewN ?_ _ | refine blk_drew ?_ | refine blk_alloc ?_ _)); exact BK424.out⟩, ⟨by (with_reducible repeat (first | refine blk_drewN ?_ _ | refine blk_drew ?_ | refine blk_alloc ?_ _)); exact BK437.out⟩, ⟨by (with_reducible repeat (first | refine blk_drewN ?_ _ | refine blk_drew ?_ | refine blk_alloc ?_ _)); exact BK462.out⟩, ⟨by repeat (first | (with_reducible first | exact HB.out | apply below_alloc | apply pw_below_drewN | apply below_drew1 | refine below_set ?_ GE424.out | refine below_set ?_ GE437.out | refine below_set ?_ GE462.out) | exact HB.out)⟩⟩
      }
     case rest =>
      clear HC69
      try clear c1
      try clear c2
      try clear p2
      try clear c3
      try clear c3b0
      try clear c4
      try clear c5
      try clear c6
      try clear c7
      try clear c8
      try clear c9
      try clear c12
      try clear c15
      try clear c18
      try clear c19
      try clear c22
      try clear c27
      try clear c28
      try clear c32
      try clear c36
      try clear c37
      try clear c38
      try clear c39
      try clear c40
      try clear c46
      try clear c46b0
      try clear c48
      try clear c49
      try clear c53
      try clear c57
      try clear c60
      try clear c60b0
      try clear c61
      try clear c66
      try clear c66b0
      try clear c66b1
      try clear c70
      try clear c79
      try clear c80
      try clear c85
      try clear c86
      try clear c87
      try clear c89
      try clear c92
      try clear c93
      try clear c95
      try clear hcz15_0
      try clear hcz15_1
      try clear hcz15_2
      try clear hcz15_3
      try clear hcz23_0
      try clear hcz23_1
      try clear hcz23_2
      try clear hcz23_3
      try clear hcz29_0
      try clear hcz29_1
      try clear hcz29_2
      try clear hcz29_3
      try clear hcz30_0
      try clear hcz30_1
      try clear hcz30_2
      try clear hcz30_3
      try clear hcz33_0
      try clear hcz33_1
      try clear hcz33_2
      try clear hcz33_3
      try clear hcz34_0
      try clear hcz34_1
      try clear hcz34_2
      try clear hcz34_3
      try clear hcz50_0
      try clear hcz50_1
      try clear hcz50_2
      try clear hcz50_3
      try clear hcz51_0
      try clear hcz51_1
      try clear hcz51_2
      try clear hcz51_3
      try clear hcz54_0
      try clear hcz54_1
      try clear hcz54_2
      try clear hcz54_3
      try clear hcz55_0
      try clear hcz55_1
      try clear hcz55_2
      try clear hcz55_3
      try clear hcz62_0
      try clear hcz62_1
      try clear hcz62_2
      try clear hcz62_3
      try clear hcz64_0
      try clear hcz64_1
      try clear hcz64_2
      try clear hcz64_3
      try clear hcz71_0
      try clear hcz71_1
      try clear hcz71_2
      try clear hcz71_3
      try clear hcz73_0
      try clear hcz73_1
      try clear hcz73_2
      try clear hcz73_3
      try clear hcz81_0
      try clear hcz81_1
      try clear hcz81_2
      try clear hcz81_3
      try clear hcz88_0
      try clear hcz88_1
      try clear hcz88_2
      try clear hcz88_3
      try clear hcz90_0
      try clear hcz90_1
      try clear hcz90_2
      try clear hcz90_3
      try clear hcz94_0
      try clear hcz94_1
      try clear hcz94_2
      try clear hcz94_3
      try clear hcz96_0
      try clear hcz96_1
      try clear hcz96_2
      try clear hcz96_3
      try clear hfz15_0
      try clear hfz15_1
      try clear hfz15_2
      try clear hfz15_3
      try clear hfz23_0
      try clear hfz23_1
      try clear hfz23_2
      try clear hfz23_3
      try clear hfz29_0
      try clear hfz29_1
      try clear hfz29_2
      try clear hfz29_3
      try clear hfz30_0
      try clear hfz30_1
      try clear hfz30_2
      try clear hfz30_3
      try clear hfz33_0
      try clear hfz33_1
      try clear hfz33_2
      try clear hfz33_3
      try clear hfz34_0
      try clear hfz34_1
      try clear hfz34_2
      try clear hfz34_3
      try clear hfz50_0
      try clear hfz50_1
      try clear hfz50_2
      try clear hfz50_3
      try clear hfz51_0
      try clear hfz51_1
      try clear hfz51_2
      try clear hfz51_3
      try clear hfz54_0
      try clear hfz54_1
      try clear hfz54_2
      try clear hfz54_3
      try clear hfz55_0
      try clear hfz55_1
      try clear hfz55_2
      try clear hfz55_3
      try clear hfz62_0
      try clear hfz62_1
      try clear hfz62_2
      try clear hfz62_3
      try clear hfz64_0
      try clear hfz64_1
      try clear hfz64_2
      try clear hfz64_3
      try clear hfz71_0
      try clear hfz71_1
      try clear hfz71_2
      try clear hfz71_3
      try clear hfz73_0
      try clear hfz73_1
      try clear hfz73_2
      try clear hfz73_3
      try clear hfz81_0
      try clear hfz81_1
      try clear hfz81_2
      try clear hfz81_3
      try clear hfz88_0
      try clear hfz88_1
      try clear hfz88_2
      try clear hfz88_3
      try clear hfz90_0
      try clear hfz90_1
      try clear hfz90_2
      try clear hfz90_3
      try clear hfz94_0
      try clear hfz94_1
      try clear hfz94_2
      try clear hfz94_3
      try clear hfz96_0
      try clear hfz96_1
      try clear hfz96_2
      try clear hfz96_3
      try clear p2
      obtain ⟨kq, x87_68, rfl, HA, HJ68, HO_425002, HO_425003, HO_438002, HO_438003, HO_463002, HO_463003, BK424, BK437, BK462, HB⟩ := hcut
      have hl438002_68 := (Kd.R_reads' HO_438002.out).1
      rw [hl438002_68] at HO_438002
      (try simp only [hl438002_68])
      (try simp only [hl438002_68] at BK424)
      (try simp only [hl438002_68] at BK437)
      (try simp only [hl438002_68] at BK462)
      (try simp only [hl438002_68] at HO_425002)
      (try simp only [hl438002_68] at HO_425003)
      (try simp only [hl438002_68] at HO_438003)
      (try simp only [hl438002_68] at HO_463002)
      (try simp only [hl438002_68] at HO_463003)
      have hl438003_68 := (Kd.R_reads' HO_438003.out).1
      rw [hl438003_68] at HO_438003
      (try simp only [hl438003_68])
      (try simp only [hl438003_68] at BK424)
      (try simp only [hl438003_68] at BK437)
      (try simp only [hl438003_68] at BK462)
      (try simp only [hl438003_68] at HO_425002)
      (try simp only [hl438003_68] at HO_425003)
      (try simp only [hl438003_68] at HO_438002)
      (try simp only [hl438003_68] at HO_463002)
      (try simp only [hl438003_68] at HO_463003)
      cases kq with
      | zero => exact absurd HA.out (by simp [laws_FnExactBuilt.j2])
      | succ kj68 =>
       have H := HA.out
       clear HA
       simp only [laws_FnExactBuilt.j2] at H
       by_cases c98 : x87_68 = true
       {
       subst c98
       have H1 : (some false) = some r := by rw [if_pos rfl] at H; exact H
       clear H
       have H := H1
       clear H1
       obtain rfl := Option.some.inj H
       go_wp2
       go_ret
       exact ⟨by first | rfl | (simp [errW_none, errW_some] <;> rfl) | (simp [*, errW_none, errW_some] <;> rfl), by repeat (first | (with_reducible first | exact HB.out | apply below_alloc | apply pw_below_drewN | apply below_drew1 | refine below_set ?_ GE424.out | refine below_set ?_ GE437.out | refine below_set ?_ GE462.out) | exact HB.out)⟩
       }
       {
       replace c98 := Bool.eq_false_iff.mpr c98
       subst c98
       have H1 : ((laws_heldTable.f kj68 t428 t429 t447 t448 1).bind fun t464 => (if t464 < 0 then (some false) else (if t464 = t446 then (some true) else (some false)))) = some r := by rw [if_neg (show ¬ (false = true) by decide)] at H; exact H
       clear H
       have H := H1
       clear H1
       replace H := Option.bind_eq_some_iff.mp H
       obtain ⟨t464, A990, H⟩ := H
       replace H : (if t464 < 0 then (some false) else (if t464 = t446 then (some true) else (some false))) = some r := H
       have A99 := A_ A990
       clear A990
       by_cases c100 : t464 < 0
       {
       rw [if_pos c100] at H
       have c100b0 : decide (t464 < 0) = true := decide_eq_true c100
       clear c100
       obtain rfl := Option.some.inj H
       have hnb101 := NB437_424.out
       have hnc101 := NB424_437.out
       have hnb102 := NB437_462.out
       have hnc102 := NB462_437.out
       have hcz103_0 : wc.cell? ⟨gb437, 0, none⟩ = some (.string t428) := (blk_cell BK437.out 0).trans rfl
       have hcz103_1 : wc.cell? ⟨gb437, 1, none⟩ = some (.string t429) := (blk_cell BK437.out 1).trans rfl
       have hcz103_2 : wc.cell? ⟨gb437, 2, none⟩ = some (.slice Ao24 t447.length co24) := (blk_cell BK437.out 2).trans rfl
       have hcz103_3 : wc.cell? ⟨gb437, 3, none⟩ = some (.slice Ao25 t448.length co25) := (blk_cell BK437.out 3).trans rfl
       have hfz103_0 := blk_frozen BK437.out 0
       have hfz103_1 := blk_frozen BK437.out 1
       have hfz103_2 := blk_frozen BK437.out 2
       have hfz103_3 := blk_frozen BK437.out 3
       go_wp2_with (first | ((with_reducible refine gate_callee (f := 40) rfl ?_); refine goesL_ (some 90) rfl rfl Try.func40 (by kernel_rfl) rfl #[.agg #[.string t428, .string t429, .slice Ao24 t447.length co24, .slice Ao25 t448.length co25], .int .i64 1] rfl z7b ?_; (with_reducible refine (laws_heldTable.calls kj68 t428 t429 _ _ t447 _ _ t448 1 t464 _ ?side1 ?side2 ?side3 ?side4 A99.out).mono ?_); (case side1 => exact z7r); (case side2 => exact (Kd.R_reads' HO_438002.out).2.1); (case side3 => exact z7s); (case side4 => exact (Kd.R_reads' HO_438003.out).2.1); rintro e w104 ⟨rfl, hb⟩; refine ⟨_, rfl, ?_⟩; replace HO_425002 := A_ (Kd.R_below z7e hb); replace HO_425003 := A_ (Kd.R_below z7f hb); replace HO_438002 := A_ (Kd.R_below z7g hb); replace HO_438003 := A_ (Kd.R_below z7h hb); replace HO_463002 := A_ (Kd.R_below (by (with_reducible repeat (first | apply Kd.R_alloc | apply Kd.R_drewN | apply Kd.R_drew)); exact HO_463002.out) hb); replace HO_463003 := A_ (Kd.R_below (by (with_reducible repeat (first | apply Kd.R_alloc | apply Kd.R_drewN | apply Kd.R_drew)); exact HO_463003.out) hb); replace BK424 := A_ (blk_below (g := gb424) (o := .cells #[.string t415, .string t416, .slice Ao16 t417.length co16, .slice Ao17 t420.length co17] 57 (0, 0)) z7c hb); replace BK437 := A_ (blk_below (g := gb437) (o := .cells #[.string t428, .string t429, .slice Ao24 t447.length co24, .slice Ao25 t448.length co25] 57 (0, 0)) z7d hb); replace BK462 := A_ (blk_below (g := gb462) (o := .cells #[.string t453, .string t454, .slice Ao82 t455.length co82, .slice Ao83 t458.length co83] 57 (0, 0)) (by (with_reducible repeat (first | refine blk_drewN ?_ _ | refine blk_drew ?_ | refine blk_alloc ?_ _)); exact BK462.out) hb); replace HB := A_ (below_step z7w hb)))
       go_ret
       exact ⟨by first | rfl | (simp [errW_none, errW_some] <;> rfl) | (simp [*, errW_none, errW_some] <;> rfl), by repeat (first | (with_reducible first | exact HB.out | apply below_alloc | apply pw_below_drewN | apply below_drew1 | refine below_set ?_ GE424.out | refine below_set ?_ GE437.out | refine below_set ?_ GE462.out) | exact HB.out)⟩
       }
       {
       rw [if_neg c100] at H
       have c100b0 : decide (t464 < 0) = false := decide_eq_false c100
       clear c100
       by_cases c105 : t464 = t446
       {
       rw [if_pos c105] at H
       have c105b0 : (t464 == t446) = true := beq_iff_eq.mpr c105
       have c105b1 : (t464 != t446) = false := bne_eq_false_iff_eq.mpr c105
       clear c105
       obtain rfl := Option.some.inj H
       have hnb106 := NB437_424.out
       have hnc106 := NB424_437.out
       have hnb107 := NB437_462.out
       have hnc107 := NB462_437.out
       have hcz108_0 : wc.cell? ⟨gb437, 0, none⟩ = some (.string t428) := (blk_cell BK437.out 0).trans rfl
       have hcz108_1 : wc.cell? ⟨gb437, 1, none⟩ = some (.string t429) := (blk_cell BK437.out 1).trans rfl
       have hcz108_2 : wc.cell? ⟨gb437, 2, none⟩ = some (.slice Ao24 t447.length co24) := (blk_cell BK437.out 2).trans rfl
       have hcz108_3 : wc.cell? ⟨gb437, 3, none⟩ = some (.slice Ao25 t448.length co25) := (blk_cell BK437.out 3).trans rfl
       have hfz108_0 := blk_frozen BK437.out 0
       have hfz108_1 := blk_frozen BK437.out 1
       have hfz108_2 := blk_frozen BK437.out 2
       have hfz108_3 := blk_frozen BK437.out 3
       go_wp2_with (first | ((with_reducible refine gate_callee (f := 40) rfl ?_); refine goesL_ (some 90) rfl rfl Try.func40 (by kernel_rfl) rfl #[.agg #[.string t428, .string t429, .slice Ao24 t447.length co24, .slice Ao25 t448.length co25], .int .i64 1] rfl z7b ?_; (with_reducible refine (laws_heldTable.calls kj68 t428 t429 _ _ t447 _ _ t448 1 t464 _ ?side1 ?side2 ?side3 ?side4 A99.out).mono ?_); (case side1 => exact z7r); (case side2 => exact (Kd.R_reads' HO_438002.out).2.1); (case side3 => exact z7s); (case side4 => exact (Kd.R_reads' HO_438003.out).2.1); rintro e w109 ⟨rfl, hb⟩; refine ⟨_, rfl, ?_⟩; replace HO_425002 := A_ (Kd.R_below z7e hb); replace HO_425003 := A_ (Kd.R_below z7f hb); replace HO_438002 := A_ (Kd.R_below z7g hb); replace HO_438003 := A_ (Kd.R_below z7h hb); replace HO_463002 := A_ (Kd.R_below (by (with_reducible repeat (first | apply Kd.R_alloc | apply Kd.R_drewN | apply Kd.R_drew)); exact HO_463002.out) hb); replace HO_463003 := A_ (Kd.R_below (by (with_reducible repeat (first | apply Kd.R_alloc | apply Kd.R_drewN | apply Kd.R_drew)); exact HO_463003.out) hb); replace BK424 := A_ (blk_below (g := gb424) (o := .cells #[.string t415, .string t416, .slice Ao16 t417.length co16, .slice Ao17 t420.length co17] 57 (0, 0)) z7c hb); replace BK437 := A_ (blk_below (g := gb437) (o := .cells #[.string t428, .string t429, .slice Ao24 t447.length co24, .slice Ao25 t448.length co25] 57 (0, 0)) z7d hb); replace BK462 := A_ (blk_below (g := gb462) (o := .cells #[.string t453, .string t454, .slice Ao82 t455.length co82, .slice Ao83 t458.length co83] 57 (0, 0)) (by (with_reducible repeat (first | refine blk_drewN ?_ _ | refine blk_drew ?_ | refine blk_alloc ?_ _)); exact BK462.out) hb); replace HB := A_ (below_step z7w hb)))
       go_ret
       exact ⟨by first | rfl | (simp [errW_none, errW_some] <;> rfl) | (simp [*, errW_none, errW_some] <;> rfl), by repeat (first | (with_reducible first | exact HB.out | apply below_alloc | apply pw_below_drewN | apply below_drew1 | refine below_set ?_ GE424.out | refine below_set ?_ GE437.out | refine below_set ?_ GE462.out) | exact HB.out)⟩
       }
       {
       rw [if_neg c105] at H
       have c105b0 : (t464 == t446) = false := beq_eq_false_iff_ne.mpr c105
       have c105b1 : (t464 != t446) = true := bne_iff_ne.mpr c105
       obtain rfl := Option.some.inj H
       have hnb110 := NB437_424.out
       have hnc110 := NB424_437.out
       have hnb111 := NB437_462.out
       have hnc111 := NB462_437.out
       have hcz112_0 : wc.cell? ⟨gb437, 0, none⟩ = some (.string t428) := (blk_cell BK437.out 0).trans rfl
       have hcz112_1 : wc.cell? ⟨gb437, 1, none⟩ = some (.string t429) := (blk_cell BK437.out 1).trans rfl
       have hcz112_2 : wc.cell? ⟨gb437, 2, none⟩ = some (.slice Ao24 t447.length co24) := (blk_cell BK437.out 2).trans rfl
       have hcz112_3 : wc.cell? ⟨gb437, 3, none⟩ = some (.slice Ao25 t448.length co25) := (blk_cell BK437.out 3).trans rfl
       have hfz112_0 := blk_frozen BK437.out 0
       have hfz112_1 := blk_frozen BK437.out 1
       have hfz112_2 := blk_frozen BK437.out 2
       have hfz112_3 := blk_frozen BK437.out 3
       go_wp2_with (first | ((with_reducible refine gate_callee (f := 40) rfl ?_); refine goesL_ (some 90) rfl rfl Try.func40 (by kernel_rfl) rfl #[.agg #[.string t428, .string t429, .slice Ao24 t447.length co24, .slice Ao25 t448.length co25], .int .i64 1] rfl z7b ?_; (with_reducible refine (laws_heldTable.calls kj68 t428 t429 _ _ t447 _ _ t448 1 t464 _ ?side1 ?side2 ?side3 ?side4 A99.out).mono ?_); (case side1 => exact z7r); (case side2 => exact (Kd.R_reads' HO_438002.out).2.1); (case side3 => exact z7s); (case side4 => exact (Kd.R_reads' HO_438003.out).2.1); rintro e w113 ⟨rfl, hb⟩; refine ⟨_, rfl, ?_⟩; replace HO_425002 := A_ (Kd.R_below z7e hb); replace HO_425003 := A_ (Kd.R_below z7f hb); replace HO_438002 := A_ (Kd.R_below z7g hb); replace HO_438003 := A_ (Kd.R_below z7h hb); replace HO_463002 := A_ (Kd.R_below (by (with_reducible repeat (first | apply Kd.R_alloc | apply Kd.R_drewN | apply Kd.R_drew)); exact HO_463002.out) hb); replace HO_463003 := A_ (Kd.R_below (by (with_reducible repeat (first | apply Kd.R_alloc | apply Kd.R_drewN | apply Kd.R_drew)); exact HO_463003.out) hb); replace BK424 := A_ (blk_below (g := gb424) (o := .cells #[.string t415, .string t416, .slice Ao16 t417.length co16, .slice Ao17 t420.length co17] 57 (0, 0)) z7c hb); replace BK437 := A_ (blk_below (g := gb437) (o := .cells #[.string t428, .string t429, .slice Ao24 t447.length co24, .slice Ao25 t448.length co25] 57 (0, 0)) z7d hb); replace BK462 := A_ (blk_below (g := gb462) (o := .cells #[.string t453, .string t454, .slice Ao82 t455.length co82, .slice Ao83 t458.length co83] 57 (0, 0)) (by (with_reducible repeat (first | refine blk_drewN ?_ _ | refine blk_drew ?_ | refine blk_alloc ?_ _)); exact BK462.out) hb); replace HB := A_ (below_step z7w hb)))
       go_ret
       exact ⟨by first | rfl | (simp [errW_none, errW_some] <;> rfl) | (simp [*, errW_none, errW_some] <;> rfl), by repeat (first | (with_reducible first | exact HB.out | apply below_alloc | apply pw_below_drewN | apply below_drew1 | refine below_set ?_ GE424.out | refine below_set ?_ GE437.out | refine below_set ?_ GE462.out) | exact HB.out)⟩
       }
       }
       }
     }
     {
     rw [if_neg c66] at H
     have c66b0 : (t449 == t446) = false := beq_eq_false_iff_ne.mpr c66
     have c66b1 : (t449 != t446) = true := bne_iff_ne.mpr c66
     obtain rfl := Option.some.inj H
     have hnb114 := NB437_424.out
     have hnc114 := NB424_437.out
     have hcz115_0 : wc.cell? ⟨gb437, 0, none⟩ = some (.string t428) := (blk_cell BK437.out 0).trans rfl
     have hcz115_1 : wc.cell? ⟨gb437, 1, none⟩ = some (.string t429) := (blk_cell BK437.out 1).trans rfl
     have hcz115_2 : wc.cell? ⟨gb437, 2, none⟩ = some (.slice Ao24 t430.length co24) := (blk_cell BK437.out 2).trans rfl
     have hcz115_3 : wc.cell? ⟨gb437, 3, none⟩ = some (.slice Ao25 t433.length co25) := (blk_cell BK437.out 3).trans rfl
     have hfz115_0 := blk_frozen BK437.out 0
     have hfz115_1 := blk_frozen BK437.out 1
     have hfz115_2 := blk_frozen BK437.out 2
     have hfz115_3 := blk_frozen BK437.out 3
     go_wp2_with (first | ((with_reducible refine gate_callee (f := 39) rfl ?_); refine goesL_ (some 64) rfl rfl Try.func39 (by kernel_rfl) rfl #[.agg #[.string t428, .string t429, .slice Ao24 t430.length co24, .slice Ao25 t433.length co25], .int .i64 1] rfl z7b ?_; (with_reducible refine (laws_markTable.calls kj40 t428 t429 (fun k_ => some k_ = (.slice Ao24 t430.length co24 : Value).ownBlock) (.slice Ao24 t430.length co24) t430 (fun k_ => some k_ = (.slice Ao25 t433.length co25 : Value).ownBlock) (.slice Ao25 t433.length co25) t433 1 t446 t447 t448 w _ ?side1 ?side2 ?side3 A58.out).mono ?_); (case side1 => exact z7a); (case side2 => exact Kd.R_tight rfl HO_438002.out); (case side3 => exact Kd.R_tight rfl HO_438003.out); rintro e w116 ⟨rfl, hy0, hy1, hb, hkp⟩; refine ⟨_, rfl, ?_⟩; have n0_ := A_ (Kd.R_mono (ok' := fun k_ => some k_ ≠ (.slice Ao24 t430.length co24 : Value).ownBlock) (Kd.R_keptB ((Kd.R_apart' HO_425002.out (Kd.R_typed HO_438003.out) (by decide))) hkp (fun k_ hk_ hs_ => Or.elim hs_ (fun e_ => (hk_.1) e_) (fun e_ => (hk_.2) e_))) (fun k_ hk_ => hk_.1.1)); have n1_ := A_ (Kd.R_mono (ok' := fun k_ => some k_ ≠ (.slice Ao25 t433.length co25 : Value).ownBlock) (Kd.R_keptB ((Kd.R_apart' HO_425003.out (Kd.R_typed HO_438002.out) (by decide))) hkp (fun k_ hk_ hs_ => Or.elim hs_ (fun e_ => (hk_.2) e_) (fun e_ => (hk_.1) e_))) (fun k_ hk_ => hk_.1.1)); have n2_ := A_ (Kd.R_reok rfl hy0 (fun k_ e_ => HO_438002.out.1 k_ e_)); have n3_ := A_ (Kd.R_reok rfl hy1 (fun k_ e_ => HO_438003.out.1 k_ e_)); have n4_ := A_ (blk_kept z7c hkp (fun hs_ => Or.elim hs_ (fun e_ => (fun e_ => (Kd.R_ne HO_438002.out BK424.out (by decide)) e_) e_) (fun e_ => (fun e_ => (Kd.R_ne HO_438003.out BK424.out (by decide)) e_) e_))); have n5_ := A_ (blk_kept z7d hkp (fun hs_ => Or.elim hs_ (fun e_ => (fun e_ => (Kd.R_ne HO_438002.out BK437.out (by decide)) e_) e_) (fun e_ => (fun e_ => (Kd.R_ne HO_438003.out BK437.out (by decide)) e_) e_))); have n6_ := A_ (hb); clear HO_425002; clear HO_425003; clear HO_438002; clear HO_438003; clear BK424; clear BK437; clear HB; have HO_425002 := n0_; have HO_425003 := n1_; have HO_438002 := n2_; have HO_438003 := n3_; have BK424 := n4_; have BK437 := n5_; have HB := n6_; clear n0_ n1_ n2_ n3_ n4_ n5_ n6_; (try clear hkp); (try clear hy0); (try clear hy1); have hcz117_0 : w116.cell? ⟨gb437, 0, none⟩ = some (.string t428) := (blk_cell BK437.out 0).trans rfl; have hcz117_1 : w116.cell? ⟨gb437, 1, none⟩ = some (.string t429) := (blk_cell BK437.out 1).trans rfl; have hcz117_2 : w116.cell? ⟨gb437, 2, none⟩ = some (.slice Ao24 t430.length co24) := (blk_cell BK437.out 2).trans rfl; have hcz117_3 : w116.cell? ⟨gb437, 3, none⟩ = some (.slice Ao25 t433.length co25) := (blk_cell BK437.out 3).trans rfl; have hfz117_0 := blk_frozen BK437.out 0; have hfz117_1 := blk_frozen BK437.out 1; have hfz117_2 := blk_frozen BK437.out 2; have hfz117_3 := blk_frozen BK437.out 3) | ((with_reducible refine gate_callee (f := 40) rfl ?_); refine goesL_ (some 67) rfl rfl Try.func40 (by kernel_rfl) rfl #[.agg #[.string t428, .string t429, .slice Ao24 t447.length co24, .slice Ao25 t448.length co25], .int .i64 1] rfl z7b1 ?_; (with_reducible refine (laws_heldTable.calls kj40 t428 t429 _ _ t447 _ _ t448 1 t449 _ ?side1 ?side2 ?side3 ?side4 A59.out).mono ?_); (case side1 => exact z7r); (case side2 => rw [show t447.length = t430.length from (Kd.R_reads' HO_438002.out).1.symm]; exact (Kd.R_reads' HO_438002.out).2.1); (case side3 => exact z7s); (case side4 => rw [show t448.length = t433.length from (Kd.R_reads' HO_438003.out).1.symm]; exact (Kd.R_reads' HO_438003.out).2.1); rintro e w118 ⟨rfl, hb⟩; refine ⟨_, rfl, ?_⟩; replace HO_425002 := A_ (Kd.R_below z7e hb); replace HO_425003 := A_ (Kd.R_below z7f hb); replace HO_438002 := A_ (Kd.R_below z7g hb); replace HO_438003 := A_ (Kd.R_below z7h hb); replace BK424 := A_ (blk_below (g := gb424) (o := .cells #[.string t415, .string t416, .slice Ao16 t417.length co16, .slice Ao17 t420.length co17] 57 (0, 0)) z7c hb); replace BK437 := A_ (blk_below (g := gb437) (o := .cells #[.string t428, .string t429, .slice Ao24 t430.length co24, .slice Ao25 t433.length co25] 57 (0, 0)) z7d hb); replace HB := A_ (below_step z7a hb)))
     go_ret
     exact ⟨by first | rfl | (simp [errW_none, errW_some] <;> rfl) | (simp [*, errW_none, errW_some] <;> rfl), by repeat (first | (with_reducible first | exact HB.out | apply below_alloc | apply pw_below_drewN | apply below_drew1 | refine below_set ?_ GE424.out | refine below_set ?_ GE437.out) | exact HB.out)⟩
     }
     }
     }
   }
   {
   replace c39 := Bool.eq_false_iff.mpr c39
   subst c39
   have H1 : (some false) = some r := by rw [if_neg (show ¬ (false = true) by decide)] at H; exact H
   clear H
   have H := H1
   clear H1
   obtain rfl := Option.some.inj H
   go_wp2_with (first | ((with_reducible refine gate_callee (f := 15) rfl ?_); refine goesL_ (some 43) rfl rfl Try.func15 (by kernel_rfl) rfl #[.slice A0 l0.length c0] rfl z7b ?_; (with_reducible refine (laws_toEntryS.calls kj8 _ _ l0 t439 _ ?side1 ?side2 A37.out).mono ?_); (case side1 => exact z7c1); (case side2 => exact HC0.out); rintro e w119 ⟨v440, rfl, ho0, hb⟩; refine ⟨_, rfl, ?_⟩; have n0_ := A_ (Kd.R_elder' z7x (Kd.R_base ho0) hb); have n1_ := A_ (Kd.R_below z7e hb); have n2_ := A_ (Kd.R_below z7f hb); have n3_ := A_ (Kd.R_below z7g hb); have n4_ := A_ (Kd.R_below z7h hb); have n5_ := A_ (Kd.R_lower (Kd.R_new' ho0 (Kd.R_lt z7x)) (below_size z7a)); have n6_ := A_ (blk_below (g := gb424) (o := .cells #[.string t415, .string t416, .slice Ao16 t417.length co16, .slice Ao17 t420.length co17] 57 (0, 0)) z7c hb); have n7_ := A_ (blk_below (g := gb437) (o := .cells #[.string t428, .string t429, .slice Ao24 t430.length co24, .slice Ao25 t433.length co25] 57 (0, 0)) z7d hb); have n8_ := A_ (below_step z7a hb); clear HO_6; clear HO_425002; clear HO_425003; clear HO_438002; clear HO_438003; clear BK424; clear BK437; clear HB; have HO_6 := n0_; have HO_425002 := n1_; have HO_425003 := n2_; have HO_438002 := n3_; have HO_438003 := n4_; have HO441 := n5_; have BK424 := n6_; have BK437 := n7_; have HB := n8_; clear n0_ n1_ n2_ n3_ n4_ n5_ n6_ n7_ n8_; obtain ⟨Ao120, co120, eo120⟩ := Kd.R_slice HO441.out; subst eo120) | ((with_reducible refine gate_callee (f := 18) rfl ?_); refine goesL_ (some 44) rfl rfl Try.func18 (by kernel_rfl) rfl #[.slice Ao19 t425.length co19, .slice Ao120 t439.length co120] rfl z7b ?_; (with_reducible refine (laws_eqEntryS.calls kj8 _ _ t425 _ _ t439 false _ ?side1 ?side2 ?side3 ?side4 A38.out).mono ?_); (case side1 => exact (by repeat (first | exact (Kd.R_reads' HO_6.out).2.2 | (with_reducible refine Kd.C_alloc ?_ _) | (with_reducible refine Kd.C_drewN ?_ _) | (with_reducible refine Kd.C_drew ?_)))); (case side2 => exact (Kd.R_reads' HO_6.out).2.1); (case side3 => exact (by repeat (first | exact (Kd.R_reads' HO441.out).2.2 | (with_reducible refine Kd.C_alloc ?_ _) | (with_reducible refine Kd.C_drewN ?_ _) | (with_reducible refine Kd.C_drew ?_)))); (case side4 => exact (Kd.R_reads' HO441.out).2.1); rintro e w121 ⟨rfl, hb⟩; refine ⟨_, rfl, ?_⟩; replace HO_6 := A_ (Kd.R_below z7x hb); replace HO_425002 := A_ (Kd.R_below z7e hb); replace HO_425003 := A_ (Kd.R_below z7f hb); replace HO_438002 := A_ (Kd.R_below z7g hb); replace HO_438003 := A_ (Kd.R_below z7h hb); replace HO441 := A_ (Kd.R_below (by (with_reducible repeat (first | apply Kd.R_alloc | apply Kd.R_drewN | apply Kd.R_drew)); exact HO441.out) hb); replace BK424 := A_ (blk_below (g := gb424) (o := .cells #[.string t415, .string t416, .slice Ao16 t417.length co16, .slice Ao17 t420.length co17] 57 (0, 0)) z7c hb); replace BK437 := A_ (blk_below (g := gb437) (o := .cells #[.string t428, .string t429, .slice Ao24 t430.length co24, .slice Ao25 t433.length co25] 57 (0, 0)) z7d hb); replace HB := A_ (below_step z7a hb)))
   go_ret
   exact ⟨by first | rfl | (simp [errW_none, errW_some] <;> rfl) | (simp [*, errW_none, errW_some] <;> rfl), by repeat (first | (with_reducible first | exact HB.out | apply below_alloc | apply pw_below_drewN | apply below_drew1 | refine below_set ?_ GE424.out | refine below_set ?_ GE437.out) | exact HB.out)⟩
   
   }
   }
 }
end Go.Proofs.Ytaiggfjkikfcbaa.PFnExactBuilt

-- by a program of this session (wip/print/run.py) for this claim
import Derived.Test.YtaiggfjkikfcbaaPFnPutx0
import Derived.Test.YtaiggfjkikfcbaaPFnPutx2
namespace Go.Proofs.Ytaiggfjkikfcbaa.PFnPut
open Go.RowKit Go.Proofs.YtaiggfjkikfcbaaW.PrintWords Go.Proofs.YtaiggfjkikfcbaaW.PrintLast Go.Proofs.YtaiggfjkikfcbaaW.PrintMore
attribute [local go_sem] max2_int min2_int max_two min_two max_three min_three max_four min_four   -- for this text's walks alone
set_option linter.unusedVariables false
set_option linter.unusedSimpArgs false

theorem z53a {p_ : Prop} (h_ : p_ := by simp only [Act.put, List.setIfInBounds_toArray, List.set_cons_zero, List.set_cons_succ, i64_w, i32_w]; rfl) : p_ := h_
theorem z53b {p_ : Prop} (h_ : p_ := by repeat (first | (with_reducible first | exact HB.out | apply below_alloc | apply pw_below_drewN | apply below_drew1 | refine below_set ?_ GE111.out) | exact HB.out)) : p_ := h_
theorem z53c {p_ : Prop} (h_ : p_ := by (with_reducible repeat (first | refine blk_drewN ?_ _ | refine blk_drew ?_ | refine blk_alloc ?_ _)); exact BK111.out) : p_ := h_
theorem z53d {p_ : Prop} (h_ : p_ := by first | (with_reducible assumption) | assumption) : p_ := h_
def spec_l3Put.l0 : Nat → List (S31) → Int → ByteArray → ByteArray → Int → Bool → Option ((List (S31)))
 | 0, _, _, _, _, _, _ => none
 | k + 1, x0, x5, x112000, x112001, x112002, x112003 => if x5 < (x0.length : Int) then (if 0 ≤ x5 then ((spec_l3Ahead.f ((rd_T31 x0 x5).f0) ((rd_T31 x0 x5).f1) ((rd_T31 x0 x5).f2) ((rd_T31 x0 x5).f3) x112000 x112001 x112002 x112003).bind fun t113 => (if t113 = true then (spec_l3Put.l0 k x0 (wrap64 (x5 + 1)) x112000 x112001 x112002 x112003) else ((some (([] : List (S31)) : List (S31))).bind fun y114 => (if x5 ≤ (x0.length : Int) then ((some (x0.take (x5 : Int).toNat : List (S31))).bind fun y117 => (if y114.length + y117.length < 2932031007402 then ((some (y114 ++ y117 : List (S31))).bind fun y121 => (if y121.length < 2932031007402 then ((some (y121 ++ [(⟨x112000, x112001, x112002, x112003⟩ : S31)] : List (S31))).bind fun y124 => ((some (x0.drop (x5 : Int).toNat : List (S31))).bind fun y127 => (if y124.length + y127.length < 2932031007402 then (some (y124 ++ y127)) else (none)))) else (none))) else (none))) else (none))))) else (none)) else ((some (([] : List (S31)) : List (S31))).bind fun y134 => (if 0 ≤ x5 then (if x5 ≤ (x0.length : Int) then ((some (x0.take (x5 : Int).toNat : List (S31))).bind fun y137 => (if y134.length + y137.length < 2932031007402 then ((some (y134 ++ y137 : List (S31))).bind fun y141 => (if y141.length < 2932031007402 then ((some (y141 ++ [(⟨x112000, x112001, x112002, x112003⟩ : S31)] : List (S31))).bind fun y144 => ((some (x0.drop (x5 : Int).toNat : List (S31))).bind fun y147 => (if y144.length + y147.length < 2932031007402 then (some (y144 ++ y147)) else (none)))) else (none))) else (none))) else (none)) else (none)))
def spec_l3Put.f (k : Nat) (l0 : List (S31)) (a1_0 : ByteArray) (a1_1 : ByteArray) (a1_2 : Int) (a1_3 : Bool) : Option ((List (S31))) := spec_l3Put.l0 k l0 0 a1_0 a1_1 a1_2 a1_3
def spec_l3Put.T2 : Bool × List (List Nat × List Nat) := (true, [([], []), ([], []), ([1], [1]), ([0, 2], [0, 2]), ([3], [3]), ([4], [4]), ([4], [4]), ([5, 6, 4], [4, 5, 6]), ([7, 4], [4, 7]), ([4], [4]), ([8, 9, 4, 4], [4, 8, 9]), ([4, 10], [4, 10])])
def spec_l3Put.B2 : List Nat := [0, 0, 2, 7, 15, 31, 31, 127, 255, 31, 1023, 2047]
theorem spec_l3Put.tab2 : rtab .any (opsOf Try.f53 2) = spec_l3Put.T2 := by kernel_rfl
theorem spec_l3Put.bits2 : waitsOk spec_l3Put.T2.2 spec_l3Put.B2 = true := by kernel_rfl
def spec_l3Put.T5 : Bool × List (List Nat × List Nat) := (true, [([], []), ([], []), ([1], [1]), ([0, 2], [0, 2]), ([], []), ([], []), ([4, 5], [4, 5]), ([3, 6, 3], [3, 6]), ([7, 7, 0, 1, 2, 3, 4, 5, 6, 7], [7])])
def spec_l3Put.B5 : List Nat := [0, 0, 2, 7, 0, 0, 48, 127, 255]
theorem spec_l3Put.tab5 : rtab .any (opsOf Try.f53 5) = spec_l3Put.T5 := by kernel_rfl
theorem spec_l3Put.bits5 : waitsOk spec_l3Put.T5.2 spec_l3Put.B5 = true := by kernel_rfl
set_option maxHeartbeats 8000000 in
set_option maxRecDepth 100000 in
theorem spec_l3Put.calls (k : Nat) (A0 : Option Addr) (c0 : Nat) (l0 : List (S31)) (a1_0 : ByteArray) (a1_1 : ByteArray) (a1_2 : Int) (a1_3 : Bool) (r : List (S31)) (w : World) (hr0 : Kd.C k31 w A0 l0.length l0) (hc0 : l0.length ≤ c0) (h : spec_l3Put.f k l0 a1_0 a1_1 a1_2 a1_3 = some r) :
  Calls Try.prog 53 #[.slice A0 l0.length c0, .agg #[.string a1_0, .string a1_1, .int .i64 a1_2, .bool a1_3]] w fun e w' => ∃ v0_ : Value, e = .returned (v0_) ∧ Kd.R k31 31 w' w.heap.size (fun _ => True) v0_ r ∧ Below w.heap.size w w' := by
 have hu31 := Try.underlying31
 have HR0 := Aside0.mk hr0
 have HC0 := Aside0.mk hc0
 clear hr0 hc0
 have HB := Aside0.mk (Below.refl w.heap.size w)
 have H : (spec_l3Put.l0 k l0 0 a1_0 a1_1 a1_2 a1_3) = some r := h
 clear h
 have H' := Aside0.mk H
 clear H
 go_enter Try.func53, Try.ntmps53
 go_wp2_with (first | ((with_reducible refine gate_dst (N := 3) rfl ?_); refine box_event ?hg (N := 3) ?hd (cs := #[.string a1_0, .string a1_1, .int .i64 a1_2, .bool a1_3]) (t := 31) ?hr ?_; (case hd => rfl); (case hg => rfl); (case hr => first | (go_simp; done) | (go_simp; rfl)); intro gb111 hg w3 hbox hb; have n0_ := Aside0.mk (below_step (by repeat (first | (with_reducible first | exact HB.out | apply below_alloc | apply pw_below_drewN | apply below_drew1) | exact HB.out)) hb); have n1_ := Aside0.mk (hbox); have n2_ := Aside0.mk ((by rw [hg]; exact (below_size (by repeat (first | (with_reducible first | exact HB.out | apply below_alloc | apply pw_below_drewN | apply below_drew1) | exact HB.out))) : w.heap.size ≤ gb111)); have n3_ := Aside0.mk ((by rw [hg]; exact (below_size (by repeat (first | (with_reducible first | exact HB.out | apply below_alloc | apply pw_below_drewN | apply below_drew1) | exact HB.out))) : w.heap.size ≤ gb111)); clear HB; have HB := n0_; have BK111 := n1_; have GW111 := n2_; have GE111 := n3_; clear n0_ n1_ n2_ n3_; clear hb hbox hg))
 go_loopg [5] k (fun kq v5 w' => ∃ (x5_1 : Int), v5 = .int .i64 x5_1 ∧ Aside0 (spec_l3Put.l0 kq l0 x5_1 a1_0 a1_1 a1_2 a1_3 = some r) ∧ Aside0 (kq ≤ k) ∧ Aside0 (w'.heap[gb111]? = some (.cells #[.string a1_0, .string a1_1, .int .i64 a1_2, .bool a1_3] 31 (0, 0))) ∧ Aside0 (Below w.heap.size w w'))
 case atStart => exact ⟨(0), (by first | rfl | (simp; done) | (simp [*]; done)), H', ⟨Nat.le_refl _⟩, ⟨by (with_reducible repeat (first | refine blk_drewN ?_ _ | refine blk_drew ?_ | refine blk_alloc ?_ _)); exact BK111.out⟩, ⟨by repeat (first | (with_reducible first | exact HB.out | apply below_alloc | apply pw_below_drewN | apply below_drew1 | refine below_set ?_ GE111.out) | exact HB.out)⟩⟩
 case round =>
  clear H'
  try clear p2
  obtain ⟨x5_1, rfl, HA, HK1, BK111, HB⟩ := hrel
  cases gk with
  | zero => exact absurd HA.out (by simp [spec_l3Put.l0])
  | succ k1 =>
   have H := HA.out
   clear HA
   simp only [spec_l3Put.l0] at H
   by_cases c4 : x5_1 < (l0.length : Int)
   {
   rw [if_pos c4] at H
   have c4b0 : decide (x5_1 < (l0.length : Int)) = true := decide_eq_true c4
   clear c4
   by_cases c5 : 0 ≤ x5_1
   {
   rw [if_pos c5] at H
   have c5b0 : decide (0 ≤ x5_1) = true := decide_eq_true c5
   clear c5
   replace H := Option.bind_eq_some_iff.mp H
   obtain ⟨t113, A60, H⟩ := H
   replace H : (if t113 = true then (spec_l3Put.l0 k1 l0 (wrap64 (x5_1 + 1)) a1_0 a1_1 a1_2 a1_3) else ((some (([] : List (S31)) : List (S31))).bind fun y114 => (if x5_1 ≤ (l0.length : Int) then ((some (l0.take (x5_1 : Int).toNat : List (S31))).bind fun y117 => (if y114.length + y117.length < 2932031007402 then ((some (y114 ++ y117 : List (S31))).bind fun y121 => (if y121.length < 2932031007402 then ((some (y121 ++ [(⟨a1_0, a1_1, a1_2, a1_3⟩ : S31)] : List (S31))).bind fun y124 => ((some (l0.drop (x5_1 : Int).toNat : List (S31))).bind fun y127 => (if y124.length + y127.length < 2932031007402 then (some (y124 ++ y127)) else (none)))) else (none))) else (none))) else (none)))) = some r := H
   have A6 := Aside0.mk A60
   clear A60
   by_cases c7 : t113 = true
   {
   subst c7
   have H1 : (spec_l3Put.l0 k1 l0 (wrap64 (x5_1 + 1)) a1_0 a1_1 a1_2 a1_3) = some r := by rw [if_pos rfl] at H; exact H
   clear H
   have H := H1
   clear H1
   have H' := Aside0.mk H
   clear H
   try go_wp2
   have n0_ := Aside0.mk (blk_drew BK111.out)
   have n1_ := Aside0.mk (below_drew1 HB.out)
   clear BK111
   clear HB
   have BK111 := n0_
   have HB := n1_
   clear n0_ n1_
   have p112 : 0 ≤ (x5_1 : Int) := of_decide_eq_true z53d
   have q112 : x5_1 < (l0.length : Int) := of_decide_eq_true z53d
   obtain ⟨ad112, e112, hx112_0, hx112_1, hx112_2, hx112_3⟩ := at_T31 HR0.out x5_1 p112 q112
   have hw112_3 := hx112_3
   have hw112_2 := hx112_2
   have hw112_1 := hx112_1
   have hw112_0 := hx112_0
   cases e112
   replace hx112_0 := (HB.out.cell (World.block_lt_of_cell? w _ hx112_0)).trans hx112_0
   replace hx112_1 := (HB.out.cell (World.block_lt_of_cell? w _ hx112_1)).trans hx112_1
   replace hx112_2 := (HB.out.cell (World.block_lt_of_cell? w _ hx112_2)).trans hx112_2
   replace hx112_3 := (HB.out.cell (World.block_lt_of_cell? w _ hx112_3)).trans hx112_3
   replace p112 := eq_true p112
   replace q112 := eq_true q112
   refine start_ (n := 12) (S := fun w' => w'.cell? ⟨gb111, 0, none⟩ = some (.string a1_0) ∧ w'.cell? ⟨gb111, 1, none⟩ = some (.string a1_1) ∧ w'.cell? ⟨gb111, 2, none⟩ = some (.int .i64 a1_2) ∧ w'.cell? ⟨gb111, 3, none⟩ = some (.bool a1_3) ∧ w'.cell? (ad112.add ((x5_1).toNat * 4)) = some (.string ((rd_T31 l0 x5_1).f0)) ∧ w'.cell? ⟨(ad112.add ((x5_1).toNat * 4)).block, (ad112.add ((x5_1).toNat * 4)).off + 1, none⟩ = some (.string ((rd_T31 l0 x5_1).f1)) ∧ w'.cell? ⟨(ad112.add ((x5_1).toNat * 4)).block, (ad112.add ((x5_1).toNat * 4)).off + 2, none⟩ = some (.int .i64 ((rd_T31 l0 x5_1).f2)) ∧ w'.cell? ⟨(ad112.add ((x5_1).toNat * 4)).block, (ad112.add ((x5_1).toNat * 4)).off + 3, none⟩ = some (.bool ((rd_T31 l0 x5_1).f3))) (ds := []) #[X, X, X, X, X, X, X, X, X, X, X, X] (by kernel_rfl) rfl rfl ⟨(blk_cell BK111.out 0).trans rfl, (blk_cell BK111.out 1).trans rfl, (blk_cell BK111.out 2).trans rfl, (blk_cell BK111.out 3).trans rfl, ((HB.out.cell (World.block_lt_of_cell? w _ hw112_0)).trans hw112_0), ((HB.out.cell (World.block_lt_of_cell? w _ hw112_1)).trans hw112_1), ((HB.out.cell (World.block_lt_of_cell? w _ hw112_2)).trans hw112_2), ((HB.out.cell (World.block_lt_of_cell? w _ hw112_3)).trans hw112_3)⟩ (fun hHeld => ?_); refine with_tabW spec_l3Put.tab2 spec_l3Put.bits2 (fun HT_ HW_ => ?_)
   generalize wr.drew = w8 at BK111 HB hx112_0 hx112_1 hx112_2 hx112_3 hHeld ⊢
   refine pure_ (i := 0) (N := some 7) (v := _) (a' := _) #[Y, X, X, X, X, X, X, X, X, X, X, X] rfl rfl (any_of HT_.out (by kernel_rfl)) (fun _ _ _ h => h) (Or.inl ⟨by rfl, (by intro w'; go_simp; with_reducible rfl)⟩) z53a ?_
   refine pure_ (i := 1) (N := some 8) (v := _) (a' := _) #[Y, Y, X, X, X, X, X, X, X, X, X, X] rfl rfl (any_of HT_.out (by kernel_rfl)) (fun _ _ _ h => h) (Or.inl ⟨by rfl, (by intro w'; go_simp; with_reducible rfl)⟩) z53a ?_
   refine pure_ (i := 2) (N := some 9) (v := _) (a' := _) #[Y, Y, Y, X, X, X, X, X, X, X, X, X] rfl rfl (any_of HT_.out (by kernel_rfl)) (fun _ _ _ h => h) (Or.inl ⟨by rfl, (by intro w'; go_simp; with_reducible rfl)⟩) z53a ?_
   refine pure_ (i := 3) (N := some 10) (v := _) (a' := _) #[Y, Y, Y, Y, X, X, X, X, X, X, X, X] rfl rfl (any_of HT_.out (by kernel_rfl)) (fun _ _ _ h => h) (Or.inl ⟨by rfl, (by intro w'; go_simp; with_reducible rfl)⟩) z53a ?_
   refine pure_ (i := 4) (N := some 11) (v := _) (a' := _) #[Y, Y, Y, Y, Y, X, X, X, X, X, X, X] rfl rfl (any_of HT_.out (by kernel_rfl)) (fun _ _ _ h => h) (Or.inl ⟨by rfl, (by intro w'; go_simp; with_reducible rfl)⟩) z53a ?_
   refine pure_ (i := 5) (N := some 12) (v := _) (a' := _) #[Y, Y, Y, Y, Y, Y, X, X, X, X, X, X] rfl rfl (any_of HT_.out (by kernel_rfl)) (fun _ _ _ h => h) (Or.inl ⟨by rfl, (by intro w'; go_simp; with_reducible rfl)⟩) z53a ?_
   refine pure_ (i := 6) (N := some 13) (v := _) (a' := _) #[Y, Y, Y, Y, Y, Y, Y, X, X, X, X, X] rfl rfl (any_of HT_.out (by kernel_rfl)) (fun _ _ _ h => h) (Or.inl ⟨by rfl, (by intro w'; go_simp; with_reducible rfl)⟩) z53a ?_
   refine pure_ (i := 7) (N := some 14) (v := _) (a' := _) #[Y, Y, Y, Y, Y, Y, Y, Y, X, X, X, X] rfl rfl (any_of HT_.out (by kernel_rfl)) (fun _ _ _ h => h) (Or.inl ⟨by rfl, (by intro w'; go_simp; with_reducible rfl)⟩) z53a ?_
   refine take_ (i := 8) (N := some 15) (v := _) (a' := _) #[Y, Y, Y, Y, Y, Y, Y, Y, Y, X, X, X] rfl rfl (take_ofW HT_.out HW_.out (by kernel_rfl)) (fun _ _ _ h => h) (Or.inl ⟨by rfl, (by rintro w' ⟨s0, s1, s2, s3, s4, s5, s6, s7⟩; go_simp; with_reducible rfl)⟩) hHeld z53a ?_
   refine take_ (i := 9) (N := some 16) (v := _) (a' := _) #[Y, Y, Y, Y, Y, Y, Y, Y, Y, Y, X, X] rfl rfl (take_ofW HT_.out HW_.out (by kernel_rfl)) (fun _ _ _ h => h) (Or.inl ⟨by rfl, (by rintro w' ⟨s0, s1, s2, s3, s4, s5, s6, s7⟩; go_simp; with_reducible rfl)⟩) hHeld z53a ?_
   refine one_ (i := 10) (N := some 17) #[Y, Y, Y, Y, Y, Y, Y, Y, Y, Y, Y, X] rfl rfl (one_of HT_.out (by kernel_rfl)) (by decide) (fun K hK => ?_)
   refine goes_ Try.func66 (by kernel_rfl) rfl #[.agg #[.string ((rd_T31 l0 x5_1).f0), .string ((rd_T31 l0 x5_1).f1), .int .i64 ((rd_T31 l0 x5_1).f2), .bool ((rd_T31 l0 x5_1).f3)], .agg #[.string a1_0, .string a1_1, .int .i64 a1_2, .bool a1_3]] (by rfl) rfl rfl (by (try simp only [List.map_toArray, List.map_cons, List.map_nil]); first | done | rfl | (simp only [List.length_drop, List.length_take]; rfl)) ?_
   with_reducible refine (spec_l3Ahead.calls ((rd_T31 l0 x5_1).f0) ((rd_T31 l0 x5_1).f1) ((rd_T31 l0 x5_1).f2) ((rd_T31 l0 x5_1).f3) a1_0 a1_1 a1_2 a1_3 true _ A6.out).mono ?_
   rintro e w9 ⟨rfl, hb⟩
   refine ⟨_, rfl, ?_⟩
   have n0_ := Aside0.mk (blk_below (g := gb111) (o := .cells #[.string a1_0, .string a1_1, .int .i64 a1_2, .bool a1_3] 31 (0, 0)) z53c hb)
   have n1_ := Aside0.mk (below_step z53b hb)
   clear BK111
   clear HB
   have BK111 := n0_
   have HB := n1_
   clear n0_ n1_
   (try clear hb)
   (try clear hb2)
   (try clear hk)
   (try clear hi)
   refine hK.out _ _ ⟨(blk_cell BK111.out 0).trans rfl, (blk_cell BK111.out 1).trans rfl, (blk_cell BK111.out 2).trans rfl, (blk_cell BK111.out 3).trans rfl, ((HB.out.cell (World.block_lt_of_cell? w _ hw112_0)).trans hw112_0), ((HB.out.cell (World.block_lt_of_cell? w _ hw112_1)).trans hw112_1), ((HB.out.cell (World.block_lt_of_cell? w _ hw112_2)).trans hw112_2), ((HB.out.cell (World.block_lt_of_cell? w _ hw112_3)).trans hw112_3)⟩ (fun hHeld => ?_)
   clear hK K
   refine norm_ (a' := ?_) ?_ ?_
   rotate_left
   {
   show Act.put _ (some 17) _ = _
   simp only [Act.put, List.setIfInBounds_toArray, List.set_cons_zero, List.set_cons_succ, i64_w, i32_w]
   rfl
   }
   refine pure_ (i := 11) (N := some 18) (v := _) (a' := _) #[Y, Y, Y, Y, Y, Y, Y, Y, Y, Y, Y, Y] rfl rfl (any_of HT_.out (by kernel_rfl)) (fun _ _ _ h => h) (Or.inl ⟨by rfl, (by intro w'; go_simp; with_reducible rfl)⟩) z53a ?_
   refine done_ (done_of HT_.out (by kernel_rfl)) ?_
   try go_wp2
   go_roundg k1
   case measure => have := HK1.out; omega
   case rel => exact ⟨(wrap64 (x5_1 + 1)), (by first | rfl | (simp; done) | (simp [*]; done)), H', ⟨by have := HK1.out; omega⟩, ⟨by (with_reducible repeat (first | refine blk_drewN ?_ _ | refine blk_drew ?_ | refine blk_alloc ?_ _)); exact BK111.out⟩, ⟨by repeat (first | (with_reducible first | exact HB.out | apply below_alloc | apply pw_below_drewN | apply below_drew1 | refine below_set ?_ GE111.out) | exact HB.out)⟩⟩
   }
   {
   replace c7 := Bool.eq_false_iff.mpr c7
   subst c7
   have H1 : ((some (([] : List (S31)) : List (S31))).bind fun y114 => (if x5_1 ≤ (l0.length : Int) then ((some (l0.take (x5_1 : Int).toNat : List (S31))).bind fun y117 => (if y114.length + y117.length < 2932031007402 then ((some (y114 ++ y117 : List (S31))).bind fun y121 => (if y121.length < 2932031007402 then ((some (y121 ++ [(⟨a1_0, a1_1, a1_2, a1_3⟩ : S31)] : List (S31))).bind fun y124 => ((some (l0.drop (x5_1 : Int).toNat : List (S31))).bind fun y127 => (if y124.length + y127.length < 2932031007402 then (some (y124 ++ y127)) else (none)))) else (none))) else (none))) else (none))) = some r := by rw [if_neg (show ¬ (false = true) by decide)] at H; exact H
   clear H
   have H := H1
   clear H1
   obtain ⟨y114, hy114⟩ : ∃ y_ : List (S31), y_ = (([] : List (S31))) := ⟨_, rfl⟩
   replace H : (if x5_1 ≤ (l0.length : Int) then ((some (l0.take (x5_1 : Int).toNat : List (S31))).bind fun y117 => (if y114.length + y117.length < 2932031007402 then ((some (y114 ++ y117 : List (S31))).bind fun y121 => (if y121.length < 2932031007402 then ((some (y121 ++ [(⟨a1_0, a1_1, a1_2, a1_3⟩ : S31)] : List (S31))).bind fun y124 => ((some (l0.drop (x5_1 : Int).toNat : List (S31))).bind fun y127 => (if y124.length + y127.length < 2932031007402 then (some (y124 ++ y127)) else (none)))) else (none))) else (none))) else (none)) = some r := by first | (rw [hy114]; with_reducible exact H) | (have H2_ := (Option.bind_some _ _).symm.trans H; rw [hy114]; with_reducible exact H2_) | (have H2_ := (Option.bind_some _ _).symm.trans H; with_reducible exact H2_) | with_reducible exact H | (rw [hy114]; exact H) | exact H
   have Ny114 := Aside0.mk hy114
   clear hy114
   have c10b0 := eq_true (of_decide_eq_true z53d : 0 ≤ x5_1)
   by_cases c11 : x5_1 ≤ (l0.length : Int)
   {
   rw [if_pos c11] at H
   have c11b0 := eq_true c11
   have c11b1 : decide (x5_1 ≤ (l0.length : Int)) = true := decide_eq_true c11
   clear c11
   obtain ⟨y117, hy117⟩ : ∃ y_ : List (S31), y_ = (l0.take (x5_1 : Int).toNat) := ⟨_, rfl⟩
   replace H : (if y114.length + y117.length < 2932031007402 then ((some (y114 ++ y117 : List (S31))).bind fun y121 => (if y121.length < 2932031007402 then ((some (y121 ++ [(⟨a1_0, a1_1, a1_2, a1_3⟩ : S31)] : List (S31))).bind fun y124 => ((some (l0.drop (x5_1 : Int).toNat : List (S31))).bind fun y127 => (if y124.length + y127.length < 2932031007402 then (some (y124 ++ y127)) else (none)))) else (none))) else (none)) = some r := by first | (rw [hy117]; with_reducible exact H) | (have H2_ := (Option.bind_some _ _).symm.trans H; rw [hy117]; with_reducible exact H2_) | (have H2_ := (Option.bind_some _ _).symm.trans H; with_reducible exact H2_) | with_reducible exact H | (rw [hy117]; exact H) | exact H
   have Ny117 := Aside0.mk hy117
   clear hy117
   by_cases c12 : y114.length + y117.length < 2932031007402
   {
   rw [if_pos c12] at H
   have LMc12 := Aside0.mk c12
   clear c12
   obtain ⟨y121, hy121⟩ : ∃ y_ : List (S31), y_ = (y114 ++ y117) := ⟨_, rfl⟩
   replace H : (if y121.length < 2932031007402 then ((some (y121 ++ [(⟨a1_0, a1_1, a1_2, a1_3⟩ : S31)] : List (S31))).bind fun y124 => ((some (l0.drop (x5_1 : Int).toNat : List (S31))).bind fun y127 => (if y124.length + y127.length < 2932031007402 then (some (y124 ++ y127)) else (none)))) else (none)) = some r := by first | (rw [hy121]; with_reducible exact H) | (have H2_ := (Option.bind_some _ _).symm.trans H; rw [hy121]; with_reducible exact H2_) | (have H2_ := (Option.bind_some _ _).symm.trans H; with_reducible exact H2_) | with_reducible exact H | (rw [hy121]; exact H) | exact H
   have Ny121 := Aside0.mk hy121
   clear hy121
   by_cases c13 : y121.length < 2932031007402
   {
   rw [if_pos c13] at H
   have LMc13 := Aside0.mk c13
   clear c13
   obtain ⟨y124, hy124⟩ : ∃ y_ : List (S31), y_ = (y121 ++ [(⟨a1_0, a1_1, a1_2, a1_3⟩ : S31)]) := ⟨_, rfl⟩
   replace H : ((some (l0.drop (x5_1 : Int).toNat : List (S31))).bind fun y127 => (if y124.length + y127.length < 2932031007402 then (some (y124 ++ y127)) else (none))) = some r := by first | (rw [hy124]; with_reducible exact H) | (have H2_ := (Option.bind_some _ _).symm.trans H; rw [hy124]; with_reducible exact H2_) | (have H2_ := (Option.bind_some _ _).symm.trans H; with_reducible exact H2_) | with_reducible exact H | (rw [hy124]; exact H) | exact H
   have Ny124 := Aside0.mk hy124
   clear hy124
   have c14b0 := eq_true (of_decide_eq_true z53d : 0 ≤ x5_1)
   have c15b0 := eq_true (of_decide_eq_true z53d : x5_1 ≤ (l0.length : Int))
   obtain ⟨y127, hy127⟩ : ∃ y_ : List (S31), y_ = (l0.drop (x5_1 : Int).toNat) := ⟨_, rfl⟩
   replace H : (if y124.length + y127.length < 2932031007402 then (some (y124 ++ y127)) else (none)) = some r := by first | (rw [hy127]; with_reducible exact H) | (have H2_ := (Option.bind_some _ _).symm.trans H; rw [hy127]; with_reducible exact H2_) | (have H2_ := (Option.bind_some _ _).symm.trans H; with_reducible exact H2_) | with_reducible exact H | (rw [hy127]; exact H) | exact H
   have Ny127 := Aside0.mk hy127
   clear hy127
   by_cases c16 : y124.length + y127.length < 2932031007402
   {
   rw [if_pos c16] at H
   have LMc16 := Aside0.mk c16
   clear c16
   obtain ⟨y131, hy131⟩ : ∃ y_ : List (S31), y_ = (y124 ++ y127) := ⟨_, rfl⟩
   replace H : (some y131) = some r := by first | (rw [hy131]; with_reducible exact H) | (have H2_ := (Option.bind_some _ _).symm.trans H; rw [hy131]; with_reducible exact H2_) | (have H2_ := (Option.bind_some _ _).symm.trans H; with_reducible exact H2_) | with_reducible exact H | (rw [hy131]; exact H) | exact H
   have Ny131 := Aside0.mk hy131
   clear hy131
   obtain rfl := Option.some.inj H
   try go_wp2
   have n0_ := Aside0.mk (blk_drew BK111.out)
   have n1_ := Aside0.mk (below_drew1 HB.out)
   clear BK111
   clear HB
   have BK111 := n0_
   have HB := n1_
   clear n0_ n1_
   have p112 : 0 ≤ (x5_1 : Int) := of_decide_eq_true z53d
   have q112 : x5_1 < (l0.length : Int) := of_decide_eq_true z53d
   obtain ⟨ad112, e112, hx112_0, hx112_1, hx112_2, hx112_3⟩ := at_T31 HR0.out x5_1 p112 q112
   have hw112_3 := hx112_3
   have hw112_2 := hx112_2
   have hw112_1 := hx112_1
   have hw112_0 := hx112_0
   cases e112
   replace hx112_0 := (HB.out.cell (World.block_lt_of_cell? w _ hx112_0)).trans hx112_0
   replace hx112_1 := (HB.out.cell (World.block_lt_of_cell? w _ hx112_1)).trans hx112_1
   replace hx112_2 := (HB.out.cell (World.block_lt_of_cell? w _ hx112_2)).trans hx112_2
   replace hx112_3 := (HB.out.cell (World.block_lt_of_cell? w _ hx112_3)).trans hx112_3
   replace p112 := eq_true p112
   replace q112 := eq_true q112
   refine start_ (n := 12) (S := fun w' => w'.cell? ⟨gb111, 0, none⟩ = some (.string a1_0) ∧ w'.cell? ⟨gb111, 1, none⟩ = some (.string a1_1) ∧ w'.cell? ⟨gb111, 2, none⟩ = some (.int .i64 a1_2) ∧ w'.cell? ⟨gb111, 3, none⟩ = some (.bool a1_3) ∧ w'.cell? (ad112.add ((x5_1).toNat * 4)) = some (.string ((rd_T31 l0 x5_1).f0)) ∧ w'.cell? ⟨(ad112.add ((x5_1).toNat * 4)).block, (ad112.add ((x5_1).toNat * 4)).off + 1, none⟩ = some (.string ((rd_T31 l0 x5_1).f1)) ∧ w'.cell? ⟨(ad112.add ((x5_1).toNat * 4)).block, (ad112.add ((x5_1).toNat * 4)).off + 2, none⟩ = some (.int .i64 ((rd_T31 l0 x5_1).f2)) ∧ w'.cell? ⟨(ad112.add ((x5_1).toNat * 4)).block, (ad112.add ((x5_1).toNat * 4)).off + 3, none⟩ = some (.bool ((rd_T31 l0 x5_1).f3))) (ds := []) #[X, X, X, X, X, X, X, X, X, X, X, X] (by kernel_rfl) rfl rfl ⟨(blk_cell BK111.out 0).trans rfl, (blk_cell BK111.out 1).trans rfl, (blk_cell BK111.out 2).trans rfl, (blk_cell BK111.out 3).trans rfl, ((HB.out.cell (World.block_lt_of_cell? w _ hw112_0)).trans hw112_0), ((HB.out.cell (World.block_lt_of_cell? w _ hw112_1)).trans hw112_1), ((HB.out.cell (World.block_lt_of_cell? w _ hw112_2)).trans hw112_2), ((HB.out.cell (World.block_lt_of_cell? w _ hw112_3)).trans hw112_3)⟩ (fun hHeld => ?_); refine with_tabW spec_l3Put.tab2 spec_l3Put.bits2 (fun HT_ HW_ => ?_)
   generalize wr.drew = w17 at BK111 HB hx112_0 hx112_1 hx112_2 hx112_3 hHeld ⊢
   refine pure_ (i := 0) (N := some 7) (v := _) (a' := _) #[Y, X, X, X, X, X, X, X, X, X, X, X] rfl rfl (any_of HT_.out (by kernel_rfl)) (fun _ _ _ h => h) (Or.inl ⟨by rfl, (by intro w'; go_simp; with_reducible rfl)⟩) z53a ?_
   refine pure_ (i := 1) (N := some 8) (v := _) (a' := _) #[Y, Y, X, X, X, X, X, X, X, X, X, X] rfl rfl (any_of HT_.out (by kernel_rfl)) (fun _ _ _ h => h) (Or.inl ⟨by rfl, (by intro w'; go_simp; with_reducible rfl)⟩) z53a ?_
   refine pure_ (i := 2) (N := some 9) (v := _) (a' := _) #[Y, Y, Y, X, X, X, X, X, X, X, X, X] rfl rfl (any_of HT_.out (by kernel_rfl)) (fun _ _ _ h => h) (Or.inl ⟨by rfl, (by intro w'; go_simp; with_reducible rfl)⟩) z53a ?_
   refine pure_ (i := 3) (N := some 10) (v := _) (a' := _) #[Y, Y, Y, Y, X, X, X, X, X, X, X, X] rfl rfl (any_of HT_.out (by kernel_rfl)) (fun _ _ _ h => h) (Or.inl ⟨by rfl, (by intro w'; go_simp; with_reducible rfl)⟩) z53a ?_
   refine pure_ (i := 4) (N := some 11) (v := _) (a' := _) #[Y, Y, Y, Y, Y, X, X, X, X, X, X, X] rfl rfl (any_of HT_.out (by kernel_rfl)) (fun _ _ _ h => h) (Or.inl ⟨by rfl, (by intro w'; go_simp; with_reducible rfl)⟩) z53a ?_
   refine pure_ (i := 5) (N := some 12) (v := _) (a' := _) #[Y, Y, Y, Y, Y, Y, X, X, X, X, X, X] rfl rfl (any_of HT_.out (by kernel_rfl)) (fun _ _ _ h => h) (Or.inl ⟨by rfl, (by intro w'; go_simp; with_reducible rfl)⟩) z53a ?_
   refine pure_ (i := 6) (N := some 13) (v := _) (a' := _) #[Y, Y, Y, Y, Y, Y, Y, X, X, X, X, X] rfl rfl (any_of HT_.out (by kernel_rfl)) (fun _ _ _ h => h) (Or.inl ⟨by rfl, (by intro w'; go_simp; with_reducible rfl)⟩) z53a ?_
   refine pure_ (i := 7) (N := some 14) (v := _) (a' := _) #[Y, Y, Y, Y, Y, Y, Y, Y, X, X, X, X] rfl rfl (any_of HT_.out (by kernel_rfl)) (fun _ _ _ h => h) (Or.inl ⟨by rfl, (by intro w'; go_simp; with_reducible rfl)⟩) z53a ?_
   refine take_ (i := 8) (N := some 15) (v := _) (a' := _) #[Y, Y, Y, Y, Y, Y, Y, Y, Y, X, X, X] rfl rfl (take_ofW HT_.out HW_.out (by kernel_rfl)) (fun _ _ _ h => h) (Or.inl ⟨by rfl, (by rintro w' ⟨s0, s1, s2, s3, s4, s5, s6, s7⟩; go_simp; with_reducible rfl)⟩) hHeld z53a ?_
   refine take_ (i := 9) (N := some 16) (v := _) (a' := _) #[Y, Y, Y, Y, Y, Y, Y, Y, Y, Y, X, X] rfl rfl (take_ofW HT_.out HW_.out (by kernel_rfl)) (fun _ _ _ h => h) (Or.inl ⟨by rfl, (by rintro w' ⟨s0, s1, s2, s3, s4, s5, s6, s7⟩; go_simp; with_reducible rfl)⟩) hHeld z53a ?_
   refine one_ (i := 10) (N := some 17) #[Y, Y, Y, Y, Y, Y, Y, Y, Y, Y, Y, X] rfl rfl (one_of HT_.out (by kernel_rfl)) (by decide) (fun K hK => ?_)
   refine goes_ Try.func66 (by kernel_rfl) rfl #[.agg #[.string ((rd_T31 l0 x5_1).f0), .string ((rd_T31 l0 x5_1).f1), .int .i64 ((rd_T31 l0 x5_1).f2), .bool ((rd_T31 l0 x5_1).f3)], .agg #[.string a1_0, .string a1_1, .int .i64 a1_2, .bool a1_3]] (by rfl) rfl rfl (by (try simp only [List.map_toArray, List.map_cons, List.map_nil]); first | done | rfl | (simp only [List.length_drop, List.length_take]; rfl)) ?_
   with_reducible refine (spec_l3Ahead.calls ((rd_T31 l0 x5_1).f0) ((rd_T31 l0 x5_1).f1) ((rd_T31 l0 x5_1).f2) ((rd_T31 l0 x5_1).f3) a1_0 a1_1 a1_2 a1_3 false _ A6.out).mono ?_
   rintro e w18 ⟨rfl, hb⟩
   refine ⟨_, rfl, ?_⟩
   have n0_ := Aside0.mk (blk_below (g := gb111) (o := .cells #[.string a1_0, .string a1_1, .int .i64 a1_2, .bool a1_3] 31 (0, 0)) z53c hb)
   have n1_ := Aside0.mk (below_step z53b hb)
   clear BK111
   clear HB
   have BK111 := n0_
   have HB := n1_
   clear n0_ n1_
   (try clear hb)
   (try clear hb2)
   (try clear hk)
   (try clear hi)
   refine hK.out _ _ ⟨(blk_cell BK111.out 0).trans rfl, (blk_cell BK111.out 1).trans rfl, (blk_cell BK111.out 2).trans rfl, (blk_cell BK111.out 3).trans rfl, ((HB.out.cell (World.block_lt_of_cell? w _ hw112_0)).trans hw112_0), ((HB.out.cell (World.block_lt_of_cell? w _ hw112_1)).trans hw112_1), ((HB.out.cell (World.block_lt_of_cell? w _ hw112_2)).trans hw112_2), ((HB.out.cell (World.block_lt_of_cell? w _ hw112_3)).trans hw112_3)⟩ (fun hHeld => ?_)
   clear hK K
   refine norm_ (a' := ?_) ?_ ?_
   rotate_left
   {
   show Act.put _ (some 17) _ = _
   simp only [Act.put, List.setIfInBounds_toArray, List.set_cons_zero, List.set_cons_succ, i64_w, i32_w]
   rfl
   }
   refine pure_ (i := 11) (N := some 18) (v := _) (a' := _) #[Y, Y, Y, Y, Y, Y, Y, Y, Y, Y, Y, Y] rfl rfl (any_of HT_.out (by kernel_rfl)) (fun _ _ _ h => h) (Or.inl ⟨by rfl, (by intro w'; go_simp; with_reducible rfl)⟩) z53a ?_
   refine done_ (done_of HT_.out (by kernel_rfl)) ?_
   try go_wp2_with (first | ((with_reducible refine gate_dst (N := 21) rfl ?_); refine Kd.R_lit k31 _ 31 ?hg (N := 21) ?hd (xs := ([] : List (S31))) (inner := []) (ok := fun _ => True) (okp := fun _ => True) ?hr ?hp (fun _ hk => hk) trivial (Below.refl _ _) (Nat.le_refl _) (by simp) ?_; (case hd => rfl); (case hg => rfl); (case hr => first | (go_simp; done) | (go_simp; rfl)); (case hp => exact (Reps.none _ _)); intro v115 w19 ho20 hb hg_ hnew_; clear hg_ hnew_; (first | rw [← Ny114.out] at ho20 | (simp only [Int.reduceToNat] at ho20; rw [← Ny114.out] at ho20)); have n0_ := Aside0.mk (Kd.R_lower (Kd.R_newB ho20 (g := gb111) (o := .cells #[.string a1_0, .string a1_1, .int .i64 a1_2, .bool a1_3] 31 (0, 0)) z53c) (below_size z53b)); have n1_ := Aside0.mk (blk_below (g := gb111) (o := .cells #[.string a1_0, .string a1_1, .int .i64 a1_2, .bool a1_3] 31 (0, 0)) z53c hb); have n2_ := Aside0.mk (below_step z53b hb); clear BK111; clear HB; have HO116 := n0_; have BK111 := n1_; have HB := n2_; clear n0_ n1_ n2_; clear hb ho20; have q21 : (x5_1 : Int) ≤ ((l0.length : Int) : Int) := of_decide_eq_true z53d; obtain ⟨i021, hi021, _, hsz21, _⟩ := info_parts info31; have hroom21 : l0.length ≤ c0 := HC0.out; have hC21 : Kd.C k31 _ (some ad112) l0.length l0 := HR0.out; have hcut21 := cut_to (P := Try.prog) 27 31 .i64 Try.underlying27 hi021 (some ad112) l0.length c0 x5_1 (of_decide_eq_true z53d) q21 hroom21; have hr21 := Kd.C_take (m := (x5_1 : Int).toNat) hC21 (by omega); have hy21 : y117.length = (x5_1 : Int).toNat := (by rw [Ny117.out, List.length_take]; omega); rw [← Ny117.out] at hr21; rw [← hy21] at hcut21; have HR120 := Aside0.mk hr21; have HC120 := Aside0.mk (show y117.length ≤ c0 from (by omega)); clear hr21 hC21 hroom21 hi021 hsz21; have KY21 := Aside0.mk hy21; clear hy21; replace q21 := eq_true q21) | ((with_reducible refine gate_builtin (b := .append) (xs := #[.tmp 21, .tmp 24]) rfl ?_); at_builtin; refine Kd.R_append_rows k31 (w0 := w) w.heap.size rfl (.tmp 21) (.tmp 24) 27 31 (.agg #[(.string ⟨#[]⟩), (.string ⟨#[]⟩), (.int .i64 0), (.bool false)]) 48 rfl Try.underlying27 info31 rfl (by decide) (by omega) v115 y114 y117 _ _ _ (fun k_ => k_ ≠ gb111) (fun _ => False) rfl rfl ?aO ?aR (fun _ _ h => h) (fun _ h => h.elim) ?aF ?aB ?aS ?aL ?_; (case aR => exact (by repeat (first | exact (Kd.C_below HR120.out HB.out) | (with_reducible refine Kd.C_alloc ?_ _) | (with_reducible refine Kd.C_drewN ?_ _) | (with_reducible refine Kd.C_drew ?_)))); (case aB => exact z53b); (case aF => exact (fun k_ hk => Kd.freshB (g := gb111) (o := .cells #[.string a1_0, .string a1_1, .int .i64 a1_2, .bool a1_3] 31 (0, 0)) z53c k_ hk)); (case aO => exact (by (with_reducible repeat (first | apply Kd.R_alloc | apply Kd.R_drewN | apply Kd.R_drew)); exact Kd.R_mono HO116.out (fun _ hk => hk.2))); (case aS => exact (below_size z53b)); (case aL => have := LMc12.out; omega); intro v122 w22 ho hb hg hat; rw [← Ny121.out] at ho; have n0_ := Aside0.mk (blk_grown (g := gb111) (o := .cells #[.string a1_0, .string a1_1, .int .i64 a1_2, .bool a1_3] 31 (0, 0)) z53c hg (Kd.R_away HO116.out (fun _ hk => hk.2))); have n1_ := Aside0.mk (hb); have n2_ := Aside0.mk (ho); clear BK111; clear HB; clear HO116; have BK111 := n0_; have HB := n1_; have HO123 := n2_; clear n0_ n1_ n2_; clear ho hb hg hat))
   have n0_ := Aside0.mk (Kd.R_drew HO123.out)
   have n1_ := Aside0.mk (blk_drew BK111.out)
   have n2_ := Aside0.mk (below_drew1 HB.out)
   clear HO123
   clear BK111
   clear HB
   have HO123 := n0_
   have BK111 := n1_
   have HB := n2_
   clear n0_ n1_ n2_
   have q24 : (x5_1 : Int) ≤ ((l0.length : Int) : Int) := of_decide_eq_true z53d
   obtain ⟨i024, hi024, _, hsz24, _⟩ := info_parts info31
   have hroom24 : l0.length ≤ c0 := HC0.out
   have hC24 : Kd.C k31 _ (some ad112) l0.length l0 := HR0.out
   have q024 : (0 : Int) ≤ (x5_1 : Int) := of_decide_eq_true z53d
   have hcut24 := cut_from (P := Try.prog) 27 31 .i64 Try.underlying27 hi024 4 hsz24 (some ad112) l0.length c0 x5_1 q024 q24
   have hr24 := Kd.C_drop (m := (x5_1 : Int).toNat) (c := c0) hC24 (by omega) hroom24
   obtain ⟨A24, hA24⟩ : ∃ A1, A1 = (if c0 = (x5_1 : Int).toNat then (some ad112) else ((some ad112) : Option Addr).map (·.add ((x5_1 : Int).toNat * 4))) := ⟨_, rfl⟩
   obtain ⟨c24, hc24⟩ : ∃ c1, c1 = c0 - (x5_1 : Int).toNat := ⟨_, rfl⟩
   have hy24 : y127.length = l0.length - (x5_1 : Int).toNat := (by rw [Ny127.out, List.length_drop] <;> omega)
   rw [show (l0).drop (x5_1 : Int).toNat = y127 from Ny127.out.symm] at hr24
   replace hr24 : Kd.C k31 _ A24 y127.length y127 := (by rw [hA24]; exact hr24)
   rw [← hy24, ← hA24, ← hc24] at hcut24
   have HR130 := Aside0.mk hr24
   have HC130 := Aside0.mk (show y127.length ≤ c24 from (by rw [hy24, hc24]; exact Nat.sub_le_sub_right hroom24 _))
   clear hr24 hC24 hroom24 hi024 hsz24 hc24
   have KY24 := Aside0.mk hy24
   have KA24 := Aside0.mk hA24
   clear hy24 hA24
   replace q24 := eq_true q24
   refine start_ (n := 9) (S := fun w' => w'.cell? ⟨gb111, 0, none⟩ = some (.string a1_0) ∧ w'.cell? ⟨gb111, 1, none⟩ = some (.string a1_1) ∧ w'.cell? ⟨gb111, 2, none⟩ = some (.int .i64 a1_2) ∧ w'.cell? ⟨gb111, 3, none⟩ = some (.bool a1_3)) (ds := []) #[X, X, X, X, X, X, X, X, X] (by kernel_rfl) rfl rfl ⟨(blk_cell BK111.out 0).trans rfl, (blk_cell BK111.out 1).trans rfl, (blk_cell BK111.out 2).trans rfl, (blk_cell BK111.out 3).trans rfl⟩ (fun hHeld => ?_); refine with_tabW spec_l3Put.tab5 spec_l3Put.bits5 (fun HT_ HW_ => ?_)
   generalize w22.drew = w23 at HO123 BK111 HB HR130 hHeld ⊢
   refine pure_ (i := 0) (N := some 26) (v := _) (a' := _) #[Y, X, X, X, X, X, X, X, X] rfl rfl (any_of HT_.out (by kernel_rfl)) (fun _ _ _ h => h) (Or.inl ⟨by rfl, (by intro w'; go_simp; with_reducible rfl)⟩) z53a ?_
   refine pure_ (i := 4) (N := some 30) (v := _) (a' := _) #[Y, X, X, X, Y, X, X, X, X] rfl rfl (any_of HT_.out (by kernel_rfl)) (fun _ _ _ h => h) (Or.inl ⟨by rfl, (by intro w'; go_simp; with_reducible rfl)⟩) z53a ?_
   refine pure_ (i := 5) (N := some 31) (v := _) (a' := _) #[Y, X, X, X, Y, Y, X, X, X] rfl rfl (any_of HT_.out (by kernel_rfl)) (fun _ _ _ h => h) (Or.inl ⟨by rfl, (by intro w'; go_simp; with_reducible rfl)⟩) z53a ?_
   refine pure_ (i := 6) (N := some 32) (v := _) (a' := _) #[Y, X, X, X, Y, Y, Y, X, X] rfl rfl (any_of HT_.out (by kernel_rfl)) (fun _ _ _ h => h) (Or.inl ⟨by rfl, (by intro w'; go_simp; with_reducible rfl)⟩) z53a ?_
   refine take_ (i := 1) (N := some 27) (v := _) (a' := _) #[Y, Y, X, X, Y, Y, Y, X, X] rfl rfl (take_ofW HT_.out HW_.out (by kernel_rfl)) (fun _ _ _ h => h) (Or.inl ⟨by rfl, (by rintro w' ⟨s0, s1, s2, s3⟩; go_simp; with_reducible rfl)⟩) hHeld z53a ?_
   refine one_ (i := 2) (N := some 28) #[Y, Y, Y, X, Y, Y, Y, X, X] rfl rfl (one_of HT_.out (by kernel_rfl)) (by decide) (fun K hK => ?_)
   refine value_ (w1 := ?_) (v := ?_) (by rfl) rfl ?_ ?_
   rotate_left 2
   {
   go_simp
   constructor
   {
   rfl
   }
   {
   rfl
   }
   }
   refine hK.out _ _ ⟨(blk_cell (blk_alloc BK111.out _) 0).trans rfl, (blk_cell (blk_alloc BK111.out _) 1).trans rfl, (blk_cell (blk_alloc BK111.out _) 2).trans rfl, (blk_cell (blk_alloc BK111.out _) 3).trans rfl⟩ (fun hHeld => ?_)
   clear hK K
   refine norm_ (a' := ?_) ?_ ?_
   rotate_left
   {
   show Act.put _ (some 28) _ = _
   simp only [Act.put, List.setIfInBounds_toArray, List.set_cons_zero, List.set_cons_succ, i64_w, i32_w]
   rfl
   }
   refine one_ (i := 3) (N := some 29) #[Y, Y, Y, Y, Y, Y, Y, X, X] rfl rfl (one_of HT_.out (by kernel_rfl)) (by decide) (fun K hK => ?_)
   refine Kd.R_append_step k31 (w0 := w) w.heap.size (by rfl) (.tmp 26) (.tmp 28) 27 31 (.agg #[(.string ⟨#[]⟩), (.string ⟨#[]⟩), (.int .i64 0), (.bool false)]) 48 rfl Try.underlying27 info31 rfl (by decide) (by omega) v122 y121 (⟨a1_0, a1_1, a1_2, a1_3⟩ : S31) [.string a1_0, .string a1_1, .int .i64 a1_2, .bool a1_3] (fun k_ => k_ ≠ gb111) (fun _ => False) rfl rfl ?aP (fun _ hk => hk.elim) ?aF ?aO ?aB ?aS ?aL ?_
   (case aP => exact k31_mkM _ _ _ (⟨a1_0, a1_1, a1_2, a1_3⟩ : S31))
   (case aB => exact z53b)
   (case aF => exact (fun k_ hk => Kd.freshB (g := gb111) (o := .cells #[.string a1_0, .string a1_1, .int .i64 a1_2, .bool a1_3] 31 (0, 0)) z53c k_ hk))
   (case aO => exact (by (with_reducible repeat (first | apply Kd.R_alloc | apply Kd.R_drewN | apply Kd.R_drew)); exact HO123.out))
   (case aS => exact (below_size z53b))
   (case aL => have := LMc13.out; omega)
   intro v125 w25 ho hb hg hat
   rw [← Ny124.out] at ho
   have n0_ := Aside0.mk (blk_grown (g := gb111) (o := .cells #[.string a1_0, .string a1_1, .int .i64 a1_2, .bool a1_3] 31 (0, 0)) z53c hg (Kd.R_away HO123.out (fun _ hk => hk)))
   have n1_ := Aside0.mk (hb)
   have n2_ := Aside0.mk (ho)
   clear BK111
   clear HB
   clear HO123
   have BK111 := n0_
   have HB := n1_
   have HO126 := n2_
   clear n0_ n1_ n2_
   clear ho hb hg hat
   refine hK.out _ _ ⟨(blk_cell BK111.out 0).trans rfl, (blk_cell BK111.out 1).trans rfl, (blk_cell BK111.out 2).trans rfl, (blk_cell BK111.out 3).trans rfl⟩ (fun hHeld => ?_)
   clear hK K
   refine norm_ (a' := ?_) ?_ ?_
   rotate_left
   {
   show Act.put _ (some 29) _ = _
   simp only [Act.put, List.setIfInBounds_toArray, List.set_cons_zero, List.set_cons_succ, i64_w, i32_w]
   rfl
   }
   refine one_ (i := 7) (N := some 33) #[Y, Y, Y, Y, Y, Y, Y, Y, X] rfl rfl (one_of HT_.out (by kernel_rfl)) (by decide) (fun K hK => ?_)
   refine Kd.R_append_rows_step k31 (w0 := w) w.heap.size (by rfl) (.tmp 29) (.tmp 32) 27 31 (.agg #[(.string ⟨#[]⟩), (.string ⟨#[]⟩), (.int .i64 0), (.bool false)]) 48 rfl Try.underlying27 info31 rfl (by decide) (by omega) v125 y124 y127 _ _ _ (fun k_ => k_ ≠ gb111) (fun _ => False) rfl rfl ?aO ?aR (fun _ _ h => h) (fun _ h => h.elim) ?aF ?aB ?aS ?aL ?_
   (case aR => exact (by repeat (first | exact (Kd.C_below HR130.out HB.out) | (with_reducible refine Kd.C_alloc ?_ _) | (with_reducible refine Kd.C_drewN ?_ _) | (with_reducible refine Kd.C_drew ?_))))
   (case aB => exact z53b)
   (case aF => exact (fun k_ hk => Kd.freshB (g := gb111) (o := .cells #[.string a1_0, .string a1_1, .int .i64 a1_2, .bool a1_3] 31 (0, 0)) z53c k_ hk))
   (case aO => exact (by (with_reducible repeat (first | apply Kd.R_alloc | apply Kd.R_drewN | apply Kd.R_drew)); exact HO126.out))
   (case aS => exact (below_size z53b))
   (case aL => have := LMc16.out; omega)
   intro v132 w26 ho hb hg hat
   rw [← Ny131.out] at ho
   have n0_ := Aside0.mk (blk_grown (g := gb111) (o := .cells #[.string a1_0, .string a1_1, .int .i64 a1_2, .bool a1_3] 31 (0, 0)) z53c hg (Kd.R_away HO126.out (fun _ hk => hk)))
   have n1_ := Aside0.mk (hb)
   have n2_ := Aside0.mk (ho)
   clear BK111
   clear HB
   clear HO126
   have BK111 := n0_
   have HB := n1_
   have HO133 := n2_
   clear n0_ n1_ n2_
   clear ho hb hg hat
   refine hK.out _ _ ⟨(blk_cell BK111.out 0).trans rfl, (blk_cell BK111.out 1).trans rfl, (blk_cell BK111.out 2).trans rfl, (blk_cell BK111.out 3).trans rfl⟩ (fun hHeld => ?_)
   clear hK K
   refine norm_ (a' := ?_) ?_ ?_
   rotate_left
   {
   show Act.put _ (some 33) _ = _
   simp only [Act.put, List.setIfInBounds_toArray, List.set_cons_zero, List.set_cons_succ, i64_w, i32_w]
   rfl
   }
   refine pure_ (i := 8) (N := some 4) (v := _) (a' := _) #[Y, Y, Y, Y, Y, Y, Y, Y, Y] rfl rfl (any_of HT_.out (by kernel_rfl)) (fun _ _ _ h => h) (Or.inl ⟨by rfl, (by intro w'; go_simp; with_reducible rfl)⟩) z53a ?_
   refine done_ (done_of HT_.out (by kernel_rfl)) ?_
   try go_wp2
   go_ret
   exact ⟨_, by first | rfl | (simp [errW_none, errW_some] <;> rfl) | (simp [*, errW_none, errW_some] <;> rfl), by (with_reducible repeat (first | apply Kd.R_alloc | apply Kd.R_drewN | apply Kd.R_drew)); exact Kd.R_mono HO133.out (fun _ hk => trivial), by repeat (first | (with_reducible first | exact HB.out | apply below_alloc | apply pw_below_drewN | apply below_drew1 | refine below_set ?_ GE111.out) | exact HB.out)⟩
   }
   {
   rw [if_neg c16] at H
   exact absurd H (by simp)
   }
   }
   {
   rw [if_neg c13] at H
   exact absurd H (by simp)
   }
   }
   {
   rw [if_neg c12] at H
   exact absurd H (by simp)
   }
   }
   {
   rw [if_neg c11] at H
   exact absurd H (by simp)
   }
   }
   }
   {
   rw [if_neg c5] at H
   exact absurd H (by simp)
   }
   }
   {
   rw [if_neg c4] at H
   have c4b0 : decide (x5_1 < (l0.length : Int)) = false := decide_eq_false c4
   clear c4
   obtain ⟨y134, hy134⟩ : ∃ y_ : List (S31), y_ = (([] : List (S31))) := ⟨_, rfl⟩
   replace H : (if 0 ≤ x5_1 then (if x5_1 ≤ (l0.length : Int) then ((some (l0.take (x5_1 : Int).toNat : List (S31))).bind fun y137 => (if y134.length + y137.length < 2932031007402 then ((some (y134 ++ y137 : List (S31))).bind fun y141 => (if y141.length < 2932031007402 then ((some (y141 ++ [(⟨a1_0, a1_1, a1_2, a1_3⟩ : S31)] : List (S31))).bind fun y144 => ((some (l0.drop (x5_1 : Int).toNat : List (S31))).bind fun y147 => (if y144.length + y147.length < 2932031007402 then (some (y144 ++ y147)) else (none)))) else (none))) else (none))) else (none)) else (none)) = some r := by first | (rw [hy134]; with_reducible exact H) | (have H2_ := (Option.bind_some _ _).symm.trans H; rw [hy134]; with_reducible exact H2_) | (have H2_ := (Option.bind_some _ _).symm.trans H; with_reducible exact H2_) | with_reducible exact H | (rw [hy134]; exact H) | exact H
   have Ny134 := Aside0.mk hy134
   clear hy134
   by_cases c27 : 0 ≤ x5_1
   {
   rw [if_pos c27] at H
   have c27b0 := eq_true c27
   have c27b1 : decide (0 ≤ x5_1) = true := decide_eq_true c27
   clear c27
   by_cases c28 : x5_1 ≤ (l0.length : Int)
   {
   rw [if_pos c28] at H
   have c28b0 := eq_true c28
   have c28b1 : decide (x5_1 ≤ (l0.length : Int)) = true := decide_eq_true c28
   clear c28
   obtain ⟨y137, hy137⟩ : ∃ y_ : List (S31), y_ = (l0.take (x5_1 : Int).toNat) := ⟨_, rfl⟩
   replace H : (if y134.length + y137.length < 2932031007402 then ((some (y134 ++ y137 : List (S31))).bind fun y141 => (if y141.length < 2932031007402 then ((some (y141 ++ [(⟨a1_0, a1_1, a1_2, a1_3⟩ : S31)] : List (S31))).bind fun y144 => ((some (l0.drop (x5_1 : Int).toNat : List (S31))).bind fun y147 => (if y144.length + y147.length < 2932031007402 then (some (y144 ++ y147)) else (none)))) else (none))) else (none)) = some r := by first | (rw [hy137]; with_reducible exact H) | (have H2_ := (Option.bind_some _ _).symm.trans H; rw [hy137]; with_reducible exact H2_) | (have H2_ := (Option.bind_some _ _).symm.trans H; with_reducible exact H2_) | with_reducible exact H | (rw [hy137]; exact H) | exact H
   have Ny137 := Aside0.mk hy137
   clear hy137
   by_cases c29 : y134.length + y137.length < 2932031007402
   {
   rw [if_pos c29] at H
   have LMc29 := Aside0.mk c29
   clear c29
   obtain ⟨y141, hy141⟩ : ∃ y_ : List (S31), y_ = (y134 ++ y137) := ⟨_, rfl⟩
   replace H : (if y141.length < 2932031007402 then ((some (y141 ++ [(⟨a1_0, a1_1, a1_2, a1_3⟩ : S31)] : List (S31))).bind fun y144 => ((some (l0.drop (x5_1 : Int).toNat : List (S31))).bind fun y147 => (if y144.length + y147.length < 2932031007402 then (some (y144 ++ y147)) else (none)))) else (none)) = some r := by first | (rw [hy141]; with_reducible exact H) | (have H2_ := (Option.bind_some _ _).symm.trans H; rw [hy141]; with_reducible exact H2_) | (have H2_ := (Option.bind_some _ _).symm.trans H; with_reducible exact H2_) | with_reducible exact H | (rw [hy141]; exact H) | exact H
   have Ny141 := Aside0.mk hy141
   clear hy141
   by_cases c30 : y141.length < 2932031007402
   {
   rw [if_pos c30] at H
   have LMc30 := Aside0.mk c30
   clear c30
   obtain ⟨y144, hy144⟩ : ∃ y_ : List (S31), y_ = (y141 ++ [(⟨a1_0, a1_1, a1_2, a1_3⟩ : S31)]) := ⟨_, rfl⟩
   replace H : ((some (l0.drop (x5_1 : Int).toNat : List (S31))).bind fun y147 => (if y144.length + y147.length < 2932031007402 then (some (y144 ++ y147)) else (none))) = some r := by first | (rw [hy144]; with_reducible exact H) | (have H2_ := (Option.bind_some _ _).symm.trans H; rw [hy144]; with_reducible exact H2_) | (have H2_ := (Option.bind_some _ _).symm.trans H; with_reducible exact H2_) | with_reducible exact H | (rw [hy144]; exact H) | exact H
   have Ny144 := Aside0.mk hy144
   clear hy144
   have c31b0 := eq_true (of_decide_eq_true z53d : 0 ≤ x5_1)
   have c32b0 := eq_true (of_decide_eq_true z53d : x5_1 ≤ (l0.length : Int))
   obtain ⟨y147, hy147⟩ : ∃ y_ : List (S31), y_ = (l0.drop (x5_1 : Int).toNat) := ⟨_, rfl⟩
   replace H : (if y144.length + y147.length < 2932031007402 then (some (y144 ++ y147)) else (none)) = some r := by first | (rw [hy147]; with_reducible exact H) | (have H2_ := (Option.bind_some _ _).symm.trans H; rw [hy147]; with_reducible exact H2_) | (have H2_ := (Option.bind_some _ _).symm.trans H; with_reducible exact H2_) | with_reducible exact H | (rw [hy147]; exact H) | exact H
   have Ny147 := Aside0.mk hy147
   clear hy147
   by_cases c33 : y144.length + y147.length < 2932031007402
   {
   rw [if_pos c33] at H
   have LMc33 := Aside0.mk c33
   clear c33
   obtain ⟨y151, hy151⟩ : ∃ y_ : List (S31), y_ = (y144 ++ y147) := ⟨_, rfl⟩
   replace H : (some y151) = some r := by first | (rw [hy151]; with_reducible exact H) | (have H2_ := (Option.bind_some _ _).symm.trans H; rw [hy151]; with_reducible exact H2_) | (have H2_ := (Option.bind_some _ _).symm.trans H; with_reducible exact H2_) | with_reducible exact H | (rw [hy151]; exact H) | exact H
   have Ny151 := Aside0.mk hy151
   clear hy151
   obtain rfl := Option.some.inj H
   try go_wp2
   have n0_ := Aside0.mk (blk_drew BK111.out)
   have n1_ := Aside0.mk (below_drew1 HB.out)
   clear BK111
   clear HB
   have BK111 := n0_
   have HB := n1_
   clear n0_ n1_
   refine start_ (n := 12) (S := fun w' => True) (ds := []) #[X, X, X, X, X, X, X, X, X, X, X, X] (by kernel_rfl) rfl rfl trivial (fun hHeld => ?_); refine with_tabW spec_l3Put.tab2 spec_l3Put.bits2 (fun HT_ HW_ => ?_)
   generalize wr.drew = w34 at BK111 HB hHeld ⊢
   refine pure_ (i := 0) (N := some 7) (v := _) (a' := _) #[Y, X, X, X, X, X, X, X, X, X, X, X] rfl rfl (any_of HT_.out (by kernel_rfl)) (fun _ _ _ h => h) (Or.inl ⟨by rfl, (by intro w'; go_simp; with_reducible rfl)⟩) z53a ?_
   refine pure_ (i := 1) (N := some 8) (v := _) (a' := _) #[Y, Y, X, X, X, X, X, X, X, X, X, X] rfl rfl (any_of HT_.out (by kernel_rfl)) (fun _ _ _ h => h) (Or.inl ⟨by rfl, (by intro w'; go_simp; with_reducible rfl)⟩) z53a ?_
   refine pure_ (i := 2) (N := some 9) (v := _) (a' := _) #[Y, Y, Y, X, X, X, X, X, X, X, X, X] rfl rfl (any_of HT_.out (by kernel_rfl)) (fun _ _ _ h => h) (Or.inl ⟨by rfl, (by intro w'; go_simp; with_reducible rfl)⟩) z53a ?_
   refine pure_ (i := 3) (N := some 10) (v := _) (a' := _) #[Y, Y, Y, Y, X, X, X, X, X, X, X, X] rfl rfl (any_of HT_.out (by kernel_rfl)) (fun _ _ _ h => h) (Or.inl ⟨by rfl, (by intro w'; go_simp; with_reducible rfl)⟩) z53a ?_
   refine pure_ (i := 4) (N := some 11) (v := _) (a' := _) #[Y, Y, Y, Y, Y, X, X, X, X, X, X, X] rfl rfl (any_of HT_.out (by kernel_rfl)) (fun _ _ _ h => h) (Or.inl ⟨by rfl, (by intro w'; go_simp; with_reducible rfl)⟩) z53a ?_
   refine pure_ (i := 5) (N := some 12) (v := undef) (a' := ?_) #[Y, Y, Y, Y, Y, Y, X, X, X, X, X, X] rfl rfl (any_of HT_.out (by kernel_rfl)) (fun _ _ _ h => h) (Or.inr ⟨by rfl, rfl⟩) ?_ ?_
   rotate_left
   exact z53a
   refine pure_ (i := 6) (N := some 13) (v := undef) (a' := ?_) #[Y, Y, Y, Y, Y, Y, Y, X, X, X, X, X] rfl rfl (any_of HT_.out (by kernel_rfl)) (fun _ _ _ h => h) (Or.inr ⟨by rfl, rfl⟩) ?_ ?_
   rotate_left
   exact z53a
   refine pure_ (i := 7) (N := some 14) (v := undef) (a' := ?_) #[Y, Y, Y, Y, Y, Y, Y, Y, X, X, X, X] rfl rfl (any_of HT_.out (by kernel_rfl)) (fun _ _ _ h => h) (Or.inr ⟨by rfl, rfl⟩) ?_ ?_
   rotate_left
   exact z53a
   refine pure_ (i := 8) (N := some 15) (v := undef) (a' := ?_) #[Y, Y, Y, Y, Y, Y, Y, Y, Y, X, X, X] rfl rfl (any_of HT_.out (by kernel_rfl)) (fun _ _ _ h => h) (Or.inr ⟨by rfl, rfl⟩) ?_ ?_
   rotate_left
   exact z53a
   refine pure_ (i := 9) (N := some 16) (v := undef) (a' := ?_) #[Y, Y, Y, Y, Y, Y, Y, Y, Y, Y, X, X] rfl rfl (any_of HT_.out (by kernel_rfl)) (fun _ _ _ h => h) (Or.inr ⟨by rfl, rfl⟩) ?_ ?_
   rotate_left
   exact z53a
   refine pure_ (i := 10) (N := some 17) (v := undef) (a' := ?_) #[Y, Y, Y, Y, Y, Y, Y, Y, Y, Y, Y, X] rfl rfl (any_of HT_.out (by kernel_rfl)) (fun _ _ _ h => h) (Or.inr ⟨by rfl, rfl⟩) ?_ ?_
   rotate_left
   exact z53a
   refine pure_ (i := 11) (N := some 18) (v := _) (a' := _) #[Y, Y, Y, Y, Y, Y, Y, Y, Y, Y, Y, Y] rfl rfl (any_of HT_.out (by kernel_rfl)) (fun _ _ _ h => h) (Or.inl ⟨by rfl, (by intro w'; go_simp; with_reducible rfl)⟩) z53a ?_
   refine done_ (done_of HT_.out (by kernel_rfl)) ?_
   try go_wp2_with (first | ((with_reducible refine gate_dst (N := 21) rfl ?_); refine Kd.R_lit k31 _ 31 ?hg (N := 21) ?hd (xs := ([] : List (S31))) (inner := []) (ok := fun _ => True) (okp := fun _ => True) ?hr ?hp (fun _ hk => hk) trivial (Below.refl _ _) (Nat.le_refl _) (by simp) ?_; (case hd => rfl); (case hg => rfl); (case hr => first | (go_simp; done) | (go_simp; rfl)); (case hp => exact (Reps.none _ _)); intro v135 w35 ho36 hb hg_ hnew_; clear hg_ hnew_; (first | rw [← Ny134.out] at ho36 | (simp only [Int.reduceToNat] at ho36; rw [← Ny134.out] at ho36)); have n0_ := Aside0.mk (Kd.R_lower (Kd.R_newB ho36 (g := gb111) (o := .cells #[.string a1_0, .string a1_1, .int .i64 a1_2, .bool a1_3] 31 (0, 0)) z53c) (below_size z53b)); have n1_ := Aside0.mk (blk_below (g := gb111) (o := .cells #[.string a1_0, .string a1_1, .int .i64 a1_2, .bool a1_3] 31 (0, 0)) z53c hb); have n2_ := Aside0.mk (below_step z53b hb); clear BK111; clear HB; have HO136 := n0_; have BK111 := n1_; have HB := n2_; clear n0_ n1_ n2_; clear hb ho36; have q37 : (x5_1 : Int) ≤ ((l0.length : Int) : Int) := of_decide_eq_true z53d; obtain ⟨i037, hi037, _, hsz37, _⟩ := info_parts info31; have hroom37 : l0.length ≤ c0 := HC0.out; have hC37 : Kd.C k31 _ A0 l0.length l0 := HR0.out; have hcut37 := cut_to (P := Try.prog) 27 31 .i64 Try.underlying27 hi037 A0 l0.length c0 x5_1 (of_decide_eq_true z53d) q37 hroom37; have hr37 := Kd.C_take (m := (x5_1 : Int).toNat) hC37 (by omega); have hy37 : y137.length = (x5_1 : Int).toNat := (by rw [Ny137.out, List.length_take]; omega); rw [← Ny137.out] at hr37; rw [← hy37] at hcut37; have HR140 := Aside0.mk hr37; have HC140 := Aside0.mk (show y137.length ≤ c0 from (by omega)); clear hr37 hC37 hroom37 hi037 hsz37; have KY37 := Aside0.mk hy37; clear hy37; replace q37 := eq_true q37) | ((with_reducible refine gate_builtin (b := .append) (xs := #[.tmp 21, .tmp 24]) rfl ?_); at_builtin; refine Kd.R_append_rows k31 (w0 := w) w.heap.size rfl (.tmp 21) (.tmp 24) 27 31 (.agg #[(.string ⟨#[]⟩), (.string ⟨#[]⟩), (.int .i64 0), (.bool false)]) 48 rfl Try.underlying27 info31 rfl (by decide) (by omega) v135 y134 y137 _ _ _ (fun k_ => k_ ≠ gb111) (fun _ => False) rfl rfl ?aO ?aR (fun _ _ h => h) (fun _ h => h.elim) ?aF ?aB ?aS ?aL ?_; (case aR => exact (by repeat (first | exact (Kd.C_below HR140.out HB.out) | (with_reducible refine Kd.C_alloc ?_ _) | (with_reducible refine Kd.C_drewN ?_ _) | (with_reducible refine Kd.C_drew ?_)))); (case aB => exact z53b); (case aF => exact (fun k_ hk => Kd.freshB (g := gb111) (o := .cells #[.string a1_0, .string a1_1, .int .i64 a1_2, .bool a1_3] 31 (0, 0)) z53c k_ hk)); (case aO => exact (by (with_reducible repeat (first | apply Kd.R_alloc | apply Kd.R_drewN | apply Kd.R_drew)); exact Kd.R_mono HO136.out (fun _ hk => hk.2))); (case aS => exact (below_size z53b)); (case aL => have := LMc29.out; omega); intro v142 w38 ho hb hg hat; rw [← Ny141.out] at ho; have n0_ := Aside0.mk (blk_grown (g := gb111) (o := .cells #[.string a1_0, .string a1_1, .int .i64 a1_2, .bool a1_3] 31 (0, 0)) z53c hg (Kd.R_away HO136.out (fun _ hk => hk.2))); have n1_ := Aside0.mk (hb); have n2_ := Aside0.mk (ho); clear BK111; clear HB; clear HO136; have BK111 := n0_; have HB := n1_; have HO143 := n2_; clear n0_ n1_ n2_; clear ho hb hg hat))
   have n0_ := Aside0.mk (Kd.R_drew HO143.out)
   have n1_ := Aside0.mk (blk_drew BK111.out)
   have n2_ := Aside0.mk (below_drew1 HB.out)
   clear HO143
   clear BK111
   clear HB
   have HO143 := n0_
   have BK111 := n1_
   have HB := n2_
   clear n0_ n1_ n2_
   have q40 : (x5_1 : Int) ≤ ((l0.length : Int) : Int) := of_decide_eq_true z53d
   obtain ⟨i040, hi040, _, hsz40, _⟩ := info_parts info31
   have hroom40 : l0.length ≤ c0 := HC0.out
   have hC40 : Kd.C k31 _ A0 l0.length l0 := HR0.out
   have q040 : (0 : Int) ≤ (x5_1 : Int) := of_decide_eq_true z53d
   have hcut40 := cut_from (P := Try.prog) 27 31 .i64 Try.underlying27 hi040 4 hsz40 A0 l0.length c0 x5_1 q040 q40
   have hr40 := Kd.C_drop (m := (x5_1 : Int).toNat) (c := c0) hC40 (by omega) hroom40
   obtain ⟨A40, hA40⟩ : ∃ A1, A1 = (if c0 = (x5_1 : Int).toNat then A0 else (A0 : Option Addr).map (·.add ((x5_1 : Int).toNat * 4))) := ⟨_, rfl⟩
   obtain ⟨c40, hc40⟩ : ∃ c1, c1 = c0 - (x5_1 : Int).toNat := ⟨_, rfl⟩
   have hy40 : y147.length = l0.length - (x5_1 : Int).toNat := (by rw [Ny147.out, List.length_drop] <;> omega)
   rw [show (l0).drop (x5_1 : Int).toNat = y147 from Ny147.out.symm] at hr40
   replace hr40 : Kd.C k31 _ A40 y147.length y147 := (by rw [hA40]; exact hr40)
   rw [← hy40, ← hA40, ← hc40] at hcut40
   have HR150 := Aside0.mk hr40
   have HC150 := Aside0.mk (show y147.length ≤ c40 from (by rw [hy40, hc40]; exact Nat.sub_le_sub_right hroom40 _))
   clear hr40 hC40 hroom40 hi040 hsz40 hc40
   have KY40 := Aside0.mk hy40
   have KA40 := Aside0.mk hA40
   clear hy40 hA40
   replace q40 := eq_true q40
   refine start_ (n := 9) (S := fun w' => w'.cell? ⟨gb111, 0, none⟩ = some (.string a1_0) ∧ w'.cell? ⟨gb111, 1, none⟩ = some (.string a1_1) ∧ w'.cell? ⟨gb111, 2, none⟩ = some (.int .i64 a1_2) ∧ w'.cell? ⟨gb111, 3, none⟩ = some (.bool a1_3)) (ds := []) #[X, X, X, X, X, X, X, X, X] (by kernel_rfl) rfl rfl ⟨(blk_cell BK111.out 0).trans rfl, (blk_cell BK111.out 1).trans rfl, (blk_cell BK111.out 2).trans rfl, (blk_cell BK111.out 3).trans rfl⟩ (fun hHeld => ?_); refine with_tabW spec_l3Put.tab5 spec_l3Put.bits5 (fun HT_ HW_ => ?_)
   generalize w38.drew = w39 at HO143 BK111 HB HR150 hHeld ⊢
   refine pure_ (i := 0) (N := some 26) (v := _) (a' := _) #[Y, X, X, X, X, X, X, X, X] rfl rfl (any_of HT_.out (by kernel_rfl)) (fun _ _ _ h => h) (Or.inl ⟨by rfl, (by intro w'; go_simp; with_reducible rfl)⟩) z53a ?_
   refine pure_ (i := 4) (N := some 30) (v := _) (a' := _) #[Y, X, X, X, Y, X, X, X, X] rfl rfl (any_of HT_.out (by kernel_rfl)) (fun _ _ _ h => h) (Or.inl ⟨by rfl, (by intro w'; go_simp; with_reducible rfl)⟩) z53a ?_
   refine pure_ (i := 5) (N := some 31) (v := _) (a' := _) #[Y, X, X, X, Y, Y, X, X, X] rfl rfl (any_of HT_.out (by kernel_rfl)) (fun _ _ _ h => h) (Or.inl ⟨by rfl, (by intro w'; go_simp; with_reducible rfl)⟩) z53a ?_
   refine pure_ (i := 6) (N := some 32) (v := _) (a' := _) #[Y, X, X, X, Y, Y, Y, X, X] rfl rfl (any_of HT_.out (by kernel_rfl)) (fun _ _ _ h => h) (Or.inl ⟨by rfl, (by intro w'; go_simp; with_reducible rfl)⟩) z53a ?_
   refine take_ (i := 1) (N := some 27) (v := _) (a' := _) #[Y, Y, X, X, Y, Y, Y, X, X] rfl rfl (take_ofW HT_.out HW_.out (by kernel_rfl)) (fun _ _ _ h => h) (Or.inl ⟨by rfl, (by rintro w' ⟨s0, s1, s2, s3⟩; go_simp; with_reducible rfl)⟩) hHeld z53a ?_
   refine one_ (i := 2) (N := some 28) #[Y, Y, Y, X, Y, Y, Y, X, X] rfl rfl (one_of HT_.out (by kernel_rfl)) (by decide) (fun K hK => ?_)
   refine value_ (w1 := ?_) (v := ?_) (by rfl) rfl ?_ ?_
   rotate_left 2
   {
   go_simp
   constructor
   {
   rfl
   }
   {
   rfl
   }
   }
   refine hK.out _ _ ⟨(blk_cell (blk_alloc BK111.out _) 0).trans rfl, (blk_cell (blk_alloc BK111.out _) 1).trans rfl, (blk_cell (blk_alloc BK111.out _) 2).trans rfl, (blk_cell (blk_alloc BK111.out _) 3).trans rfl⟩ (fun hHeld => ?_)
   clear hK K
   refine norm_ (a' := ?_) ?_ ?_
   rotate_left
   {
   show Act.put _ (some 28) _ = _
   simp only [Act.put, List.setIfInBounds_toArray, List.set_cons_zero, List.set_cons_succ, i64_w, i32_w]
   rfl
   }
   refine one_ (i := 3) (N := some 29) #[Y, Y, Y, Y, Y, Y, Y, X, X] rfl rfl (one_of HT_.out (by kernel_rfl)) (by decide) (fun K hK => ?_)
   refine Kd.R_append_step k31 (w0 := w) w.heap.size (by rfl) (.tmp 26) (.tmp 28) 27 31 (.agg #[(.string ⟨#[]⟩), (.string ⟨#[]⟩), (.int .i64 0), (.bool false)]) 48 rfl Try.underlying27 info31 rfl (by decide) (by omega) v142 y141 (⟨a1_0, a1_1, a1_2, a1_3⟩ : S31) [.string a1_0, .string a1_1, .int .i64 a1_2, .bool a1_3] (fun k_ => k_ ≠ gb111) (fun _ => False) rfl rfl ?aP (fun _ hk => hk.elim) ?aF ?aO ?aB ?aS ?aL ?_
   (case aP => exact k31_mkM _ _ _ (⟨a1_0, a1_1, a1_2, a1_3⟩ : S31))
   (case aB => exact z53b)
   (case aF => exact (fun k_ hk => Kd.freshB (g := gb111) (o := .cells #[.string a1_0, .string a1_1, .int .i64 a1_2, .bool a1_3] 31 (0, 0)) z53c k_ hk))
   (case aO => exact (by (with_reducible repeat (first | apply Kd.R_alloc | apply Kd.R_drewN | apply Kd.R_drew)); exact HO143.out))
   (case aS => exact (below_size z53b))
   (case aL => have := LMc30.out; omega)
   intro v145 w41 ho hb hg hat
   rw [← Ny144.out] at ho
   have n0_ := Aside0.mk (blk_grown (g := gb111) (o := .cells #[.string a1_0, .string a1_1, .int .i64 a1_2, .bool a1_3] 31 (0, 0)) z53c hg (Kd.R_away HO143.out (fun _ hk => hk)))
   have n1_ := Aside0.mk (hb)
   have n2_ := Aside0.mk (ho)
   clear BK111
   clear HB
   clear HO143
   have BK111 := n0_
   have HB := n1_
   have HO146 := n2_
   clear n0_ n1_ n2_
   clear ho hb hg hat
   refine hK.out _ _ ⟨(blk_cell BK111.out 0).trans rfl, (blk_cell BK111.out 1).trans rfl, (blk_cell BK111.out 2).trans rfl, (blk_cell BK111.out 3).trans rfl⟩ (fun hHeld => ?_)
   clear hK K
   refine norm_ (a' := ?_) ?_ ?_
   rotate_left
   {
   show Act.put _ (some 29) _ = _
   simp only [Act.put, List.setIfInBounds_toArray, List.set_cons_zero, List.set_cons_succ, i64_w, i32_w]
   rfl
   }
   refine one_ (i := 7) (N := some 33) #[Y, Y, Y, Y, Y, Y, Y, Y, X] rfl rfl (one_of HT_.out (by kernel_rfl)) (by decide) (fun K hK => ?_)
   refine Kd.R_append_rows_step k31 (w0 := w) w.heap.size (by rfl) (.tmp 29) (.tmp 32) 27 31 (.agg #[(.string ⟨#[]⟩), (.string ⟨#[]⟩), (.int .i64 0), (.bool false)]) 48 rfl Try.underlying27 info31 rfl (by decide) (by omega) v145 y144 y147 _ _ _ (fun k_ => k_ ≠ gb111) (fun _ => False) rfl rfl ?aO ?aR (fun _ _ h => h) (fun _ h => h.elim) ?aF ?aB ?aS ?aL ?_
   (case aR => exact (by repeat (first | exact (Kd.C_below HR150.out HB.out) | (with_reducible refine Kd.C_alloc ?_ _) | (with_reducible refine Kd.C_drewN ?_ _) | (with_reducible refine Kd.C_drew ?_))))
   (case aB => exact z53b)
   (case aF => exact (fun k_ hk => Kd.freshB (g := gb111) (o := .cells #[.string a1_0, .string a1_1, .int .i64 a1_2, .bool a1_3] 31 (0, 0)) z53c k_ hk))
   (case aO => exact (by (with_reducible repeat (first | apply Kd.R_alloc | apply Kd.R_drewN | apply Kd.R_drew)); exact HO146.out))
   (case aS => exact (below_size z53b))
   (case aL => have := LMc33.out; omega)
   intro v152 w42 ho hb hg hat
   rw [← Ny151.out] at ho
   have n0_ := Aside0.mk (blk_grown (g := gb111) (o := .cells #[.string a1_0, .string a1_1, .int .i64 a1_2, .bool a1_3] 31 (0, 0)) z53c hg (Kd.R_away HO146.out (fun _ hk => hk)))
   have n1_ := Aside0.mk (hb)
   have n2_ := Aside0.mk (ho)
   clear BK111
   clear HB
   clear HO146
   have BK111 := n0_
   have HB := n1_
   have HO153 := n2_
   clear n0_ n1_ n2_
   clear ho hb hg hat
   refine hK.out _ _ ⟨(blk_cell BK111.out 0).trans rfl, (blk_cell BK111.out 1).trans rfl, (blk_cell BK111.out 2).trans rfl, (blk_cell BK111.out 3).trans rfl⟩ (fun hHeld => ?_)
   clear hK K
   refine norm_ (a' := ?_) ?_ ?_
   rotate_left
   {
   show Act.put _ (some 33) _ = _
   simp only [Act.put, List.setIfInBounds_toArray, List.set_cons_zero, List.set_cons_succ, i64_w, i32_w]
   rfl
   }
   refine pure_ (i := 8) (N := some 4) (v := _) (a' := _) #[Y, Y, Y, Y, Y, Y, Y, Y, Y] rfl rfl (any_of HT_.out (by kernel_rfl)) (fun _ _ _ h => h) (Or.inl ⟨by rfl, (by intro w'; go_simp; with_reducible rfl)⟩) z53a ?_
   refine done_ (done_of HT_.out (by kernel_rfl)) ?_
   try go_wp2
   go_ret
   exact ⟨_, by first | rfl | (simp [errW_none, errW_some] <;> rfl) | (simp [*, errW_none, errW_some] <;> rfl), by (with_reducible repeat (first | apply Kd.R_alloc | apply Kd.R_drewN | apply Kd.R_drew)); exact Kd.R_mono HO153.out (fun _ hk => trivial), by repeat (first | (with_reducible first | exact HB.out | apply below_alloc | apply pw_below_drewN | apply below_drew1 | refine below_set ?_ GE111.out) | exact HB.out)⟩
   }
   {
   rw [if_neg c33] at H
   exact absurd H (by simp)
   }
   }
   {
   rw [if_neg c30] at H
   exact absurd H (by simp)
   }
   }
   {
   rw [if_neg c29] at H
   exact absurd H (by simp)
   }
   }
   {
   rw [if_neg c28] at H
   exact absurd H (by simp)
   }
   }
   {
   rw [if_neg c27] at H
   exact absurd H (by simp)
   
   }
   }
end Go.Proofs.Ytaiggfjkikfcbaa.PFnPut

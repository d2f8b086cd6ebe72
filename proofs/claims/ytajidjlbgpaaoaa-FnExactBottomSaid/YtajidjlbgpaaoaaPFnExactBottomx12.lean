-- by a program of this session (wip/print/run.py) for this claim
import Derived.Test.YtajidjlbgpaaoaaPFnExactBottomx0
namespace Go.Proofs.Ytajidjlbgpaaoaa.PFnExactBottom
open Go.RowKit Go.Proofs.YtajidjlbgpaaoaaW.PrintWords Go.Proofs.YtajidjlbgpaaoaaW.PrintLast Go.Proofs.YtajidjlbgpaaoaaW.PrintMore
attribute [local go_sem] max2_int min2_int max_two min_two max_three min_three max_four min_four   -- for this text's walks alone
set_option linter.unusedVariables false
set_option linter.unusedSimpArgs false

-- NOT PRINTED: function 109 (slices_IndexFunc_int64)

-- NOT PRINTED: function 96 (slices_ContainsFunc_int64)

-- NOT PRINTED: function 97 (impl_seens_1)

/-! ### impl_seens: function 73 -/
/-! #### slices.IndexFunc and slices.ContainsFunc at numbers, at whatever predicate that leaves what lay as it was -/
set_option maxHeartbeats 8000000 in
set_option maxRecDepth 100000 in
theorem idx_int (g : Nat) (lb : Array Value) (eg : ∀ args w, (callFunc g args).run Try.prog w = .ok (.enter g args) w) (p : Int → Bool) (A0 : Option Addr) (c0 : Nat) (l : List Int) (w : World) (hr : Kd.C (Kd.int .i64) w A0 l.length l)
    (hp : ∀ (W : World) (x : Int), Below w.heap.size w W → Calls Try.prog g (#[.int .i64 x] ++ lb) W fun e w' => e = .returned (.bool (p x)) ∧ Below w.heap.size w w') :
    Calls Try.prog 109 #[.slice A0 l.length c0, .func (.func g) #[] lb] w fun e w' => e = .returned (.int .i64 (Lib.hit p l 0)) ∧ Below w.heap.size w w' := by
  have hbig : l.length ≤ 9223372036854775807 := hr.2.1
  have HP := Aside0.mk hp
  have HR := Aside0.mk hr
  clear hp hr
  go_enter Try.func109, Try.ntmps109
  go_wp2
  go_loopg [8] l.length (fun gg s8 wr => ∃ kk : Nat, kk ≤ l.length ∧ l.length - kk ≤ gg ∧ s8 = .int .i64 kk ∧ Aside0 (Below w.heap.size w wr) ∧ Aside0 (Lib.hit p (l.drop kk) kk = Lib.hit p l 0))
  case atStart => exact ⟨0, Nat.zero_le _, by omega, rfl, ⟨Below.refl _ w⟩, ⟨by simp⟩⟩
  case round =>
    obtain ⟨kk, hkk, hg, rfl, BW, A⟩ := hrel
    by_cases hlt : kk < l.length
    · have hltz : (kk : Int) < (l.length : Int) := by omega
      obtain ⟨ad, e, hx⟩ := Kd.at_int (Kd.C_below HR.out BW.out) kk (by omega) hltz
      cases e
      simp only [Int.toNat_natCast] at hx
      have hcall := HP.out wr (rd l kk) BW.out
      have HD := Aside0.mk (Lib.hit_drop p 0 l kk hlt)
      have HY : Aside0 (rd l kk = l.getD kk 0) := ⟨rfl⟩
      generalize rd l kk = y at hx hcall HY
      cases hq : p y with
      | true =>
        rw [hq] at hcall
        have HQ := Aside0.mk hq
        clear hq
        go_wp2_with (go_at_fn g; refine hcall.mono ?_; rintro e w' ⟨rfl, hb'⟩)
        go_ret
        refine ⟨?_, hb'⟩
        rw [← A.out, HD.out, if_pos (by rw [← HY.out]; exact HQ.out)]
        rfl
      | false =>
        rw [hq] at hcall
        have HQ := Aside0.mk hq
        clear hq
        go_wp2_with (go_at_fn g; refine hcall.mono ?_; rintro e w' ⟨rfl, hb'⟩)
        go_roundg (l.length - (kk + 1))
        case measure => omega
        case rel => exact ⟨kk + 1, by omega, by omega, by go_num, ⟨hb'⟩, ⟨by rw [← A.out, HD.out, if_neg (by rw [← HY.out, HQ.out]; decide)]; norm_cast⟩⟩
    · have hltz : ¬ (kk : Int) < (l.length : Int) := by omega
      obtain rfl : kk = l.length := by omega
      go_wp2
      go_ret
      refine ⟨?_, BW.out⟩
      rw [← A.out, Lib.hit_end p l _ (Nat.le_refl _)]
      rfl
theorem has_int (g : Nat) (lb : Array Value) (eg : ∀ args w, (callFunc g args).run Try.prog w = .ok (.enter g args) w) (p : Int → Bool) (A0 : Option Addr) (c0 : Nat) (l : List Int) (w : World) (hr : Kd.C (Kd.int .i64) w A0 l.length l)
    (hp : ∀ (W : World) (x : Int), Below w.heap.size w W → Calls Try.prog g (#[.int .i64 x] ++ lb) W fun e w' => e = .returned (.bool (p x)) ∧ Below w.heap.size w w') :
    Calls Try.prog 96 #[.slice A0 l.length c0, .func (.func g) #[] lb] w fun e w' => e = .returned (.bool (l.any p)) ∧ Below w.heap.size w w' := by
  have HP := Aside0.mk hp
  have HR := Aside0.mk hr
  clear hp hr
  go_enter Try.func96, Try.ntmps96
  go_wp2_with (first | (go_at_call 109; refine (idx_int g lb eg p A0 c0 l _ HR.out HP.out).mono ?_; rintro e w' ⟨rfl, hb'⟩))
  go_ret
  refine ⟨?_, hb'⟩
  rw [← Lib.hit_any p l 0 (Int.le_refl 0)]
  rfl


/-! #### the literal that has captured an entry, the list and a place -/
set_option maxHeartbeats 8000000 in
set_option maxRecDepth 100000 in
theorem seens_lit (be bl bi : Nat) (x : S88) (A : Option Addr) (c : Nat) (l : List S88) (k : Nat) (W : World) (he : W.cell? ⟨be, 2, none⟩ = some (.int .i64 x.f2)) (hl : W.cell? ⟨bl, 0, none⟩ = some (.slice A l.length c)) (hi : W.cell? ⟨bi, 0, none⟩ = some (.int .i64 ((k + 1 : Nat) : Int)))
    (hr : Kd.C k88 W A l.length l) (hk : k < l.length) (n : Int) :
    Calls Try.prog 97 (#[.int .i64 n] ++ #[.pointer (some ⟨be, 0, none⟩), .pointer (some ⟨bl, 0, none⟩), .pointer (some ⟨bi, 0, none⟩)]) W fun e w' => e = .returned (.bool (decide (x.f2 ≤ n) && decide (n < (rd_T88 l k).f2))) ∧ Below W.heap.size W w' := by
  have hu := Try.underlying88
  have hbig := hr.2.1
  obtain ⟨ad, e, h0, h1, h2, h3⟩ := at_T88 hr k (by omega) (by omega)
  cases e
  simp only [Int.toNat_natCast] at h0 h1 h2 h3
  generalize rd_T88 l k = y at h0 h1 h2 h3
  clear hr
  have ei : wrap64 (((k + 1 : Nat) : Int) - 1) = (k : Int) := by unfold wrap64; omega
  by_cases g1 : x.f2 ≤ n
  · have g1b : decide (x.f2 ≤ n) = true := decide_eq_true g1
    clear g1
    by_cases g2 : n < y.f2
    · have g2b : decide (n < y.f2) = true := decide_eq_true g2
      clear g2
      rw [show (decide (x.f2 ≤ n) && decide (n < y.f2)) = true by rw [g1b, g2b]; rfl]
      go_enter Try.func97, Try.ntmps97
      go_wp2
      go_ret
      exact ⟨rfl, Below.refl _ _⟩
    · have g2b : decide (n < y.f2) = false := decide_eq_false g2
      clear g2
      rw [show (decide (x.f2 ≤ n) && decide (n < y.f2)) = false by rw [g1b, g2b]; rfl]
      go_enter Try.func97, Try.ntmps97
      go_wp2
      go_ret
      exact ⟨rfl, Below.refl _ _⟩
  · have g1b : decide (x.f2 ≤ n) = false := decide_eq_false g1
    clear g1
    rw [show (decide (x.f2 ≤ n) && decide (n < y.f2)) = false by rw [g1b]; rfl]
    go_enter Try.func97, Try.ntmps97
    go_wp2
    go_ret
    exact ⟨rfl, Below.refl _ _⟩
/-! #### the function -/
theorem blk_after {w w1 : World} {g : Nat} {o : Obj} (h : w.heap[g]? = some o) (hb : Below w.heap.size w w1) : w1.heap[g]? = some o := (hb.block g (blk_lt h)).trans h
theorem two_new (w : World) (o0 o1 : Obj) : ((w.alloc o0).alloc o1).heap[w.heap.size]? = some o0 ∧ ((w.alloc o0).alloc o1).heap[w.heap.size + 1]? = some o1 ∧ Below w.heap.size w ((w.alloc o0).alloc o1) := by
  have e1 : (w.alloc o0).heap.size = w.heap.size + 1 := by simp
  refine ⟨?_, ?_, ((Below.refl _ w).alloc (Nat.le_refl _) _).alloc (by omega) _⟩
  · rw [Below.heap_alloc _ _ _ (by omega)]; exact World.alloc_heap_new w _
  · rw [← e1]; exact World.alloc_heap_new _ _
/-- Is the entry at place i kept. -/
def keepE (l : List S88) (snaps : List Int) (i : Nat) : Bool :=
  i == 0 || ((!((rd_T88 l ((i : Int) - 1)).f0.toList == (rd_T88 l i).f0.toList)) || snaps.any (fun n => decide ((rd_T88 l i).f2 ≤ n) && decide (n < (rd_T88 l ((i : Int) - 1)).f2)))
def seensF (l : List S88) (snaps : List Int) : Nat → Nat → List S88
  | 0, _ => []
  | d + 1, i => if keepE l snaps i = true then rd_T88 l i :: seensF l snaps d (i + 1) else seensF l snaps d (i + 1)
def impl_seens.f (l : List S88) (snaps : List Int) : Option (List S88) := if l.length < 2500000000000 then some (seensF l snaps l.length 0) else none
theorem seensF_length (l : List S88) (snaps : List Int) : ∀ d i, (seensF l snaps d i).length ≤ d
  | 0, _ => Nat.le_refl _
  | d + 1, i => by
    have := seensF_length l snaps d (i + 1)
    rw [seensF]
    split
    · rw [List.length_cons]; omega
    · omega
set_option maxHeartbeats 8000000 in
set_option maxRecDepth 100000 in
theorem impl_seens.calls (A0 : Option Addr) (c0 : Nat) (l0 : List S88) (A1 : Option Addr) (c1 : Nat) (l1 : List Int) (r : List S88) (w : World) (hr0 : Kd.C k88 w A0 l0.length l0) (hc0 : l0.length ≤ c0) (hr1 : Kd.C (Kd.int .i64) w A1 l1.length l1) (hc1 : l1.length ≤ c1) (h : impl_seens.f l0 l1 = some r) :
    Calls Try.prog 73 #[.slice A0 l0.length c0, .slice A1 l1.length c1] w fun e w' => ∃ v0_ : Value, e = .returned (v0_) ∧ Kd.R k88 88 w' w.heap.size (fun _ => True) v0_ r ∧ Below w.heap.size w w' := by
  have hu := Try.underlying88
  have hbig := hr0.2.1
  have HR0 := Aside0.mk hr0
  have HR1 := Aside0.mk hr1
  clear hr0 hr1 hc0 hc1
  unfold impl_seens.f at h
  by_cases hl : l0.length < 2500000000000
  · rw [if_pos hl] at h
    obtain rfl := Option.some.inj h
    have LM := Aside0.mk hl
    clear h hl
    have q0 := Aside0.mk (World.alloc_heap_new w (.cells #[.slice A0 l0.length c0] 50))
    have qb := Aside0.mk (below_alloc (Below.refl w.heap.size w) (.cells #[.slice A0 l0.length c0] 50))
    go_enter Try.func73, Try.ntmps73
    go_wp2_with (first | ((with_reducible refine gate_dst (N := 9) rfl ?_); (try (refine gate_guard (by rfl) ?_; dsimp only)); refine Kd.R_lit k88 _ 88 ?hg (N := 9) ?hd (xs := ([] : List S88)) (inner := []) (ok := fun _ => True) (okp := fun _ => True) ?hr ?hp (fun _ hk => hk) trivial (Below.refl _ _) (Nat.le_refl _) (by simp) ?_; (case hd => rfl); (case hg => rfl); (case hr => first | (go_simp; done) | (go_simp; rfl)); (case hp => exact (Reps.none _ _)); intro v1 w1 ho hb hg_ hnew_; clear hg_ hnew_; have HO := Aside0.mk (Kd.R_lower ho (below_size qb.out)); have B0 := Aside0.mk ((hb.block _ (blk_lt q0.out)).trans q0.out); have BB := Aside0.mk (below_step qb.out hb); clear ho hb; have z0 : w1.cell? ⟨w.heap.size, 0, none⟩ = some (.slice A0 l0.length c0) := (by rw [blk_cell B0.out 0]; rfl)))
    go_loopg [5, 12] l0.length (fun gg v5 v12 wr => ∃ (kk : Nat) (acc : List S88), kk ≤ l0.length ∧ l0.length - kk ≤ gg ∧ v12 = .int .i64 kk ∧ Aside0 (Kd.R k88 88 wr w.heap.size (fun _ => True) v5 acc) ∧ Aside0 (acc.length ≤ kk) ∧ Aside0 (acc ++ seensF l0 l1 (l0.length - kk) kk = seensF l0 l1 l0.length 0) ∧ Aside0 (wr.heap[w.heap.size]? = some (.cells #[.slice A0 l0.length c0] 50 (0, 0))) ∧ Aside0 (Below w.heap.size w wr))
    case atStart => exact ⟨0, [], Nat.zero_le _, by omega, rfl, HO, ⟨Nat.zero_le _⟩, ⟨by simp⟩, B0, BB⟩
    case round =>
      clear z0
      obtain ⟨kk, acc, hkk, hgg, rfl, HO, HN, HE, B0, BB⟩ := hrel
      have z0 : wr.cell? ⟨w.heap.size, 0, none⟩ = some (.slice A0 l0.length c0) := (by rw [blk_cell B0.out 0]; rfl)
      by_cases hlt : kk < l0.length
      · have hltz : (kk : Int) < (l0.length : Int) := by omega
        obtain ⟨ad, e, h0, h1, h2, h3⟩ := at_T88 (Kd.C_below HR0.out BB.out) kk (by omega) hltz
        cases e
        simp only [Int.toNat_natCast] at h0 h1 h2 h3
        obtain ⟨bi, be, bB⟩ := two_new wr (.cells #[.int .i64 kk] 3) (.cells #[.string (rd_T88 l0 kk).f0, .string (rd_T88 l0 kk).f1, .int .i64 (rd_T88 l0 kk).f2, .bool (rd_T88 l0 kk).f3] 88)
        have HO2 := Aside0.mk (Kd.R_below HO.out bB)
        have B2 := Aside0.mk ((bB.block _ (blk_lt B0.out)).trans B0.out)
        have HB2 := Aside0.mk (below_step BB.out bB)
        have BI := Aside0.mk bi
        have BE := Aside0.mk be
        clear bi be bB
        go_wp2
        obtain ⟨W2, hW2⟩ : ∃ W2, (wr.alloc (.cells #[.int .i64 kk] 3)).alloc (.cells #[.string (rd_T88 l0 kk).f0, .string (rd_T88 l0 kk).f1, .int .i64 (rd_T88 l0 kk).f2, .bool (rd_T88 l0 kk).f3] 88) = W2 := ⟨_, rfl⟩
        rw [hW2] at HO2 B2 HB2 BI BE ⊢
        clear hW2 h0 h1 h2 h3 z0
        obtain ⟨y, hy⟩ : ∃ y, rd_T88 l0 kk = y := ⟨_, rfl⟩
        rw [hy] at BE ⊢
        have HY := Aside0.mk hy
        clear hy
        have xi : W2.cell? ⟨wr.heap.size, 0, none⟩ = some (.int .i64 kk) := (by rw [blk_cell BI.out 0]; rfl)
        have e0 : W2.cell? ⟨wr.heap.size + 1, 0, none⟩ = some (.string y.f0) := (by rw [blk_cell BE.out 0]; rfl)
        have e1 : W2.cell? ⟨wr.heap.size + 1, 1, none⟩ = some (.string y.f1) := (by rw [blk_cell BE.out 1]; rfl)
        have e2 : W2.cell? ⟨wr.heap.size + 1, 2, none⟩ = some (.int .i64 y.f2) := (by rw [blk_cell BE.out 2]; rfl)
        have e3 : W2.cell? ⟨wr.heap.size + 1, 3, none⟩ = some (.bool y.f3) := (by rw [blk_cell BE.out 3]; rfl)
        have z2 : W2.cell? ⟨w.heap.size, 0, none⟩ = some (.slice (some ad) l0.length c0) := (by rw [blk_cell B2.out 0]; rfl)
        cases kk with
        | zero =>
          have HK : Aside0 (keepE l0 l1 0 = true) := ⟨rfl⟩
          go_quiet (fail)
          go_wp2_with (first | ((with_reducible refine gate_builtin (b := .append) (xs := #[.tmp 36, .tmp 38]) rfl ?_); (try (refine gate_guard (by rfl) ?_; dsimp only)); at_builtin; refine Kd.R_append k88 (w0 := w) w.heap.size rfl (.tmp 36) (.tmp 38) 50 88 (.agg #[(.string ⟨#[]⟩), (.string ⟨#[]⟩), (.int .i64 0), (.bool false)]) 48 rfl Try.underlying50 info88 rfl (by decide) (by omega) u5 acc y [.string y.f0, .string y.f1, .int .i64 y.f2, .bool y.f3] (fun _ => True) (fun _ => False) rfl rfl ?aP (fun _ hk => hk.elim) ?aF ?aO ?aB ?aS ?aL ?_; (case aP => exact k88_mkM _ _ _ y); (case aF => exact fun _ _ => trivial); (case aO => exact Kd.R_drewN HO2.out nq); (case aB => exact pw_below_drewN HB2.out nq); (case aS => exact below_size (pw_below_drewN HB2.out nq)); (case aL => have := LM.out; have := HN.out; omega); intro v6 w6 ho hb hg hat; have HO6 := Aside0.mk ho; have HB6 := Aside0.mk hb; have B06 := Aside0.mk (blk_grown (show (World.drewN W2 nq).heap[w.heap.size]? = some (.cells #[.slice (some ad) l0.length c0] 50 (0, 0)) from B2.out) hg (Kd.R_ne (Kd.R_drewN HO2.out nq) (show (World.drewN W2 nq).heap[w.heap.size]? = some (.cells #[.slice (some ad) l0.length c0] 50 (0, 0)) from B2.out) (by decide))); clear ho hb hg hat))
          go_roundg (l0.length - (0 + 1))
          case measure => omega
          case rel => exact ⟨0 + 1, acc ++ [y], by omega, by omega, by go_num, HO6, ⟨by have := HN.out; rw [List.length_append, List.length_singleton]; omega⟩, ⟨by rw [← HE.out, List.append_assoc, show l0.length - 0 = (l0.length - (0 + 1)) + 1 by omega, seensF, if_pos HK.out, HY.out]; rfl⟩, B06, HB6⟩
        | succ k =>
          obtain ⟨ad', e', g0, g1, g2, g3⟩ := at_T88 (Kd.C_below HR0.out HB2.out) k (by omega) (by omega)
          cases e'
          simp only [Int.toNat_natCast] at g0 g1 g2 g3
          obtain ⟨x, hx⟩ : ∃ x, rd_T88 l0 k = x := ⟨_, rfl⟩
          rw [hx] at g0 g1 g2 g3
          have HX := Aside0.mk hx
          clear hx
          have ei : wrap64 (((k + 1 : Nat) : Int) - 1) = (k : Int) := by unfold wrap64; omega
          have ej : (((k + 1 : Nat) : Int) - 1) = (k : Int) := by omega
          have en : (((k + 1 : Nat) : Int) == 0) = false := beq_eq_false_iff_ne.mpr (by omega)
          have en2 : ((((k : Nat) : Int) + 1) == 0) = false := beq_eq_false_iff_ne.mpr (by omega)
          have HKD : Aside0 (keepE l0 l1 (k + 1) = ((!(x.f0.toList == y.f0.toList)) || l1.any (fun n => decide (y.f2 ≤ n) && decide (n < x.f2)))) := ⟨by
            have a1 : (((k + 1 : Nat) : Int) - 1) = (k : Int) := by omega
            unfold keepE
            rw [a1, HX.out, HY.out]
            simp⟩
          have EI := Aside0.mk ei
          have EJ := Aside0.mk ej
          by_cases hs : x.f0.toList = y.f0.toList
          · have hsb : (x.f0.toList == y.f0.toList) = true := beq_iff_eq.mpr hs
            have hsc : (x.f0.toList != y.f0.toList) = false := bne_eq_false_iff_eq.mpr hs
            have HS := Aside0.mk hs
            clear hs
            have HQ : Aside0 (∀ (nd : Nat) (W : World) (n : Int), Below (World.drewN W2 nd).heap.size (World.drewN W2 nd) W → Calls Try.prog 97 (#[.int .i64 n] ++ #[.pointer (some ⟨wr.heap.size + 1, 0, none⟩), .pointer (some ⟨w.heap.size, 0, none⟩), .pointer (some ⟨wr.heap.size, 0, none⟩)]) W fun e w' => e = .returned (.bool (decide (y.f2 ≤ n) && decide (n < x.f2))) ∧ Below (World.drewN W2 nd).heap.size (World.drewN W2 nd) w') := by
              refine ⟨fun nd W n hb => ?_⟩
              have hk := seens_lit (wr.heap.size + 1) w.heap.size wr.heap.size y (some ad) c0 l0 k W (by rw [blk_cell (blk_after (w := World.drewN W2 nd) BE.out hb) 2]; rfl) (by rw [blk_cell (blk_after (w := World.drewN W2 nd) B2.out hb) 0]; rfl) (by rw [blk_cell (blk_after (w := World.drewN W2 nd) BI.out hb) 0]; rfl) (Kd.C_below HR0.out (below_step (pw_below_drewN HB2.out nd) hb)) (by omega) n
              rw [HX.out] at hk
              exact hk.mono (fun e w' hh => ⟨hh.1, below_step hb hh.2⟩)
            obtain ⟨b, hb⟩ : ∃ b, l1.any (fun n => decide (y.f2 ≤ n) && decide (n < x.f2)) = b := ⟨_, rfl⟩
            have HH := Aside0.mk hb
            clear hb
            have HK : Aside0 (keepE l0 l1 (k + 1) = b) := ⟨by rw [HKD.out, hsb, HH.out]; rfl⟩
            go_quiet (fail)
            cases b with
            | true =>
              go_wp2_with (first | (go_at_call 96; refine (has_int 97 #[.pointer (some ⟨wr.heap.size + 1, 0, none⟩), .pointer (some ⟨w.heap.size, 0, none⟩), .pointer (some ⟨wr.heap.size, 0, none⟩)] (enters_of Try.func97 (by kernel_rfl) rfl) (fun n => decide (y.f2 ≤ n) && decide (n < x.f2)) A1 c1 l1 _ (Kd.C_below HR1.out (pw_below_drewN HB2.out nq)) (HQ.out nq)).mono ?_; rw [HH.out]; rintro e w3 ⟨rfl, hb⟩; have HO3 := Aside0.mk (Kd.R_below (Kd.R_drewN HO2.out nq) hb); have B3 := Aside0.mk (blk_after (w := World.drewN W2 nq) B2.out hb); have HB3 := Aside0.mk (below_step (pw_below_drewN HB2.out nq) hb); have BE3 := Aside0.mk (blk_after (w := World.drewN W2 nq) BE.out hb); clear hb; have f0 : w3.cell? ⟨wr.heap.size + 1, 0, none⟩ = some (.string y.f0) := (by rw [blk_cell BE3.out 0]; rfl); have f1 : w3.cell? ⟨wr.heap.size + 1, 1, none⟩ = some (.string y.f1) := (by rw [blk_cell BE3.out 1]; rfl); have f2 : w3.cell? ⟨wr.heap.size + 1, 2, none⟩ = some (.int .i64 y.f2) := (by rw [blk_cell BE3.out 2]; rfl); have f3 : w3.cell? ⟨wr.heap.size + 1, 3, none⟩ = some (.bool y.f3) := (by rw [blk_cell BE3.out 3]; rfl)) | ((with_reducible refine gate_builtin (b := .append) (xs := #[.tmp 36, .tmp 38]) rfl ?_); (try (refine gate_guard (by rfl) ?_; dsimp only)); at_builtin; refine Kd.R_append k88 (w0 := w) w.heap.size rfl (.tmp 36) (.tmp 38) 50 88 (.agg #[(.string ⟨#[]⟩), (.string ⟨#[]⟩), (.int .i64 0), (.bool false)]) 48 rfl Try.underlying50 info88 rfl (by decide) (by omega) u5 acc y [.string y.f0, .string y.f1, .int .i64 y.f2, .bool y.f3] (fun _ => True) (fun _ => False) rfl rfl ?aP (fun _ hk => hk.elim) ?aF ?aO ?aB ?aS ?aL ?_; (case aP => exact k88_mkM _ _ _ y); (case aF => exact fun _ _ => trivial); (case aO => exact HO3.out); (case aB => exact HB3.out); (case aS => exact below_size (HB3.out)); (case aL => have := LM.out; have := HN.out; omega); intro v6 w6 ho hb hg hat; have HO6 := Aside0.mk ho; have HB6 := Aside0.mk hb; have B06 := Aside0.mk (blk_grown (B3.out) hg (Kd.R_ne (HO3.out) (B3.out) (by decide))); clear ho hb hg hat))
              go_roundg (l0.length - ((k + 1) + 1))
              case measure => omega
              case rel => exact ⟨(k + 1) + 1, acc ++ [y], by omega, by omega, by go_num, HO6, ⟨by have := HN.out; rw [List.length_append, List.length_singleton]; omega⟩, ⟨by rw [← HE.out, List.append_assoc, show l0.length - (k + 1) = (l0.length - (k + 1 + 1)) + 1 by omega, seensF, if_pos HK.out, HY.out]; rfl⟩, B06, HB6⟩
            | false =>
              go_wp2_with (first | (go_at_call 96; refine (has_int 97 #[.pointer (some ⟨wr.heap.size + 1, 0, none⟩), .pointer (some ⟨w.heap.size, 0, none⟩), .pointer (some ⟨wr.heap.size, 0, none⟩)] (enters_of Try.func97 (by kernel_rfl) rfl) (fun n => decide (y.f2 ≤ n) && decide (n < x.f2)) A1 c1 l1 _ (Kd.C_below HR1.out (pw_below_drewN HB2.out nq)) (HQ.out nq)).mono ?_; rw [HH.out]; rintro e w3 ⟨rfl, hb⟩; have HO3 := Aside0.mk (Kd.R_below (Kd.R_drewN HO2.out nq) hb); have B3 := Aside0.mk (blk_after (w := World.drewN W2 nq) B2.out hb); have HB3 := Aside0.mk (below_step (pw_below_drewN HB2.out nq) hb); have BE3 := Aside0.mk (blk_after (w := World.drewN W2 nq) BE.out hb); clear hb; have f0 : w3.cell? ⟨wr.heap.size + 1, 0, none⟩ = some (.string y.f0) := (by rw [blk_cell BE3.out 0]; rfl); have f1 : w3.cell? ⟨wr.heap.size + 1, 1, none⟩ = some (.string y.f1) := (by rw [blk_cell BE3.out 1]; rfl); have f2 : w3.cell? ⟨wr.heap.size + 1, 2, none⟩ = some (.int .i64 y.f2) := (by rw [blk_cell BE3.out 2]; rfl); have f3 : w3.cell? ⟨wr.heap.size + 1, 3, none⟩ = some (.bool y.f3) := (by rw [blk_cell BE3.out 3]; rfl)))
              go_roundg (l0.length - ((k + 1) + 1))
              case measure => omega
              case rel => exact ⟨(k + 1) + 1, acc, by omega, by omega, by go_num, HO3, ⟨by have := HN.out; omega⟩, ⟨by rw [← HE.out, show l0.length - (k + 1) = (l0.length - (k + 1 + 1)) + 1 by omega, seensF, if_neg (by rw [HK.out]; decide)]⟩, B3, HB3⟩
          · have hsb : (x.f0.toList == y.f0.toList) = false := beq_eq_false_iff_ne.mpr hs
            have hsc : (x.f0.toList != y.f0.toList) = true := bne_iff_ne.mpr hs
            clear hs
            have HK : Aside0 (keepE l0 l1 (k + 1) = true) := ⟨by rw [HKD.out, hsb]; rfl⟩
            go_quiet (fail)
            go_wp2_with (first | ((with_reducible refine gate_builtin (b := .append) (xs := #[.tmp 36, .tmp 38]) rfl ?_); (try (refine gate_guard (by rfl) ?_; dsimp only)); at_builtin; refine Kd.R_append k88 (w0 := w) w.heap.size rfl (.tmp 36) (.tmp 38) 50 88 (.agg #[(.string ⟨#[]⟩), (.string ⟨#[]⟩), (.int .i64 0), (.bool false)]) 48 rfl Try.underlying50 info88 rfl (by decide) (by omega) u5 acc y [.string y.f0, .string y.f1, .int .i64 y.f2, .bool y.f3] (fun _ => True) (fun _ => False) rfl rfl ?aP (fun _ hk => hk.elim) ?aF ?aO ?aB ?aS ?aL ?_; (case aP => exact k88_mkM _ _ _ y); (case aF => exact fun _ _ => trivial); (case aO => exact Kd.R_drewN HO2.out nq); (case aB => exact pw_below_drewN HB2.out nq); (case aS => exact below_size (pw_below_drewN HB2.out nq)); (case aL => have := LM.out; have := HN.out; omega); intro v6 w6 ho hb hg hat; have HO6 := Aside0.mk ho; have HB6 := Aside0.mk hb; have B06 := Aside0.mk (blk_grown (show (World.drewN W2 nq).heap[w.heap.size]? = some (.cells #[.slice (some ad) l0.length c0] 50 (0, 0)) from B2.out) hg (Kd.R_ne (Kd.R_drewN HO2.out nq) (show (World.drewN W2 nq).heap[w.heap.size]? = some (.cells #[.slice (some ad) l0.length c0] 50 (0, 0)) from B2.out) (by decide))); clear ho hb hg hat))
            go_roundg (l0.length - ((k + 1) + 1))
            case measure => omega
            case rel => exact ⟨(k + 1) + 1, acc ++ [y], by omega, by omega, by go_num, HO6, ⟨by have := HN.out; rw [List.length_append, List.length_singleton]; omega⟩, ⟨by rw [← HE.out, List.append_assoc, show l0.length - (k + 1) = (l0.length - (k + 1 + 1)) + 1 by omega, seensF, if_pos HK.out, HY.out]; rfl⟩, B06, HB6⟩
      · have hltz : ¬ (kk : Int) < (l0.length : Int) := by omega
        obtain rfl : kk = l0.length := by omega
        have HE2 : Aside0 (acc = seensF l0 l1 l0.length 0) := ⟨by have := HE.out; rw [Nat.sub_self, seensF, List.append_nil] at this; exact this⟩
        go_wp2
        go_ret
        exact ⟨_, rfl, by rw [← HE2.out]; exact HO.out, BB.out⟩
  · rw [if_neg hl] at h; cases h

-- NOT PRINTED: function 110 (slices_Backward_Entry_1)

-- NOT PRINTED: function 98 (slices_Backward_Entry)

/-! ### slices_Reverse_Entry: function 99 -/
theorem z99a {p_ : Prop} (h_ : p_ := by first | (with_reducible assumption) | assumption) : p_ := h_
def slices_Reverse_Entry.l0 : Nat → List (S88) → Int → Int → Option ((List (S88)))
 | 0, _, _, _ => none
 | k + 1, x0, x2, x3 => if x2 < x3 then (if 0 ≤ x3 then (if x3 < (x0.length : Int) then (if 0 ≤ x2 then (if x2 < (x0.length : Int) then (slices_Reverse_Entry.l0 k ((x0.set (x2 : Int).toNat (⟨(rd_T88 x0 x3).f0, (rd_T88 x0 x3).f1, (rd_T88 x0 x3).f2, (rd_T88 x0 x3).f3⟩ : S88)).set (x3 : Int).toNat (⟨(rd_T88 x0 x2).f0, (rd_T88 x0 x2).f1, (rd_T88 x0 x2).f2, (rd_T88 x0 x2).f3⟩ : S88)) (wrap64 (x2 + 1)) (wrap64 (x3 - 1))) else (none)) else (none)) else (none)) else (none)) else (some x0)
def slices_Reverse_Entry.f (k : Nat) (l0 : List (S88)) : Option ((List (S88))) := slices_Reverse_Entry.l0 k l0 0 (wrap64 ((l0.length : Int) - 1))
theorem slices_Reverse_Entry.mono_l : ∀ k, (∀ y0 y1 y2, LeO (slices_Reverse_Entry.l0 k y0 y1 y2) (slices_Reverse_Entry.l0 (k + 1) y0 y1 y2))
 | 0 => fun _ _ _ r h => by simp [slices_Reverse_Entry.l0] at h
 | k + 1 => by
  have ih0 := slices_Reverse_Entry.mono_l k
  {
  intro y0 y1 y2
  unfold slices_Reverse_Entry.l0
  repeat' first
  | (with_reducible exact ih0 _ _ _)
  | (with_reducible exact LeO.refl _)
  | (with_reducible exact LeO.none _)
  | (with_reducible refine LeO.ite ?_ ?_)
  | (with_reducible refine LeO.bind ?_ (fun _ => ?_))
  | exact ih0 _ _ _
  | exact LeO.none _
  | refine LeO.ite ?_ ?_
  | refine LeO.bind ?_ (fun _ => ?_)
  }
theorem slices_Reverse_Entry.mono : ∀ a0 k, LeO (slices_Reverse_Entry.f k a0) (slices_Reverse_Entry.f (k + 1) a0) := by
 intro a0 k
 have ih0 := slices_Reverse_Entry.mono_l k
 unfold slices_Reverse_Entry.f
 repeat' first
   | (with_reducible exact ih0 _ _ _)
   | (with_reducible exact LeO.refl _)
   | (with_reducible exact LeO.none _)
   | (with_reducible refine LeO.ite ?_ ?_)
   | (with_reducible refine LeO.bind ?_ (fun _ => ?_))
   | exact ih0 _ _ _
   | exact LeO.none _
   | refine LeO.ite ?_ ?_
   | refine LeO.bind ?_ (fun _ => ?_)
def slices_Reverse_Entry.T3 : Bool × List (List Nat × List Nat) := (true, [([], []), ([], []), ([], []), ([], []), ([], []), ([], []), ([4, 5], [4, 5]), ([6], [6]), ([], []), ([], []), ([8, 9], [8, 9]), ([10], [10]), ([0, 1, 0, 1, 4, 5, 6, 7, 11], [0, 1]), ([12, 7, 0, 1, 4, 5, 6, 7, 11], [7, 12]), ([2, 3, 0, 1, 2, 3, 4, 5, 6, 7, 8, 9, 10, 11, 12, 13], [2, 3]), ([14, 11, 13, 0, 1, 2, 3, 4, 5, 6, 7, 8, 9, 10, 11, 12, 13], [11, 14])])
def slices_Reverse_Entry.B3 : List Nat := [0, 0, 0, 0, 0, 0, 48, 112, 0, 0, 768, 1792, 4083, 8179, 16383, 32767]
theorem slices_Reverse_Entry.tab3 : rtab .any (opsOf Try.f99 3) = slices_Reverse_Entry.T3 := by kernel_rfl
theorem slices_Reverse_Entry.bits3 : waitsOk slices_Reverse_Entry.T3.2 slices_Reverse_Entry.B3 = true := by kernel_rfl
set_option maxHeartbeats 8000000 in
set_option maxRecDepth 100000 in
theorem slices_Reverse_Entry.calls (k : Nat) (P0_ : Nat → Prop) (u9000_ : Value) (l0 : List (S88)) (r : List (S88)) (w0 w : World) (hB : Below w0.heap.size w0 w) (ho0 : Kd.R k88 88 w w0.heap.size P0_ u9000_ l0) (h : slices_Reverse_Entry.f k l0 = some r) :
  Calls Try.prog 99 #[u9000_] w fun e w' => e = .returned (.tuple #[]) ∧ Kd.R k88 88 w' w0.heap.size (fun k_ => (P0_ k_ ∨ w.heap.size ≤ k_)) u9000_ r ∧ Below w0.heap.size w0 w' ∧ Kept w w' (fun k_ => P0_ k_) := by
 have hu88 := Try.underlying88
 have HO0 := Aside0.mk (show Kd.R k88 88 w w0.heap.size (fun k_ => (P0_ k_ ∨ w.heap.size ≤ k_)) u9000_ l0 from Kd.R_mono ho0 (fun k_ hk => (.inl hk)))
 have HK := Aside0.mk (Kept.refl w (fun k_ => P0_ k_))
 have HW0 := Aside0.mk hB.size
 have HB := Aside0.mk hB
 clear hB
 have H : (slices_Reverse_Entry.l0 k l0 0 (wrap64 ((l0.length : Int) - 1))) = some r := h
 clear h
 have H' := Aside0.mk H
 clear H
 obtain ⟨Ao2, co2, eo2⟩ := Kd.R_slice HO0.out
 subst eo2
 go_enter Try.func99, Try.ntmps99
 go_wp2
 go_loopg [2, 3] k (fun kq v2 v3 w' => ∃ (x0_1 : List (S88)) (x2_1 : Int) (x3_1 : Int), v2 = .int .i64 x2_1 ∧ v3 = .int .i64 x3_1 ∧ Aside0 (slices_Reverse_Entry.l0 kq x0_1 x2_1 x3_1 = some r) ∧ Aside0 (kq ≤ k) ∧ Aside0 (Kd.R k88 88 w' w0.heap.size (fun k_ => (P0_ k_ ∨ w.heap.size ≤ k_)) (.slice Ao2 l0.length co2) x0_1) ∧ Aside0 (Kept w w' (fun k_ => P0_ k_)) ∧ Aside0 (Below w0.heap.size w0 w'))
 case atStart => exact ⟨(l0), (0), (wrap64 ((l0.length : Int) - 1)), (by first | rfl | (simp; done) | (simp [*]; done)), (by first | rfl | (simp; done) | (simp [*]; done)), H', ⟨Nat.le_refl _⟩, ⟨by (with_reducible repeat (first | apply Kd.R_alloc | apply Kd.R_drewN | apply Kd.R_drew)); exact HO0.out⟩, ⟨by repeat (first | (with_reducible first | exact HK.out | apply Kept.alloc | apply Kept.drewN | apply Kept.drew) | exact HK.out)⟩, ⟨by repeat (first | (with_reducible first | exact HB.out | apply below_alloc | apply pw_below_drewN | apply below_drew1) | exact HB.out)⟩⟩
 case round =>
  clear H'
  try clear p2
  obtain ⟨x0_1, x2_1, x3_1, rfl, rfl, HA, HK1, HO_0, HK, HB⟩ := hrel
  have hl0_1 := (Kd.R_reads' HO_0.out).1
  rw [hl0_1] at HO_0
  (try simp only [hl0_1])
  cases gk with
  | zero => exact absurd HA.out (by simp [slices_Reverse_Entry.l0])
  | succ k1 =>
   have H := HA.out
   clear HA
   simp only [slices_Reverse_Entry.l0] at H
   by_cases c3 : x2_1 < x3_1
   {
   rw [if_pos c3] at H
   have c3b0 : decide (x2_1 < x3_1) = true := decide_eq_true c3
   clear c3
   by_cases c4 : 0 ≤ x3_1
   {
   rw [if_pos c4] at H
   have c4b0 : decide (0 ≤ x3_1) = true := decide_eq_true c4
   clear c4
   by_cases c5 : x3_1 < (x0_1.length : Int)
   {
   rw [if_pos c5] at H
   have c5b0 : decide (x3_1 < (x0_1.length : Int)) = true := decide_eq_true c5
   clear c5
   by_cases c6 : 0 ≤ x2_1
   {
   rw [if_pos c6] at H
   have c6b0 : decide (0 ≤ x2_1) = true := decide_eq_true c6
   clear c6
   by_cases c7 : x2_1 < (x0_1.length : Int)
   {
   rw [if_pos c7] at H
   have c7b0 : decide (x2_1 < (x0_1.length : Int)) = true := decide_eq_true c7
   clear c7
   obtain ⟨y239, hy239⟩ : ∃ y_ : List (S88), y_ = (x0_1.set (x2_1 : Int).toNat (⟨(rd_T88 x0_1 x3_1).f0, (rd_T88 x0_1 x3_1).f1, (rd_T88 x0_1 x3_1).f2, (rd_T88 x0_1 x3_1).f3⟩ : S88)) := ⟨_, rfl⟩
   replace H : (slices_Reverse_Entry.l0 k1 (y239.set (x3_1 : Int).toNat (⟨(rd_T88 x0_1 x2_1).f0, (rd_T88 x0_1 x2_1).f1, (rd_T88 x0_1 x2_1).f2, (rd_T88 x0_1 x2_1).f3⟩ : S88)) (wrap64 (x2_1 + 1)) (wrap64 (x3_1 - 1))) = some r := by first | (rw [hy239]; with_reducible exact H) | (have H2_ := (Option.bind_some _ _).symm.trans H; rw [hy239]; with_reducible exact H2_) | (have H2_ := (Option.bind_some _ _).symm.trans H; with_reducible exact H2_) | with_reducible exact H | (rw [hy239]; exact H) | exact H
   have Ny239 := Aside0.mk hy239
   clear hy239
   obtain ⟨y240, hy240⟩ : ∃ y_ : List (S88), y_ = (y239.set (x3_1 : Int).toNat (⟨(rd_T88 x0_1 x2_1).f0, (rd_T88 x0_1 x2_1).f1, (rd_T88 x0_1 x2_1).f2, (rd_T88 x0_1 x2_1).f3⟩ : S88)) := ⟨_, rfl⟩
   replace H : (slices_Reverse_Entry.l0 k1 y240 (wrap64 (x2_1 + 1)) (wrap64 (x3_1 - 1))) = some r := by first | (rw [hy240]; with_reducible exact H) | (have H2_ := (Option.bind_some _ _).symm.trans H; rw [hy240]; with_reducible exact H2_) | (have H2_ := (Option.bind_some _ _).symm.trans H; with_reducible exact H2_) | with_reducible exact H | (rw [hy240]; exact H) | exact H
   have Ny240 := Aside0.mk hy240
   clear hy240
   have H' := Aside0.mk H
   clear H
   try go_wp2
   have n0_ := Aside0.mk (Kd.R_drew HO_0.out)
   have n1_ := Aside0.mk (Kept.drew HK.out)
   have n2_ := Aside0.mk (below_drew1 HB.out)
   clear HO_0
   clear HK
   clear HB
   have HO_0 := n0_
   have HK := n1_
   have HB := n2_
   clear n0_ n1_ n2_
   have p237 : 0 ≤ (x3_1 : Int) := of_decide_eq_true z99a
   have q237 : x3_1 < (x0_1.length : Int) := of_decide_eq_true z99a
   obtain ⟨ad237, e237, hx237_0, hx237_1, hx237_2, hx237_3⟩ := at_T88 (Kd.R_reads' HO_0.out).2.2 x3_1 p237 q237
   cases e237
   replace p237 := eq_true p237
   replace q237 := eq_true q237
   have p238 : 0 ≤ (x2_1 : Int) := of_decide_eq_true z99a
   have q238 : x2_1 < (x0_1.length : Int) := of_decide_eq_true z99a
   obtain ⟨ad238, e238, hx238_0, hx238_1, hx238_2, hx238_3⟩ := at_T88 (Kd.R_reads' HO_0.out).2.2 x2_1 p238 q238
   obtain rfl : ad237 = ad238 := (by injection e238)
   replace p238 := eq_true p238
   replace q238 := eq_true q238
   have p8 : 0 ≤ (x2_1 : Int) := of_decide_eq_true z99a
   have q8 : (x2_1 : Int) < ((x0_1.length : Int) : Int) := of_decide_eq_true z99a
   obtain ⟨go8, co8, eo8, gb8, gl8, cl8, HG8⟩ := Kd.R_form HO_0.out (by omega)
   (first | cases eo8 | (injection eo8 with ea_ en_ ec_; (first | subst ea_ | (injection ea_ with ea_; subst ea_)); subst ec_; clear en_))
   have GB8 := Aside0.mk gb8
   have GG8 := Aside0.mk HG8
   clear gb8 gl8 HG8
   have HMgo8 := Aside0.mk (show (P0_ go8 ∨ w.heap.size ≤ go8) from (HO_0.out.1 _ rfl))
   (first | simp only [add_plain] at hx237_0 | skip)
   (first | simp only [add_plain] at hx237_1 | skip)
   (first | simp only [add_plain] at hx237_2 | skip)
   (first | simp only [add_plain] at hx237_3 | skip)
   (first | simp only [add_plain] at hx238_0 | skip)
   (first | simp only [add_plain] at hx238_1 | skip)
   (first | simp only [add_plain] at hx238_2 | skip)
   (first | simp only [add_plain] at hx238_3 | skip)
   obtain ⟨ce8, hcl8, hM8, hcc8, hfr8⟩ := Kd.R_elem HO_0.out z88 (x2_1 : Int) p8 q8
   obtain rfl := k88_openM hM8
   have hx8_0 : World.cell? _ ⟨go8, (x2_1 : Int).toNat * 4, none⟩ = some (.string ((rd_T88 x0_1 x2_1).f0)) := hcc8 0 _ rfl
   have hx8_1 : World.cell? _ ⟨go8, (x2_1 : Int).toNat * 4 + 1, none⟩ = some (.string ((rd_T88 x0_1 x2_1).f1)) := hcc8 1 _ rfl
   have hx8_2 : World.cell? _ ⟨go8, (x2_1 : Int).toNat * 4 + 2, none⟩ = some (.int .i64 ((rd_T88 x0_1 x2_1).f2)) := hcc8 2 _ rfl
   have hx8_3 : World.cell? _ ⟨go8, (x2_1 : Int).toNat * 4 + 3, none⟩ = some (.bool ((rd_T88 x0_1 x2_1).f3)) := hcc8 3 _ rfl
   have hf8_0 : World.frozen? _ ⟨go8, (x2_1 : Int).toNat * 4, none⟩ = false := hfr8 0
   have hf8_1 : World.frozen? _ ⟨go8, (x2_1 : Int).toNat * 4 + 1, none⟩ = false := hfr8 1
   have hf8_2 : World.frozen? _ ⟨go8, (x2_1 : Int).toNat * 4 + 2, none⟩ = false := hfr8 2
   have hf8_3 : World.frozen? _ ⟨go8, (x2_1 : Int).toNat * 4 + 3, none⟩ = false := hfr8 3
   clear hcl8 hcc8 hfr8 hM8
   replace p8 := eq_true p8
   replace q8 := eq_true q8
   obtain ⟨ce11, hcl11, hM11, hcc11, hfr11⟩ := Kd.R_elem HO_0.out z88 (x2_1 : Int) (of_decide_eq_true z99a) (by have h_ : (x2_1 : Int) < ((x0_1.length : Int) : Int) := of_decide_eq_true z99a; first | exact h_ | (have e_ := (Kd.R_reads' HO_0.out).1; omega) | simpa using h_)
   obtain rfl := k88_openM hM11
   have HP11 := (Kd.R_seg HO_0.out (x2_1 : Int) (of_decide_eq_true z99a) (by have h_ : (x2_1 : Int) < ((x0_1.length : Int) : Int) := of_decide_eq_true z99a; first | exact h_ | (have e_ := (Kd.R_reads' HO_0.out).1; omega) | simpa using h_) (seg := [.string ((rd_T88 x0_1 x3_1).f0), .string ((rd_T88 x0_1 x3_1).f1), .int .i64 ((rd_T88 x0_1 x3_1).f2), .bool ((rd_T88 x0_1 x3_1).f3)]) (j := 0) hcl11 hcc11 (show 4 ≤ 4 from (by decide)) (x' := (⟨(rd_T88 x0_1 x3_1).f0, (rd_T88 x0_1 x3_1).f1, (rd_T88 x0_1 x3_1).f2, (rd_T88 x0_1 x3_1).f3⟩ : S88)) (k88_mkM _ _ _ (⟨(rd_T88 x0_1 x3_1).f0, (rd_T88 x0_1 x3_1).f1, (rd_T88 x0_1 x3_1).f2, (rd_T88 x0_1 x3_1).f3⟩ : S88) ) (fun _ hk => hk)).1
   rw [← Ny239.out] at HP11
   have HQ11 := Aside0.mk HP11
   clear hcl11 hcc11 hfr11 hM11 HP11
   have p9 : 0 ≤ (x3_1 : Int) := of_decide_eq_true z99a
   have q9 : (x3_1 : Int) < ((x0_1.length : Int) : Int) := of_decide_eq_true z99a
   obtain ⟨ce9, hcl9, hM9, hcc9, hfr9⟩ := Kd.R_elem HQ11.out z88 (x3_1 : Int) p9 q9
   obtain rfl := k88_openM hM9
   have hx9_0 : World.cell? _ ⟨go8, (x3_1 : Int).toNat * 4, none⟩ = some (.string ((rd_T88 y239 x3_1).f0)) := hcc9 0 _ rfl
   have hx9_1 : World.cell? _ ⟨go8, (x3_1 : Int).toNat * 4 + 1, none⟩ = some (.string ((rd_T88 y239 x3_1).f1)) := hcc9 1 _ rfl
   have hx9_2 : World.cell? _ ⟨go8, (x3_1 : Int).toNat * 4 + 2, none⟩ = some (.int .i64 ((rd_T88 y239 x3_1).f2)) := hcc9 2 _ rfl
   have hx9_3 : World.cell? _ ⟨go8, (x3_1 : Int).toNat * 4 + 3, none⟩ = some (.bool ((rd_T88 y239 x3_1).f3)) := hcc9 3 _ rfl
   have hf9_0 : World.frozen? _ ⟨go8, (x3_1 : Int).toNat * 4, none⟩ = false := hfr9 0
   have hf9_1 : World.frozen? _ ⟨go8, (x3_1 : Int).toNat * 4 + 1, none⟩ = false := hfr9 1
   have hf9_2 : World.frozen? _ ⟨go8, (x3_1 : Int).toNat * 4 + 2, none⟩ = false := hfr9 2
   have hf9_3 : World.frozen? _ ⟨go8, (x3_1 : Int).toNat * 4 + 3, none⟩ = false := hfr9 3
   clear hcl9 hcc9 hfr9 hM9
   replace p9 := eq_true p9
   replace q9 := eq_true q9
   obtain ⟨ce12, hcl12, hM12, hcc12, hfr12⟩ := Kd.R_elem HQ11.out z88 (x3_1 : Int) (of_decide_eq_true z99a) (by have h_ : (x3_1 : Int) < ((x0_1.length : Int) : Int) := of_decide_eq_true z99a; first | exact h_ | (have e_ := (Kd.R_reads' HO_0.out).1; omega) | simpa using h_)
   obtain rfl := k88_openM hM12
   have HP12 := (Kd.R_seg HQ11.out (x3_1 : Int) (of_decide_eq_true z99a) (by have h_ : (x3_1 : Int) < ((x0_1.length : Int) : Int) := of_decide_eq_true z99a; first | exact h_ | (have e_ := (Kd.R_reads' HO_0.out).1; omega) | simpa using h_) (seg := [.string ((rd_T88 x0_1 x2_1).f0), .string ((rd_T88 x0_1 x2_1).f1), .int .i64 ((rd_T88 x0_1 x2_1).f2), .bool ((rd_T88 x0_1 x2_1).f3)]) (j := 0) hcl12 hcc12 (show 4 ≤ 4 from (by decide)) (x' := (⟨(rd_T88 x0_1 x2_1).f0, (rd_T88 x0_1 x2_1).f1, (rd_T88 x0_1 x2_1).f2, (rd_T88 x0_1 x2_1).f3⟩ : S88)) (k88_mkM _ _ _ (⟨(rd_T88 x0_1 x2_1).f0, (rd_T88 x0_1 x2_1).f1, (rd_T88 x0_1 x2_1).f2, (rd_T88 x0_1 x2_1).f3⟩ : S88) ) (fun _ hk => hk)).1
   rw [← Ny240.out] at HP12
   have HQ12 := Aside0.mk HP12
   clear hcl12 hcc12 hfr12 hM12 HP12
   refine start_ (n := 16) (S := fun w' => w'.cell? ⟨go8, ((x3_1).toNat * 4), none⟩ = some (.string ((rd_T88 x0_1 x3_1).f0)) ∧ w'.cell? ⟨go8, ((x3_1).toNat * 4) + 1, none⟩ = some (.string ((rd_T88 x0_1 x3_1).f1)) ∧ w'.cell? ⟨go8, ((x3_1).toNat * 4) + 2, none⟩ = some (.int .i64 ((rd_T88 x0_1 x3_1).f2)) ∧ w'.cell? ⟨go8, ((x3_1).toNat * 4) + 3, none⟩ = some (.bool ((rd_T88 x0_1 x3_1).f3)) ∧ w'.cell? ⟨go8, ((x2_1).toNat * 4), none⟩ = some (.string ((rd_T88 x0_1 x2_1).f0)) ∧ w'.cell? ⟨go8, ((x2_1).toNat * 4) + 1, none⟩ = some (.string ((rd_T88 x0_1 x2_1).f1)) ∧ w'.cell? ⟨go8, ((x2_1).toNat * 4) + 2, none⟩ = some (.int .i64 ((rd_T88 x0_1 x2_1).f2)) ∧ w'.cell? ⟨go8, ((x2_1).toNat * 4) + 3, none⟩ = some (.bool ((rd_T88 x0_1 x2_1).f3))) (ds := [13, 15]) #[false, false, false, false, false, false, false, false, false, false, false, false, false, false, false, false] (by kernel_rfl) rfl rfl ⟨hx237_0, hx237_1, hx237_2, hx237_3, hx238_0, hx238_1, hx238_2, hx238_3⟩ (fun hHeld => ?_); refine with_tabW slices_Reverse_Entry.tab3 slices_Reverse_Entry.bits3 (fun HT_ HW_ => ?_)
   generalize wr.drew = w10 at HO_0 HK HB GG8 HQ11 HQ12 hf8_0 hf8_1 hf8_2 hf8_3 hf9_0 hf9_1 hf9_2 hf9_3 hx237_0 hx237_1 hx237_2 hx237_3 hx238_0 hx238_1 hx238_2 hx238_3 hx8_0 hx8_1 hx8_2 hx8_3 hx9_0 hx9_1 hx9_2 hx9_3 hHeld ⊢
   refine pure_ (i := 0) (N := some 14) (v := ?_) (a' := ?_) #[true, false, false, false, false, false, false, false, false, false, false, false, false, false, false, false] rfl rfl (any_of HT_.out (by kernel_rfl)) (fun _ _ _ h => h) (Or.inl ⟨by rfl, ?_⟩) ?_ ?_
   rotate_left
   {
   intro w'
   go_simp
   with_reducible rfl
   }
   rotate_left
   {
   simp only [Act.put, List.setIfInBounds_toArray, List.set_cons_zero, List.set_cons_succ, i64_w, i32_w]
   rfl
   }
   refine pure_ (i := 1) (N := some 15) (v := ?_) (a' := ?_) #[true, true, false, false, false, false, false, false, false, false, false, false, false, false, false, false] rfl rfl (any_of HT_.out (by kernel_rfl)) (fun _ _ _ h => h) (Or.inl ⟨by rfl, ?_⟩) ?_ ?_
   rotate_left
   {
   intro w'
   go_simp
   with_reducible rfl
   }
   rotate_left
   {
   simp only [Act.put, List.setIfInBounds_toArray, List.set_cons_zero, List.set_cons_succ, i64_w, i32_w]
   rfl
   }
   refine pure_ (i := 2) (N := some 16) (v := ?_) (a' := ?_) #[true, true, true, false, false, false, false, false, false, false, false, false, false, false, false, false] rfl rfl (any_of HT_.out (by kernel_rfl)) (fun _ _ _ h => h) (Or.inl ⟨by rfl, ?_⟩) ?_ ?_
   rotate_left
   {
   intro w'
   go_simp
   with_reducible rfl
   }
   rotate_left
   {
   simp only [Act.put, List.setIfInBounds_toArray, List.set_cons_zero, List.set_cons_succ, i64_w, i32_w]
   rfl
   }
   refine pure_ (i := 3) (N := some 17) (v := ?_) (a' := ?_) #[true, true, true, true, false, false, false, false, false, false, false, false, false, false, false, false] rfl rfl (any_of HT_.out (by kernel_rfl)) (fun _ _ _ h => h) (Or.inl ⟨by rfl, ?_⟩) ?_ ?_
   rotate_left
   {
   intro w'
   go_simp
   with_reducible rfl
   }
   rotate_left
   {
   simp only [Act.put, List.setIfInBounds_toArray, List.set_cons_zero, List.set_cons_succ, i64_w, i32_w]
   rfl
   }
   refine pure_ (i := 4) (N := some 18) (v := ?_) (a' := ?_) #[true, true, true, true, true, false, false, false, false, false, false, false, false, false, false, false] rfl rfl (any_of HT_.out (by kernel_rfl)) (fun _ _ _ h => h) (Or.inl ⟨by rfl, ?_⟩) ?_ ?_
   rotate_left
   {
   intro w'
   go_simp
   with_reducible rfl
   }
   rotate_left
   {
   simp only [Act.put, List.setIfInBounds_toArray, List.set_cons_zero, List.set_cons_succ, i64_w, i32_w]
   rfl
   }
   refine pure_ (i := 5) (N := some 19) (v := ?_) (a' := ?_) #[true, true, true, true, true, true, false, false, false, false, false, false, false, false, false, false] rfl rfl (any_of HT_.out (by kernel_rfl)) (fun _ _ _ h => h) (Or.inl ⟨by rfl, ?_⟩) ?_ ?_
   rotate_left
   {
   intro w'
   go_simp
   with_reducible rfl
   }
   rotate_left
   {
   simp only [Act.put, List.setIfInBounds_toArray, List.set_cons_zero, List.set_cons_succ, i64_w, i32_w]
   rfl
   }
   refine pure_ (i := 6) (N := some 20) (v := ?_) (a' := ?_) #[true, true, true, true, true, true, true, false, false, false, false, false, false, false, false, false] rfl rfl (any_of HT_.out (by kernel_rfl)) (fun _ _ _ h => h) (Or.inl ⟨by rfl, ?_⟩) ?_ ?_
   rotate_left
   {
   intro w'
   go_simp
   with_reducible rfl
   }
   rotate_left
   {
   simp only [Act.put, List.setIfInBounds_toArray, List.set_cons_zero, List.set_cons_succ, i64_w, i32_w]
   rfl
   }
   refine pure_ (i := 8) (N := some 22) (v := ?_) (a' := ?_) #[true, true, true, true, true, true, true, false, true, false, false, false, false, false, false, false] rfl rfl (any_of HT_.out (by kernel_rfl)) (fun _ _ _ h => h) (Or.inl ⟨by rfl, ?_⟩) ?_ ?_
   rotate_left
   {
   intro w'
   go_simp
   with_reducible rfl
   }
   rotate_left
   {
   simp only [Act.put, List.setIfInBounds_toArray, List.set_cons_zero, List.set_cons_succ, i64_w, i32_w]
   rfl
   }
   refine pure_ (i := 9) (N := some 23) (v := ?_) (a' := ?_) #[true, true, true, true, true, true, true, false, true, true, false, false, false, false, false, false] rfl rfl (any_of HT_.out (by kernel_rfl)) (fun _ _ _ h => h) (Or.inl ⟨by rfl, ?_⟩) ?_ ?_
   rotate_left
   {
   intro w'
   go_simp
   with_reducible rfl
   }
   rotate_left
   {
   simp only [Act.put, List.setIfInBounds_toArray, List.set_cons_zero, List.set_cons_succ, i64_w, i32_w]
   rfl
   }
   refine pure_ (i := 10) (N := some 24) (v := ?_) (a' := ?_) #[true, true, true, true, true, true, true, false, true, true, true, false, false, false, false, false] rfl rfl (any_of HT_.out (by kernel_rfl)) (fun _ _ _ h => h) (Or.inl ⟨by rfl, ?_⟩) ?_ ?_
   rotate_left
   {
   intro w'
   go_simp
   with_reducible rfl
   }
   rotate_left
   {
   simp only [Act.put, List.setIfInBounds_toArray, List.set_cons_zero, List.set_cons_succ, i64_w, i32_w]
   rfl
   }
   refine take_ (i := 7) (N := some 21) (v := ?_) (a' := ?_) #[true, true, true, true, true, true, true, true, true, true, true, false, false, false, false, false] rfl rfl (take_ofW HT_.out HW_.out (by kernel_rfl)) (fun _ _ _ h => h) (Or.inl ⟨by rfl, ?_⟩) hHeld ?_ ?_
   rotate_left
   {
   rintro w' ⟨s0, s1, s2, s3, s4, s5, s6, s7⟩
   go_simp
   with_reducible rfl
   }
   rotate_left
   {
   simp only [Act.put, List.setIfInBounds_toArray, List.set_cons_zero, List.set_cons_succ, i64_w, i32_w]
   rfl
   }
   refine take_ (i := 11) (N := some 25) (v := ?_) (a' := ?_) #[true, true, true, true, true, true, true, true, true, true, true, true, false, false, false, false] rfl rfl (take_ofW HT_.out HW_.out (by kernel_rfl)) (fun _ _ _ h => h) (Or.inl ⟨by rfl, ?_⟩) hHeld ?_ ?_
   rotate_left
   {
   rintro w' ⟨s0, s1, s2, s3, s4, s5, s6, s7⟩
   go_simp
   with_reducible rfl
   }
   rotate_left
   {
   simp only [Act.put, List.setIfInBounds_toArray, List.set_cons_zero, List.set_cons_succ, i64_w, i32_w]
   rfl
   }
   refine pure_ (i := 12) (N := some 26) (v := ?_) (a' := ?_) #[true, true, true, true, true, true, true, true, true, true, true, true, true, false, false, false] rfl rfl (any_of HT_.out (by kernel_rfl)) (fun _ _ _ h => h) (Or.inl ⟨by rfl, ?_⟩) ?_ ?_
   rotate_left
   {
   intro w'
   go_simp
   with_reducible rfl
   }
   rotate_left
   {
   simp only [Act.put, List.setIfInBounds_toArray, List.set_cons_zero, List.set_cons_succ, i64_w, i32_w]
   rfl
   }
   refine last_ (i := 13) (N := none) #[true, true, true, true, true, true, true, true, true, true, true, true, true, true, false, false] rfl rfl (one_of HT_.out (by kernel_rfl)) (by decide) (fun K hK => ?_)
   refine skip_ (w1 := ?_) (by rfl) rfl ?_ ?_
   rotate_left
   {
   go_simp
   rfl
   }
   refine hK.out _ _ ?_
   clear hK K
   refine pure_ (i := 14) (N := some 27) (v := ?_) (a' := ?_) #[true, true, true, true, true, true, true, true, true, true, true, true, true, true, true, false] rfl rfl (any_of HT_.out (by kernel_rfl)) (fun _ _ _ h => h) (Or.inl ⟨by rfl, ?_⟩) ?_ ?_
   rotate_left
   {
   intro w'
   go_simp
   with_reducible rfl
   }
   rotate_left
   {
   simp only [Act.put, List.setIfInBounds_toArray, List.set_cons_zero, List.set_cons_succ, i64_w, i32_w]
   rfl
   }
   have hlt_ : x2_1 < x3_1 := of_decide_eq_true z99a
   have hge_ : 0 ≤ x2_1 := of_decide_eq_true z99a
   have off00_ : (x2_1.toNat * 4 = x3_1.toNat * 4) = False := eq_false (by omega)
   have off01_ : (x2_1.toNat * 4 = x3_1.toNat * 4 + 1) = False := eq_false (by omega)
   have off02_ : (x2_1.toNat * 4 = x3_1.toNat * 4 + 2) = False := eq_false (by omega)
   have off03_ : (x2_1.toNat * 4 = x3_1.toNat * 4 + 3) = False := eq_false (by omega)
   have off10_ : (x2_1.toNat * 4 + 1 = x3_1.toNat * 4) = False := eq_false (by omega)
   have off11_ : (x2_1.toNat * 4 + 1 = x3_1.toNat * 4 + 1) = False := eq_false (by omega)
   have off12_ : (x2_1.toNat * 4 + 1 = x3_1.toNat * 4 + 2) = False := eq_false (by omega)
   have off13_ : (x2_1.toNat * 4 + 1 = x3_1.toNat * 4 + 3) = False := eq_false (by omega)
   have off20_ : (x2_1.toNat * 4 + 2 = x3_1.toNat * 4) = False := eq_false (by omega)
   have off21_ : (x2_1.toNat * 4 + 2 = x3_1.toNat * 4 + 1) = False := eq_false (by omega)
   have off22_ : (x2_1.toNat * 4 + 2 = x3_1.toNat * 4 + 2) = False := eq_false (by omega)
   have off23_ : (x2_1.toNat * 4 + 2 = x3_1.toNat * 4 + 3) = False := eq_false (by omega)
   have off30_ : (x2_1.toNat * 4 + 3 = x3_1.toNat * 4) = False := eq_false (by omega)
   have off31_ : (x2_1.toNat * 4 + 3 = x3_1.toNat * 4 + 1) = False := eq_false (by omega)
   have off32_ : (x2_1.toNat * 4 + 3 = x3_1.toNat * 4 + 2) = False := eq_false (by omega)
   have off33_ : (x2_1.toNat * 4 + 3 = x3_1.toNat * 4 + 3) = False := eq_false (by omega)
   have fz0_ : w10.frozen? ⟨go8, (x3_1 : Int).toNat * 4, none⟩ = false := by first | exact hf9_0 | simpa [go_sem, World.setCells] using hf9_0
   have fz1_ : w10.frozen? ⟨go8, (x3_1 : Int).toNat * 4 + 1, none⟩ = false := by first | exact hf9_1 | simpa [go_sem, World.setCells] using hf9_1
   have fz2_ : w10.frozen? ⟨go8, (x3_1 : Int).toNat * 4 + 2, none⟩ = false := by first | exact hf9_2 | simpa [go_sem, World.setCells] using hf9_2
   have fz3_ : w10.frozen? ⟨go8, (x3_1 : Int).toNat * 4 + 3, none⟩ = false := by first | exact hf9_3 | simpa [go_sem, World.setCells] using hf9_3
   refine last_ (i := 15) (N := none) #[true, true, true, true, true, true, true, true, true, true, true, true, true, true, true, true] rfl rfl (one_of HT_.out (by kernel_rfl)) (by decide) (fun K hK => ?_)
   refine skip_ (w1 := ?_) (by rfl) rfl ?_ ?_
   rotate_left
   {
   go_simp
   rfl
   }
   refine hK.out _ _ ?_
   clear hK K
   refine done_ (done_of HT_.out (by kernel_rfl)) ?_
   try go_wp2
   (try simp only [← hl0_1])
   go_roundg k1
   case measure => have := HK1.out; omega
   case rel => exact ⟨(y240), (wrap64 (x2_1 + 1)), (wrap64 (x3_1 - 1)), (by first | rfl | (simp; done) | (simp [*]; done)), (by first | rfl | (simp; done) | (simp [*]; done)), H', ⟨by have := HK1.out; omega⟩, ⟨by (try simp only [hl0_1]); (with_reducible repeat (first | apply Kd.R_alloc | apply Kd.R_drewN | apply Kd.R_drew)); exact HQ12.out⟩, ⟨by repeat (first | (with_reducible first | exact HK.out | apply Kept.alloc | apply Kept.drewN | apply Kept.drew | refine Kept.setCell ?_ HMgo8.out _ | refine Kept.setCell ?_ HMgo8.out _ | refine Kept.setCell ?_ HMgo8.out _ | refine Kept.setCell ?_ HMgo8.out _ | refine Kept.setCell ?_ HMgo8.out _ | refine Kept.setCell ?_ HMgo8.out _ | refine Kept.setCell ?_ HMgo8.out _ | refine Kept.setCell ?_ HMgo8.out _) | exact HK.out)⟩, ⟨by repeat (first | (with_reducible first | exact HB.out | apply below_alloc | apply pw_below_drewN | apply below_drew1 | refine below_set ?_ GB8.out | refine below_set ?_ GB8.out | refine below_set ?_ GB8.out | refine below_set ?_ GB8.out | refine below_set ?_ GB8.out | refine below_set ?_ GB8.out | refine below_set ?_ GB8.out | refine below_set ?_ GB8.out) | exact HB.out)⟩⟩
   }
   {
   rw [if_neg c7] at H
   exact absurd H (by simp)
   }
   }
   {
   rw [if_neg c6] at H
   exact absurd H (by simp)
   }
   }
   {
   rw [if_neg c5] at H
   exact absurd H (by simp)
   }
   }
   {
   rw [if_neg c4] at H
   exact absurd H (by simp)
   }
   }
   {
   rw [if_neg c3] at H
   have c3b0 : decide (x2_1 < x3_1) = false := decide_eq_false c3
   clear c3
   obtain rfl := Option.some.inj H
   go_wp2
   first | go_end0 | ((try simp only [Exit.inBlock, Exit.then]); refine bodyPost_ret (results_none rfl _ _ _) rfl ?_)
   exact ⟨by first | rfl | (simp [errW_none, errW_some] <;> rfl) | (simp [*, errW_none, errW_some] <;> rfl), (by first | exact (by (with_reducible repeat (first | apply Kd.R_alloc | apply Kd.R_drewN | apply Kd.R_drew)); exact HO_0.out) | (simp only [hl0_1]; exact (by (with_reducible repeat (first | apply Kd.R_alloc | apply Kd.R_drewN | apply Kd.R_drew)); exact HO_0.out))), by repeat (first | (with_reducible first | exact HB.out | apply below_alloc | apply pw_below_drewN | apply below_drew1) | exact HB.out), by repeat (first | (with_reducible first | exact HK.out | apply Kept.alloc | apply Kept.drewN | apply Kept.drew) | exact HK.out)⟩
   
   }
end Go.Proofs.Ytajidjlbgpaaoaa.PFnExactBottom

-- by a program of this session (wip/print/run.py) for this claim
import Derived.Test.YtajidjlbgpaaoaaPFnSeensx0
import Derived.Test.YtajidjlbgpaaoaaPFnSeensx6
import Derived.Test.YtajidjlbgpaaoaaPFnSeensx7
namespace Go.Proofs.Ytajidjlbgpaaoaa.PFnSeens
open Go.RowKit Go.Proofs.YtajidjlbgpaaoaaW.PrintWords Go.Proofs.YtajidjlbgpaaoaaW.PrintLast Go.Proofs.YtajidjlbgpaaoaaW.PrintMore
attribute [local go_sem] max2_int min2_int max_two min_two max_three min_three max_four min_four   -- for this text's walks alone
set_option linter.unusedVariables false
set_option linter.unusedSimpArgs false

/-! ### impl_bottom: function 77 -/
/-! #### regions and operations in a round, by what is shown of them outside of one -/
theorem rowsIn_of {l n : Nat} {P : Program} {row : String} {args : Array Value} {w : World} {R : Value → World → Prop} (h : Rows P row args w R) : RowsIn (Fence.wide.inRound l) n P row args w R :=
  fun c cs _ => let ⟨v, w', r, s⟩ := h c cs; ⟨v, w', r, stepsIn_wide.2 s⟩
theorem callsIn_round {l n : Nat} {P : Program} {f : FuncId} {args : Array Value} {w : World} {R : Ending → World → Prop} (h : Calls P f args w R) : CallsIn (Fence.wide.inRound l) n P f args w R :=
  CallsIn.inRound l (callsIn_wide.2 h)
theorem inR_of_wp {P : Program} {l n : Nat} {o : Oper} {a : Act} {K K' : Act → World → Prop} {Q Q' : Exit → Act → World → Prop} {w : World} (hd : ∀ c, o.op ≠ .defer c) (hK : ∀ a w, K a w → K' a w) (hQ : ∀ c a w, Q (.panic c) a w → Q' (.panic c) a w) (hL : ¬ LetsOut Q) (h : o.wp P a w K Q) : o.wpIn (Fence.wide.inRound l) n P a w K' Q' := by
  unfold Oper.wp at h
  unfold Oper.wpIn
  refine ⟨fun _ _ => trivial, ?_⟩
  rw [Oper.semAt_eq _ _ _ hd]
  generalize (execOp a.eval o).run P w = r at *
  cases r with
  | ok nx w' =>
    cases nx <;> simp only [Oper.upon] at h <;> simp only [Oper.uponIn]
    case value u => exact hK _ _ h
    case skip => exact hK _ _ h
    case defer d => exact hK _ _ h
    case enter f args =>
      refine ⟨fun hdd => (by cases hdd), callsIn_round (h.mono fun e w'' he => ?_)⟩
      cases e with
      | returned v => exact hK _ _ he
      | panicked c => exact hQ _ _ _ he
      | outgrown => exact absurd he hL
    case row r args => exact ⟨fun hdd => (by cases hdd), rowsIn_of (h.mono fun v w'' he => hK _ _ he)⟩
  | halt x w' =>
    cases x <;> simp only [Oper.upon] at h <;> simp only [Oper.uponIn]
    exact hQ _ _ _ h
theorem wpListIn_of_one {P : Program} {l n : Nat} {ops : Array Oper} {rest : List Oper} {o : Oper} {a : Act} {w : World} {Q : Exit → Act → World → Prop} (hg : o.guard = none) (hd : ∀ c, o.op ≠ .defer c)
    (h : wpList P ops (fun e a' w' => e = Exit.normal ∧ wpListIn (Fence.wide.inRound l) n P ops Q rest a' w') [o] a w) : wpListIn (Fence.wide.inRound l) n P ops Q (o :: rest) a w := by
  have hw : Region.wanted o (yielded ops a.tmps) = true := by simp [Region.wanted, hg]
  have hL : ¬ LetsOut (fun e a' w' => e = Exit.normal ∧ wpListIn (Fence.wide.inRound l) n P ops Q rest a' w') := fun ⟨_, _, hh, _⟩ => by cases hh
  unfold wpList at h
  rw [if_pos hw] at h
  rcases h with h | h
  · unfold wpListIn
    rw [if_pos hw]
    exact inR_of_wp hd (fun a w hh => (by unfold wpList at hh; exact hh.2)) (fun c a w hh => by cases hh.1) hL h
  · exact absurd h.2 hL
theorem inR_of_quiet {P : Program} {C : World → Prop} {l n : Nat} {o : Oper} {a : Act} {K : Act → Prop} {K' : Act → World → Prop} {Q' : Exit → Act → World → Prop} {w : World} (hd : ∀ c, o.op ≠ .defer c) (hw : C w) (h : ∀ a w', C w' → K a → K' a w') (hh : o.quiet P a C K) : o.wpIn (Fence.wide.inRound l) n P a w K' Q' :=
  inR_of_wp (Q := fun _ _ _ => False) hd (fun _ _ hk => hk) (fun _ _ _ hk => hk.elim) (fun ⟨_, _, hk⟩ => hk) (Oper.wp_of_quiet hw h hh)
def noDefer (ops : Array Oper) : Bool := ops.all fun o => match o.op with | .defer _ => false | _ => true
theorem noDefer_at {ops : Array Oper} (h : noDefer ops = true) {i : Nat} {o : Oper} (ho : ops[i]? = some o) : ∀ c, o.op ≠ .defer c := by
  intro c hc
  unfold noDefer at h
  rw [Array.all_eq_true] at h
  obtain ⟨hi, e⟩ := Array.getElem?_eq_some_iff.1 ho
  have := h i hi
  rw [e, hc] at this
  cases this
theorem wpOpIn_of_qOp {P : Program} {C : World → Prop} {ops : Array Oper} {l n i : Nat} {a : Act} {K : Act → Prop} {K' : Act → World → Prop} {Q' : Exit → Act → World → Prop} {w : World} (hD : noDefer ops = true) (hC : C w) (h : ∀ a w', C w' → K a → K' a w') (hh : qOp P ops C i K a) : wpOpIn (Fence.wide.inRound l) n P ops Q' i K' a w := by
  unfold qOp at hh
  unfold wpOpIn
  split
  · rename_i ho; simp only [ho] at hh; exact h _ _ hC hh
  · rename_i o ho
    simp only [ho] at hh
    split
    · rename_i hw; simp only [hw, if_true] at hh; exact inR_of_quiet (noDefer_at hD ho) hC h hh
    · rename_i hw; simp only [hw] at hh; exact ⟨fun _ _ => trivial, h _ _ hC hh⟩
theorem wpAnyIn_of_quiet {P : Program} {C : World → Prop} {ops : Array Oper} {md : Region.Mode} {l n : Nat} {Q : Act → Prop} {Q' : Exit → Act → World → Prop} (hD : noDefer ops = true) (hQ : ∀ a w, C w → Q a → Q' .normal a w) : ∀ (fuel : Nat) (listed : Array Bool) (a : Act) (w : World), C w →
    wpAnyQ P md ops C Q fuel listed a → wpAnyIn (Fence.wide.inRound l) n P md ops Q' fuel listed a w
  | 0, _, _, _, hw, h => ⟨h.1, hQ _ _ hw h.2⟩
  | fuel + 1, _, _, _, hw, h => ⟨fun h0 => hQ _ _ hw (h.1 h0), fun i hi => wpOpIn_of_qOp hD hw (fun a' w' hw' => wpAnyIn_of_quiet hD hQ fuel _ a' w' hw') (h.2 i hi)⟩
theorem wpIn_region_quiet_lit {P : Program} {lo n id : Nat} {Q : Exit → Act → World → Prop} {a : Act} {w : World} {l : List Oper} (hm : P.follows .mixedOrders = true) (hB : Region.lexB .any l.toArray = true) (hD : noDefer l.toArray = true)
    (h : wpQuiet P l.toArray (fun w' => ∃ n, w' = w.drewN n) (fun a' => ∀ w', (∃ n, w' = w.drewN n) → Q .normal a' w') l a) : (Code.region id l.toArray true).wpIn (Fence.wide.inRound lo) n P Q a w := by
  simp only [Region.lexB, Bool.and_eq_true] at hB
  refine wpIn_region_any hm (wpAnyIn_of_quiet (C := fun w' => ∃ n, w' = w.drewN n) (Q := fun a' => ∀ w', (∃ n, w' = w.drewN n) → Q .normal a' w') hD (fun _ w' hw' h => h w' hw') _ _ _ _ ⟨1, rfl⟩ ?_)
  have := wpAnyQ_lex (C := fun w' => ∃ n, w' = w.drewN n) (md := .any) hB.1 l 0 (Array.replicate l.toArray.size false) a (by simp) (by simpa using hB.2) h
  simpa using this

/-! #### slices.Backward at entries: what its iterator hands to a loop -/
def Kp3 (n1 n2 Bs : Nat) (W W' : World) : Prop := (∀ k, n1 ≤ k → k < n2 → W'.heap[k]? = W.heap[k]?) ∧ W'.heap[Bs]? = W.heap[Bs]?
theorem Kp3.refl (n1 n2 Bs : Nat) (W : World) : Kp3 n1 n2 Bs W W := ⟨fun _ _ _ => rfl, rfl⟩
theorem Kp3.trans {n1 n2 Bs : Nat} {A B C : World} (h : Kp3 n1 n2 Bs A B) (k : Kp3 n1 n2 Bs B C) : Kp3 n1 n2 Bs A C := ⟨fun j h1 h2 => (k.1 j h1 h2).trans (h.1 j h1 h2), k.2.trans h.2⟩
theorem Kp3.put {B n1 n2 Bs : Nat} (h1 : n2 ≤ B) (h2 : Bs < B) (W : World) (l : Nat) (o o' : Obj) (hl : B ≤ l) (ho : W.heap[l]? = some o) (hc : o.isCells = false) (hw : o.isWalk = false) : Kp3 n1 n2 Bs W (W.putObj l o') :=
  ⟨fun k _ hk => World.putObj_heap_other (by omega), World.putObj_heap_other (by omega)⟩
section
attribute [local go_sem] Oper.semAt_some
set_option maxRecDepth 100000 in
set_option maxHeartbeats 8000000 in
theorem bw_entry1 (n : Nat) (hn : 1 ≤ n) (l Bs n1 n2 b0 : Nat) (A0 : Option Addr) (c0 : Nat) (xs : List S88) (w0 : World) (hr : Kd.R k88 88 w0 b0 (fun k => n1 ≤ k ∧ k < n2) (.slice A0 xs.length c0) xs) (J Jx : List (Int × S88) → World → Prop)
    (hY : ∀ pre x W1, J pre W1 → pre.length < xs.length → YieldAt Fence.wide (n - 1) Try.prog l #[.int .i64 x.1, .agg #[.string x.2.f0, .string x.2.f1, .int .i64 x.2.f2, .bool x.2.f3]] W1 fun e W' =>
      (e = .returned (.bool true) ∧ J (pre ++ [x]) W' ∧ Kp3 n1 n2 Bs W1 W') ∨ (e = .returned (.bool false) ∧ Jx (pre ++ [x]) W'))
    (W : World) (hb : ∀ k, n1 ≤ k → k < n2 → W.heap[k]? = w0.heap[k]?) (hBs : W.heap[Bs]? = some (.cells #[.slice A0 xs.length c0] 50 (0, 0))) (h0 : J [] W) :
    CallsIn Fence.wide n Try.prog 110 #[.func (.yield l) #[] #[], .pointer (some ⟨Bs, 0, none⟩)] W fun e W' => (∃ v, e = .returned v) ∧
      ((∃ ys, ys = Lib.bwd xs z88 0 ∧ J ys W') ∨ (∃ pre, (∃ k, k ≤ xs.length ∧ pre = Lib.bwd xs z88 k) ∧ Jx pre W')) := by
  have hbig : xs.length ≤ 9223372036854775807 := (Kd.R_reads' hr).2.2.2.1
  have HR := Aside0.mk hr
  have HB := Aside0.mk hb
  have HY := Aside0.mk hY
  have hc0 := blk_cell hBs 0
  have HBs := Aside0.mk hBs
  clear hr hb hY hBs
  refine callsIn_of_wp Try.func110 rfl trivial ?_ rfl
  simp only [Try.ntmps110, List.size_toArray, List.length_cons, List.length_nil, Nat.reduceAdd, Nat.reduceSub, Array.replicate_succ, Array.replicate_zero, List.push_toArray, List.append_toArray, List.nil_append, List.cons_append]
  gi_wp2
  gi_loopw [3] (fun i wr => ∃ k : Nat, k ≤ xs.length ∧ i = .int .i64 ((k : Int) - 1) ∧ J (Lib.bwd xs z88 k) wr ∧ Aside0 (Kp3 n1 n2 Bs W wr))
    (fun i _ => (intOf i + 1).toNat)
  case atStart => exact ⟨xs.length, Nat.le_refl _, rfl, by rw [Lib.bwd_all]; exact h0, ⟨Kp3.refl _ _ _ _⟩⟩
  case round =>
    obtain ⟨k, hk, rfl, hJs, hnx⟩ := hrel
    cases k with
    | zero =>
      gi_wp2
      go_end0
      exact ⟨⟨_, rfl⟩, .inl ⟨_, rfl, hJs⟩⟩
    | succ k =>
      have ei : (((k + 1 : Nat) : Int) - 1) = (k : Int) := by omega
      rw [ei]
      have hcx : wr.cell? ⟨Bs, 0, none⟩ = some (.slice A0 xs.length c0) := by rw [blk_cell (hnx.out.2.trans HBs.out) 0]; rfl
      have hltz : (k : Int) < (xs.length : Int) := by omega
      have hRw := Kd.R_move HR.out (w1 := wr) (fun j hj => (hnx.out.1 j hj.1 hj.2).trans (HB.out j hj.1 hj.2))
      obtain ⟨ad, e, hx, hx2, hx3, hx4⟩ := at_T88 (Kd.R_reads' hRw).2.2 k (by omega) hltz
      clear hRw
      cases e
      simp only [Int.toNat_natCast] at hx hx2 hx3 hx4
      obtain ⟨fn, tmps, assign, body, hy, hR⟩ := HY.out _ ((k : Int), rd_T88 xs k) wr hJs (by rw [Lib.bwd_length]; omega)
      dsimp only at hy
      have ES : Aside0 (Lib.bwd xs z88 k = Lib.bwd xs z88 (k + 1) ++ [((k : Int), rd_T88 xs k)]) := ⟨Lib.bwd_step xs z88 k (by omega)⟩
      clear ei
      gi_wp2
      refine hR.mono ?_
      rintro e W3 (⟨rfl, hJ3, hk3⟩ | ⟨rfl, hJx3⟩)
      · gi_wp2
        go_roundw
        case rel => exact ⟨k, by omega, rfl, by rw [ES.out]; exact hJ3, ⟨hnx.out.trans hk3⟩⟩
        case measure => first | (simp [intOf]; done) | (simp [intOf]; omega)
      · gi_wp2
        refine bodyPost_ret (results_none rfl _ _ _) rfl ?_
        exact ⟨⟨_, rfl⟩, .inr ⟨_, ⟨k, by omega, ES.out.symm⟩, hJx3⟩⟩
theorem bw_entry (n : Nat) (A0 : Option Addr) (c0 len : Nat) (w : World) :
    CallsIn Fence.wide n Try.prog 98 #[.slice A0 len c0] w fun e w' => e = .returned (.func (.func 110) #[] #[.pointer (some ⟨w.heap.size, 0, none⟩)]) ∧ w' = w.alloc (.cells #[.slice A0 len c0] 50) := by
  refine callsIn_of_wp Try.func98 rfl trivial ?_ rfl
  simp only [Try.ntmps98, List.size_toArray, List.length_cons, List.length_nil, Nat.reduceAdd, Nat.reduceSub, Array.replicate_succ, Array.replicate_zero, List.push_toArray, List.append_toArray, List.nil_append, List.cons_append]
  gi_wp2
  go_ret
  exact ⟨rfl, rfl⟩
theorem bw_entry_stops (n : Nat) (hn : 1 ≤ n) (Bs n1 n2 b0 : Nat) (A0 : Option Addr) (c0 : Nat) (xs : List S88) (w : World) (hr : Kd.R k88 88 w b0 (fun k => n1 ≤ k ∧ k < n2) (.slice A0 xs.length c0) xs) (hn2 : n2 ≤ w.heap.size) (hBs : w.heap[Bs]? = some (.cells #[.slice A0 xs.length c0] 50 (0, 0))) :
    SeqStopsK Fence.wide n Try.prog 110 #[.pointer (some ⟨Bs, 0, none⟩)] (fun x : Int × S88 => #[.int .i64 x.1, .agg #[.string x.2.f0, .string x.2.f1, .int .i64 x.2.f2, .bool x.2.f3]]) (Kp3 n1 n2 Bs) (fun ys => ys = Lib.bwd xs z88 0) (fun pre => ∃ k, k ≤ xs.length ∧ pre = Lib.bwd xs z88 k) xs.length w := fun l J Jx W hW _ _ hY h0 =>
  bw_entry1 n hn l Bs n1 n2 b0 A0 c0 xs w hr J Jx hY W (fun k _ h2 => hW.block k (by omega)) ((hW.block Bs (blk_lt hBs)).trans hBs) h0
/-! #### the function -/
theorem keepbb {X Y : World} {B : Nat} {cs : Array Value} {t : TypeId} {m : Nat × Nat} {row : Option Nat} (h : X.heap[B]? = some (.cells cs t m)) (hg : X.grownBy Y row) (hr : ∀ r, row = some r → ∃ o, X.heap[r]? = some o ∧ o.isCells = false) : Y.heap[B]? = some (.cells cs t m) :=
  blk_grown h hg (fun e => by obtain ⟨o, ho, hc⟩ := hr B e.symm; rw [h] at ho; cases ho; cases hc)
theorem keepR {α : Type} {d : Kd α} {e : Nat} {X Y : World} {base : Nat} {ok : Nat → Prop} {v : Value} {xs : List α} {row : Option Nat} (h : d.R e X base ok v xs) (hg : X.grownBy Y row) (hr : ∀ r, row = some r → ∃ o, X.heap[r]? = some o ∧ o.isCells = false) : d.R e Y base ok v xs :=
  Kd.R_mono (Kd.R_move (Kd.R_bound h) (fun k hk => hg.block k hk.2.2.1 (fun e => by
    obtain ⟨o, ho, hc⟩ := hr k e.symm
    obtain ⟨q, _, cells, hcl⟩ := hk.2.2.2
    rw [hcl] at ho
    cases ho
    cases hc))) (fun _ hk => hk.1)
theorem keeps_own {W W' : World} {v : Value} {e : Nat} (hg : W.grownBy W' v.ownBlock) (ht : ∀ k, v.ownBlock = some k → ∃ cells, W.heap[k]? = some (.cells cells e (0, 0))) : KeepsOthers W W' :=
  ⟨hg.size, fun k o hk ho => (hg.block k (blk_lt hk) (fun e => by
    obtain ⟨cells, hc⟩ := ht k e.symm
    rw [hc] at hk
    cases hk
    cases ho)).trans hk⟩
theorem keeps_drewN (W : World) (n : Nat) : KeepsOthers W (W.drewN n) := ⟨Nat.le_refl _, fun _ _ h _ => h⟩
theorem R_empty {α : Type} (d : Kd α) (e : Nat) {w : World} {base b : Nat} {ok : Nat → Prop} (h : w.heap[b]? = some (.cells #[] e (0, 0))) (hb : base ≤ b) (ho : ok b) : d.R e w base ok (.slice (some ⟨b, 0, none⟩) 0 0) [] := by
  refine ⟨fun k hk => ?_, [], ⟨by simp, .inr ⟨b, 0, #[], rfl, hb, h, Nat.le_refl _, Nat.zero_le _, by simp, by simp⟩⟩, Reps.none _ _⟩
  have : b = k := by simpa [Value.ownBlock] using hk
  exact this ▸ ho
theorem blkb_after {w w1 : World} {g : Nat} {o : Obj} (h : w.heap[g]? = some o) (hb : Below w.heap.size w w1) : w1.heap[g]? = some o := (hb.block g (blk_lt h)).trans h
theorem twob_new (w : World) (o0 o1 : Obj) : ((w.alloc o0).alloc o1).heap[w.heap.size]? = some o0 ∧ ((w.alloc o0).alloc o1).heap[w.heap.size + 1]? = some o1 ∧ Below w.heap.size w ((w.alloc o0).alloc o1) := by
  have e1 : (w.alloc o0).heap.size = w.heap.size + 1 := by simp
  refine ⟨?_, ?_, ((Below.refl _ w).alloc (Nat.le_refl _) _).alloc (by omega) _⟩
  · rw [Below.heap_alloc _ _ _ (by omega)]; exact World.alloc_heap_new w _
  · rw [← e1]; exact World.alloc_heap_new _ _
/-- One entry of the list, from behind: put to the rest, but for one that is gone and its key's last. -/
def botStep (acc : List S88) (e : S88) : List S88 :=
  if e.f3 = true ∧ (acc = [] ∨ ¬ (rd_T88 acc ((acc.length : Int) - 1)).f0.toList = e.f0.toList) then acc else acc ++ [e]
theorem botStep_length (acc : List S88) (e : S88) : (botStep acc e).length ≤ acc.length + 1 := by
  unfold botStep
  split
  · omega
  · simp
def botF (zs : List S88) : List S88 := zs.foldl botStep []
theorem botF_snoc (zs : List S88) (e : S88) : botF (zs ++ [e]) = botStep (botF zs) e := by
  unfold botF
  rw [List.foldl_append]
  rfl
theorem botF_length : ∀ zs : List S88, (botF zs.reverse).length ≤ zs.length
  | [] => Nat.le_refl _
  | e :: zs => by
    rw [List.reverse_cons, botF_snoc]
    have h1 := botStep_length (botF zs.reverse) e
    have h2 := botF_length zs
    rw [List.length_cons]
    omega
def impl_bottom.f (k : Nat) (l0 : List S88) (l1 : List Int) : Option (List S88) := (impl_seens.f l0 l1).bind fun zs => slices_Reverse_Entry.f k (botF zs.reverse)
theorem impl_bottom.mono : ∀ a0 a1 k, LeO (impl_bottom.f k a0 a1) (impl_bottom.f (k + 1) a0 a1) := by
  intro a0 a1 k
  unfold impl_bottom.f
  exact LeO.bind (LeO.refl _) (fun t => slices_Reverse_Entry.mono _ _)
set_option maxRecDepth 100000 in
set_option maxHeartbeats 8000000 in
theorem impl_bottom.calls (k : Nat) (A0 : Option Addr) (c0 : Nat) (l0 : List S88) (A1 : Option Addr) (c1 : Nat) (l1 : List Int) (r : List S88) (w : World) (hr0 : Kd.C k88 w A0 l0.length l0) (hc0 : l0.length ≤ c0) (hr1 : Kd.C (Kd.int .i64) w A1 l1.length l1) (hc1 : l1.length ≤ c1) (h : impl_bottom.f k l0 l1 = some r) :
    Calls Try.prog 77 #[.slice A0 l0.length c0, .slice A1 l1.length c1] w fun e w' => ∃ v0_ : Value, e = .returned (v0_) ∧ Kd.R k88 88 w' w.heap.size (fun _ => True) v0_ r ∧ Below w.heap.size w w' := by
  have hu := Try.underlying88
  unfold impl_bottom.f at h
  obtain ⟨zs, hz, h⟩ := Option.bind_eq_some_iff.1 h
  have hzl : zs.length < 2500000000000 := by
    have := hz
    unfold impl_seens.f at this
    by_cases hl : l0.length < 2500000000000
    · rw [if_pos hl] at this
      obtain rfl := Option.some.inj this
      have := seensF_length l0 l1 l0.length 0
      omega
    · rw [if_neg hl] at this; cases this
  have HZ := Aside0.mk hz
  have HV := Aside0.mk h
  have HL := Aside0.mk hzl
  have HR0 := Aside0.mk hr0
  have HC0 := Aside0.mk hc0
  have HR1 := Aside0.mk hr1
  have HC1 := Aside0.mk hc1
  clear hz h hr0 hc0 hr1 hc1 hzl
  obtain ⟨q0, q1, qb⟩ := twob_new w (.cells #[] 88) (.cells #[.slice (some ⟨w.heap.size, 0, none⟩) 0 0] 50)
  have Q0 := Aside0.mk q0
  have Q1 := Aside0.mk q1
  have QB := Aside0.mk qb
  clear q0 q1 qb
  refine (callsIn_wide (n := 5)).1 ?_
  refine callsIn_of_wp_marks Try.func77 rfl trivial ?_ rfl
  simp only [Try.ntmps77, List.size_toArray, List.length_cons, List.length_nil, Nat.reduceAdd, Nat.reduceSub, Array.replicate_succ, Array.replicate_zero, List.push_toArray, List.append_toArray, List.nil_append, List.cons_append]
  have fB : Fence.wide.fn 98 := trivial
  have fS : Fence.wide.fn 73 := trivial
  gi_wp2_with (first | (gi_at_call 73; refine (callsIn_wide.2 (impl_seens.calls A0 c0 l0 A1 c1 l1 zs _ (Kd.C_below HR0.out QB.out) HC0.out (Kd.C_below HR1.out QB.out) HC1.out HZ.out)).mono ?_; rintro e w2 ⟨v0, rfl, ho, hb⟩; obtain ⟨Az, cz, rfl⟩ := Kd.R_slice ho; have HO := Aside0.mk ho; have B0 := Aside0.mk (blkb_after Q0.out hb); have B1 := Aside0.mk (blkb_after Q1.out hb); have HS := Aside0.mk hb.size; have BB := Aside0.mk (below_step QB.out hb); clear ho hb) | (gi_at_call 98; refine (bw_entry _ _ _ _ _).mono ?_; rintro e w' ⟨rfl, rfl⟩))
  have hB0 := BB.out
  obtain ⟨W3, hW3⟩ : ∃ W3, w2.alloc (.cells #[.slice Az zs.length cz] 50) = W3 := ⟨_, rfl⟩
  have hsz : W3.heap.size = w2.heap.size + 1 := by rw [← hW3]; simp
  have hn1 : ((w.alloc (.cells #[] 88)).alloc (.cells #[.slice (some ⟨w.heap.size, 0, none⟩) 0 0] 50)).heap.size = w.heap.size + 2 := by simp
  have hHS := HS.out
  rw [hn1] at hHS
  have hb3 : Below w2.heap.size w2 W3 := by rw [← hW3]; exact below_alloc (Below.refl _ _) _
  have hBs : W3.heap[w2.heap.size]? = some (.cells #[.slice Az zs.length cz] 50 (0, 0)) := by rw [← hW3]; exact World.alloc_heap_new _ _
  have hz3 : Kd.R k88 88 W3 (w.heap.size + 2) (fun k => w.heap.size + 2 ≤ k ∧ k < w2.heap.size) (.slice Az zs.length cz) zs := by
    have h1 := HO.out
    rw [hn1] at h1
    exact Kd.R_below (Kd.R_mono (Kd.R_bound h1) (fun k hk => ⟨hk.2.1, hk.2.2.1⟩)) hb3
  have b0 := blkb_after B0.out hb3
  have b1 := blkb_after B1.out hb3
  have hB3 := below_step hB0 hb3
  rw [hW3]
  clear hW3 HO B0 B1 HS BB hn1 hb3 hB0
  refine wpIn_rangeFunc_ownH rfl (by omega) (gf := 110) (lb := #[.pointer (some ⟨w2.heap.size, 0, none⟩)]) rfl trivial (enters_of Try.func110 (by kernel_rfl) rfl)
    (bw_entry_stops 4 (by omega) w2.heap.size (w.heap.size + 2) w2.heap.size (w.heap.size + 2) Az cz zs W3 hz3 (by omega) hBs) Kp3.trans (Kp3.put (B := W3.heap.size) (by omega) (by omega)) (Below.refl _ _) (fun _ => rfl)
    (fun pre W => (∃ v, w2.heap.size + 1 ≤ W.heap.size ∧ W.heap[w.heap.size + 1]? = some (.cells #[v] 50 (0, 0)) ∧ Kd.R k88 88 W w.heap.size (fun k => k = w.heap.size ∨ w2.heap.size + 1 ≤ k) v (botF (pre.map (·.2)))) ∧ Below w.heap.size w W)
    (fun _ _ _ => False)
    (OwnFrom.and (Own.from (fun s A B row hs hg hr => by obtain ⟨v, h1, h2, h3⟩ := hs; exact ⟨v, Nat.le_trans h1 hg.size, keepbb h2 hg hr, keepR h3 hg hr⟩) _) (ownFrom_below (Nat.le_refl _) (by omega)))
    (fun c => fun _ _ _ _ hs _ _ => hs)
    ⟨⟨.slice (some ⟨w.heap.size, 0, none⟩) 0 0, by omega, b1, R_empty _ _ b0 (Nat.le_refl _) (.inl rfl)⟩, hB3⟩
    (fun x a' W => ∃ Bx, w2.heap.size + 1 ≤ Bx ∧ W.heap[Bx]? = some (.cells #[.string x.2.f0, .string x.2.f1, .int .i64 x.2.f2, .bool x.2.f3] 88 (0, 0)) ∧ a' = { tmps := #[.slice A0 l0.length c0, .slice A1 l1.length c1, undef, undef, .slice none 0 0, .pointer (some ⟨w.heap.size + 1, 0, none⟩), undef, .pointer (some ⟨Bx, 0, none⟩), .slice (some ⟨w.heap.size, 0, none⟩) 0 0, .slice A0 l0.length c0, .slice A1 l1.length c1, .slice Az zs.length cz, .func (.func 110) #[] #[.pointer (some ⟨w2.heap.size, 0, none⟩)], .int .i64 x.1, .agg #[.string x.2.f0, .string x.2.f1, .int .i64 x.2.f2, .bool x.2.f3], undef, undef, undef, undef, undef, undef, undef, undef, undef, undef, undef, undef, undef, undef, undef, undef, undef, undef, undef, undef, undef, undef, undef, undef, undef, undef], defers := [] })
    (fun x a' _ X Y row hs hg hr => by obtain ⟨Bx, h1, h2, h3⟩ := hs; exact ⟨Bx, h1, keepbb h2 hg (fun r e => (hr r e).2), h3⟩)
    ?assign ?body ?done ?stop
  case assign =>
    rintro l pre x W K ⟨⟨v, i1, i2, i3⟩, hB1⟩ hK
    gi_wp2
    exact hK _ _ ((KeepsOthers.alloc _ _).from _) ⟨fun j _ hj => Below.heap_alloc _ _ _ (by omega), Below.heap_alloc _ _ _ (by omega)⟩ ⟨⟨v, by simp; omega, (Below.heap_alloc _ _ _ (by omega)).trans i2, Kd.R_alloc i3 _⟩, hB1.alloc hB1.size _⟩ ⟨W.heap.size, i1, World.alloc_heap_new W _, rfl⟩
  case body =>
    rintro l pre ⟨xi, f0, f1, f2, f3⟩ a' W hl ⟨rr, hrr⟩ ⟨⟨v, i1, i2, i3⟩, hB1⟩ ⟨Bx, hBx, bX, rfl⟩ hlt
    dsimp only at bX
    have hlen : (botF (pre.map (·.2))).length ≤ pre.length := by
      have := botF_length (pre.map (·.2)).reverse
      rwa [List.reverse_reverse, List.length_reverse, List.length_map] at this
    have hstep : botF ((pre ++ [(xi, (⟨f0, f1, f2, f3⟩ : S88))]).map (·.2)) = botStep (botF (pre.map (·.2))) ⟨f0, f1, f2, f3⟩ := by
      rw [List.map_append, List.map_cons, List.map_nil]
      exact botF_snoc _ _
    obtain ⟨acc, hacc⟩ : ∃ acc, botF (pre.map (·.2)) = acc := ⟨_, rfl⟩
    rw [hacc] at i3 hlen hstep
    obtain ⟨Av, cv, rfl⟩ := Kd.R_slice i3
    have x0 : W.cell? ⟨Bx, 0, none⟩ = some (.string f0) := by rw [blk_cell bX 0]; rfl
    have x1 : W.cell? ⟨Bx, 1, none⟩ = some (.string f1) := by rw [blk_cell bX 1]; rfl
    have x2 : W.cell? ⟨Bx, 2, none⟩ = some (.int .i64 f2) := by rw [blk_cell bX 2]; rfl
    have x3 : W.cell? ⟨Bx, 3, none⟩ = some (.bool f3) := by rw [blk_cell bX 3]; rfl
    have x5 : W.cell? ⟨w.heap.size + 1, 0, none⟩ = some (.slice Av acc.length cv) := by rw [blk_cell i2 0]; rfl
    have I1 := Aside0.mk i1
    have I2 := Aside0.mk i2
    have I3 := Aside0.mk i3
    have BB1 := Aside0.mk hB1
    have ST := Aside0.mk hstep
    have LN := Aside0.mk hlen
    have LT := Aside0.mk hlt
    clear i1 i2 i3 bX hB1 hstep hlen hlt hacc hrr
    cases f3 with
    | false =>
      refine wpIn_block (wpIn_seq (wpIn_seq ?_))
      dsimp only
      refine wpIn_region_quiet_lit (by kernel_rfl) (by kernel_rfl) (by kernel_rfl) ?_
      repeat (go_big_quiet_step (fail))
      refine wpQuiet_nil ?_
      intro _ hw'
      obtain ⟨nq, hw''⟩ := hw'
      subst hw''
      gi_wp2_with (first | (gi_at_builtin; refine wpListIn_of_one (by rfl) (fun c hc => by cases hc) ?_; refine Kd.R_append k88 (w0 := w) w.heap.size rfl (.tmp 34) (.tmp 36) 50 88 (.agg #[(.string ⟨#[]⟩), (.string ⟨#[]⟩), (.int .i64 0), (.bool false)]) 48 rfl Try.underlying50 info88 rfl (by decide) (by omega) (.slice Av acc.length cv) acc ⟨f0, f1, f2, false⟩ [.string f0, .string f1, .int .i64 f2, .bool false] (fun k => k = w.heap.size ∨ w2.heap.size + 1 ≤ k) (fun _ => False) rfl rfl ?aP (fun _ hk => hk.elim) ?aF ?aO ?aB ?aS ?aL ?_; (case aP => exact k88_mkM _ _ _ ⟨f0, f1, f2, false⟩); (case aF => exact fun k hk => .inr (Nat.le_trans I1.out hk)); (case aO => exact Kd.R_drewN I3.out nq); (case aB => exact pw_below_drewN BB1.out nq); (case aS => exact below_size (pw_below_drewN BB1.out nq)); (case aL => have := HL.out; have := LN.out; have := LT.out; omega); intro v1 w5 ho hb hg hat; refine ⟨rfl, ?_⟩; obtain ⟨A6, c6, e6⟩ := Kd.R_slice ho; rw [List.length_append, List.length_singleton] at e6; subst e6; have HO5 := Aside0.mk ho; have HB5 := Aside0.mk hb; have HG5 := Aside0.mk hg; have B5 := Aside0.mk ((hg.block (w.heap.size + 1) (blk_lt I2.out) (fun e => by have := I3.out.1 _ e.symm; omega)).trans I2.out); clear ho hb hg hat; have x6 : w5.cell? ⟨w.heap.size + 1, 0, none⟩ = some (.slice Av acc.length cv) := (by rw [blk_cell B5.out 0]; rfl); have y6 := blk_frozen B5.out 0))
      exact ⟨((keeps_drewN W nq).trans ((keeps_own HG5.out (Kd.R_typed (Kd.R_drewN I3.out nq))).trans (KeepsOthers.setCell _ _ _))).from _,
        ⟨fun j h1 h2 => (Below.heap_setCell w5 ⟨w.heap.size + 1, 0, none⟩ (.slice A6 (acc.length + 1) c6) j (by simp only; omega)).trans (HG5.out.block j (by have := I1.out; show j < W.heap.size; omega) (fun e => by have := I3.out.1 _ e.symm; omega)), (Below.heap_setCell w5 ⟨w.heap.size + 1, 0, none⟩ (.slice A6 (acc.length + 1) c6) w2.heap.size (by simp only; omega)).trans (HG5.out.block w2.heap.size (by have := I1.out; show w2.heap.size < W.heap.size; omega) (fun e => by have := I3.out.1 _ e.symm; omega))⟩,
        ⟨(.slice A6 (acc.length + 1) c6), by have h1 := HG5.out.size; have h2 := I1.out; have h3 : (World.drewN W nq).heap.size = W.heap.size := rfl; simp; omega, by simpa using blk_set B5.out 0 (.slice A6 (acc.length + 1) c6), by rw [ST.out, botStep, if_neg (fun hh => Bool.false_ne_true hh.1)]; exact Kd.R_far (p := ⟨w.heap.size + 1, 0, none⟩) HO5.out (fun k hk => by simp only; omega) (.slice A6 (acc.length + 1) c6)⟩, HB5.out.setCell (p := ⟨w.heap.size + 1, 0, none⟩) (by simp only; omega) _⟩
    | true =>
      by_cases hac : acc = []
      · subst hac
        have x5' : W.cell? ⟨w.heap.size + 1, 0, none⟩ = some (.slice Av 0 cv) := x5
        clear x5
        refine wpIn_block (wpIn_seq (wpIn_seq ?_))
        dsimp only
        refine wpIn_region_quiet_lit (by kernel_rfl) (by kernel_rfl) (by kernel_rfl) ?_
        repeat (go_big_quiet_step (fail))
        refine wpQuiet_nil ?_
        intro _ hw'
        obtain ⟨nq, hw''⟩ := hw'
        subst hw''
        gi_wp2
        exact ⟨(keeps_drewN W nq).from _, ⟨fun _ _ _ => rfl, rfl⟩, ⟨.slice Av 0 cv, I1.out, I2.out, by rw [ST.out, botStep, if_pos ⟨rfl, Or.inl rfl⟩]; exact Kd.R_drewN I3.out nq⟩, pw_below_drewN BB1.out nq⟩
      · have hpos : 0 < acc.length := List.length_pos_iff.2 hac
        have HNE := Aside0.mk hac
        clear hac
        obtain ⟨ad, e, g0, g1, g2, g3⟩ := at_T88 (Kd.R_reads' I3.out).2.2 ((acc.length : Int) - 1) (by omega) (by omega)
        cases e
        have hz0 : (((acc.length : Int)) == 0) = false := beq_eq_false_iff_ne.mpr (by omega)
        obtain ⟨z, hz⟩ : ∃ z, rd_T88 acc ((acc.length : Int) - 1) = z := ⟨_, rfl⟩
        have et : ((acc.length : Int) - 1).toNat = acc.length - 1 := by omega
        rw [hz] at g0 g1 g2 g3
        rw [et] at g0 g1 g2 g3
        clear et
        have HZ2 := Aside0.mk hz
        clear hz
        have ei : wrap64 ((acc.length : Int) - 1) = (acc.length : Int) - 1 := by have := LN.out; have := LT.out; have := HL.out; unfold wrap64; omega
        have p0 : (0 ≤ (acc.length : Int) - 1) = True := eq_true (by omega)
        have p1 : ((acc.length : Int) - 1 < (acc.length : Int)) = True := eq_true (by omega)
        by_cases hk : z.f0.toList = f0.toList
        · have hkb : (z.f0.toList == f0.toList) = true := beq_iff_eq.mpr hk
          have hkc : (z.f0.toList != f0.toList) = false := bne_eq_false_iff_eq.mpr hk
          have HK1 := Aside0.mk hk
          clear hk
          refine wpIn_block (wpIn_seq (wpIn_seq ?_))
          dsimp only
          refine wpIn_region_quiet_lit (by kernel_rfl) (by kernel_rfl) (by kernel_rfl) ?_
          repeat (go_big_quiet_step (fail))
          refine wpQuiet_nil ?_
          intro _ hw'
          obtain ⟨nq, hw''⟩ := hw'
          subst hw''
          gi_wp2_with (first | (gi_at_builtin; refine wpListIn_of_one (by rfl) (fun c hc => by cases hc) ?_; refine Kd.R_append k88 (w0 := w) w.heap.size rfl (.tmp 34) (.tmp 36) 50 88 (.agg #[(.string ⟨#[]⟩), (.string ⟨#[]⟩), (.int .i64 0), (.bool false)]) 48 rfl Try.underlying50 info88 rfl (by decide) (by omega) (.slice (some ad) acc.length cv) acc ⟨f0, f1, f2, true⟩ [.string f0, .string f1, .int .i64 f2, .bool true] (fun k => k = w.heap.size ∨ w2.heap.size + 1 ≤ k) (fun _ => False) rfl rfl ?aP (fun _ hk => hk.elim) ?aF ?aO ?aB ?aS ?aL ?_; (case aP => exact k88_mkM _ _ _ ⟨f0, f1, f2, true⟩); (case aF => exact fun k hk => .inr (Nat.le_trans I1.out hk)); (case aO => exact Kd.R_drewN I3.out nq); (case aB => exact pw_below_drewN BB1.out nq); (case aS => exact below_size (pw_below_drewN BB1.out nq)); (case aL => have := HL.out; have := LN.out; have := LT.out; omega); intro v1 w5 ho hb hg hat; refine ⟨rfl, ?_⟩; obtain ⟨A6, c6, e6⟩ := Kd.R_slice ho; rw [List.length_append, List.length_singleton] at e6; subst e6; have HO5 := Aside0.mk ho; have HB5 := Aside0.mk hb; have HG5 := Aside0.mk hg; have B5 := Aside0.mk ((hg.block (w.heap.size + 1) (blk_lt I2.out) (fun e => by have := I3.out.1 _ e.symm; omega)).trans I2.out); clear ho hb hg hat; have x6 : w5.cell? ⟨w.heap.size + 1, 0, none⟩ = some (.slice (some ad) acc.length cv) := (by rw [blk_cell B5.out 0]; rfl); have y6 := blk_frozen B5.out 0))
          exact ⟨((keeps_drewN W nq).trans ((keeps_own HG5.out (Kd.R_typed (Kd.R_drewN I3.out nq))).trans (KeepsOthers.setCell _ _ _))).from _,
            ⟨fun j h1 h2 => (Below.heap_setCell w5 ⟨w.heap.size + 1, 0, none⟩ (.slice A6 (acc.length + 1) c6) j (by simp only; omega)).trans (HG5.out.block j (by have := I1.out; show j < W.heap.size; omega) (fun e => by have := I3.out.1 _ e.symm; omega)), (Below.heap_setCell w5 ⟨w.heap.size + 1, 0, none⟩ (.slice A6 (acc.length + 1) c6) w2.heap.size (by simp only; omega)).trans (HG5.out.block w2.heap.size (by have := I1.out; show w2.heap.size < W.heap.size; omega) (fun e => by have := I3.out.1 _ e.symm; omega))⟩,
            ⟨(.slice A6 (acc.length + 1) c6), by have h1 := HG5.out.size; have h2 := I1.out; have h3 : (World.drewN W nq).heap.size = W.heap.size := rfl; simp; omega, by simpa using blk_set B5.out 0 (.slice A6 (acc.length + 1) c6), by rw [ST.out, botStep, if_neg (fun hh => hh.2.elim HNE.out (fun h3 => h3 (by rw [HZ2.out]; exact HK1.out)))]; exact Kd.R_far (p := ⟨w.heap.size + 1, 0, none⟩) HO5.out (fun k hk => by simp only; omega) (.slice A6 (acc.length + 1) c6)⟩, HB5.out.setCell (p := ⟨w.heap.size + 1, 0, none⟩) (by simp only; omega) _⟩
        · have hkb : (z.f0.toList == f0.toList) = false := beq_eq_false_iff_ne.mpr hk
          have hkc : (z.f0.toList != f0.toList) = true := bne_iff_ne.mpr hk
          have HK1 := Aside0.mk hk
          clear hk
          refine wpIn_block (wpIn_seq (wpIn_seq ?_))
          dsimp only
          refine wpIn_region_quiet_lit (by kernel_rfl) (by kernel_rfl) (by kernel_rfl) ?_
          repeat (go_big_quiet_step (fail))
          refine wpQuiet_nil ?_
          intro _ hw'
          obtain ⟨nq, hw''⟩ := hw'
          subst hw''
          gi_wp2
          exact ⟨(keeps_drewN W nq).from _, ⟨fun _ _ _ => rfl, rfl⟩, ⟨.slice (some ad) acc.length cv, I1.out, I2.out, by rw [ST.out, botStep, if_pos ⟨rfl, Or.inr (by rw [HZ2.out]; exact HK1.out)⟩]; exact Kd.R_drewN I3.out nq⟩, pw_below_drewN BB1.out nq⟩
  case done =>
    rintro D ys W hD rfl ⟨⟨v, i1, i2, i3⟩, hB1⟩ hK
    have e5 : (Lib.bwd zs z88 0).map (·.2) = zs.reverse := by
      have e := Lib.bwd_vals zs z88 0 (Nat.zero_le _)
      rwa [List.drop_zero] at e
    rw [e5] at i3
    obtain ⟨Av, cv, rfl⟩ := Kd.R_slice i3
    have x5 : W.cell? ⟨w.heap.size + 1, 0, none⟩ = some (.slice Av (botF zs.reverse).length cv) := by rw [blk_cell i2 0]; rfl
    have I2 := Aside0.mk i2
    have I3 := Aside0.mk (Kd.R_bound i3)
    have I1 := Aside0.mk i1
    have HK := Aside0.mk hK
    have BB1 := Aside0.mk hB1
    clear i1 i2 i3 hK hB1 e5
    have fR : Fence.wide.fn 99 := trivial
    gi_wp2_with (first | (gi_at_call 99; refine (callsIn_wide.2 (slices_Reverse_Entry.calls k _ _ _ r w W BB1.out I3.out HV.out)).mono ?_; rintro e w6 ⟨rfl, ho, hb, hk⟩; have B6 := Aside0.mk ((hk.2 (w.heap.size + 1) (blk_lt I2.out) (fun hp => by have := hp.1; omega)).trans I2.out); have D6 := Aside0.mk ((hk.2 D (blk_lt HK.out) (fun hp => by obtain ⟨_, _, _, q, _, cells, hcl⟩ := hp; rw [HK.out] at hcl; cases hcl)).trans HK.out); have O6 := Aside0.mk ho; have HB6 := Aside0.mk hb; clear ho hb hk; have x6 : w6.cell? ⟨w.heap.size + 1, 0, none⟩ = some (.slice Av (botF zs.reverse).length cv) := (by rw [blk_cell B6.out 0]; rfl)))
    refine ⟨by simp, .inl ⟨_, _, rfl, run_takeDeferred D6.out, ?_⟩⟩
    refine ⟨.slice Av (botF zs.reverse).length cv, by simp [results, Try.f77, go_sem], ⟨_, rfl, Kd.R_mono (keepR O6.out (grownBy_putObj' w6 D (.deferred none)) (fun r' e => by cases e; exact ⟨_, D6.out, rfl⟩)) (fun _ _ => trivial), HB6.out.trans (belowK_b (w := W3) (by omega) w6 D _ _ hD D6.out rfl rfl)⟩⟩
  case stop => exact fun _ _ _ _ _ _ hh _ => hh.elim
end

/-! ### impl_Bottom: function 40 -/
theorem z40a {p_ : Prop} (h_ : p_ := by repeat (first | (with_reducible first | exact HB.out | apply below_alloc | apply pw_below_drewN | apply below_drew1) | exact HB.out)) : p_ := h_
theorem z40b {p_ : Prop} (h_ : p_ := by (try simp only [List.map_toArray, List.map_cons, List.map_nil]); first | done | rfl | (simp only [List.length_drop, List.length_take]; rfl)) : p_ := h_
def impl_Bottom.f (k : Nat) (l0 : List (S88)) (l1 : List Int) : Option ((List (S88))) := (impl_EntriesOk.f k l0).bind fun t209 => (if t209 = true then (if (l1.length : Int) > 20 then (some ([] : List (S88))) else ((impl_bottom.f k l0 l1).bind fun t210 => (some t210))) else (some ([] : List (S88))))
theorem impl_Bottom.mono : ∀ a0 a1 k, LeO (impl_Bottom.f k a0 a1) (impl_Bottom.f (k + 1) a0 a1) := by
 intro a0 a1 k
 unfold impl_Bottom.f
 repeat' first
   | (with_reducible exact impl_EntriesOk.mono _ _)
   | (with_reducible exact impl_bottom.mono _ _ _)
   | (with_reducible exact LeO.refl _)
   | (with_reducible exact LeO.none _)
   | (with_reducible refine LeO.ite ?_ ?_)
   | (with_reducible refine LeO.bind ?_ (fun _ => ?_))
   | exact impl_EntriesOk.mono _ _
   | exact impl_bottom.mono _ _ _
   | exact LeO.none _
   | refine LeO.ite ?_ ?_
   | refine LeO.bind ?_ (fun _ => ?_)
set_option maxHeartbeats 8000000 in
set_option maxRecDepth 100000 in
theorem impl_Bottom.calls (k : Nat) (A0 : Option Addr) (c0 : Nat) (l0 : List (S88)) (A1 : Option Addr) (c1 : Nat) (l1 : List Int) (r : List (S88)) (w : World) (hr0 : Kd.C k88 w A0 l0.length l0) (hc0 : l0.length ≤ c0) (hr1 : Kd.C (Kd.int .i64) w A1 l1.length l1) (hc1 : l1.length ≤ c1) (h : impl_Bottom.f k l0 l1 = some r) :
  Calls Try.prog 40 #[.slice A0 l0.length c0, .slice A1 l1.length c1] w fun e w' => ∃ v0_ : Value, e = .returned (v0_) ∧ Kd.R k88 88 w' w.heap.size (fun _ => True) v0_ r ∧ Below w.heap.size w w' := by
 have HR0 := Aside0.mk hr0
 have HC0 := Aside0.mk hc0
 clear hr0 hc0
 have HR1 := Aside0.mk hr1
 have HC1 := Aside0.mk hc1
 clear hr1 hc1
 have HB := Aside0.mk (Below.refl w.heap.size w)
 have H : ((impl_EntriesOk.f k l0).bind fun t209 => (if t209 = true then (if (l1.length : Int) > 20 then (some ([] : List (S88))) else ((impl_bottom.f k l0 l1).bind fun t210 => (some t210))) else (some ([] : List (S88))))) = some r := h
 clear h
 replace H := Option.bind_eq_some_iff.mp H
 obtain ⟨t209, A30, H⟩ := H
 replace H : (if t209 = true then (if (l1.length : Int) > 20 then (some ([] : List (S88))) else ((impl_bottom.f k l0 l1).bind fun t210 => (some t210))) else (some ([] : List (S88)))) = some r := H
 have A3 := Aside0.mk A30
 clear A30
 by_cases c4 : t209 = true
 {
 subst c4
 have H1 : (if (l1.length : Int) > 20 then (some ([] : List (S88))) else ((impl_bottom.f k l0 l1).bind fun t210 => (some t210))) = some r := by rw [if_pos rfl] at H; exact H
 clear H
 have H := H1
 clear H1
 by_cases c5 : (l1.length : Int) > 20
 {
 rw [if_pos c5] at H
 have c5b0 : decide (20 < (l1.length : Int)) = true := decide_eq_true c5
 have c5b1 : decide (20 < l1.length) = true := decide_eq_true (by omega)
 clear c5
 obtain rfl := Option.some.inj H
 go_enter Try.func40, Try.ntmps40
 go_wp2_with (first | ((with_reducible refine gate_callee (f := 47) rfl ?_); refine goesL_ (some 6) rfl rfl Try.func47 (by kernel_rfl) rfl #[.slice A0 l0.length c0] rfl z40b ?_; (with_reducible refine (impl_EntriesOk.calls k _ _ l0 true _ ?side1 ?side2 A3.out).mono ?_); (case side1 => exact (by repeat (first | exact HR0.out | (with_reducible refine Kd.C_alloc ?_ _) | (with_reducible refine Kd.C_drewN ?_ _) | (with_reducible refine Kd.C_drew ?_)))); (case side2 => exact HC0.out); rintro e w6 ⟨rfl, hb⟩; refine ⟨_, rfl, ?_⟩; have n0_ := Aside0.mk (below_step z40a hb); clear HB; have HB := n0_; clear n0_; (try clear hb); (try clear hb2); (try clear hk); (try clear hi)))
 go_ret
 exact ⟨_, by first | rfl | (simp [errW_none, errW_some] <;> rfl) | (simp [*, errW_none, errW_some] <;> rfl), by first | exact Kd.R_nil _ _ _ _ _ | exact Kd.N_nil _ _ _ _ _ | exact Kd.V_nil _ _ _ _ _ | exact Kd.Q_nil _ _ _ _ _ | exact Kd.S_nil _ _ _ _ _, by repeat (first | (with_reducible first | exact HB.out | apply below_alloc | apply pw_below_drewN | apply below_drew1) | exact HB.out)⟩
 }
 {
 rw [if_neg c5] at H
 have c5b0 : decide (20 < (l1.length : Int)) = false := decide_eq_false c5
 have c5b1 : decide (20 < l1.length) = false := decide_eq_false (by omega)
 clear c5
 replace H := Option.bind_eq_some_iff.mp H
 obtain ⟨t210, A70, H⟩ := H
 replace H : (some t210) = some r := H
 have A7 := Aside0.mk A70
 clear A70
 obtain rfl := Option.some.inj H
 go_enter Try.func40, Try.ntmps40
 go_wp2_with (first | ((with_reducible refine gate_callee (f := 47) rfl ?_); refine goesL_ (some 6) rfl rfl Try.func47 (by kernel_rfl) rfl #[.slice A0 l0.length c0] rfl z40b ?_; (with_reducible refine (impl_EntriesOk.calls k _ _ l0 true _ ?side1 ?side2 A3.out).mono ?_); (case side1 => exact (by repeat (first | exact HR0.out | (with_reducible refine Kd.C_alloc ?_ _) | (with_reducible refine Kd.C_drewN ?_ _) | (with_reducible refine Kd.C_drew ?_)))); (case side2 => exact HC0.out); rintro e w8 ⟨rfl, hb⟩; refine ⟨_, rfl, ?_⟩; have n0_ := Aside0.mk (below_step z40a hb); clear HB; have HB := n0_; clear n0_; (try clear hb); (try clear hb2); (try clear hk); (try clear hi)) | ((with_reducible refine gate_callee (f := 77) rfl ?_); refine goesL_ (some 15) rfl rfl Try.func77 (by kernel_rfl) rfl #[.slice A0 l0.length c0, .slice A1 l1.length c1] rfl z40b ?_; (with_reducible refine (impl_bottom.calls k _ _ l0 _ _ l1 t210 _ ?side1 ?side2 ?side3 ?side4 A7.out).mono ?_); (case side1 => exact (by repeat (first | exact (Kd.C_below HR0.out HB.out) | (with_reducible refine Kd.C_alloc ?_ _) | (with_reducible refine Kd.C_drewN ?_ _) | (with_reducible refine Kd.C_drew ?_)))); (case side2 => exact HC0.out); (case side3 => exact (by repeat (first | exact (Kd.C_below HR1.out HB.out) | (with_reducible refine Kd.C_alloc ?_ _) | (with_reducible refine Kd.C_drewN ?_ _) | (with_reducible refine Kd.C_drew ?_)))); (case side4 => exact HC1.out); rintro e w9 ⟨v211, rfl, ho0, hb⟩; refine ⟨_, rfl, ?_⟩; have n0_ := Aside0.mk (Kd.R_lower ho0 (below_size z40a)); have n1_ := Aside0.mk (below_step z40a hb); clear HB; have HO212 := n0_; have HB := n1_; clear n0_ n1_; (try clear hb); (try clear hb2); (try clear hk); (try clear hi); (try clear ho0)))
 go_ret
 exact ⟨_, by first | rfl | (simp [errW_none, errW_some] <;> rfl) | (simp [*, errW_none, errW_some] <;> rfl), by (with_reducible repeat (first | apply Kd.R_alloc | apply Kd.R_drewN | apply Kd.R_drew)); exact HO212.out, by repeat (first | (with_reducible first | exact HB.out | apply below_alloc | apply pw_below_drewN | apply below_drew1) | exact HB.out)⟩
 }
 }
 {
 replace c4 := Bool.eq_false_iff.mpr c4
 subst c4
 have H1 : (some ([] : List (S88))) = some r := by rw [if_neg (show ¬ (false = true) by decide)] at H; exact H
 clear H
 have H := H1
 clear H1
 obtain rfl := Option.some.inj H
 go_enter Try.func40, Try.ntmps40
 go_wp2_with (first | ((with_reducible refine gate_callee (f := 47) rfl ?_); refine goesL_ (some 6) rfl rfl Try.func47 (by kernel_rfl) rfl #[.slice A0 l0.length c0] rfl z40b ?_; (with_reducible refine (impl_EntriesOk.calls k _ _ l0 false _ ?side1 ?side2 A3.out).mono ?_); (case side1 => exact (by repeat (first | exact HR0.out | (with_reducible refine Kd.C_alloc ?_ _) | (with_reducible refine Kd.C_drewN ?_ _) | (with_reducible refine Kd.C_drew ?_)))); (case side2 => exact HC0.out); rintro e w10 ⟨rfl, hb⟩; refine ⟨_, rfl, ?_⟩; have n0_ := Aside0.mk (below_step z40a hb); clear HB; have HB := n0_; clear n0_; (try clear hb); (try clear hb2); (try clear hk); (try clear hi)))
 go_ret
 exact ⟨_, by first | rfl | (simp [errW_none, errW_some] <;> rfl) | (simp [*, errW_none, errW_some] <;> rfl), by first | exact Kd.R_nil _ _ _ _ _ | exact Kd.N_nil _ _ _ _ _ | exact Kd.V_nil _ _ _ _ _ | exact Kd.Q_nil _ _ _ _ _ | exact Kd.S_nil _ _ _ _ _, by repeat (first | (with_reducible first | exact HB.out | apply below_alloc | apply pw_below_drewN | apply below_drew1) | exact HB.out)⟩
 
 }
/-! ### laws_big: function 41 -/
def laws_big.f (l0 : List Int) : Option (Bool) := some (decide ((l0.length : Int) > 4096))
set_option maxHeartbeats 8000000 in
set_option maxRecDepth 100000 in
theorem laws_big.calls (A0 : Option Addr) (c0 : Nat) (l0 : List Int) (r : Bool) (w : World) (hr0 : Kd.C (Kd.int .u8) w A0 l0.length l0) (hc0 : l0.length ≤ c0) (h : laws_big.f l0 = some r) :
  Calls Try.prog 41 #[.slice A0 l0.length c0] w fun e w' => e = .returned (.bool r) ∧ Drawn0 w w' := by
 have HR0 := Aside0.mk hr0
 have HC0 := Aside0.mk hc0
 clear hr0 hc0
 have H : (some (decide ((l0.length : Int) > 4096))) = some r := h
 clear h
 obtain rfl := Option.some.inj H
 go_enter Try.func41, Try.ntmps41
 go_wp2
 go_ret
 exact ⟨by first | rfl | (simp; done) | (simp [*]; done), by repeat (first | exact Drawn0.refl _ | apply Drawn0.step)⟩

/-- A state of type 115 at block g of W; what its slices lead to came in by w0. -/
def IsS115 (w0 W : World) (g : Nat) (f0 : List Int) (f1 : Int) (f2 : Int) : Prop := ∃ A0 c0, W.heap[g]? = some (.cells #[.slice A0 f0.length c0, .int .i64 f1, .int .i64 f2] 115 (0, 0)) ∧ w0.heap.size ≤ g ∧ Kd.C (Kd.int .u8) w0 A0 f0.length f0
theorem IsS115.grown {w0 W : World} {g : Nat} {f0 : List Int} {f1 : Int} {f2 : Int} {W1 : World} {row : Option Nat} (h : IsS115 w0 W g f0 f1 f2) (hw : W.grownBy W1 row) (hne : some g ≠ row) : IsS115 w0 W1 g f0 f1 f2 := by
 obtain ⟨A0, c0, hb, hg, hr0⟩ := h
 exact ⟨A0, c0, blk_grown hb hw hne, hg, hr0⟩
theorem IsS115.own_neN {w0 W : World} {g : Nat} {f0 : List Int} {f1 : Int} {f2 : Int} {α : Type} {d : Kd α} {e : Nat} {base : Nat} {ok : Nat → Prop} {v : Value} {xs : List α} (h : IsS115 w0 W g f0 f1 f2) (ho : Kd.N d e W base ok v xs) (ht : e ≠ 115) : some g ≠ v.ownBlock := by
 obtain ⟨A0, c0, hb, hg, hr0⟩ := h
 exact Kd.N_ne ho hb ht
theorem IsS115.fresh {w0 W : World} {g : Nat} {f0 : List Int} {f1 : Int} {f2 : Int} (h : IsS115 w0 W g f0 f1 f2) : ∀ k, W.heap.size ≤ k → k ≠ g := by
 obtain ⟨A0, c0, hb, hg, hr0⟩ := h
 exact Kd.freshB hb
theorem IsS115.kept {w0 W : World} {g : Nat} {f0 : List Int} {f1 : Int} {f2 : Int} {W1 : World} {S : Nat → Prop} (h : IsS115 w0 W g f0 f1 f2) (hk : Kept W W1 S) (hne : ¬ S g) : IsS115 w0 W1 g f0 f1 f2 := by
 obtain ⟨A0, c0, hb, hg, hr0⟩ := h
 exact ⟨A0, c0, blk_kept hb hk hne, hg, hr0⟩
theorem IsS115.below {w0 W : World} {g : Nat} {f0 : List Int} {f1 : Int} {f2 : Int} {W1 : World} (h : IsS115 w0 W g f0 f1 f2) (hw : Below W.heap.size W W1) : IsS115 w0 W1 g f0 f1 f2 := h.grown (grown_of_below hw none) (by simp)
theorem IsS115.alloc {w0 W : World} {g : Nat} {f0 : List Int} {f1 : Int} {f2 : Int} (h : IsS115 w0 W g f0 f1 f2) (o : Obj) : IsS115 w0 (W.alloc o) g f0 f1 f2 := h.below (below_alloc (Below.refl _ _) o)
theorem IsS115.drewN {w0 W : World} {g : Nat} {f0 : List Int} {f1 : Int} {f2 : Int} (h : IsS115 w0 W g f0 f1 f2) (m : Nat) : IsS115 w0 (W.drewN m) g f0 f1 f2 := h
theorem IsS115.drew {w0 W : World} {g : Nat} {f0 : List Int} {f1 : Int} {f2 : Int} (h : IsS115 w0 W g f0 f1 f2) : IsS115 w0 W.drew g f0 f1 f2 := h
theorem IsS115.at_ {w0 W : World} {g : Nat} {f0 : List Int} {f1 : Int} {f2 : Int} {w' : World} {m : Nat} (hq : W.drewN m = w') (h : IsS115 w0 W g f0 f1 f2) : IsS115 w0 w' g f0 f1 f2 := by subst hq; exact IsS115.drewN h m
theorem IsS115.apart {w0 W : World} {g : Nat} {f0 : List Int} {f1 : Int} {f2 : Int} {α : Type} {d : Kd α} {e : Nat} {base : Nat} {ok : Nat → Prop} {v : Value} {xs : List α} (h : IsS115 w0 W g f0 f1 f2) (ho : d.R e W base ok v xs) (ht : ∀ q, q ∈ e :: d.E → q ≠ 115) : d.R e W base (fun k => ok k ∧ k ≠ g) v xs := by
 obtain ⟨A0, c0, hb, hg, hr0⟩ := h
 exact Kd.R_types ho hb ht
theorem IsS115.own_ne {w0 W : World} {g : Nat} {f0 : List Int} {f1 : Int} {f2 : Int} {α : Type} {d : Kd α} {e : Nat} {base : Nat} {ok : Nat → Prop} {v : Value} {xs : List α} (h : IsS115 w0 W g f0 f1 f2) (ho : d.R e W base ok v xs) (ht : e ≠ 115) : some g ≠ v.ownBlock := by
 obtain ⟨A0, c0, hb, hg, hr0⟩ := h
 exact Kd.R_ne ho hb ht
theorem IsS115.apartQ {w0 W : World} {g : Nat} {f0 : List Int} {f1 : Int} {f2 : Int} {α : Type} {d : Kd α} {e : Nat} {base : Nat} {ok : Nat → Prop} {v : Value} {xs : List α} (h : IsS115 w0 W g f0 f1 f2) (ho : d.Q e W base ok v xs) (ht : ∀ q, q ∈ e :: d.E → q ≠ 115) : d.Q e W base (fun k => ok k ∧ k ≠ g) v xs := by
 obtain ⟨A0, c0, hb, hg, hr0⟩ := h
 exact Kd.Q_types ho hb ht
theorem IsS115.own_neQ {w0 W : World} {g : Nat} {f0 : List Int} {f1 : Int} {f2 : Int} {α : Type} {d : Kd α} {e : Nat} {base : Nat} {ok : Nat → Prop} {v : Value} {xs : List α} (h : IsS115 w0 W g f0 f1 f2) (ho : d.Q e W base ok v xs) (ht : e ≠ 115) : some g ≠ v.ownBlock := by
 obtain ⟨A0, c0, hb, hg, hr0⟩ := h
 exact Kd.Q_ne ho hb ht
theorem IsS115.apartS {w0 W : World} {g : Nat} {f0 : List Int} {f1 : Int} {f2 : Int} {α : Type} {d : Kd α} {e : Nat} {base : Nat} {ok : Nat → Prop} {v : Value} {xs : List α} (h : IsS115 w0 W g f0 f1 f2) (ho : d.S e W base ok v xs) (ht : ∀ q, q ∈ e :: d.E → q ≠ 115) : d.S e W base (fun k => ok k ∧ k ≠ g) v xs := by
 obtain ⟨A0, c0, hb, hg, hr0⟩ := h
 exact Kd.S_types ho hb ht
theorem IsS115.own_neS {w0 W : World} {g : Nat} {f0 : List Int} {f1 : Int} {f2 : Int} {α : Type} {d : Kd α} {e : Nat} {base : Nat} {ok : Nat → Prop} {v : Value} {xs : List α} (h : IsS115 w0 W g f0 f1 f2) (ho : d.S e W base ok v xs) (ht : e ≠ 115) : some g ≠ v.ownBlock := by
 obtain ⟨A0, c0, hb, hg, hr0⟩ := h
 exact Kd.S_ne ho hb ht
theorem IsS115.lt {w0 W : World} {g : Nat} {f0 : List Int} {f1 : Int} {f2 : Int} (h : IsS115 w0 W g f0 f1 f2) : g < W.heap.size := by
 obtain ⟨A0, c0, hb, hg, hr0⟩ := h
 exact blk_lt hb
theorem IsS115.ge {w0 W : World} {g : Nat} {f0 : List Int} {f1 : Int} {f2 : Int} (h : IsS115 w0 W g f0 f1 f2) : w0.heap.size ≤ g := by
 obtain ⟨A0, c0, hb, hg, hr0⟩ := h
 exact hg
theorem IsS115.ne_blk {w0 W : World} {g : Nat} {f0 : List Int} {f1 : Int} {f2 : Int} {a : Nat} {cs : Array Value} {t : TypeId} {fr : Nat × Nat} (h : IsS115 w0 W g f0 f1 f2) (hb2 : W.heap[a]? = some (.cells cs t fr)) (ht : t ≠ 115) : g ≠ a := by
 obtain ⟨A0, c0, hb, hg, hr0⟩ := h
 rintro rfl
 rw [hb] at hb2
 injection hb2 with hb2
 injection hb2 with _ ht2
 exact ht ht2.symm
theorem IsS115.far {w0 W : World} {g : Nat} {f0 : List Int} {f1 : Int} {f2 : Int} {p : Addr} (h : IsS115 w0 W g f0 f1 f2) (hne : g ≠ p.block) (u : Value) : IsS115 w0 (W.setCell p u) g f0 f1 f2 := by
 obtain ⟨A0, c0, hb, hg, hr0⟩ := h
 exact ⟨A0, c0, blk_far hb hne u, hg, hr0⟩
theorem cellS115_0 {W : World} {g : Nat} {A0 : Option Addr} {c0 : Nat} {f0 : List Int} {f1 : Int} {f2 : Int} (h : W.heap[g]? = some (.cells #[.slice A0 f0.length c0, .int .i64 f1, .int .i64 f2] 115 (0, 0))) : W.cell? ⟨g, 0, none⟩ = some (.slice A0 f0.length c0) := (blk_cell h 0).trans rfl
theorem cellS115_1 {W : World} {g : Nat} {A0 : Option Addr} {c0 : Nat} {f0 : List Int} {f1 : Int} {f2 : Int} (h : W.heap[g]? = some (.cells #[.slice A0 f0.length c0, .int .i64 f1, .int .i64 f2] 115 (0, 0))) : W.cell? ⟨g, 1, none⟩ = some (.int .i64 f1) := (blk_cell h 1).trans rfl
theorem IsS115.set_1 {w0 W : World} {g : Nat} {f0 : List Int} {f1 : Int} {f2 : Int} (h : IsS115 w0 W g f0 f1 f2) (x : Int) : IsS115 w0 (W.setCell ⟨g, 1, none⟩ (.int .i64 x)) g f0 x f2 := by
 obtain ⟨A0, c0, hb, hg, hr0⟩ := h
 exact ⟨A0, c0, by simpa using blk_set hb 1 (.int .i64 x), hg, hr0⟩
theorem cellS115_2 {W : World} {g : Nat} {A0 : Option Addr} {c0 : Nat} {f0 : List Int} {f1 : Int} {f2 : Int} (h : W.heap[g]? = some (.cells #[.slice A0 f0.length c0, .int .i64 f1, .int .i64 f2] 115 (0, 0))) : W.cell? ⟨g, 2, none⟩ = some (.int .i64 f2) := (blk_cell h 2).trans rfl
theorem IsS115.set_2 {w0 W : World} {g : Nat} {f0 : List Int} {f1 : Int} {f2 : Int} (h : IsS115 w0 W g f0 f1 f2) (x : Int) : IsS115 w0 (W.setCell ⟨g, 2, none⟩ (.int .i64 x)) g f0 f1 x := by
 obtain ⟨A0, c0, hb, hg, hr0⟩ := h
 exact ⟨A0, c0, by simpa using blk_set hb 2 (.int .i64 x), hg, hr0⟩
theorem IsS115.new (w0 W : World) (A0 : Option Addr) (c0 : Nat) (f0 : List Int) (f1 : Int) (f2 : Int) (hB : Below w0.heap.size w0 W) (hr0 : Kd.C (Kd.int .u8) w0 A0 f0.length f0) : IsS115 w0 (W.alloc (.cells #[.slice A0 f0.length c0, .int .i64 f1, .int .i64 f2] 115)) W.heap.size f0 f1 f2 := ⟨A0, c0, by simpa using heap_alloc_new W _, hB.size, hr0⟩

/-! ### spec_l1New: function 78 -/
def spec_l1New.l0 : Nat → List Int → Int → Int → Option (List Int × Int × Int)
 | 0, _, _, _ => none
 | k + 1, x0, x3, x4 => if x4 < (x0.length : Int) then (if 0 ≤ x4 then (spec_l1New.l0 k x0 (Go.bits .and .i64 (wrap64 ((wrap64 ((wrap64 (x3 * 137)) + (wrap64 (rd x0 x4)))) + 11)) 1073741823) (wrap64 (x4 + 1))) else (none)) else (some (x0, 0, x3))
def spec_l1New.f (k : Nat) (l0 : List Int) : Option (List Int × Int × Int) := spec_l1New.l0 k l0 (wrap64 (111029 + (l0.length : Int))) 0
theorem spec_l1New.mono_l : ∀ k, (∀ y0 y1 y2, LeO (spec_l1New.l0 k y0 y1 y2) (spec_l1New.l0 (k + 1) y0 y1 y2))
 | 0 => fun _ _ _ r h => by simp [spec_l1New.l0] at h
 | k + 1 => by
  have ih0 := spec_l1New.mono_l k
  {
  intro y0 y1 y2
  unfold spec_l1New.l0
  repeat' first
  | (with_reducible exact ih0 _ _ _)
  | (with_reducible exact LeO.refl _)
  | (with_reducible exact LeO.none _)
  | (with_reducible refine LeO.ite ?_ ?_)
  | (with_reducible refine LeO.bind ?_ (fun _ => ?_))
  | exact ih0 _ _ _
  | exact LeO.none _
  | refine LeO.ite ?_ ?_
  | refine LeO.bind ?_ (fun _ => ?_)
  }
theorem spec_l1New.mono : ∀ a0 k, LeO (spec_l1New.f k a0) (spec_l1New.f (k + 1) a0) := by
 intro a0 k
 have ih0 := spec_l1New.mono_l k
 unfold spec_l1New.f
 repeat' first
   | (with_reducible exact ih0 _ _ _)
   | (with_reducible exact LeO.refl _)
   | (with_reducible exact LeO.none _)
   | (with_reducible refine LeO.ite ?_ ?_)
   | (with_reducible refine LeO.bind ?_ (fun _ => ?_))
   | exact ih0 _ _ _
   | exact LeO.none _
   | refine LeO.ite ?_ ?_
   | refine LeO.bind ?_ (fun _ => ?_)
set_option maxHeartbeats 8000000 in
set_option maxRecDepth 100000 in
theorem spec_l1New.calls (k : Nat) (A0 : Option Addr) (c0 : Nat) (l0 : List Int) (r1 : List Int) (r2 : Int) (r3 : Int) (w0 w : World) (hB : Below w0.heap.size w0 w) (hr0 : Kd.C (Kd.int .u8) w0 A0 l0.length l0) (hc0 : l0.length ≤ c0) (h : spec_l1New.f k l0 = some (r1, r2, r3)) :
  Calls Try.prog 78 #[.slice A0 l0.length c0] w fun e w' => ∃ g_ : Nat, e = .returned (.pointer (some ⟨g_, 0, none⟩)) ∧ IsS115 w0 w' g_ r1 r2 r3 ∧ Below w0.heap.size w0 w' ∧ Below w.heap.size w w' := by
 have hu115 := Try.underlying115
 have HR0 := Aside0.mk hr0
 have HC0 := Aside0.mk hc0
 clear hr0 hc0
 have HBW := Aside0.mk (Below.refl w.heap.size w)
 have HW0 := Aside0.mk hB.size
 have HB := Aside0.mk hB
 clear hB
 have H : (spec_l1New.l0 k l0 (wrap64 (111029 + (l0.length : Int))) 0) = some (r1, r2, r3) := h
 clear h
 have H' := Aside0.mk H
 clear H
 go_enter Try.func78, Try.ntmps78
 go_wp2
 go_loopg [3, 4] k (fun kq v3 v4 w' => ∃ (x3_1 : Int) (x4_1 : Int), v3 = .int .i64 x3_1 ∧ v4 = .int .i64 x4_1 ∧ Aside0 (spec_l1New.l0 kq l0 x3_1 x4_1 = some (r1, r2, r3)) ∧ Aside0 (kq ≤ k) ∧ Aside0 (Below w.heap.size w w') ∧ Aside0 (Below w0.heap.size w0 w'))
 case atStart => exact ⟨(wrap64 (111029 + (l0.length : Int))), (0), (by first | rfl | (simp; done) | (simp [*]; done)), (by first | rfl | (simp; done) | (simp [*]; done)), H', ⟨Nat.le_refl _⟩, ⟨by repeat (first | (with_reducible first | exact HBW.out | apply below_alloc | apply pw_below_drewN | apply below_drew1) | exact HBW.out)⟩, ⟨by repeat (first | (with_reducible first | exact HB.out | apply below_alloc | apply pw_below_drewN | apply below_drew1) | exact HB.out)⟩⟩
 case round =>
  clear H'
  obtain ⟨x3_1, x4_1, rfl, rfl, HA, HK1, HBW, HB⟩ := hrel
  cases gk with
  | zero => exact absurd HA.out (by simp [spec_l1New.l0])
  | succ k1 =>
   have H := HA.out
   clear HA
   simp only [spec_l1New.l0] at H
   by_cases c2 : x4_1 < (l0.length : Int)
   {
   rw [if_pos c2] at H
   have c2b0 : decide (x4_1 < (l0.length : Int)) = true := decide_eq_true c2
   clear c2
   by_cases c3 : 0 ≤ x4_1
   {
   rw [if_pos c3] at H
   have c3b0 : decide (0 ≤ x4_1) = true := decide_eq_true c3
   clear c3
   have H' := Aside0.mk H
   clear H
   have p213 : 0 ≤ (x4_1 : Int) := of_decide_eq_true (by first | (with_reducible assumption) | assumption)
   have q213 : x4_1 < (l0.length : Int) := of_decide_eq_true (by first | (with_reducible assumption) | assumption)
   obtain ⟨ad213, e213, hx213_0⟩ := Kd.at_int HR0.out x4_1 p213 q213
   cases e213
   replace hx213_0 := pw_cell_below HB.out hx213_0
   replace p213 := eq_true p213
   replace q213 := eq_true q213
   go_wp2
   go_roundg k1
   case measure => have := HK1.out; omega
   case rel => exact ⟨(Go.bits .and .i64 (wrap64 ((wrap64 ((wrap64 (x3_1 * 137)) + (wrap64 (rd l0 x4_1)))) + 11)) 1073741823), (wrap64 (x4_1 + 1)), (by first | rfl | (simp; done) | (simp [*]; done)), (by first | rfl | (simp; done) | (simp [*]; done)), H', ⟨by have := HK1.out; omega⟩, ⟨by repeat (first | (with_reducible first | exact HBW.out | apply below_alloc | apply pw_below_drewN | apply below_drew1) | exact HBW.out)⟩, ⟨by repeat (first | (with_reducible first | exact HB.out | apply below_alloc | apply pw_below_drewN | apply below_drew1) | exact HB.out)⟩⟩
   }
   {
   rw [if_neg c3] at H
   exact absurd H (by simp)
   }
   }
   {
   rw [if_neg c2] at H
   have c2b0 : decide (x4_1 < (l0.length : Int)) = false := decide_eq_false c2
   clear c2
   simp only [Option.some.injEq, Prod.mk.injEq] at H
   obtain ⟨rfl, rfl, rfl⟩ := H
   go_wp2_with (first | ((with_reducible refine gate_dst (N := 27) rfl ?_); refine box_event ?hg (N := 27) ?hd (cs := #[.slice A0 l0.length c0, .int .i64 0, .int .i64 x3_1]) (t := 115) ?hr ?_; (case hd => rfl); (case hg => rfl); (case hr => first | (go_simp; done) | (go_simp; rfl)); intro gb214 hg w4 hbox hb; have n0_ := Aside0.mk (below_step HBW.out hb); have n1_ := Aside0.mk (below_step (by repeat (first | (with_reducible first | exact HB.out | apply below_alloc | apply pw_below_drewN | apply below_drew1) | exact HB.out)) hb); have n2_ := Aside0.mk (hbox); have n3_ := Aside0.mk ((by rw [hg]; exact (below_size (by repeat (first | (with_reducible first | exact HBW.out | apply below_alloc | apply pw_below_drewN | apply below_drew1) | exact HBW.out))) : w.heap.size ≤ gb214)); have n4_ := Aside0.mk ((Nat.le_trans HW0.out (by rw [hg]; exact (below_size (by repeat (first | (with_reducible first | exact HBW.out | apply below_alloc | apply pw_below_drewN | apply below_drew1) | exact HBW.out))) : w.heap.size ≤ gb214) : w0.heap.size ≤ gb214)); clear HBW; clear HB; have HBW := n0_; have HB := n1_; have BK214 := n2_; have GW214 := n3_; have GE214 := n4_; clear n0_ n1_ n2_ n3_ n4_; clear hb hbox hg))
   go_ret
   exact ⟨_, rfl, (show IsS115 w0 _ gb214 l0 0 x3_1 from ⟨_, _, by (with_reducible repeat (first | refine blk_drewN ?_ _ | refine blk_drew ?_ | refine blk_alloc ?_ _)); exact BK214.out, GE214.out, HR0.out⟩), by repeat (first | (with_reducible first | exact HB.out | apply below_alloc | apply pw_below_drewN | apply below_drew1 | refine below_set ?_ GE214.out) | exact HB.out), by repeat (first | (with_reducible first | exact HBW.out | apply below_alloc | apply pw_below_drewN | apply below_drew1 | refine below_set ?_ GW214.out) | exact HBW.out)⟩
   
   }
/-! ### spec_l1Byte: function 112 -/
def spec_l1Byte.f (s0_0 : List Int) (s0_1 : Int) (s0_2 : Int) : Option (Int × Int × Int) := if s0_1 < (s0_0.length : Int) then (if 0 ≤ s0_1 then (some (Go.bits .and .i64 (wrap64 ((Go.bits .and .i64 (Go.bits .xor .i64 ((wrap64 ((wrap64 (s0_2 * 6364136223846793005)) + 1442695040888963407)) / 8589934592) ((wrap64 ((wrap64 (s0_2 * 6364136223846793005)) + 1442695040888963407)) / 35184372088832)) 255) + (wrap64 (rd s0_0 s0_1)))) 255, wrap64 (s0_1 + 1), wrap64 ((wrap64 (s0_2 * 6364136223846793005)) + 1442695040888963407))) else (none)) else (some (Go.bits .and .i64 (Go.bits .xor .i64 ((wrap64 ((wrap64 (s0_2 * 6364136223846793005)) + 1442695040888963407)) / 8589934592) ((wrap64 ((wrap64 (s0_2 * 6364136223846793005)) + 1442695040888963407)) / 35184372088832)) 255, s0_1, wrap64 ((wrap64 (s0_2 * 6364136223846793005)) + 1442695040888963407)))
set_option maxHeartbeats 8000000 in
set_option maxRecDepth 100000 in
theorem spec_l1Byte.calls (g : Nat) (s0_0 : List Int) (s0_1 : Int) (s0_2 : Int) (r1 : Int) (r2 : Int) (r3 : Int) (w0 w : World) (hI : IsS115 w0 w g s0_0 s0_1 s0_2) (hB : Below w0.heap.size w0 w) (h : spec_l1Byte.f s0_0 s0_1 s0_2 = some (r1, r2, r3)) :
  Calls Try.prog 112 #[.pointer (some ⟨g, 0, none⟩)] w fun e w' => e = .returned (.int .i64 r1) ∧ IsS115 w0 w' g s0_0 r2 r3 ∧ Below w0.heap.size w0 w' ∧ KeepBut w w' g none := by
 have HI0 := Aside0.mk hI
 have HK := Aside0.mk (KeepBut.refl w g none)
 have HL := Aside0.mk hB.size
 clear hI
 have HW0 := Aside0.mk hB.size
 have HB := Aside0.mk hB
 clear hB
 have H : (if s0_1 < (s0_0.length : Int) then (if 0 ≤ s0_1 then (some (Go.bits .and .i64 (wrap64 ((Go.bits .and .i64 (Go.bits .xor .i64 ((wrap64 ((wrap64 (s0_2 * 6364136223846793005)) + 1442695040888963407)) / 8589934592) ((wrap64 ((wrap64 (s0_2 * 6364136223846793005)) + 1442695040888963407)) / 35184372088832)) 255) + (wrap64 (rd s0_0 s0_1)))) 255, wrap64 (s0_1 + 1), wrap64 ((wrap64 (s0_2 * 6364136223846793005)) + 1442695040888963407))) else (none)) else (some (Go.bits .and .i64 (Go.bits .xor .i64 ((wrap64 ((wrap64 (s0_2 * 6364136223846793005)) + 1442695040888963407)) / 8589934592) ((wrap64 ((wrap64 (s0_2 * 6364136223846793005)) + 1442695040888963407)) / 35184372088832)) 255, s0_1, wrap64 ((wrap64 (s0_2 * 6364136223846793005)) + 1442695040888963407)))) = some (r1, r2, r3) := h
 clear h
 by_cases c2 : s0_1 < (s0_0.length : Int)
 {
 rw [if_pos c2] at H
 have c2b0 : decide (s0_1 < (s0_0.length : Int)) = true := decide_eq_true c2
 clear c2
 by_cases c3 : 0 ≤ s0_1
 {
 rw [if_pos c3] at H
 have c3b0 : decide (0 ≤ s0_1) = true := decide_eq_true c3
 clear c3
 simp only [Option.some.injEq, Prod.mk.injEq] at H
 obtain ⟨rfl, rfl, rfl⟩ := H
 obtain ⟨ASz4_0, cSz4_0, HGz4, hgz4, HSz4_0⟩ := HI0.out
 have hcz4_0 := cellS115_0 HGz4
 have hcz4_1 := cellS115_1 HGz4
 have hcz4_2 := cellS115_2 HGz4
 have hfz4_1 := blk_frozen HGz4 1
 have hfz4_2 := blk_frozen HGz4 2
 clear HGz4 hgz4
 have p215 : 0 ≤ (s0_1 : Int) := of_decide_eq_true (by first | (with_reducible assumption) | assumption)
 have q215 : s0_1 < (s0_0.length : Int) := of_decide_eq_true (by first | (with_reducible assumption) | assumption)
 obtain ⟨ad215, e215, hx215_0⟩ := Kd.at_int HSz4_0 s0_1 p215 q215
 cases e215
 have hn215_0 : ad215.block ≠ g := Nat.ne_of_lt (Nat.lt_of_lt_of_le (by have := World.block_lt_of_cell? _ _ hx215_0; first | rwa [add_block] at this | exact this) (IsS115.ge HI0.out))
 replace hx215_0 := pw_cell_below HB.out hx215_0
 replace hx215_0 := (cell_far (p := ⟨g, 2, none⟩) (by first | (rw [add_block]; exact hn215_0) | (show (Addr.add _ _).block ≠ _; rw [add_block]; exact hn215_0) | exact hn215_0) (.int .i64 (wrap64 ((wrap64 (s0_2 * 6364136223846793005)) + 1442695040888963407)))).trans hx215_0
 (try have hy215_0 := fun (n_ : Nat) => (show (((w.drewN n_).setCell ⟨g, 2, none⟩ (.int .i64 (wrap64 ((wrap64 (s0_2 * 6364136223846793005)) + 1442695040888963407))))).cell? _ = some _ from hx215_0))
 clear hn215_0
 replace p215 := eq_true p215
 replace q215 := eq_true q215
 go_enter Try.func112, Try.ntmps112
 go_wp2
 repeat (go_quiet (fail); try go_wp2)
 go_ret
 exact ⟨by first | rfl | (simp [errW_none, errW_some] <;> rfl) | (simp [*, errW_none, errW_some] <;> rfl), by repeat (first | (with_reducible first | exact HI0.out | apply IsS115.alloc | apply IsS115.drewN | apply IsS115.drew | apply IsS115.set_1 | apply IsS115.set_2) | exact HI0.out), by repeat (first | (with_reducible first | exact HB.out | apply below_alloc | apply pw_below_drewN | apply below_drew1 | refine below_set ?_ (IsS115.ge HI0.out)) | exact HB.out), by repeat (first | (with_reducible first | exact HK.out | apply KeepBut.set_ | apply keep_drewN | apply keep_drew | apply keep_alloc) | exact HK.out)⟩
 }
 {
 rw [if_neg c3] at H
 exact absurd H (by simp)
 }
 }
 {
 rw [if_neg c2] at H
 have c2b0 : decide (s0_1 < (s0_0.length : Int)) = false := decide_eq_false c2
 clear c2
 simp only [Option.some.injEq, Prod.mk.injEq] at H
 obtain ⟨rfl, rfl, rfl⟩ := H
 obtain ⟨ASz5_0, cSz5_0, HGz5, hgz5, HSz5_0⟩ := HI0.out
 have hcz5_0 := cellS115_0 HGz5
 have hcz5_1 := cellS115_1 HGz5
 have hcz5_2 := cellS115_2 HGz5
 have hfz5_1 := blk_frozen HGz5 1
 have hfz5_2 := blk_frozen HGz5 2
 clear HGz5 hgz5
 go_enter Try.func112, Try.ntmps112
 go_wp2
 repeat (go_quiet (fail); try go_wp2)
 go_ret
 exact ⟨by first | rfl | (simp [errW_none, errW_some] <;> rfl) | (simp [*, errW_none, errW_some] <;> rfl), by repeat (first | (with_reducible first | exact HI0.out | apply IsS115.alloc | apply IsS115.drewN | apply IsS115.drew | apply IsS115.set_1 | apply IsS115.set_2) | exact HI0.out), by repeat (first | (with_reducible first | exact HB.out | apply below_alloc | apply pw_below_drewN | apply below_drew1 | refine below_set ?_ (IsS115.ge HI0.out)) | exact HB.out), by repeat (first | (with_reducible first | exact HK.out | apply KeepBut.set_ | apply keep_drewN | apply keep_drew | apply keep_alloc) | exact HK.out)⟩
 
 }
/-! ### spec_l1Below: function 102 -/
theorem z102a {p_ : Prop} (h_ : p_ := by repeat (first | (with_reducible first | exact HI0.out | apply IsS115.alloc | apply IsS115.drewN | apply IsS115.drew | apply IsS115.set_1 | apply IsS115.set_2) | exact HI0.out)) : p_ := h_
theorem z102b {p_ : Prop} (h_ : p_ := by repeat (first | (with_reducible first | exact HB.out | apply below_alloc | apply pw_below_drewN | apply below_drew1 | refine below_set ?_ (IsS115.ge HI0.out)) | exact HB.out)) : p_ := h_
theorem z102c {p_ : Prop} (h_ : p_ := by repeat (first | (with_reducible first | exact HK.out | apply KeepBut.set_ | apply keep_drewN | apply keep_drew | apply keep_alloc) | exact HK.out)) : p_ := h_
theorem z102d {p_ : Prop} (h_ : p_ := by (try simp only [List.map_toArray, List.map_cons, List.map_nil]); first | done | rfl | (simp only [List.length_drop, List.length_take]; rfl)) : p_ := h_
def spec_l1Below.f (s0_0 : List Int) (s0_1 : Int) (s0_2 : Int) (a1 : Int) : Option (Int × Int × Int) := if a1 ≤ 0 then (some (0, s0_1, s0_2)) else (if a1 ≤ 256 then ((spec_l1Byte.f s0_0 s0_1 s0_2).bind fun bt216 => (if a1 = 0 then (none) else (some (Int.tmod bt216.1 a1, bt216.2.1, bt216.2.2)))) else ((spec_l1Byte.f s0_0 s0_1 s0_2).bind fun bt219 => ((spec_l1Byte.f s0_0 bt219.2.1 bt219.2.2).bind fun bt222 => ((spec_l1Byte.f s0_0 bt222.2.1 bt222.2.2).bind fun bt225 => ((spec_l1Byte.f s0_0 bt225.2.1 bt225.2.2).bind fun bt228 => (if a1 = 0 then (none) else (some (Int.tmod (wrap64 ((wrap64 ((wrap64 ((wrap64 (bt219.1 * 16777216)) + (wrap64 (bt222.1 * 65536)))) + (wrap64 (bt225.1 * 256)))) + bt228.1)) a1, bt228.2.1, bt228.2.2))))))))
set_option maxHeartbeats 8000000 in
set_option maxRecDepth 100000 in
theorem spec_l1Below.calls (g : Nat) (s0_0 : List Int) (s0_1 : Int) (s0_2 : Int) (a1 : Int) (r1 : Int) (r2 : Int) (r3 : Int) (w0 w : World) (hI : IsS115 w0 w g s0_0 s0_1 s0_2) (hB : Below w0.heap.size w0 w) (h : spec_l1Below.f s0_0 s0_1 s0_2 a1 = some (r1, r2, r3)) :
  Calls Try.prog 102 #[.pointer (some ⟨g, 0, none⟩), .int .i64 a1] w fun e w' => e = .returned (.int .i64 r1) ∧ IsS115 w0 w' g s0_0 r2 r3 ∧ Below w0.heap.size w0 w' ∧ KeepBut w w' g none := by
 have HI0 := Aside0.mk hI
 have HK := Aside0.mk (KeepBut.refl w g none)
 have HL := Aside0.mk hB.size
 clear hI
 have HW0 := Aside0.mk hB.size
 have HB := Aside0.mk hB
 clear hB
 have H : (if a1 ≤ 0 then (some (0, s0_1, s0_2)) else (if a1 ≤ 256 then ((spec_l1Byte.f s0_0 s0_1 s0_2).bind fun bt216 => (if a1 = 0 then (none) else (some (Int.tmod bt216.1 a1, bt216.2.1, bt216.2.2)))) else ((spec_l1Byte.f s0_0 s0_1 s0_2).bind fun bt219 => ((spec_l1Byte.f s0_0 bt219.2.1 bt219.2.2).bind fun bt222 => ((spec_l1Byte.f s0_0 bt222.2.1 bt222.2.2).bind fun bt225 => ((spec_l1Byte.f s0_0 bt225.2.1 bt225.2.2).bind fun bt228 => (if a1 = 0 then (none) else (some (Int.tmod (wrap64 ((wrap64 ((wrap64 ((wrap64 (bt219.1 * 16777216)) + (wrap64 (bt222.1 * 65536)))) + (wrap64 (bt225.1 * 256)))) + bt228.1)) a1, bt228.2.1, bt228.2.2))))))))) = some (r1, r2, r3) := h
 clear h
 by_cases c3 : a1 ≤ 0
 {
 rw [if_pos c3] at H
 have c3b0 : decide (a1 ≤ 0) = true := decide_eq_true c3
 clear c3
 simp only [Option.some.injEq, Prod.mk.injEq] at H
 obtain ⟨rfl, rfl, rfl⟩ := H
 go_enter Try.func102, Try.ntmps102
 go_wp2
 go_ret
 exact ⟨by first | rfl | (simp [errW_none, errW_some] <;> rfl) | (simp [*, errW_none, errW_some] <;> rfl), by repeat (first | (with_reducible first | exact HI0.out | apply IsS115.alloc | apply IsS115.drewN | apply IsS115.drew | apply IsS115.set_1 | apply IsS115.set_2) | exact HI0.out), by repeat (first | (with_reducible first | exact HB.out | apply below_alloc | apply pw_below_drewN | apply below_drew1 | refine below_set ?_ (IsS115.ge HI0.out)) | exact HB.out), by repeat (first | (with_reducible first | exact HK.out | apply KeepBut.set_ | apply keep_drewN | apply keep_drew | apply keep_alloc) | exact HK.out)⟩
 }
 {
 rw [if_neg c3] at H
 have c3b0 : decide (a1 ≤ 0) = false := decide_eq_false c3
 clear c3
 by_cases c4 : a1 ≤ 256
 {
 rw [if_pos c4] at H
 have c4b0 : decide (a1 ≤ 256) = true := decide_eq_true c4
 clear c4
 replace H := Option.bind_eq_some_iff.mp H
 obtain ⟨⟨t216, t217, t218⟩, A50, H⟩ := H
 replace H : (if a1 = 0 then (none) else (some (Int.tmod t216 a1, t217, t218))) = some (r1, r2, r3) := H
 have A5 := Aside0.mk A50
 clear A50
 by_cases c6 : a1 = 0
 {
 rw [if_pos c6] at H
 exact absurd H (by simp)
 }
 {
 rw [if_neg c6] at H
 have c6b0 : (a1 == 0) = false := beq_eq_false_iff_ne.mpr c6
 have c6b1 : (a1 != 0) = true := bne_iff_ne.mpr c6
 simp only [Option.some.injEq, Prod.mk.injEq] at H
 obtain ⟨rfl, rfl, rfl⟩ := H
 go_enter Try.func102, Try.ntmps102
 go_wp2_with (first | ((with_reducible refine gate_callee (f := 112) rfl ?_); refine goesL_ (some 14) rfl rfl Try.func112 (by kernel_rfl) rfl #[.pointer (some ⟨g, 0, none⟩)] rfl z102d ?_; (with_reducible refine (spec_l1Byte.calls g s0_0 s0_1 s0_2 t216 t217 t218 w0 _ ?side1 ?side2 A5.out).mono ?_); (case side1 => exact z102a); (case side2 => exact z102b); rintro e w7 ⟨rfl, hi, hb, hk⟩; refine ⟨_, rfl, ?_⟩; have n0_ := Aside0.mk (KeepBut.trans z102c hk (.inl rfl)); have n1_ := Aside0.mk (hb); have n2_ := Aside0.mk (hi); clear HK; clear HB; clear HI0; have HK := n0_; have HB := n1_; have HI0 := n2_; clear n0_ n1_ n2_; (try clear hb); (try clear hb2); (try clear hk); (try clear hi)))
 go_ret
 exact ⟨by first | rfl | (simp [errW_none, errW_some] <;> rfl) | (simp [*, errW_none, errW_some] <;> rfl), by repeat (first | (with_reducible first | exact HI0.out | apply IsS115.alloc | apply IsS115.drewN | apply IsS115.drew | apply IsS115.set_1 | apply IsS115.set_2) | exact HI0.out), by repeat (first | (with_reducible first | exact HB.out | apply below_alloc | apply pw_below_drewN | apply below_drew1 | refine below_set ?_ (IsS115.ge HI0.out)) | exact HB.out), by repeat (first | (with_reducible first | exact HK.out | apply KeepBut.set_ | apply keep_drewN | apply keep_drew | apply keep_alloc) | exact HK.out)⟩
 }
 }
 {
 rw [if_neg c4] at H
 have c4b0 : decide (a1 ≤ 256) = false := decide_eq_false c4
 clear c4
 replace H := Option.bind_eq_some_iff.mp H
 obtain ⟨⟨t219, t220, t221⟩, A80, H⟩ := H
 replace H : ((spec_l1Byte.f s0_0 t220 t221).bind fun bt222 => ((spec_l1Byte.f s0_0 bt222.2.1 bt222.2.2).bind fun bt225 => ((spec_l1Byte.f s0_0 bt225.2.1 bt225.2.2).bind fun bt228 => (if a1 = 0 then (none) else (some (Int.tmod (wrap64 ((wrap64 ((wrap64 ((wrap64 (t219 * 16777216)) + (wrap64 (bt222.1 * 65536)))) + (wrap64 (bt225.1 * 256)))) + bt228.1)) a1, bt228.2.1, bt228.2.2)))))) = some (r1, r2, r3) := H
 have A8 := Aside0.mk A80
 clear A80
 replace H := Option.bind_eq_some_iff.mp H
 obtain ⟨⟨t222, t223, t224⟩, A90, H⟩ := H
 replace H : ((spec_l1Byte.f s0_0 t223 t224).bind fun bt225 => ((spec_l1Byte.f s0_0 bt225.2.1 bt225.2.2).bind fun bt228 => (if a1 = 0 then (none) else (some (Int.tmod (wrap64 ((wrap64 ((wrap64 ((wrap64 (t219 * 16777216)) + (wrap64 (t222 * 65536)))) + (wrap64 (bt225.1 * 256)))) + bt228.1)) a1, bt228.2.1, bt228.2.2))))) = some (r1, r2, r3) := H
 have A9 := Aside0.mk A90
 clear A90
 replace H := Option.bind_eq_some_iff.mp H
 obtain ⟨⟨t225, t226, t227⟩, A100, H⟩ := H
 replace H : ((spec_l1Byte.f s0_0 t226 t227).bind fun bt228 => (if a1 = 0 then (none) else (some (Int.tmod (wrap64 ((wrap64 ((wrap64 ((wrap64 (t219 * 16777216)) + (wrap64 (t222 * 65536)))) + (wrap64 (t225 * 256)))) + bt228.1)) a1, bt228.2.1, bt228.2.2)))) = some (r1, r2, r3) := H
 have A10 := Aside0.mk A100
 clear A100
 replace H := Option.bind_eq_some_iff.mp H
 obtain ⟨⟨t228, t229, t230⟩, A110, H⟩ := H
 replace H : (if a1 = 0 then (none) else (some (Int.tmod (wrap64 ((wrap64 ((wrap64 ((wrap64 (t219 * 16777216)) + (wrap64 (t222 * 65536)))) + (wrap64 (t225 * 256)))) + t228)) a1, t229, t230))) = some (r1, r2, r3) := H
 have A11 := Aside0.mk A110
 clear A110
 by_cases c12 : a1 = 0
 {
 rw [if_pos c12] at H
 exact absurd H (by simp)
 }
 {
 rw [if_neg c12] at H
 have c12b0 : (a1 == 0) = false := beq_eq_false_iff_ne.mpr c12
 have c12b1 : (a1 != 0) = true := bne_iff_ne.mpr c12
 simp only [Option.some.injEq, Prod.mk.injEq] at H
 obtain ⟨rfl, rfl, rfl⟩ := H
 go_enter Try.func102, Try.ntmps102
 go_wp2_with (first | ((with_reducible refine gate_callee (f := 112) rfl ?_); refine goesL_ (some 18) rfl rfl Try.func112 (by kernel_rfl) rfl #[.pointer (some ⟨g, 0, none⟩)] rfl z102d ?_; (with_reducible refine (spec_l1Byte.calls g s0_0 s0_1 s0_2 t219 t220 t221 w0 _ ?side1 ?side2 A8.out).mono ?_); (case side1 => exact z102a); (case side2 => exact z102b); rintro e w13 ⟨rfl, hi, hb, hk⟩; refine ⟨_, rfl, ?_⟩; have n0_ := Aside0.mk (KeepBut.trans z102c hk (.inl rfl)); have n1_ := Aside0.mk (hb); have n2_ := Aside0.mk (hi); clear HK; clear HB; clear HI0; have HK := n0_; have HB := n1_; have HI0 := n2_; clear n0_ n1_ n2_; (try clear hb); (try clear hb2); (try clear hk); (try clear hi)) | ((with_reducible refine gate_callee (f := 112) rfl ?_); refine goesL_ (some 20) rfl rfl Try.func112 (by kernel_rfl) rfl #[.pointer (some ⟨g, 0, none⟩)] rfl z102d ?_; (with_reducible refine (spec_l1Byte.calls g s0_0 t220 t221 t222 t223 t224 w0 _ ?side1 ?side2 A9.out).mono ?_); (case side1 => exact z102a); (case side2 => exact z102b); rintro e w14 ⟨rfl, hi, hb, hk⟩; refine ⟨_, rfl, ?_⟩; have n0_ := Aside0.mk (KeepBut.trans z102c hk (.inl rfl)); have n1_ := Aside0.mk (hb); have n2_ := Aside0.mk (hi); clear HK; clear HB; clear HI0; have HK := n0_; have HB := n1_; have HI0 := n2_; clear n0_ n1_ n2_; (try clear hb); (try clear hb2); (try clear hk); (try clear hi)) | ((with_reducible refine gate_callee (f := 112) rfl ?_); refine goesL_ (some 22) rfl rfl Try.func112 (by kernel_rfl) rfl #[.pointer (some ⟨g, 0, none⟩)] rfl z102d ?_; (with_reducible refine (spec_l1Byte.calls g s0_0 t223 t224 t225 t226 t227 w0 _ ?side1 ?side2 A10.out).mono ?_); (case side1 => exact z102a); (case side2 => exact z102b); rintro e w15 ⟨rfl, hi, hb, hk⟩; refine ⟨_, rfl, ?_⟩; have n0_ := Aside0.mk (KeepBut.trans z102c hk (.inl rfl)); have n1_ := Aside0.mk (hb); have n2_ := Aside0.mk (hi); clear HK; clear HB; clear HI0; have HK := n0_; have HB := n1_; have HI0 := n2_; clear n0_ n1_ n2_; (try clear hb); (try clear hb2); (try clear hk); (try clear hi)) | ((with_reducible refine gate_callee (f := 112) rfl ?_); refine goesL_ (some 24) rfl rfl Try.func112 (by kernel_rfl) rfl #[.pointer (some ⟨g, 0, none⟩)] rfl z102d ?_; (with_reducible refine (spec_l1Byte.calls g s0_0 t226 t227 t228 t229 t230 w0 _ ?side1 ?side2 A11.out).mono ?_); (case side1 => exact z102a); (case side2 => exact z102b); rintro e w16 ⟨rfl, hi, hb, hk⟩; refine ⟨_, rfl, ?_⟩; have n0_ := Aside0.mk (KeepBut.trans z102c hk (.inl rfl)); have n1_ := Aside0.mk (hb); have n2_ := Aside0.mk (hi); clear HK; clear HB; clear HI0; have HK := n0_; have HB := n1_; have HI0 := n2_; clear n0_ n1_ n2_; (try clear hb); (try clear hb2); (try clear hk); (try clear hi)))
 go_ret
 exact ⟨by first | rfl | (simp [errW_none, errW_some] <;> rfl) | (simp [*, errW_none, errW_some] <;> rfl), by repeat (first | (with_reducible first | exact HI0.out | apply IsS115.alloc | apply IsS115.drewN | apply IsS115.drew | apply IsS115.set_1 | apply IsS115.set_2) | exact HI0.out), by repeat (first | (with_reducible first | exact HB.out | apply below_alloc | apply pw_below_drewN | apply below_drew1 | refine below_set ?_ (IsS115.ge HI0.out)) | exact HB.out), by repeat (first | (with_reducible first | exact HK.out | apply KeepBut.set_ | apply keep_drewN | apply keep_drew | apply keep_alloc) | exact HK.out)⟩
 
 }
 }
 }
/-! ### spec_l1Once: function 101 -/
def spec_l1Once.f (s0_0 : List Int) (s0_1 : Int) (s0_2 : Int) (a1 : Int) : Option (Bool × Int × Int) := (spec_l1Below.f s0_0 s0_1 s0_2 a1).bind fun bt231 => (some ((bt231.1 == 0), bt231.2.1, bt231.2.2))
set_option maxHeartbeats 8000000 in
set_option maxRecDepth 100000 in
theorem spec_l1Once.calls (g : Nat) (s0_0 : List Int) (s0_1 : Int) (s0_2 : Int) (a1 : Int) (r1 : Bool) (r2 : Int) (r3 : Int) (w0 w : World) (hI : IsS115 w0 w g s0_0 s0_1 s0_2) (hB : Below w0.heap.size w0 w) (h : spec_l1Once.f s0_0 s0_1 s0_2 a1 = some (r1, r2, r3)) :
  Calls Try.prog 101 #[.pointer (some ⟨g, 0, none⟩), .int .i64 a1] w fun e w' => e = .returned (.bool r1) ∧ IsS115 w0 w' g s0_0 r2 r3 ∧ Below w0.heap.size w0 w' ∧ KeepBut w w' g none := by
 have HI0 := Aside0.mk hI
 have HK := Aside0.mk (KeepBut.refl w g none)
 have HL := Aside0.mk hB.size
 clear hI
 have HW0 := Aside0.mk hB.size
 have HB := Aside0.mk hB
 clear hB
 have H : ((spec_l1Below.f s0_0 s0_1 s0_2 a1).bind fun bt231 => (some ((bt231.1 == 0), bt231.2.1, bt231.2.2))) = some (r1, r2, r3) := h
 clear h
 replace H := Option.bind_eq_some_iff.mp H
 obtain ⟨⟨t231, t232, t233⟩, A30, H⟩ := H
 replace H : (some ((t231 == 0), t232, t233)) = some (r1, r2, r3) := H
 have A3 := Aside0.mk A30
 clear A30
 simp only [Option.some.injEq, Prod.mk.injEq] at H
 obtain ⟨rfl, rfl, rfl⟩ := H
 go_enter Try.func101, Try.ntmps101
 go_wp2_with (first | ((with_reducible refine gate_callee (f := 102) rfl ?_); refine goesL_ (some 7) rfl rfl Try.func102 (by kernel_rfl) rfl #[.pointer (some ⟨g, 0, none⟩), .int .i64 a1] rfl (by (try simp only [List.map_toArray, List.map_cons, List.map_nil]); first | done | rfl | (simp only [List.length_drop, List.length_take]; rfl)) ?_; (with_reducible refine (spec_l1Below.calls g s0_0 s0_1 s0_2 a1 t231 t232 t233 w0 _ ?side1 ?side2 A3.out).mono ?_); (case side1 => exact (by repeat (first | (with_reducible first | exact HI0.out | apply IsS115.alloc | apply IsS115.drewN | apply IsS115.drew | apply IsS115.set_1 | apply IsS115.set_2) | exact HI0.out))); (case side2 => exact (by repeat (first | (with_reducible first | exact HB.out | apply below_alloc | apply pw_below_drewN | apply below_drew1 | refine below_set ?_ (IsS115.ge HI0.out)) | exact HB.out))); rintro e w4 ⟨rfl, hi, hb, hk⟩; refine ⟨_, rfl, ?_⟩; have n0_ := Aside0.mk (KeepBut.trans (by repeat (first | (with_reducible first | exact HK.out | apply KeepBut.set_ | apply keep_drewN | apply keep_drew | apply keep_alloc) | exact HK.out)) hk (.inl rfl)); have n1_ := Aside0.mk (hb); have n2_ := Aside0.mk (hi); clear HK; clear HB; clear HI0; have HK := n0_; have HB := n1_; have HI0 := n2_; clear n0_ n1_ n2_; (try clear hb); (try clear hb2); (try clear hk); (try clear hi)))
 go_ret
 exact ⟨by first | rfl | (simp [errW_none, errW_some] <;> rfl) | (simp [*, errW_none, errW_some] <;> rfl), by repeat (first | (with_reducible first | exact HI0.out | apply IsS115.alloc | apply IsS115.drewN | apply IsS115.drew | apply IsS115.set_1 | apply IsS115.set_2) | exact HI0.out), by repeat (first | (with_reducible first | exact HB.out | apply below_alloc | apply pw_below_drewN | apply below_drew1 | refine below_set ?_ (IsS115.ge HI0.out)) | exact HB.out), by repeat (first | (with_reducible first | exact HK.out | apply KeepBut.set_ | apply keep_drewN | apply keep_drew | apply keep_alloc) | exact HK.out)⟩

end Go.Proofs.Ytajidjlbgpaaoaa.PFnSeens

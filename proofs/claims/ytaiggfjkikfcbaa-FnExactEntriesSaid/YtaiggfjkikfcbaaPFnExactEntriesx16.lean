-- by a program of this session (wip/print/run.py) for this claim
import Derived.Test.YtaiggfjkikfcbaaLibPu
import Derived.Test.YtaiggfjkikfcbaaPFnExactEntriesx0
import Derived.Test.YtaiggfjkikfcbaaPFnExactEntriesx13
import Derived.Test.YtaiggfjkikfcbaaPFnExactEntriesx14
import Derived.Test.YtaiggfjkikfcbaaPFnExactEntriesx15
namespace Go.Proofs.Ytaiggfjkikfcbaa.PFnExactEntries
open Go.Proofs.Ytaiggfjkikfcbaa.Lib Go.RowKit Go.Proofs.YtaiggfjkikfcbaaW.PrintWords Go.Proofs.YtaiggfjkikfcbaaW.PrintLast Go.Proofs.YtaiggfjkikfcbaaW.PrintMore
attribute [local go_sem] max2_int min2_int max_two min_two max_three min_three max_four min_four   -- for this text's walks alone
set_option linter.unusedVariables false
set_option linter.unusedSimpArgs false

theorem rowsIn_of {l n : Nat} {P : Program} {row : String} {args : Array Value} {w : World} {R : Value → World → Prop} (h : Rows P row args w R) : RowsIn (Fence.wide.inRound l) n P row args w R :=
  fun c cs _ => let ⟨v, w', r, s⟩ := h c cs; ⟨v, w', r, stepsIn_wide.2 s⟩
theorem callsIn_round {l n : Nat} {P : Program} {f : FuncId} {args : Array Value} {w : World} {R : Ending → World → Prop} (h : Calls P f args w R) : CallsIn (Fence.wide.inRound l) n P f args w R :=
  CallsIn.inRound l (callsIn_wide.2 h)
theorem inR_of_wp {P : Program} {l n : Nat} {o : Oper} {a : Act} {K K' : Act → World → Prop} {Q Q' : Exit → Act → World → Prop} {w : World} (hd : ∀ c, o.op ≠ .defer c) (hK : ∀ a w, K a w → K' a w) (hQ : ∀ c a w, Q (.panic c) a w → Q' (.panic c) a w) (hL : ¬ LetsOut Q) (h : o.wp P a w K Q) : o.wpIn (Fence.wide.inRound l) n P a w K' Q' := by
  unfold Oper.wp at h
  unfold Oper.wpIn
  refine ⟨fun _ _ => trivial, ?_⟩
  rw [Oper.semAt_eq _ _ _ hd]
  generalize (execOp a.eval o).run P w = r at *
  cases r with
  | ok nx w' =>
    cases nx <;> simp only [Oper.upon] at h <;> simp only [Oper.uponIn]
    case value u => exact hK _ _ h
    case skip => exact hK _ _ h
    case defer d => exact hK _ _ h
    case enter f args =>
      refine ⟨fun hdd => (by cases hdd), callsIn_round (h.mono fun e w'' he => ?_)⟩
      cases e with
      | returned v => exact hK _ _ he
      | panicked c => exact hQ _ _ _ he
      | outgrown => exact absurd he hL
    case row r args => exact ⟨fun hdd => (by cases hdd), rowsIn_of (h.mono fun v w'' he => hK _ _ he)⟩
  | halt x w' =>
    cases x <;> simp only [Oper.upon] at h <;> simp only [Oper.uponIn]
    exact hQ _ _ _ h
def noDefer (ops : Array Oper) : Bool := ops.all fun o => match o.op with | .defer _ => false | _ => true
theorem noDefer_at {ops : Array Oper} (h : noDefer ops = true) {i : Nat} {o : Oper} (ho : ops[i]? = some o) : ∀ c, o.op ≠ .defer c := by
  intro c hc
  unfold noDefer at h
  rw [Array.all_eq_true] at h
  obtain ⟨hi, e⟩ := Array.getElem?_eq_some_iff.1 ho
  have := h i hi
  rw [e, hc] at this
  cases this
theorem wpOpIn_of_op {P : Program} {ops : Array Oper} {l n i : Nat} {a : Act} {w : World} {K K' : Act → World → Prop} {Q : Exit → Act → World → Prop} (hD : noDefer ops = true) (hL : ¬ LetsOut Q) (h : ∀ a' w', K a' w' → K' a' w') (hh : wpOp P ops Q i K a w) : wpOpIn (Fence.wide.inRound l) n P ops Q i K' a w := by
  unfold wpOp at hh
  unfold wpOpIn
  split
  · rename_i ho; simp only [ho] at hh; exact h _ _ hh
  · rename_i o ho
    simp only [ho] at hh
    split
    · rename_i hw
      simp only [hw, if_true] at hh
      rcases hh with hh | hh
      · exact inR_of_wp (noDefer_at hD ho) h (fun _ _ _ hq => hq) hL hh
      · exact absurd hh.2 hL
    · rename_i hw; simp only [hw] at hh; exact ⟨fun _ _ => trivial, h _ _ hh⟩
theorem wpAnyIn_of_last {P : Program} {md : Region.Mode} {ops : Array Oper} {l n : Nat} {Q : Exit → Act → World → Prop} {S : World → Prop} {ds : List Nat} (hD : noDefer ops = true) (hL : ¬ LetsOut Q) : ∀ (fuel : Nat) (listed : Array Bool) (a : Act) (w : World),
    wpAnyLast P md ops Q S ds fuel listed a w → wpAnyIn (Fence.wide.inRound l) n P md ops Q fuel listed a w
  | 0, _, _, _, h => h
  | fuel + 1, _, _, _, h => ⟨h.1, fun i hi => wpOpIn_of_op hD hL (fun a' w' hh => wpAnyIn_of_last hD hL fuel _ a' w' hh.2) (h.2 i hi)⟩
theorem startIn_ {P : Program} {ops : Array Oper} {lo n id k : Nat} {Q : Exit → Act → World → Prop} {S : World → Prop} {ds : List Nat} {a : Act} {w : World} (l : Array Bool) (hm : P.follows .mixedOrders = true) (hn : ops.size = k) (hl : Array.replicate k false = l) (hD : noDefer ops = true) (hL : ¬ LetsOut Q) (hS : S w.drew)
    (h : S w.drew → wpAnyLast P .any ops Q S ds k l a w.drew) : (Code.region id ops true).wpIn (Fence.wide.inRound lo) n P Q a w := by
  subst hn
  subst hl
  exact wpIn_region_any hm (wpAnyIn_of_last hD hL _ _ _ _ (h hS))
theorem keepbb {X Y : World} {B : Nat} {cs : Array Value} {t : TypeId} {m : Nat × Nat} {row : Option Nat} (h : X.heap[B]? = some (.cells cs t m)) (hg : X.grownBy Y row) (hr : ∀ r, row = some r → ∃ o, X.heap[r]? = some o ∧ o.isCells = false) : Y.heap[B]? = some (.cells cs t m) :=
  blk_grown h hg (fun e => by obtain ⟨o, ho, hc⟩ := hr B e.symm; rw [h] at ho; cases ho; cases hc)
theorem keepR {α : Type} {d : Kd α} {e : Nat} {X Y : World} {base : Nat} {ok : Nat → Prop} {v : Value} {xs : List α} {row : Option Nat} (h : d.R e X base ok v xs) (hg : X.grownBy Y row) (hr : ∀ r, row = some r → ∃ o, X.heap[r]? = some o ∧ o.isCells = false) : d.R e Y base ok v xs :=
  Kd.R_mono (Kd.R_move (Kd.R_bound h) (fun k hk => hg.block k hk.2.2.1 (fun e => by
    obtain ⟨o, ho, hc⟩ := hr k e.symm
    obtain ⟨q, _, cells, hcl⟩ := hk.2.2.2
    obtain ⟨m, hm, _⟩ := nh_open hcl
    rw [hm] at ho
    cases ho
    cases hc))) (fun _ hk => hk.1)
theorem keeps_own {W W' : World} {v : Value} {e : Nat} (hg : W.grownBy W' v.ownBlock) (ht : ∀ k, v.ownBlock = some k → ∃ cells, W.nh k = some (.cells cells e (0, 0))) : KeepsOthers W W' :=
  KeepsOthers.of_grownBy hg (fun j o hj ho => by
    obtain ⟨cells, hc⟩ := ht j hj
    obtain ⟨m, hm, _⟩ := nh_open hc
    rw [hm] at ho
    cases ho
    rfl)
theorem keeps_below {W W' : World} (hb : Below W.heap.size W W') : KeepsOthers W W' := ⟨hb.size, fun k o hk _ => (hb.block k (blk_lt hk)).trans hk⟩
theorem blkb_after {w w1 : World} {g : Nat} {o : Obj} (h : w.heap[g]? = some o) (hb : Below w.heap.size w w1) : w1.heap[g]? = some o := (hb.block g (blk_lt h)).trans h
theorem twob_new (w : World) (o0 o1 : Obj) : ((w.alloc o0).alloc o1).heap[w.heap.size]? = some o0 ∧ ((w.alloc o0).alloc o1).heap[w.heap.size + 1]? = some o1 ∧ Below w.heap.size w ((w.alloc o0).alloc o1) := by
  have e1 : (w.alloc o0).heap.size = w.heap.size + 1 := by simp
  refine ⟨?_, ?_, ((Below.refl _ w).alloc (Nat.le_refl _) _).alloc (by omega) _⟩
  · rw [Below.heap_alloc _ _ _ (by omega)]; exact World.alloc_heap_new w _
  · rw [← e1]; exact World.alloc_heap_new _ _
def KpB (Bs : Nat) (W W' : World) : Prop := W'.heap[Bs]? = W.heap[Bs]? ∧ W'.heap[Bs + 1]? = W.heap[Bs + 1]?
theorem KpB.refl (Bs : Nat) (W : World) : KpB Bs W W := ⟨rfl, rfl⟩
theorem KpB.trans {Bs : Nat} {A B C : World} (h : KpB Bs A B) (k : KpB Bs B C) : KpB Bs A C := ⟨k.1.trans h.1, k.2.trans h.2⟩
theorem KpB.put {B Bs : Nat} (h2 : Bs + 1 < B) (W : World) (l : Nat) (o o' : Obj) (hl : B ≤ l) (ho : W.heap[l]? = some o) (hc : o.isCells = false) (hw : o.isWalk = false) : KpB Bs W (W.putObj l o') :=
  ⟨World.putObj_heap_other (by omega), World.putObj_heap_other (by omega)⟩
/-- The x-th part of eight of len entries at ad. -/
def ckLen (len x : Nat) : Nat := min 8 (len - x * 8)
def ckVal (ad : Addr) (len x : Nat) : Value := .slice (some (ad.add (x * 8 * 4))) (ckLen len x) (ckLen len x)
def cks (len : Nat) : Nat := (len + 7) / 8
section
attribute [local go_sem] Oper.semAt_some
set_option maxRecDepth 100000 in
set_option maxHeartbeats 8000000 in
theorem w64_of {x : Int} (h0 : -9223372036854775808 ≤ x) (h1 : x ≤ 9223372036854775807) : wrap64 x = x := by unfold wrap64; omega
set_option maxRecDepth 100000 in
set_option maxHeartbeats 8000000 in
theorem ck_entry1 (n : Nat) (hn : 1 ≤ n) (l Bs len c0 : Nat) (ad : Addr) (hl : len ≤ 1000000000000000000) (hc : len ≤ c0) (J Jx : List Nat → World → Prop) (hJd : ∀ ys W q, J ys W → J ys (World.drewN W q))
    (hY : ∀ pre x W1, J pre W1 → pre.length < cks len → YieldAt Fence.wide (n - 1) Try.prog l #[ckVal ad len x] W1 fun e W' =>
      (e = .returned (.bool true) ∧ J (pre ++ [x]) W' ∧ KpB Bs W1 W') ∨ (e = .returned (.bool false) ∧ Jx (pre ++ [x]) W'))
    (W : World) (hBs : W.heap[Bs]? = some (.cells #[.slice (some ad) len c0] 27 (0, 0))) (hBn : W.heap[Bs + 1]? = some (.cells #[.int .i64 8] 3 (0, 0))) (h0 : J [] W) :
    CallsIn Fence.wide n Try.prog 136 #[.func (.yield l) #[] #[], .pointer (some ⟨Bs, 0, none⟩), .pointer (some ⟨Bs + 1, 0, none⟩)] W fun e W' => (∃ v, e = .returned v) ∧
      ((∃ ys, ys = List.range (cks len) ∧ J ys W') ∨ (∃ pre, (∃ k, k ≤ cks len ∧ pre = List.range k) ∧ Jx pre W')) := by
  have HY := A_ hY
  have hc0 := blk_cell hBs 0
  have hc1 := blk_cell hBn 0
  have HBs := A_ hBs
  have HBn := A_ hBn
  clear hY hBs hBn
  refine callsIn_of_wp Try.func136 rfl trivial ?_ rfl
  simp only [Try.ntmps136, List.size_toArray, List.length_cons, List.length_nil, Nat.reduceAdd, Nat.reduceSub, Array.replicate_succ, Array.replicate_zero, List.push_toArray, List.append_toArray, List.nil_append, List.cons_append]
  gi_wp2
  gi_loopw [4] (fun i wr => ∃ k : Nat, k ≤ cks len ∧ i = .int .i64 ((k * 8 : Nat) : Int) ∧ J (List.range k) wr ∧ Aside0 (KpB Bs W wr))
    (fun i _ => len + 8 - (intOf i).toNat)
  case atStart => exact ⟨0, Nat.zero_le _, rfl, h0, ⟨KpB.refl _ _⟩⟩
  case round =>
    obtain ⟨k, hk, rfl, hJs, hnx⟩ := hrel
    have hcx : wr.cell? ⟨Bs, 0, none⟩ = some (.slice (some ad) len c0) := by rw [blk_cell (hnx.out.1.trans HBs.out) 0]; rfl
    have hcn : wr.cell? ⟨Bs + 1, 0, none⟩ = some (.int .i64 8) := by rw [blk_cell (hnx.out.2.trans HBn.out) 0]; rfl
    have hJ := A_ hJs
    clear hJs
    obtain ⟨m, hm⟩ : ∃ m, m = k * 8 := ⟨_, rfl⟩
    rw [← hm]
    by_cases hlt : m < len
    · have hk2 : k < cks len := by unfold cks; omega
      obtain ⟨c, hcl⟩ : ∃ c, ckLen len k = c := ⟨_, rfl⟩
      have hc1' : c ≤ 8 ∧ c ≤ len - m ∧ 0 < c := by rw [← hcl]; unfold ckLen; omega
      have he : (if ((len - m : Nat) : Int) < 8 then ((len - m : Nat) : Int) else 8) = (c : Int) := by rw [← hcl]; unfold ckLen; split <;> omega
      have HM := A_ hm
      have HCL := A_ hcl
      clear hm hcl
      have q1 : ((m : Int) < (len : Int)) = True := eq_true (by omega)
      have q2 : (0 ≤ (m : Int)) = True := eq_true (by omega)
      have q3 : ((m : Int) ≤ (len : Int)) = True := eq_true (by omega)
      have q4 : ((m : Int) ≤ (c0 : Int)) = True := eq_true (by omega)
      have q5 : ((len : Int) ≤ (c0 : Int)) = True := eq_true (by omega)
      have d1 : decide ((m : Int) < (len : Int)) = true := decide_eq_true (by omega)
      have d2 : decide (m < len) = true := decide_eq_true hlt
      gi_wp2
      refine wpIn_wide.2 ?_
      go_quiet (fail)
      have hcx2 : (wr.drewN nq).cell? ⟨Bs, 0, none⟩ = some (.slice (some ad) len c0) := hcx
      have hcn2 : (wr.drewN nq).cell? ⟨Bs + 1, 0, none⟩ = some (.int .i64 8) := hcn
      obtain ⟨W2, hW2⟩ : ∃ W2, wr.drewN nq = W2 := ⟨_, rfl⟩
      have hw : IntKind.i64.wrap ((m : Int) + (c : Int)) = ((m + c : Nat) : Int) := by rw [i64_w, w64_of (by omega) (by omega)]; omega
      have r1 : ((m : Int) ≤ ((m + c : Nat) : Int)) = True := eq_true (by omega)
      have r2 : (((m + c : Nat) : Int) ≤ (c0 : Int)) = True := eq_true (by omega)
      rw [hW2] at hcx2 hcn2 ⊢
      obtain ⟨fn, tmps, assign, body, hy, hR⟩ := HY.out (List.range k) k W2 (by rw [← hW2]; exact hJd _ _ _ hJ.out) (by rw [List.length_range]; exact hk2)
      have ev : ckVal ad len k = .slice (some (ad.add (m * 4))) c c := by unfold ckVal; rw [HCL.out, ← HM.out]
      rw [ev] at hy
      have hkp2 : KpB Bs W W2 := by rw [← hW2]; exact hnx.out
      have HKP := A_ hkp2
      clear hkp2 hnx hJ hW2 ev
      gi_wp2
      refine hR.mono ?_
      rintro e W3 (⟨rfl, hJ3, hk3⟩ | ⟨rfl, hJx3⟩)
      · have hkp3 := A_ (HKP.out.trans hk3)
        have hcx3 : W3.cell? ⟨Bs, 0, none⟩ = some (.slice (some ad) len c0) := by rw [blk_cell (hkp3.out.1.trans HBs.out) 0]; rfl
        have hcn3 : W3.cell? ⟨Bs + 1, 0, none⟩ = some (.int .i64 8) := by rw [blk_cell (hkp3.out.2.trans HBn.out) 0]; rfl
        have hw3 : IntKind.i64.wrap ((m : Int) + 8) = ((m + 8 : Nat) : Int) := by rw [i64_w, w64_of (by omega) (by omega)]; omega
        have HJ3 := A_ hJ3
        clear hk3 hJ3
        gi_wp2
        go_roundw
        case rel => exact ⟨k + 1, by omega, by rw [show (k + 1) * 8 = m + 8 by have := HM.out; omega]; exact congrArg _ (by omega), by rw [List.range_succ]; exact HJ3.out, hkp3⟩
        case measure => first | (simp [intOf]; done) | (simp [intOf]; omega)
      · gi_wp2
        refine bodyPost_ret (results_none rfl _ _ _) rfl ?_
        exact ⟨⟨_, rfl⟩, .inr ⟨_, ⟨k + 1, by omega, List.range_succ.symm⟩, hJx3⟩⟩
    · have q1 : ((m : Int) < (len : Int)) = False := eq_false (by omega)
      have d1 : decide ((m : Int) < (len : Int)) = false := decide_eq_false (by omega)
      have hk3 : k = cks len := by unfold cks at hk ⊢; omega
      gi_wp2
      go_end0
      exact ⟨⟨_, rfl⟩, .inl ⟨_, by rw [hk3], hJ.out⟩⟩
set_option maxRecDepth 100000 in
set_option maxHeartbeats 8000000 in
theorem ck_entry (A0 : Option Addr) (c0 len : Nat) (w : World) :
    Calls Try.prog 114 #[.slice A0 len c0, .int .i64 8] w fun e w' => e = .returned (.func (.func 136) #[] #[.pointer (some ⟨w.heap.size, 0, none⟩), .pointer (some ⟨w.heap.size + 1, 0, none⟩)]) ∧ w' = (w.alloc (.cells #[.slice A0 len c0] 27)).alloc (.cells #[.int .i64 8] 3) := by
  go_enter Try.func114, Try.ntmps114
  go_wp2
  go_ret
  exact ⟨rfl, rfl⟩
theorem ck_stops (n : Nat) (hn : 1 ≤ n) (Bs len c0 : Nat) (ad : Addr) (hl : len ≤ 1000000000000000000) (hc : len ≤ c0) (w : World) (hBs : w.heap[Bs]? = some (.cells #[.slice (some ad) len c0] 27 (0, 0))) (hBn : w.heap[Bs + 1]? = some (.cells #[.int .i64 8] 3 (0, 0))) :
    SeqStopsK Fence.wide n Try.prog 136 #[.pointer (some ⟨Bs, 0, none⟩), .pointer (some ⟨Bs + 1, 0, none⟩)] (fun x : Nat => #[ckVal ad len x]) (KpB Bs) (fun ys => ys = List.range (cks len)) (fun pre => ∃ k, k ≤ cks len ∧ pre = List.range k) (cks len) w := fun l J Jx W hW hJ _ hY h0 =>
  ck_entry1 n hn l Bs len c0 ad hl hc J Jx (fun ys W q h => hJ ys W _ none h ⟨rfl, rfl, rfl, Nat.le_refl _, fun _ _ _ => rfl⟩ (fun r e => by cases e)) hY W ((hW.block Bs (blk_lt hBs)).trans hBs) ((hW.block (Bs + 1) (blk_lt hBn)).trans hBn) h0
end
/-- What is asked behind a code that does not panic. -/
def noPanic (Q : Exit → Act → World → Prop) : Exit → Act → World → Prop
 | .panic _, _, _ => False
 | e, a, w => Q e a w
theorem noPanic_of {Q : Exit → Act → World → Prop} {e : Exit} {a : Act} {w : World} (h : noPanic Q e a w) : Q e a w := by
 cases e <;> first | exact h.elim | exact h
/-- The x-th part of eight of a list. -/
def chunkAt (l : List S31) (x : Nat) : List S31 := (l.drop (x * 8)).take (ckLen l.length x)
/-- Some parts, packed. -/
def impl_built.bl (k : Nat) (l : List S31) : List Nat → Option (List ByteArray)
 | [] => some []
 | x :: xs => (impl_packed.f k (chunkAt l x)).bind fun b => (impl_built.bl k l xs).bind fun r => some (strOfNums b :: r)
theorem bl_length {k : Nat} {l : List S31} : ∀ {xs : List Nat} {ys : List ByteArray}, impl_built.bl k l xs = some ys → ys.length = xs.length
 | [], ys, h => by
  simp only [impl_built.bl, Option.some.injEq] at h
  subst h
  rfl
 | x :: xs, ys, h => by
  simp only [impl_built.bl] at h
  obtain ⟨b, _, h⟩ := Option.bind_eq_some_iff.1 h
  obtain ⟨r, hr, h⟩ := Option.bind_eq_some_iff.1 h
  obtain rfl := Option.some.inj h
  simp [bl_length hr]
theorem bl_mem {k : Nat} {l : List S31} : ∀ {xs : List Nat} {ys : List ByteArray}, impl_built.bl k l xs = some ys → ∀ x ∈ xs, ∃ b, impl_packed.f k (chunkAt l x) = some b
 | [], ys, h, x, hx => by cases hx
 | y :: xs, ys, h, x, hx => by
  simp only [impl_built.bl] at h
  obtain ⟨b, hb, h⟩ := Option.bind_eq_some_iff.1 h
  obtain ⟨r, hr, h⟩ := Option.bind_eq_some_iff.1 h
  rcases List.mem_cons.1 hx with rfl | hx
  · exact ⟨b, hb⟩
  · exact bl_mem hr x hx
theorem bl_snoc {k : Nat} {l : List S31} {x : Nat} {b : List Int} (hb : impl_packed.f k (chunkAt l x) = some b) : ∀ {xs : List Nat} {ys : List ByteArray}, impl_built.bl k l xs = some ys → impl_built.bl k l (xs ++ [x]) = some (ys ++ [strOfNums b])
 | [], ys, h => by
  simp only [impl_built.bl, Option.some.injEq] at h
  subst h
  simp only [List.nil_append, impl_built.bl, hb, Option.bind_some]
 | y :: xs, ys, h => by
  simp only [impl_built.bl] at h
  obtain ⟨c, hc, h⟩ := Option.bind_eq_some_iff.1 h
  obtain ⟨r, hr, h⟩ := Option.bind_eq_some_iff.1 h
  obtain rfl := Option.some.inj h
  rw [List.cons_append]
  simp only [impl_built.bl, hc, Option.bind_some, bl_snoc hb hr, List.cons_append]
theorem bl_all {k : Nat} {l : List S31} {ys : List ByteArray} (h : impl_built.bl k l (List.range (cks l.length + 1)) = some ys) (x : Nat) : ∃ b, impl_packed.f k (chunkAt l x) = some b := by
  by_cases hx : x < cks l.length + 1
  · exact bl_mem h x (List.mem_range.2 hx)
  · have e : chunkAt l x = chunkAt l (cks l.length) := by
      unfold chunkAt
      rw [List.drop_eq_nil_of_le (by unfold cks at hx; omega), List.drop_eq_nil_of_le (by unfold cks; omega), List.take_nil, List.take_nil]
    rw [e]
    exact bl_mem h _ (List.mem_range.2 (by omega))
theorem ck_reads {W : World} {ad : Addr} {l : List S31} {c0 : Nat} (h : Kd.C k31 W (some ad) l.length l) (hc : l.length ≤ c0) (x : Nat) : (chunkAt l x).length = ckLen l.length x ∧ Kd.C k31 W (some (ad.add (x * 8 * 4))) (chunkAt l x).length (chunkAt l x) := by
  have hl : (chunkAt l x).length = ckLen l.length x := by
    unfold chunkAt
    rw [List.length_take, List.length_drop]
    unfold ckLen
    omega
  refine ⟨hl, ?_⟩
  by_cases hx : x * 8 < l.length
  · have h1 := Kd.C_drop (m := x * 8) h (by omega) hc
    rw [if_neg (by omega)] at h1
    exact Kd.C_take (m := ckLen l.length x) h1 (by rw [List.length_drop]; unfold ckLen; omega)
  · have e : chunkAt l x = [] := by
      unfold chunkAt
      rw [List.drop_eq_nil_of_le (by omega), List.take_nil]
    rw [e]
    have h1 := Kd.C_take (m := 0) h (by omega)
    rw [List.take_zero] at h1
    obtain ⟨a1, a2, a3⟩ := h1
    exact ⟨a1, a2, fun hh => absurd hh (by simp)⟩
theorem z74b {p_ : Prop} (h_ : p_ := by repeat (first | (with_reducible first | exact HB.out | apply below_alloc | apply pw_below_drewN | apply below_drew1 | refine below_set ?_ GE446.out | refine below_set ?_ GE449.out) | exact HB.out)) : p_ := h_
theorem z74c {p_ : Prop} (h_ : p_ := by first | exact Nat.ne_of_lt (Nat.lt_of_lt_of_le (by have := World.block_lt_of_cell? _ _ hw447_0; first | rwa [add_block] at this | exact this) GW449.out) | (rw [add_block]; exact Nat.ne_of_lt (Nat.lt_of_lt_of_le (by have := World.block_lt_of_cell? _ _ hw447_0; first | rwa [add_block] at this | exact this) GW449.out)) | (show (Addr.add _ _).block ≠ _; rw [add_block]; exact Nat.ne_of_lt (Nat.lt_of_lt_of_le (by have := World.block_lt_of_cell? _ _ hw447_0; first | rwa [add_block] at this | exact this) GW449.out)) | (dsimp only; exact Nat.ne_of_lt (Nat.lt_of_lt_of_le (by have := World.block_lt_of_cell? _ _ hw447_0; first | rwa [add_block] at this | exact this) GW449.out))) : p_ := h_
theorem z74d {p_ : Prop} (h_ : p_ := by first | exact Nat.ne_of_lt (Nat.lt_of_lt_of_le (by have := World.block_lt_of_cell? _ _ hw447_1; first | rwa [add_block] at this | exact this) GW449.out) | (rw [add_block]; exact Nat.ne_of_lt (Nat.lt_of_lt_of_le (by have := World.block_lt_of_cell? _ _ hw447_1; first | rwa [add_block] at this | exact this) GW449.out)) | (show (Addr.add _ _).block ≠ _; rw [add_block]; exact Nat.ne_of_lt (Nat.lt_of_lt_of_le (by have := World.block_lt_of_cell? _ _ hw447_1; first | rwa [add_block] at this | exact this) GW449.out)) | (dsimp only; exact Nat.ne_of_lt (Nat.lt_of_lt_of_le (by have := World.block_lt_of_cell? _ _ hw447_1; first | rwa [add_block] at this | exact this) GW449.out))) : p_ := h_
theorem z74e {p_ : Prop} (h_ : p_ := by first | exact Nat.ne_of_lt (Nat.lt_of_lt_of_le (by have := World.block_lt_of_cell? _ _ hw447_2; first | rwa [add_block] at this | exact this) GW449.out) | (rw [add_block]; exact Nat.ne_of_lt (Nat.lt_of_lt_of_le (by have := World.block_lt_of_cell? _ _ hw447_2; first | rwa [add_block] at this | exact this) GW449.out)) | (show (Addr.add _ _).block ≠ _; rw [add_block]; exact Nat.ne_of_lt (Nat.lt_of_lt_of_le (by have := World.block_lt_of_cell? _ _ hw447_2; first | rwa [add_block] at this | exact this) GW449.out)) | (dsimp only; exact Nat.ne_of_lt (Nat.lt_of_lt_of_le (by have := World.block_lt_of_cell? _ _ hw447_2; first | rwa [add_block] at this | exact this) GW449.out))) : p_ := h_
theorem z74f {p_ : Prop} (h_ : p_ := by first | exact Nat.ne_of_lt (Nat.lt_of_lt_of_le (by have := World.block_lt_of_cell? _ _ hw447_3; first | rwa [add_block] at this | exact this) GW449.out) | (rw [add_block]; exact Nat.ne_of_lt (Nat.lt_of_lt_of_le (by have := World.block_lt_of_cell? _ _ hw447_3; first | rwa [add_block] at this | exact this) GW449.out)) | (show (Addr.add _ _).block ≠ _; rw [add_block]; exact Nat.ne_of_lt (Nat.lt_of_lt_of_le (by have := World.block_lt_of_cell? _ _ hw447_3; first | rwa [add_block] at this | exact this) GW449.out)) | (dsimp only; exact Nat.ne_of_lt (Nat.lt_of_lt_of_le (by have := World.block_lt_of_cell? _ _ hw447_3; first | rwa [add_block] at this | exact this) GW449.out))) : p_ := h_
theorem z74g {p_ : Prop} (h_ : p_ := by first | exact Nat.ne_of_lt (Nat.lt_of_lt_of_le (by have := World.block_lt_of_cell? _ _ hw448_0; first | rwa [add_block] at this | exact this) GW449.out) | (rw [add_block]; exact Nat.ne_of_lt (Nat.lt_of_lt_of_le (by have := World.block_lt_of_cell? _ _ hw448_0; first | rwa [add_block] at this | exact this) GW449.out)) | (show (Addr.add _ _).block ≠ _; rw [add_block]; exact Nat.ne_of_lt (Nat.lt_of_lt_of_le (by have := World.block_lt_of_cell? _ _ hw448_0; first | rwa [add_block] at this | exact this) GW449.out)) | (dsimp only; exact Nat.ne_of_lt (Nat.lt_of_lt_of_le (by have := World.block_lt_of_cell? _ _ hw448_0; first | rwa [add_block] at this | exact this) GW449.out))) : p_ := h_
theorem z74h {p_ : Prop} (h_ : p_ := by first | exact Nat.ne_of_lt (Nat.lt_of_lt_of_le (by have := World.block_lt_of_cell? _ _ hw448_1; first | rwa [add_block] at this | exact this) GW449.out) | (rw [add_block]; exact Nat.ne_of_lt (Nat.lt_of_lt_of_le (by have := World.block_lt_of_cell? _ _ hw448_1; first | rwa [add_block] at this | exact this) GW449.out)) | (show (Addr.add _ _).block ≠ _; rw [add_block]; exact Nat.ne_of_lt (Nat.lt_of_lt_of_le (by have := World.block_lt_of_cell? _ _ hw448_1; first | rwa [add_block] at this | exact this) GW449.out)) | (dsimp only; exact Nat.ne_of_lt (Nat.lt_of_lt_of_le (by have := World.block_lt_of_cell? _ _ hw448_1; first | rwa [add_block] at this | exact this) GW449.out))) : p_ := h_
theorem z74i {p_ : Prop} (h_ : p_ := by first | exact Nat.ne_of_lt (Nat.lt_of_lt_of_le (by have := World.block_lt_of_cell? _ _ hw448_2; first | rwa [add_block] at this | exact this) GW449.out) | (rw [add_block]; exact Nat.ne_of_lt (Nat.lt_of_lt_of_le (by have := World.block_lt_of_cell? _ _ hw448_2; first | rwa [add_block] at this | exact this) GW449.out)) | (show (Addr.add _ _).block ≠ _; rw [add_block]; exact Nat.ne_of_lt (Nat.lt_of_lt_of_le (by have := World.block_lt_of_cell? _ _ hw448_2; first | rwa [add_block] at this | exact this) GW449.out)) | (dsimp only; exact Nat.ne_of_lt (Nat.lt_of_lt_of_le (by have := World.block_lt_of_cell? _ _ hw448_2; first | rwa [add_block] at this | exact this) GW449.out))) : p_ := h_
theorem z74j {p_ : Prop} (h_ : p_ := by first | exact Nat.ne_of_lt (Nat.lt_of_lt_of_le (by have := World.block_lt_of_cell? _ _ hw448_3; first | rwa [add_block] at this | exact this) GW449.out) | (rw [add_block]; exact Nat.ne_of_lt (Nat.lt_of_lt_of_le (by have := World.block_lt_of_cell? _ _ hw448_3; first | rwa [add_block] at this | exact this) GW449.out)) | (show (Addr.add _ _).block ≠ _; rw [add_block]; exact Nat.ne_of_lt (Nat.lt_of_lt_of_le (by have := World.block_lt_of_cell? _ _ hw448_3; first | rwa [add_block] at this | exact this) GW449.out)) | (dsimp only; exact Nat.ne_of_lt (Nat.lt_of_lt_of_le (by have := World.block_lt_of_cell? _ _ hw448_3; first | rwa [add_block] at this | exact this) GW449.out))) : p_ := h_
theorem z74k {p_ : Prop} (h_ : p_ := by (with_reducible repeat (first | refine blk_drewN ?_ _ | refine blk_drew ?_ | refine blk_alloc ?_ _)); exact BK446.out) : p_ := h_
theorem z74l {p_ : Prop} (h_ : p_ := by (with_reducible repeat (first | refine blk_drewN ?_ _ | refine blk_drew ?_ | refine blk_alloc ?_ _)); exact BK449.out) : p_ := h_
theorem z74m {p_ : Prop} (h_ : p_ := by repeat (first | (with_reducible first | exact HB.out | apply below_alloc | apply pw_below_drewN | apply below_drew1 | refine below_set ?_ GE446.out | refine below_set ?_ GE449.out | refine below_set ?_ GE451.out) | exact HB.out)) : p_ := h_
def impl_built.l0 : Nat → List (S31) → List (S31) → Int → Int → ByteArray → ByteArray → List Int → Option (ByteArray × ByteArray × List Int × List ByteArray)
 | 0, _, _, _, _, _, _, _ => none
 | k + 1, x0, x19, x20, x21, x450000, x450001, x450002 => if x21 < x20 then (if 0 ≤ x21 then (if x21 < (x19.length : Int) then ((impl_marks.f k ((rd_T31 x19 x21).f0)).bind fun t452 => (if x450002.length + t452.length < 17592186044416 then (impl_built.l0 k x0 x19 x20 (wrap64 (x21 + 1)) x450000 x450001 (x450002 ++ t452)) else (none))) else (none)) else (none)) else ((slices_Sort_int64.f x450002).bind fun t458 => ((slices_Compact_int64.f t458).bind fun t459 => (if x0.length < 1000000000000 then ((impl_built.bl k x0 (List.range (cks x0.length + 1))).bind fun all_ => ((impl_built.bl k x0 (List.range (cks x0.length))).bind fun bs_ => (some (x450000, x450001, t459, bs_)))) else (none))))
def impl_built.f (k : Nat) (l0 : List (S31)) : Option (ByteArray × ByteArray × List Int × List ByteArray) := if 0 < (l0.length : Int) then (if 0 ≤ (wrap64 ((l0.length : Int) - 1)) then (if (wrap64 ((l0.length : Int) - 1)) < (l0.length : Int) then (impl_built.l0 k l0 l0 (l0.length : Int) 0 ((rd_T31 l0 0).f0) ((rd_T31 l0 (wrap64 ((l0.length : Int) - 1))).f0) ([] : List Int)) else (none)) else (none)) else (none)
def impl_built.T1 : Bool × List (List Nat × List Nat) := (true, [([], []), ([0], [0]), ([1], [1]), ([2], [2]), ([], []), ([], []), ([5], [5]), ([6], [6]), ([4, 7], [4, 7]), ([8], [8]), ([9], [9]), ([3, 10], [3, 10]), ([], []), ([12, 11, 0, 1, 2, 3, 4, 5, 6, 7, 8, 9, 10, 11, 12], [11, 12])])
def impl_built.B1 : List Nat := [0, 1, 3, 7, 0, 0, 32, 96, 240, 496, 1008, 2047, 0, 8191]
theorem impl_built.tab1 : rtab .any (opsOf Try.f74 1) = impl_built.T1 := by kernel_rfl
theorem impl_built.bits1 : waitsOk impl_built.T1.2 impl_built.B1 = true := by kernel_rfl
def impl_built.T5 : Bool × List (List Nat × List Nat) := (true, [([], []), ([0], [0]), ([], []), ([2], [2]), ([3], [3]), ([1, 4, 4], [1, 4]), ([0, 1, 2, 3, 4, 5], []), ([6, 5, 5, 0, 1, 2, 3, 4, 5], [5, 6])])
def impl_built.B5 : List Nat := [0, 1, 0, 4, 12, 31, 63, 127]
theorem impl_built.tab5 : rtab .any (opsOf Try.f74 5) = impl_built.T5 := by kernel_rfl
theorem impl_built.bits5 : waitsOk impl_built.T5.2 impl_built.B5 = true := by kernel_rfl
def impl_built.T13 : Bool × List (List Nat × List Nat) := (true, [([], []), ([0], [0]), ([], []), ([2], [2]), ([3], [3]), ([4], [4]), ([1, 5, 3], [1, 5]), ([0, 1, 2, 3, 4, 5, 6], []), ([7, 6, 6, 0, 1, 2, 3, 4, 5, 6], [6, 7])])
def impl_built.B13 : List Nat := [0, 1, 0, 4, 12, 28, 63, 127, 255]
theorem impl_built.tab13 : rtab .any (opsOf Try.f74 11) = impl_built.T13 := by kernel_rfl
theorem impl_built.bits13 : waitsOk impl_built.T13.2 impl_built.B13 = true := by kernel_rfl
attribute [local go_sem] Oper.semAt_some
set_option maxHeartbeats 8000000 in
set_option maxRecDepth 100000 in
theorem impl_built.calls (k : Nat) (A0 : Option Addr) (c0 : Nat) (l0 : List (S31)) (r1 : ByteArray) (r2 : ByteArray) (r3 : List Int) (r4 : List ByteArray) (w : World) (hr0 : Kd.C k31 w A0 l0.length l0) (hc0 : l0.length ≤ c0) (h : impl_built.f k l0 = some (r1, r2, r3, r4)) :
  Calls Try.prog 74 #[.slice A0 l0.length c0] w fun e w' => ∃ v2_ v3_ : Value, e = .returned (.agg #[.string r1, .string r2, v2_, v3_]) ∧ Kd.R (Kd.int .i64) 2 w' w.heap.size (fun _ => True) v2_ r3 ∧ Kd.R Kd.string 9 w' w.heap.size (fun _ => True) v3_ r4 ∧ Below w.heap.size w w' := by
 have hu57 := Try.underlying57
 have hu31 := Try.underlying31
 have HR0 := A_ hr0
 have HC0 := A_ hc0
 clear hr0 hc0
 have HB := A_ (Below.refl w.heap.size w)
 have H : (if 0 < (l0.length : Int) then (if 0 ≤ (wrap64 ((l0.length : Int) - 1)) then (if (wrap64 ((l0.length : Int) - 1)) < (l0.length : Int) then (impl_built.l0 k l0 l0 (l0.length : Int) 0 ((rd_T31 l0 0).f0) ((rd_T31 l0 (wrap64 ((l0.length : Int) - 1))).f0) ([] : List Int)) else (none)) else (none)) else (none)) = some (r1, r2, r3, r4) := h
 clear h
 by_cases c2 : 0 < (l0.length : Int)
 {
 rw [if_pos c2] at H
 have c2b0 : decide (0 < (l0.length : Int)) = true := decide_eq_true c2
 have c2b1 : decide (0 < l0.length) = true := decide_eq_true (by omega)
 clear c2
 obtain ⟨ji3, hji3⟩ : ∃ j_ : Int, (wrap64 ((l0.length : Int) - 1)) = j_ := ⟨_, rfl⟩
 replace H : (if 0 ≤ (ji3) then (if (ji3) < (l0.length : Int) then (impl_built.l0 k l0 l0 (l0.length : Int) 0 ((rd_T31 l0 0).f0) ((rd_T31 l0 (ji3)).f0) ([] : List Int)) else (none)) else (none)) = some (r1, r2, r3, r4) := by first | (rw [hji3] at H; exact H) | (simp only [hji3] at H ⊢; exact H)
 (try rw [hji3])
 have hji3w : (IntKind.i64.wrap ((l0.length : Int) - 1)) = ji3 := (i64_w _).trans hji3
 by_cases c4 : 0 ≤ (ji3)
 {
 rw [if_pos c4] at H
 have c4b0 : decide (0 ≤ (ji3)) = true := decide_eq_true c4
 clear c4
 by_cases c5 : (ji3) < (l0.length : Int)
 {
 rw [if_pos c5] at H
 have c5b0 : decide ((ji3) < (l0.length : Int)) = true := decide_eq_true c5
 clear c5
 have H' := A_ H
 clear H
 refine (callsIn_wide (n := 5)).1 ?_
 refine callsIn_of_wp_marks Try.func74 rfl trivial ?_ rfl
 simp only [Try.ntmps74, List.size_toArray, List.length_cons, List.length_nil, Nat.reduceAdd, Nat.reduceSub, Array.replicate_succ, Array.replicate_zero, List.push_toArray, List.append_toArray, List.nil_append, List.cons_append]
 refine wpIn_wide.2 ?_
 refine Code.wp_mono (Q := noPanic _) (fun e a w h => noPanic_of h) ?_
 try go_wp2_with (first | ((with_reducible refine gate_dst (N := 2) rfl ?_); refine box_event ?hg (N := 2) ?hd (cs := #[.string (⟨#[]⟩ : ByteArray), .string (⟨#[]⟩ : ByteArray), .slice none 0 0, .slice none 0 0]) (t := 57) ?hr ?_; (case hd => rfl); (case hg => rfl); (case hr => first | (go_simp; done) | (go_simp; rfl)); intro gb446 hg w6 hbox hb; have n0_ := A_ (below_step zg0 hb); have n1_ := A_ (hbox); have n2_ := A_ ((by rw [hg]; exact (below_size zg0) : w.heap.size ≤ gb446)); have n3_ := A_ ((by rw [hg]; exact (below_size zg0) : w.heap.size ≤ gb446)); clear HB; have HB := n0_; have BK446 := n1_; have GW446 := n2_; have GE446 := n3_; clear n0_ n1_ n2_ n3_; clear hb hbox hg))
 replace BK446 := A_ (blk_drew BK446.out)
 replace HB := A_ (below_drew1 HB.out)
 have p447 : 0 ≤ (0 : Int) := (by omega)
 have q447 : 0 < (l0.length : Int) := of_decide_eq_true zg2
 obtain ⟨ad447, e447, hx447_0, hx447_1, hx447_2, hx447_3⟩ := at_T31 HR0.out 0 p447 q447
 have hw447_3 := hx447_3
 (try rw [show ((0 : Int)).toNat = 0 from rfl] at hw447_3)
 (try rw [show 0 * 4 = 0 from rfl] at hw447_3)
 (try rw [Addr.add_zero'] at hw447_3)
 have hw447_2 := hx447_2
 (try rw [show ((0 : Int)).toNat = 0 from rfl] at hw447_2)
 (try rw [show 0 * 4 = 0 from rfl] at hw447_2)
 (try rw [Addr.add_zero'] at hw447_2)
 have hw447_1 := hx447_1
 (try rw [show ((0 : Int)).toNat = 0 from rfl] at hw447_1)
 (try rw [show 0 * 4 = 0 from rfl] at hw447_1)
 (try rw [Addr.add_zero'] at hw447_1)
 have hw447_0 := hx447_0
 (try rw [show ((0 : Int)).toNat = 0 from rfl] at hw447_0)
 (try rw [show 0 * 4 = 0 from rfl] at hw447_0)
 (try rw [Addr.add_zero'] at hw447_0)
 cases e447
 have qi447 : (0 < l0.length) = True := eq_true (by omega)
 (try rw [show ((0 : Int)).toNat = 0 from rfl] at hx447_0)
 (try rw [show 0 * 4 = 0 from rfl] at hx447_0)
 (try rw [Addr.add_zero'] at hx447_0)
 (try rw [show ((0 : Int)).toNat = 0 from rfl] at hx447_1)
 (try rw [show 0 * 4 = 0 from rfl] at hx447_1)
 (try rw [Addr.add_zero'] at hx447_1)
 (try rw [show ((0 : Int)).toNat = 0 from rfl] at hx447_2)
 (try rw [show 0 * 4 = 0 from rfl] at hx447_2)
 (try rw [Addr.add_zero'] at hx447_2)
 (try rw [show ((0 : Int)).toNat = 0 from rfl] at hx447_3)
 (try rw [show 0 * 4 = 0 from rfl] at hx447_3)
 (try rw [Addr.add_zero'] at hx447_3)
 replace hx447_0 := bq HB.out hx447_0
 replace hx447_1 := bq HB.out hx447_1
 replace hx447_2 := bq HB.out hx447_2
 replace hx447_3 := bq HB.out hx447_3
 replace p447 := eq_true p447
 replace q447 := eq_true q447
 have p448 : 0 ≤ ((ji3) : Int) := of_decide_eq_true zg2
 have q448 : (ji3) < (l0.length : Int) := of_decide_eq_true zg2
 obtain ⟨ad448, e448, hx448_0, hx448_1, hx448_2, hx448_3⟩ := at_T31 HR0.out (ji3) p448 q448
 have hw448_3 := hx448_3
 have hw448_2 := hx448_2
 have hw448_1 := hx448_1
 have hw448_0 := hx448_0
 obtain rfl : ad447 = ad448 := (by injection e448)
 replace hx448_0 := bq HB.out hx448_0
 replace hx448_1 := bq HB.out hx448_1
 replace hx448_2 := bq HB.out hx448_2
 replace hx448_3 := bq HB.out hx448_3
 replace p448 := eq_true p448
 replace q448 := eq_true q448
 refine start_ (n := 14) (S := fun w' => w'.cell? ad447 = some (.string ((rd_T31 l0 0).f0)) ∧ w'.cell? ⟨ad447.block, ad447.off + 1, none⟩ = some (.string ((rd_T31 l0 0).f1)) ∧ w'.cell? ⟨ad447.block, ad447.off + 2, none⟩ = some (.int .i64 ((rd_T31 l0 0).f2)) ∧ w'.cell? ⟨ad447.block, ad447.off + 3, none⟩ = some (.bool ((rd_T31 l0 0).f3)) ∧ w'.cell? (ad447.add (((ji3)).toNat * 4)) = some (.string ((rd_T31 l0 (ji3)).f0)) ∧ w'.cell? ⟨(ad447.add (((ji3)).toNat * 4)).block, (ad447.add (((ji3)).toNat * 4)).off + 1, none⟩ = some (.string ((rd_T31 l0 (ji3)).f1)) ∧ w'.cell? ⟨(ad447.add (((ji3)).toNat * 4)).block, (ad447.add (((ji3)).toNat * 4)).off + 2, none⟩ = some (.int .i64 ((rd_T31 l0 (ji3)).f2)) ∧ w'.cell? ⟨(ad447.add (((ji3)).toNat * 4)).block, (ad447.add (((ji3)).toNat * 4)).off + 3, none⟩ = some (.bool ((rd_T31 l0 (ji3)).f3))) (ds := []) (yx 0 14) (by kernel_rfl) rfl rfl ⟨(bq HB.out hw447_0), (bq HB.out hw447_1), (bq HB.out hw447_2), (bq HB.out hw447_3), (bq HB.out hw448_0), (bq HB.out hw448_1), (bq HB.out hw448_2), (bq HB.out hw448_3)⟩ (fun hHeld => ?_); refine with_tabW impl_built.tab1 impl_built.bits1 (fun HT_ HW_ => ?_)
 generalize w6.drew = w7 at BK446 HB hx447_0 hx447_1 hx447_2 hx447_3 hx448_0 hx448_1 hx448_2 hx448_3 hHeld ⊢
 refine pu_ 0 (some 7) (yx 1 13) ?_
 refine pu_ 1 (some 8) (yx 2 12) ?_
 refine pu_ 2 (some 9) (yx 3 11) ?_
 refine pu_ 4 (some 11) (bs "YYYXYXXXXXXXXX") ?_
 refine pu_ 5 (some 12) (bs "YYYXYYXXXXXXXX") ?_
 refine pu_ 6 (some 13) (bs "YYYXYYYXXXXXXX") ?_
 refine pu_ 7 (some 14) (bs "YYYXYYYYXXXXXX") ?_
 refine pu_ 8 (some 15) (bs "YYYXYYYYYXXXXX") ?_
 refine pu_ 9 (some 16) (bs "YYYXYYYYYYXXXX") ?_
 refine take_ (i := 3) (N := some 10) (v := _) (a' := _) (yx 10 4) rfl rfl (take_ofW HT_.out HW_.out (by kernel_rfl)) (fun _ _ _ h => h) (Or.inl ⟨by rfl, (by rintro w' ⟨s0, s1, s2, s3, s4, s5, s6, s7⟩; go_simp; with_reducible rfl)⟩) hHeld zg1 ?_
 refine take_ (i := 10) (N := some 17) (v := _) (a' := _) (yx 11 3) rfl rfl (take_ofW HT_.out HW_.out (by kernel_rfl)) (fun _ _ _ h => h) (Or.inl ⟨by rfl, (by rintro w' ⟨s0, s1, s2, s3, s4, s5, s6, s7⟩; go_simp; with_reducible rfl)⟩) hHeld zg1 ?_
 refine pu_ 11 (some 18) (yx 12 2) ?_
 refine one_ (i := 12) (N := some 3) (yx 13 1) rfl rfl (one_of HT_.out (by kernel_rfl)) (by decide) (fun K hK => ?_)
 refine box_step ?hg (N := 3) ?hd (cs := #[.string (⟨#[]⟩ : ByteArray), .string (⟨#[]⟩ : ByteArray), .slice none 0 0, .slice none 0 0]) (t := 57) ?hr ?_; (case hd => rfl); (case hg => rfl); (case hr => first | (go_simp; done) | (go_simp; rfl))
 intro gb449 hg w8 hbox hb
 have n0_ := A_ (blk_below (g := gb446) (o := .cells #[.string (⟨#[]⟩ : ByteArray), .string (⟨#[]⟩ : ByteArray), .slice none 0 0, .slice none 0 0] 57 (0, 0)) z74k hb)
 have n1_ := A_ (below_step (by repeat (first | (with_reducible first | exact HB.out | apply below_alloc | apply pw_below_drewN | apply below_drew1 | refine below_set ?_ GE446.out) | exact HB.out)) hb)
 have n2_ := A_ (hbox)
 have n3_ := A_ ((by rw [hg]; exact (below_size (by repeat (first | (with_reducible first | exact HB.out | apply below_alloc | apply pw_below_drewN | apply below_drew1 | refine below_set ?_ GE446.out) | exact HB.out))) : w.heap.size ≤ gb449))
 have n4_ := A_ ((by rw [hg]; exact (below_size (by repeat (first | (with_reducible first | exact HB.out | apply below_alloc | apply pw_below_drewN | apply below_drew1 | refine below_set ?_ GE446.out) | exact HB.out))) : w.heap.size ≤ gb449))
 have n5_ := A_ ((by rw [hg]; exact Nat.ne_of_lt (blk_lt (g := gb446) (o := .cells #[.string (⟨#[]⟩ : ByteArray), .string (⟨#[]⟩ : ByteArray), .slice none 0 0, .slice none 0 0] 57 (0, 0)) z74k) : gb446 ≠ gb449))
 have n6_ := A_ ((by rw [hg]; exact Nat.ne_of_gt (blk_lt (g := gb446) (o := .cells #[.string (⟨#[]⟩ : ByteArray), .string (⟨#[]⟩ : ByteArray), .slice none 0 0, .slice none 0 0] 57 (0, 0)) z74k) : gb449 ≠ gb446))
 clear BK446
 clear HB
 have BK446 := n0_
 have HB := n1_
 have BK449 := n2_
 have GW449 := n3_
 have GE449 := n4_
 have NB446_449 := n5_
 have NB449_446 := n6_
 clear n0_ n1_ n2_ n3_ n4_ n5_ n6_
 clear hb hbox hg
 refine hK.out _ _ ⟨(bq HB.out hw447_0), (bq HB.out hw447_1), (bq HB.out hw447_2), (bq HB.out hw447_3), (bq HB.out hw448_0), (bq HB.out hw448_1), (bq HB.out hw448_2), (bq HB.out hw448_3)⟩ (fun hHeld => ?_)
 clear hK K
 refine norm_ (nz_ 3) ?_
 refine one_ (i := 13) (N := none) (yx 14 0) rfl rfl (one_of HT_.out (by kernel_rfl)) (by decide) (fun K hK => ?_)
 have hs9 : w8.cell? ⟨gb449, 0, none⟩ = some (.string (⟨#[]⟩ : ByteArray)) := (blk_cell BK449.out 0).trans rfl
 have hfs9 := blk_frozen BK449.out 0
 have hns9_0 := NB446_449.out
 have hms9_0 := NB449_446.out
 have hs10 : w8.cell? ⟨gb449, 1, none⟩ = some (.string (⟨#[]⟩ : ByteArray)) := (blk_cell BK449.out 1).trans rfl
 have hfs10 := blk_frozen BK449.out 1
 have hns10_0 := NB446_449.out
 have hms10_0 := NB449_446.out
 have hs11 : w8.cell? ⟨gb449, 2, none⟩ = some (.slice none 0 0) := (blk_cell BK449.out 2).trans rfl
 have hfs11 := blk_frozen BK449.out 2
 have hns11_0 := NB446_449.out
 have hms11_0 := NB449_446.out
 have hs12 : w8.cell? ⟨gb449, 3, none⟩ = some (.slice none 0 0) := (blk_cell BK449.out 3).trans rfl
 have hfs12 := blk_frozen BK449.out 3
 have hns12_0 := NB446_449.out
 have hms12_0 := NB449_446.out
 refine skip_ (w1 := ?_) (by rfl) rfl ?_ ?_
 rotate_left
 {
 go_simp
 rfl
 }
 refine hK.out _ _ ⟨((cell_far (p := ⟨gb449, _, none⟩) z74c _).trans (((cell_far (p := ⟨gb449, _, none⟩) z74c _).trans (((cell_far (p := ⟨gb449, _, none⟩) z74c _).trans (((cell_far (p := ⟨gb449, _, none⟩) z74c _).trans (hHeld.1)))))))), ((cell_far (p := ⟨gb449, _, none⟩) z74d _).trans (((cell_far (p := ⟨gb449, _, none⟩) z74d _).trans (((cell_far (p := ⟨gb449, _, none⟩) z74d _).trans (((cell_far (p := ⟨gb449, _, none⟩) z74d _).trans (hHeld.2.1)))))))), ((cell_far (p := ⟨gb449, _, none⟩) z74e _).trans (((cell_far (p := ⟨gb449, _, none⟩) z74e _).trans (((cell_far (p := ⟨gb449, _, none⟩) z74e _).trans (((cell_far (p := ⟨gb449, _, none⟩) z74e _).trans (hHeld.2.2.1)))))))), ((cell_far (p := ⟨gb449, _, none⟩) z74f _).trans (((cell_far (p := ⟨gb449, _, none⟩) z74f _).trans (((cell_far (p := ⟨gb449, _, none⟩) z74f _).trans (((cell_far (p := ⟨gb449, _, none⟩) z74f _).trans (hHeld.2.2.2.1)))))))), ((cell_far (p := ⟨gb449, _, none⟩) z74g _).trans (((cell_far (p := ⟨gb449, _, none⟩) z74g _).trans (((cell_far (p := ⟨gb449, _, none⟩) z74g _).trans (((cell_far (p := ⟨gb449, _, none⟩) z74g _).trans (hHeld.2.2.2.2.1)))))))), ((cell_far (p := ⟨gb449, _, none⟩) z74h _).trans (((cell_far (p := ⟨gb449, _, none⟩) z74h _).trans (((cell_far (p := ⟨gb449, _, none⟩) z74h _).trans (((cell_far (p := ⟨gb449, _, none⟩) z74h _).trans (hHeld.2.2.2.2.2.1)))))))), ((cell_far (p := ⟨gb449, _, none⟩) z74i _).trans (((cell_far (p := ⟨gb449, _, none⟩) z74i _).trans (((cell_far (p := ⟨gb449, _, none⟩) z74i _).trans (((cell_far (p := ⟨gb449, _, none⟩) z74i _).trans (hHeld.2.2.2.2.2.2.1)))))))), ((cell_far (p := ⟨gb449, _, none⟩) z74j _).trans (((cell_far (p := ⟨gb449, _, none⟩) z74j _).trans (((cell_far (p := ⟨gb449, _, none⟩) z74j _).trans (((cell_far (p := ⟨gb449, _, none⟩) z74j _).trans (hHeld.2.2.2.2.2.2.2))))))))⟩ (fun hHeld => ?_)
 clear hK K
 refine done_ (done_of HT_.out (by kernel_rfl)) ?_
 try go_wp2
 go_loopg [21] k (fun kq v21 w' => ∃ (x21_1 : Int) (x450002_1 : List Int) (u450002 : Value), v21 = .int .i64 x21_1 ∧ Aside0 (impl_built.l0 kq l0 l0 (l0.length : Int) x21_1 ((rd_T31 l0 0).f0) ((rd_T31 l0 (ji3)).f0) x450002_1 = some (r1, r2, r3, r4)) ∧ Aside0 (kq ≤ k) ∧ Aside0 (Kd.R (Kd.int .i64) 2 w' w.heap.size (fun _ => True) u450002 x450002_1) ∧ Aside0 (w'.heap[gb446]? = some (.cells #[.string (⟨#[]⟩ : ByteArray), .string (⟨#[]⟩ : ByteArray), (.slice none 0 0), (.slice none 0 0)] 57 (0, 0))) ∧ Aside0 (w'.heap[gb449]? = some (.cells #[.string ((rd_T31 l0 0).f0), .string ((rd_T31 l0 (ji3)).f0), u450002, (.slice none 0 0)] 57 (0, 0))) ∧ Aside0 (Below w.heap.size w w'))
 case atStart => exact ⟨(0), (([] : List Int)), (.slice none 0 0), (zs), H', ⟨Nat.le_refl _⟩, ⟨by first | exact Kd.R_nil _ _ _ _ _ | exact Kd.N_nil _ _ _ _ _ | exact Kd.V_nil _ _ _ _ _ | exact Kd.Q_nil _ _ _ _ _ | exact Kd.S_nil _ _ _ _ _⟩, ⟨by (with_reducible repeat (first | refine blk_drewN ?_ _ | refine blk_drew ?_ | refine blk_alloc ?_ _)); refine blk_far ?_ NB446_449.out _; (with_reducible repeat (first | refine blk_drewN ?_ _ | refine blk_drew ?_ | refine blk_alloc ?_ _)); refine blk_far ?_ NB446_449.out _; (with_reducible repeat (first | refine blk_drewN ?_ _ | refine blk_drew ?_ | refine blk_alloc ?_ _)); refine blk_far ?_ NB446_449.out _; (with_reducible repeat (first | refine blk_drewN ?_ _ | refine blk_drew ?_ | refine blk_alloc ?_ _)); refine blk_far ?_ NB446_449.out _; (with_reducible repeat (first | refine blk_drewN ?_ _ | refine blk_drew ?_ | refine blk_alloc ?_ _)); exact BK446.out⟩, ⟨by (with_reducible repeat (first | refine blk_drewN ?_ _ | refine blk_drew ?_ | refine blk_alloc ?_ _)); refine blk_put (cs := #[.string ((rd_T31 l0 0).f0), .string ((rd_T31 l0 (ji3)).f0), .slice none 0 0, .slice none 0 0]) ?_ 3 _ rfl; (with_reducible repeat (first | refine blk_drewN ?_ _ | refine blk_drew ?_ | refine blk_alloc ?_ _)); refine blk_put (cs := #[.string ((rd_T31 l0 0).f0), .string ((rd_T31 l0 (ji3)).f0), .slice none 0 0, .slice none 0 0]) ?_ 2 _ rfl; (with_reducible repeat (first | refine blk_drewN ?_ _ | refine blk_drew ?_ | refine blk_alloc ?_ _)); refine blk_put (cs := #[.string ((rd_T31 l0 0).f0), .string (⟨#[]⟩ : ByteArray), .slice none 0 0, .slice none 0 0]) ?_ 1 _ rfl; (with_reducible repeat (first | refine blk_drewN ?_ _ | refine blk_drew ?_ | refine blk_alloc ?_ _)); refine blk_put (cs := #[.string (⟨#[]⟩ : ByteArray), .string (⟨#[]⟩ : ByteArray), .slice none 0 0, .slice none 0 0]) ?_ 0 _ rfl; (with_reducible repeat (first | refine blk_drewN ?_ _ | refine blk_drew ?_ | refine blk_alloc ?_ _)); exact BK449.out⟩, ⟨z74b⟩⟩
 case round =>
  clear H'
  try clear c2
  try clear c2b0
  try clear c2b1
  try clear p2
  try clear c4
  try clear c4b0
  try clear p4
  try clear q4
  try clear hx4
  try clear qi4
  try clear c5
  try clear c5b0
  try clear p6
  try clear c7
  try clear hx447_0
  try clear hx447_1
  try clear hx447_2
  try clear hx447_3
  try clear hx448_0
  try clear hx448_1
  try clear hx448_2
  try clear hx448_3
  try clear p447
  try clear p448
  try clear q447
  try clear q448
  obtain ⟨x21_1, x450002_1, u450002, rfl, HA, HK1, HO_450002, BK446, BK449, HB⟩ := hrel
  cases gk with
  | zero => exact absurd HA.out (by simp [impl_built.l0])
  | succ k1 =>
   have H := HA.out
   clear HA
   simp only [impl_built.l0] at H
   by_cases c13 : x21_1 < (l0.length : Int)
   {
   rw [if_pos c13] at H
   have c13b0 : decide (x21_1 < (l0.length : Int)) = true := decide_eq_true c13
   clear c13
   by_cases c14 : 0 ≤ x21_1
   {
   rw [if_pos c14] at H
   have c14b0 : decide (0 ≤ x21_1) = true := decide_eq_true c14
   clear c14
   by_cases c15 : x21_1 < (l0.length : Int)
   {
   rw [if_pos c15] at H
   have c15b0 : decide (x21_1 < (l0.length : Int)) = true := decide_eq_true c15
   clear c15
   replace H := Option.bind_eq_some_iff.mp H
   obtain ⟨t452, A160, H⟩ := H
   (try dsimp only at H)
   have A16 := A_ A160
   clear A160
   by_cases c17 : x450002_1.length + t452.length < 17592186044416
   {
   rw [if_pos c17] at H
   have LMc17 := A_ c17
   clear c17
   obtain ⟨y455, hy455⟩ : ∃ y_ : List Int, y_ = (x450002_1 ++ t452) := ⟨_, rfl⟩
   replace H : (impl_built.l0 k1 l0 l0 (l0.length : Int) (wrap64 (x21_1 + 1)) ((rd_T31 l0 0).f0) ((rd_T31 l0 (ji3)).f0) y455) = some (r1, r2, r3, r4) := by first | (rw [hy455]; with_reducible exact H) | (have H2_ := (Option.bind_some _ _).symm.trans H; rw [hy455]; with_reducible exact H2_) | (have H2_ := (Option.bind_some _ _).symm.trans H; with_reducible exact H2_) | with_reducible exact H | (rw [hy455]; exact H) | exact H
   have Ny455 := A_ hy455
   clear hy455
   have H' := A_ H
   clear H
   have p450 : 0 ≤ (x21_1 : Int) := of_decide_eq_true zg2
   have q450 : x21_1 < (l0.length : Int) := of_decide_eq_true zg2
   obtain ⟨ad450, e450, hx450_0, hx450_1, hx450_2, hx450_3⟩ := at_T31 HR0.out x21_1 p450 q450
   obtain rfl : ad447 = ad450 := (by injection e450)
   replace hx450_0 := bq HB.out hx450_0
   replace hx450_1 := bq HB.out hx450_1
   replace hx450_2 := bq HB.out hx450_2
   replace hx450_3 := bq HB.out hx450_3
   replace p450 := eq_true p450
   replace q450 := eq_true q450
   try go_wp2_with (first | ((with_reducible refine gate_dst (N := 5) rfl ?_); refine box_event ?hg (N := 5) ?hd (cs := #[.string (⟨#[]⟩ : ByteArray), .string (⟨#[]⟩ : ByteArray), .int .i64 0, .bool false]) (t := 31) ?hr ?_; (case hd => rfl); (case hg => rfl); (case hr => first | (go_simp; done) | (go_simp; rfl)); intro gb451 hg w18 hbox hb; have n0_ := A_ (Kd.R_below (by (with_reducible repeat (first | apply Kd.R_alloc | apply Kd.R_drewN | apply Kd.R_drew)); exact HO_450002.out) hb); have n1_ := A_ (blk_below (g := gb446) (o := .cells #[.string (⟨#[]⟩ : ByteArray), .string (⟨#[]⟩ : ByteArray), .slice none 0 0, .slice none 0 0] 57 (0, 0)) z74k hb); have n2_ := A_ (blk_below (g := gb449) (o := .cells #[.string ((rd_T31 l0 0).f0), .string ((rd_T31 l0 (ji3)).f0), u450002, .slice none 0 0] 57 (0, 0)) z74l hb); have n3_ := A_ (below_step z74b hb); have n4_ := A_ (hbox); have n5_ := A_ ((by rw [hg]; exact (below_size z74b) : w.heap.size ≤ gb451)); have n6_ := A_ ((by rw [hg]; exact (below_size z74b) : w.heap.size ≤ gb451)); have n7_ := A_ ((by rw [hg]; exact Nat.ne_of_lt (blk_lt (g := gb446) (o := .cells #[.string (⟨#[]⟩ : ByteArray), .string (⟨#[]⟩ : ByteArray), .slice none 0 0, .slice none 0 0] 57 (0, 0)) z74k) : gb446 ≠ gb451)); have n8_ := A_ ((by rw [hg]; exact Nat.ne_of_gt (blk_lt (g := gb446) (o := .cells #[.string (⟨#[]⟩ : ByteArray), .string (⟨#[]⟩ : ByteArray), .slice none 0 0, .slice none 0 0] 57 (0, 0)) z74k) : gb451 ≠ gb446)); have n9_ := A_ ((by rw [hg]; exact Nat.ne_of_lt (blk_lt (g := gb449) (o := .cells #[.string ((rd_T31 l0 0).f0), .string ((rd_T31 l0 (ji3)).f0), u450002, .slice none 0 0] 57 (0, 0)) z74l) : gb449 ≠ gb451)); have n10_ := A_ ((by rw [hg]; exact Nat.ne_of_gt (blk_lt (g := gb449) (o := .cells #[.string ((rd_T31 l0 0).f0), .string ((rd_T31 l0 (ji3)).f0), u450002, .slice none 0 0] 57 (0, 0)) z74l) : gb451 ≠ gb449)); clear HO_450002; clear BK446; clear BK449; clear HB; have HO_450002 := n0_; have BK446 := n1_; have BK449 := n2_; have HB := n3_; have BK451 := n4_; have GW451 := n5_; have GE451 := n6_; have NB446_451 := n7_; have NB451_446 := n8_; have NB449_451 := n9_; have NB451_449 := n10_; clear n0_ n1_ n2_ n3_ n4_ n5_ n6_ n7_ n8_ n9_ n10_; clear hb hbox hg; have hnb19 := NB451_446.out; have hnc19 := NB446_451.out; have hnb20 := NB451_449.out; have hnc20 := NB449_451.out; obtain ⟨hcz21_0, hcz21_1, hcz21_2, hcz21_3, hfz21_0, hfz21_1, hfz21_2, hfz21_3⟩ := bz4 BK451.out))
   have n0_ : Aside0 (Kd.R (Kd.int .i64) 2 ((((w18.setCell ⟨gb451, 0, none⟩ (.string ((rd_T31 l0 x21_1).f0))).setCell ⟨gb451, 1, none⟩ (.string ((rd_T31 l0 x21_1).f1))).setCell ⟨gb451, 2, none⟩ (.int .i64 ((rd_T31 l0 x21_1).f2))).setCell ⟨gb451, 3, none⟩ (.bool ((rd_T31 l0 x21_1).f3))) w.heap.size (fun _ => True) u450002 x450002_1) := ⟨by (with_reducible repeat (first | apply Kd.R_alloc | apply Kd.R_drewN | apply Kd.R_drew)); exact Kd.R_mono (Kd.R_far (p := ⟨gb451, 3, none⟩) (Kd.R_far (p := ⟨gb451, 2, none⟩) (Kd.R_far (p := ⟨gb451, 1, none⟩) (Kd.R_far (p := ⟨gb451, 0, none⟩) (Kd.R_types HO_450002.out BK451.out (by decide)) (fun _ hk => hk.2) (.string ((rd_T31 l0 x21_1).f0))) (fun _ hk => hk.2) (.string ((rd_T31 l0 x21_1).f1))) (fun _ hk => hk.2) (.int .i64 ((rd_T31 l0 x21_1).f2))) (fun _ hk => hk.2) (.bool ((rd_T31 l0 x21_1).f3))) (fun _ hk => trivial)⟩
   have n1_ : Aside0 (((((w18.setCell ⟨gb451, 0, none⟩ (.string ((rd_T31 l0 x21_1).f0))).setCell ⟨gb451, 1, none⟩ (.string ((rd_T31 l0 x21_1).f1))).setCell ⟨gb451, 2, none⟩ (.int .i64 ((rd_T31 l0 x21_1).f2))).setCell ⟨gb451, 3, none⟩ (.bool ((rd_T31 l0 x21_1).f3))).heap[gb446]? = some (.cells #[.string (⟨#[]⟩ : ByteArray), .string (⟨#[]⟩ : ByteArray), .slice none 0 0, .slice none 0 0] 57 (0, 0))) := ⟨by (with_reducible repeat (first | refine blk_drewN ?_ _ | refine blk_drew ?_ | refine blk_alloc ?_ _)); refine blk_far ?_ NB446_451.out _; (with_reducible repeat (first | refine blk_drewN ?_ _ | refine blk_drew ?_ | refine blk_alloc ?_ _)); refine blk_far ?_ NB446_451.out _; (with_reducible repeat (first | refine blk_drewN ?_ _ | refine blk_drew ?_ | refine blk_alloc ?_ _)); refine blk_far ?_ NB446_451.out _; (with_reducible repeat (first | refine blk_drewN ?_ _ | refine blk_drew ?_ | refine blk_alloc ?_ _)); refine blk_far ?_ NB446_451.out _; (with_reducible repeat (first | refine blk_drewN ?_ _ | refine blk_drew ?_ | refine blk_alloc ?_ _)); exact BK446.out⟩
   have n2_ : Aside0 (((((w18.setCell ⟨gb451, 0, none⟩ (.string ((rd_T31 l0 x21_1).f0))).setCell ⟨gb451, 1, none⟩ (.string ((rd_T31 l0 x21_1).f1))).setCell ⟨gb451, 2, none⟩ (.int .i64 ((rd_T31 l0 x21_1).f2))).setCell ⟨gb451, 3, none⟩ (.bool ((rd_T31 l0 x21_1).f3))).heap[gb449]? = some (.cells #[.string ((rd_T31 l0 0).f0), .string ((rd_T31 l0 (ji3)).f0), u450002, .slice none 0 0] 57 (0, 0))) := ⟨by (with_reducible repeat (first | refine blk_drewN ?_ _ | refine blk_drew ?_ | refine blk_alloc ?_ _)); refine blk_far ?_ NB449_451.out _; (with_reducible repeat (first | refine blk_drewN ?_ _ | refine blk_drew ?_ | refine blk_alloc ?_ _)); refine blk_far ?_ NB449_451.out _; (with_reducible repeat (first | refine blk_drewN ?_ _ | refine blk_drew ?_ | refine blk_alloc ?_ _)); refine blk_far ?_ NB449_451.out _; (with_reducible repeat (first | refine blk_drewN ?_ _ | refine blk_drew ?_ | refine blk_alloc ?_ _)); refine blk_far ?_ NB449_451.out _; (with_reducible repeat (first | refine blk_drewN ?_ _ | refine blk_drew ?_ | refine blk_alloc ?_ _)); exact BK449.out⟩
   have n3_ : Aside0 (((((w18.setCell ⟨gb451, 0, none⟩ (.string ((rd_T31 l0 x21_1).f0))).setCell ⟨gb451, 1, none⟩ (.string ((rd_T31 l0 x21_1).f1))).setCell ⟨gb451, 2, none⟩ (.int .i64 ((rd_T31 l0 x21_1).f2))).setCell ⟨gb451, 3, none⟩ (.bool ((rd_T31 l0 x21_1).f3))).heap[gb451]? = some (.cells #[.string ((rd_T31 l0 x21_1).f0), .string ((rd_T31 l0 x21_1).f1), .int .i64 ((rd_T31 l0 x21_1).f2), .bool ((rd_T31 l0 x21_1).f3)] 31 (0, 0))) := ⟨by (with_reducible repeat (first | refine blk_drewN ?_ _ | refine blk_drew ?_ | refine blk_alloc ?_ _)); refine blk_put (cs := #[.string ((rd_T31 l0 x21_1).f0), .string ((rd_T31 l0 x21_1).f1), .int .i64 ((rd_T31 l0 x21_1).f2), .bool false]) ?_ 3 _ rfl; (with_reducible repeat (first | refine blk_drewN ?_ _ | refine blk_drew ?_ | refine blk_alloc ?_ _)); refine blk_put (cs := #[.string ((rd_T31 l0 x21_1).f0), .string ((rd_T31 l0 x21_1).f1), .int .i64 0, .bool false]) ?_ 2 _ rfl; (with_reducible repeat (first | refine blk_drewN ?_ _ | refine blk_drew ?_ | refine blk_alloc ?_ _)); refine blk_put (cs := #[.string ((rd_T31 l0 x21_1).f0), .string (⟨#[]⟩ : ByteArray), .int .i64 0, .bool false]) ?_ 1 _ rfl; (with_reducible repeat (first | refine blk_drewN ?_ _ | refine blk_drew ?_ | refine blk_alloc ?_ _)); refine blk_put (cs := #[.string (⟨#[]⟩ : ByteArray), .string (⟨#[]⟩ : ByteArray), .int .i64 0, .bool false]) ?_ 0 _ rfl; (with_reducible repeat (first | refine blk_drewN ?_ _ | refine blk_drew ?_ | refine blk_alloc ?_ _)); exact BK451.out⟩
   have n4_ : Aside0 (Below w.heap.size w ((((w18.setCell ⟨gb451, 0, none⟩ (.string ((rd_T31 l0 x21_1).f0))).setCell ⟨gb451, 1, none⟩ (.string ((rd_T31 l0 x21_1).f1))).setCell ⟨gb451, 2, none⟩ (.int .i64 ((rd_T31 l0 x21_1).f2))).setCell ⟨gb451, 3, none⟩ (.bool ((rd_T31 l0 x21_1).f3)))) := ⟨z74m⟩
   (try clear HO_450002)
   (try clear BK446)
   (try clear BK449)
   (try clear BK451)
   (try clear HB)
   generalize ((((w18.setCell ⟨gb451, 0, none⟩ (.string ((rd_T31 l0 x21_1).f0))).setCell ⟨gb451, 1, none⟩ (.string ((rd_T31 l0 x21_1).f1))).setCell ⟨gb451, 2, none⟩ (.int .i64 ((rd_T31 l0 x21_1).f2))).setCell ⟨gb451, 3, none⟩ (.bool ((rd_T31 l0 x21_1).f3))) = w22 at n0_ n1_ n2_ n3_ n4_ ⊢
   have HO_450002 := n0_
   have BK446 := n1_
   have BK449 := n2_
   have BK451 := n3_
   have HB := n4_
   clear n0_ n1_ n2_ n3_ n4_
   replace HO_450002 := A_ (Kd.R_drew HO_450002.out)
   replace BK446 := A_ (blk_drew BK446.out)
   replace BK449 := A_ (blk_drew BK449.out)
   replace BK451 := A_ (blk_drew BK451.out)
   replace HB := A_ (below_drew1 HB.out)
   refine start_ (n := 8) (S := fun w' => w'.cell? ⟨gb449, 0, none⟩ = some (.string ((rd_T31 l0 0).f0)) ∧ w'.cell? ⟨gb449, 1, none⟩ = some (.string ((rd_T31 l0 (ji3)).f0)) ∧ w'.cell? ⟨gb449, 2, none⟩ = some (u450002) ∧ w'.cell? ⟨gb449, 3, none⟩ = some (.slice none 0 0) ∧ w'.cell? ⟨gb451, 0, none⟩ = some (.string ((rd_T31 l0 x21_1).f0)) ∧ w'.cell? ⟨gb451, 1, none⟩ = some (.string ((rd_T31 l0 x21_1).f1)) ∧ w'.cell? ⟨gb451, 2, none⟩ = some (.int .i64 ((rd_T31 l0 x21_1).f2)) ∧ w'.cell? ⟨gb451, 3, none⟩ = some (.bool ((rd_T31 l0 x21_1).f3))) (ds := [7]) (yx 0 8) (by kernel_rfl) rfl rfl (an4 (bc4 BK449.out) (bc4 BK451.out)) (fun hHeld => ?_); refine with_tabW impl_built.tab5 impl_built.bits5 (fun HT_ HW_ => ?_)
   generalize w22.drew = w23 at HO_450002 BK446 BK449 BK451 HB hHeld ⊢
   refine pu_ 0 (some 25) (yx 1 7) ?_
   refine pu_ 2 (some 27) (bs "YXYXXXXX") ?_
   refine take_ (i := 1) (N := some 26) (v := _) (a' := _) (yx 3 5) rfl rfl (take_ofW HT_.out HW_.out (by kernel_rfl)) (fun _ _ _ h => h) (Or.inl ⟨by rfl, (by rintro w' ⟨s0, s1, s2, s3, s4, s5, s6, s7⟩; go_simp; with_reducible rfl)⟩) hHeld zg1 ?_
   refine take_ (i := 3) (N := some 28) (v := _) (a' := _) (yx 4 4) rfl rfl (take_ofW HT_.out HW_.out (by kernel_rfl)) (fun _ _ _ h => h) (Or.inl ⟨by rfl, (by rintro w' ⟨s0, s1, s2, s3, s4, s5, s6, s7⟩; go_simp; with_reducible rfl)⟩) hHeld zg1 ?_
   refine one_ (i := 4) (N := some 29) (yx 5 3) rfl rfl (one_of HT_.out (by kernel_rfl)) (by decide) (fun K hK => ?_)
   refine goes_ Try.func92 (by kernel_rfl) rfl #[.string ((rd_T31 l0 x21_1).f0)] (by rfl) rfl rfl zg7 ?_
   with_reducible refine (impl_marks.calls k1 ((rd_T31 l0 x21_1).f0) t452 _ A16.out).mono ?_
   rintro e w24 ⟨v453, rfl, ho0, hb⟩
   refine ⟨_, rfl, ?_⟩
   have n0_ := A_ (Kd.R_elder' (by (with_reducible repeat (first | apply Kd.R_alloc | apply Kd.R_drewN | apply Kd.R_drew)); exact HO_450002.out) (Kd.R_base ho0) hb)
   have n1_ := A_ (Kd.R_lower (Kd.R_new' ho0 (Kd.R_lt (by (with_reducible repeat (first | apply Kd.R_alloc | apply Kd.R_drewN | apply Kd.R_drew)); exact HO_450002.out))) (below_size z74m))
   have n2_ := A_ (blk_below (g := gb446) (o := .cells #[.string (⟨#[]⟩ : ByteArray), .string (⟨#[]⟩ : ByteArray), .slice none 0 0, .slice none 0 0] 57 (0, 0)) z74k hb)
   have n3_ := A_ (blk_below (g := gb449) (o := .cells #[.string ((rd_T31 l0 0).f0), .string ((rd_T31 l0 (ji3)).f0), u450002, .slice none 0 0] 57 (0, 0)) z74l hb)
   have n4_ := A_ (blk_below (g := gb451) (o := .cells #[.string ((rd_T31 l0 x21_1).f0), .string ((rd_T31 l0 x21_1).f1), .int .i64 ((rd_T31 l0 x21_1).f2), .bool ((rd_T31 l0 x21_1).f3)] 31 (0, 0)) (by (with_reducible repeat (first | refine blk_drewN ?_ _ | refine blk_drew ?_ | refine blk_alloc ?_ _)); exact BK451.out) hb)
   have n5_ := A_ (below_step z74m hb)
   clear HO_450002
   clear BK446
   clear BK449
   clear BK451
   clear HB
   have HO_450002 := n0_
   have HO454 := n1_
   have BK446 := n2_
   have BK449 := n3_
   have BK451 := n4_
   have HB := n5_
   clear n0_ n1_ n2_ n3_ n4_ n5_
   obtain ⟨Ao26, co26, eo26⟩ := Kd.R_slice HO454.out
   (first | subst eo26 | (injection eo26 with f1_ f2_ f3_; have f4_ := f1_.symm; have f5_ := f3_.symm; clear f1_ f2_ f3_; subst f4_; subst f5_))
   refine hK.out _ _ (an4 (bc4 BK449.out) (bc4 BK451.out)) (fun hHeld => ?_)
   clear hK K
   refine norm_ (nz_ 29) ?_
   refine one_ (i := 5) (N := some 30) (yx 6 2) rfl rfl (one_of HT_.out (by kernel_rfl)) (by decide) (fun K hK => ?_)
   refine Kd.R_append_rows_step (Kd.int .i64) (w0 := w) w.heap.size (by rfl) (.tmp 26) (.tmp 29) 54 2 (.int .i64 0) 8 rfl Try.underlying54 info2 rfl (by decide) (by omega) u450002 x450002_1 t452 _ _ _ (fun k_ => some k_ ≠ (.slice Ao26 t452.length co26 : Value).ownBlock) (fun _ => False) rfl rfl ?aO ?aR (fun _ _ h => h) (fun _ h => h.elim) ?aF ?aB ?aS ?aL ?_
   (case aR => exact (by repeat (first | exact (Kd.R_reads' HO454.out).2.2 | (with_reducible refine Kd.C_alloc ?_ _) | (with_reducible refine Kd.C_drewN ?_ _) | (with_reducible refine Kd.C_drew ?_))))
   (case aB => exact z74m)
   (case aF => exact (fun k_ hk => Kd.fresh' (Kd.R_lt (by (with_reducible repeat (first | apply Kd.R_alloc | apply Kd.R_drewN | apply Kd.R_drew)); exact HO454.out)) k_ hk))
   (case aO => exact (by (with_reducible repeat (first | apply Kd.R_alloc | apply Kd.R_drewN | apply Kd.R_drew)); exact Kd.R_mono HO_450002.out (fun _ hk => hk.2)))
   (case aS => exact (below_size z74m))
   (case aL => have := LMc17.out; omega)
   intro v456 w25 ho hb hg hat
   rw [← Ny455.out] at ho
   have n0_ := A_ (blk_grown (g := gb446) (o := .cells #[.string (⟨#[]⟩ : ByteArray), .string (⟨#[]⟩ : ByteArray), .slice none 0 0, .slice none 0 0] 57 (0, 0)) z74k hg (Kd.R_ne HO_450002.out BK446.out (by decide)))
   have n1_ := A_ (blk_grown (g := gb449) (o := .cells #[.string ((rd_T31 l0 0).f0), .string ((rd_T31 l0 (ji3)).f0), u450002, .slice none 0 0] 57 (0, 0)) z74l hg (Kd.R_ne HO_450002.out BK449.out (by decide)))
   have n2_ := A_ (blk_grown (g := gb451) (o := .cells #[.string ((rd_T31 l0 x21_1).f0), .string ((rd_T31 l0 x21_1).f1), .int .i64 ((rd_T31 l0 x21_1).f2), .bool ((rd_T31 l0 x21_1).f3)] 31 (0, 0)) (by (with_reducible repeat (first | refine blk_drewN ?_ _ | refine blk_drew ?_ | refine blk_alloc ?_ _)); exact BK451.out) hg (Kd.R_ne HO_450002.out BK451.out (by decide)))
   have n3_ := A_ (Kd.R_after (ok := (fun _ => True)) (by (with_reducible repeat (first | apply Kd.R_alloc | apply Kd.R_drewN | apply Kd.R_drew)); exact HO454.out) hg hat)
   have n4_ := A_ (hb)
   have n5_ := A_ (ho)
   clear BK446
   clear BK449
   clear BK451
   clear HO454
   clear HB
   clear HO_450002
   have BK446 := n0_
   have BK449 := n1_
   have BK451 := n2_
   have HO454 := n3_
   have HB := n4_
   have HO457 := n5_
   clear n0_ n1_ n2_ n3_ n4_ n5_
   clear ho hb hg hat
   obtain ⟨Ao27, co27, eo27⟩ := Kd.R_slice HO457.out
   (first | subst eo27 | (injection eo27 with f1_ f2_ f3_; have f4_ := f1_.symm; have f5_ := f3_.symm; clear f1_ f2_ f3_; subst f4_; subst f5_))
   refine hK.out _ _ (an4 (bc4 BK449.out) (bc4 BK451.out)) (fun hHeld => ?_)
   clear hK K
   refine norm_ (nz_ 30) ?_
   refine pu_ 6 (some 31) (yx 7 1) ?_
   refine last_ (i := 7) (N := none) (yx 8 0) rfl rfl (one_of HT_.out (by kernel_rfl)) (by decide) (fun K hK => ?_)
   have hs28 : w25.cell? ⟨gb449, 2, none⟩ = some (u450002) := (blk_cell BK449.out 2).trans rfl
   have hfs28 := blk_frozen BK449.out 2
   have hns28_0 := NB446_449.out
   have hns28_2 := NB451_449.out
   have hms28_0 := NB449_446.out
   have hms28_2 := NB449_451.out
   refine skip_ (w1 := ?_) (by rfl) rfl ?_ ?_
   rotate_left
   {
   go_simp
   rfl
   }
   refine hK.out _ _ ?_
   clear hK K
   refine done_ (done_of HT_.out (by kernel_rfl)) ?_
   try go_wp2
   go_roundg k1
   case measure => have := HK1.out; omega
   case rel => exact ⟨(wrap64 (x21_1 + 1)), (y455), (.slice Ao27 y455.length co27), (zs), H', ⟨by have := HK1.out; omega⟩, ⟨by (with_reducible repeat (first | apply Kd.R_alloc | apply Kd.R_drewN | apply Kd.R_drew)); exact Kd.R_mono (Kd.R_far (p := ⟨gb449, 2, none⟩) (Kd.R_types HO457.out BK449.out (by decide)) (fun _ hk => hk.2) (.slice Ao27 y455.length co27)) (fun _ hk => trivial)⟩, ⟨by (with_reducible repeat (first | refine blk_drewN ?_ _ | refine blk_drew ?_ | refine blk_alloc ?_ _)); refine blk_far ?_ NB446_449.out _; (with_reducible repeat (first | refine blk_drewN ?_ _ | refine blk_drew ?_ | refine blk_alloc ?_ _)); exact BK446.out⟩, ⟨by (with_reducible repeat (first | refine blk_drewN ?_ _ | refine blk_drew ?_ | refine blk_alloc ?_ _)); refine blk_put (cs := #[.string ((rd_T31 l0 0).f0), .string ((rd_T31 l0 (ji3)).f0), u450002, .slice none 0 0]) ?_ 2 _ rfl; (with_reducible repeat (first | refine blk_drewN ?_ _ | refine blk_drew ?_ | refine blk_alloc ?_ _)); exact BK449.out⟩, ⟨z74m⟩⟩
   }
   {
   rw [if_neg c17] at H
   exact absurd H (by simp)
   }
   }
   {
   rw [if_neg c15] at H
   exact absurd H (by simp)
   }
   }
   {
   rw [if_neg c14] at H
   exact absurd H (by simp)
   }
   }
   {
   rw [if_neg c13] at H
   have c13b0 : decide (x21_1 < (l0.length : Int)) = false := decide_eq_false c13
   clear c13
   replace H := Option.bind_eq_some_iff.mp H
   obtain ⟨t458, A290, H⟩ := H
   (try dsimp only at H)
   have A29 := A_ A290
   clear A290
   replace H := Option.bind_eq_some_iff.mp H
   obtain ⟨t459, A300, H⟩ := H
   (try dsimp only at H)
   have A30 := A_ A300
   clear A300
   have hll : l0.length < 1000000000000 := by
     by_cases hx : l0.length < 1000000000000
     · exact hx
     · rw [if_neg hx] at H; cases H
   rw [if_pos hll] at H
   obtain ⟨all_, hall, H⟩ := Option.bind_eq_some_iff.1 H
   obtain ⟨bs_, hbs, H⟩ := Option.bind_eq_some_iff.1 H
   have HALL := A_ hall
   have HBS := A_ hbs
   have HLL := A_ hll
   clear hall hbs hll
   simp only [Option.some.injEq, Prod.mk.injEq] at H
   obtain ⟨rfl, rfl, rfl, rfl⟩ := H
   have hnb35 := NB449_446.out
   have hnc35 := NB446_449.out
   obtain ⟨hcz36_0, hcz36_1, hcz36_2, hcz36_3, hfz36_0, hfz36_1, hfz36_2, hfz36_3⟩ := bz4 BK449.out
   obtain ⟨Ao37, co37, eo37⟩ := Kd.R_slice HO_450002.out
   subst eo37
   try go_wp2_with (first | ((with_reducible refine gate_callee (f := 112) rfl ?_); refine goesL_ (some 35) rfl rfl Try.func112 (by kernel_rfl) rfl #[.slice Ao37 x450002_1.length co37] rfl zg7 ?_; (with_reducible refine (slices_Sort_int64.calls (fun k_ => some k_ = (.slice Ao37 x450002_1.length co37 : Value).ownBlock) (.slice Ao37 x450002_1.length co37) x450002_1 t458 w _ ?side1 ?side2 A29.out).mono ?_); (case side1 => exact z74b); (case side2 => exact Kd.R_tight rfl HO_450002.out); rintro e w38 ⟨rfl, hy0, hb, hkp⟩; refine ⟨_, rfl, ?_⟩; have n0_ := A_ (Kd.R_reok rfl hy0 (fun k_ e_ => HO_450002.out.1 k_ e_)); have n1_ := A_ (blk_kept z74k hkp (fun hs_ => (fun e_ => (Kd.R_ne HO_450002.out BK446.out (by decide)) e_) hs_)); have n2_ := A_ (blk_kept z74l hkp (fun hs_ => (fun e_ => (Kd.R_ne HO_450002.out BK449.out (by decide)) e_) hs_)); have n3_ := A_ (hb); clear HO_450002; clear BK446; clear BK449; clear HB; have HO_450002 := n0_; have BK446 := n1_; have BK449 := n2_; have HB := n3_; clear n0_ n1_ n2_ n3_; (try clear hkp); (try clear hy0); obtain ⟨hcz39_0, hcz39_1, hcz39_2, hcz39_3, hfz39_0, hfz39_1, hfz39_2, hfz39_3⟩ := bz4 BK449.out) | ((with_reducible refine gate_callee (f := 113) rfl ?_); refine goesL_ (some 38) rfl rfl Try.func113 (by kernel_rfl) rfl #[.slice Ao37 x450002_1.length co37] rfl zg7 ?_; (with_reducible refine (slices_Compact_int64.calls (fun k_ => some k_ = (.slice Ao37 x450002_1.length co37 : Value).ownBlock) (.slice Ao37 x450002_1.length co37) t458 t459 w _ ?side1 ?side2 A30.out).mono ?_); (case side1 => exact z74b); (case side2 => exact Kd.R_tight rfl HO_450002.out); rintro e w40 ⟨v460, rfl, ho0, hb, hkp⟩; refine ⟨_, rfl, ?_⟩; have n0_ := A_ (blk_kept z74k hkp (fun hs_ => (fun e_ => (Kd.R_ne HO_450002.out BK446.out (by decide)) e_) hs_)); have n1_ := A_ (blk_kept z74l hkp (fun hs_ => (fun e_ => (Kd.R_ne HO_450002.out BK449.out (by decide)) e_) hs_)); have n2_ := A_ (Kd.R_mono (ok' := fun k_ => True) ho0 (fun k_ hk_ => trivial)); have n3_ := A_ (hb); clear BK446; clear BK449; clear HB; clear HO_450002; have BK446 := n0_; have BK449 := n1_; have HO461 := n2_; have HB := n3_; clear n0_ n1_ n2_ n3_; (try clear hkp); obtain ⟨Ao41, co41, eo41⟩ := Kd.R_slice HO461.out; subst eo41; obtain ⟨hcz42_0, hcz42_1, hcz42_2, hcz42_3, hfz42_0, hfz42_1, hfz42_2, hfz42_3⟩ := bz4 BK449.out) | ((with_reducible refine gate_callee (f := 114) rfl ?_); refine goesL_ (some 41) rfl rfl Try.func114 (by kernel_rfl) rfl #[.slice (some ad447) l0.length c0, .int .i64 8] rfl zg7 ?_; refine (ck_entry _ _ _ _).mono ?_; rintro e w' ⟨rfl, rfl⟩; refine ⟨_, rfl, ?_⟩))
   have n0_ : Aside0 (Kd.R (Kd.int .i64) 2 (w40.setCell ⟨gb449, 2, none⟩ (.slice Ao41 t459.length co41)) w.heap.size (fun _ => True) (.slice Ao41 t459.length co41) t459) := ⟨by (with_reducible repeat (first | apply Kd.R_alloc | apply Kd.R_drewN | apply Kd.R_drew)); exact Kd.R_mono (Kd.R_far (p := ⟨gb449, 2, none⟩) (Kd.R_types HO461.out BK449.out (by decide)) (fun _ hk => hk.2) (.slice Ao41 t459.length co41)) (fun _ hk => trivial)⟩
   have n1_ : Aside0 ((w40.setCell ⟨gb449, 2, none⟩ (.slice Ao41 t459.length co41)).heap[gb446]? = some (.cells #[.string (⟨#[]⟩ : ByteArray), .string (⟨#[]⟩ : ByteArray), .slice none 0 0, .slice none 0 0] 57 (0, 0))) := ⟨by (with_reducible repeat (first | refine blk_drewN ?_ _ | refine blk_drew ?_ | refine blk_alloc ?_ _)); refine blk_far ?_ NB446_449.out _; (with_reducible repeat (first | refine blk_drewN ?_ _ | refine blk_drew ?_ | refine blk_alloc ?_ _)); exact BK446.out⟩
   have n2_ : Aside0 ((w40.setCell ⟨gb449, 2, none⟩ (.slice Ao41 t459.length co41)).heap[gb449]? = some (.cells #[.string ((rd_T31 l0 0).f0), .string ((rd_T31 l0 (ji3)).f0), .slice Ao41 t459.length co41, .slice none 0 0] 57 (0, 0))) := ⟨by (with_reducible repeat (first | refine blk_drewN ?_ _ | refine blk_drew ?_ | refine blk_alloc ?_ _)); refine blk_put (cs := #[.string ((rd_T31 l0 0).f0), .string ((rd_T31 l0 (ji3)).f0), .slice Ao37 x450002_1.length co37, .slice none 0 0]) ?_ 2 _ rfl; (with_reducible repeat (first | refine blk_drewN ?_ _ | refine blk_drew ?_ | refine blk_alloc ?_ _)); exact BK449.out⟩
   have n3_ : Aside0 (Below w.heap.size w (w40.setCell ⟨gb449, 2, none⟩ (.slice Ao41 t459.length co41))) := ⟨z74b⟩
   (try clear HO461)
   (try clear BK446)
   (try clear BK449)
   (try clear HB)
   generalize (w40.setCell ⟨gb449, 2, none⟩ (.slice Ao41 t459.length co41)) = w43 at n0_ n1_ n2_ n3_ ⊢
   have HO461 := n0_
   have BK446 := n1_
   have BK449 := n2_
   have HB := n3_
   clear n0_ n1_ n2_ n3_
   have hcc := HC0.out
   have hll := HLL.out
   obtain ⟨W3, hW3⟩ : ∃ W3, (w43.alloc (.cells #[.slice (some ad447) l0.length c0] 27)).alloc (.cells #[.int .i64 8] 3) = W3 := ⟨_, rfl⟩
   obtain ⟨q0, q1, qb⟩ := twob_new w43 (.cells #[.slice (some ad447) l0.length c0] 27) (.cells #[.int .i64 8] 3)
   have hsz : W3.heap.size = w43.heap.size + 2 := by rw [← hW3]; simp
   rw [hW3] at q0 q1 qb ⊢
   have hO3 := Kd.R_below HO461.out qb
   have hb1 := blkb_after BK446.out qb
   have hb2 := blkb_after BK449.out qb
   have hB3 := below_step HB.out qb
   have hg1 := blk_lt BK446.out
   have hg2 := blk_lt BK449.out
   have HNE1 := NB446_449
   have HNE2 := NB449_446
   clear hW3 HO461 BK446 BK449 HB
   refine (wpIn_wide (n := 5)).1 ?_
   refine wpIn_rangeFunc_ownH rfl (by omega) (gf := 136) (lb := #[.pointer (some ⟨w43.heap.size, 0, none⟩), .pointer (some ⟨w43.heap.size + 1, 0, none⟩)]) rfl trivial (enters_of Try.func136 (by kernel_rfl) rfl)
     (ck_stops 4 (by omega) w43.heap.size l0.length c0 ad447 (by omega) hcc W3 q0 q1) KpB.trans (KpB.put (B := W3.heap.size) (by omega)) (Below.refl _ _) (fun _ => rfl)
     (fun pre W => (∃ u ys, impl_built.bl k1 l0 pre = some ys ∧ W3.heap.size ≤ W.heap.size ∧ W.heap[gb446]? = some (.cells #[.string (⟨#[]⟩ : ByteArray), .string (⟨#[]⟩ : ByteArray), .slice none 0 0, .slice none 0 0] 57 (0, 0)) ∧ W.heap[gb449]? = some (.cells #[.string ((rd_T31 l0 0).f0), .string ((rd_T31 l0 (ji3)).f0), .slice Ao41 t459.length co41, u] 57 (0, 0)) ∧ Kd.R (Kd.int .i64) 2 W w.heap.size (fun _ => True) (.slice Ao41 t459.length co41) t459 ∧ Kd.R Kd.string 9 W w.heap.size (fun _ => True) u ys ∧ W.heap[w43.heap.size]? = some (.cells #[.slice (some ad447) l0.length c0] 27 (0, 0)) ∧ W.heap[w43.heap.size + 1]? = some (.cells #[.int .i64 8] 3 (0, 0))) ∧ Below w.heap.size w W)
     (fun _ _ _ => False)
     (OwnFrom.and (Own.from (fun s A B row hs hg hr => by obtain ⟨u, ys, h1, h2, h3, h4, h5, h6, h7, h8⟩ := hs; exact ⟨u, ys, h1, Nat.le_trans h2 hg.size, keepbb h3 hg hr, keepbb h4 hg hr, keepR h5 hg hr, keepR h6 hg hr, keepbb h7 hg hr, keepbb h8 hg hr⟩) _) (ownFrom_below (Nat.le_refl _) (by have := hB3.size; omega)))
     (fun c => fun _ _ _ _ hs _ _ => hs)
     ⟨⟨.slice none 0 0, [], rfl, Nat.le_refl _, hb1, hb2, hO3, Kd.R_nil _ _ _ _ _, q0, q1⟩, hB3⟩
     (fun x a' W => a' = { tmps := #[.slice (some ad447) l0.length c0, undef, .pointer (some ⟨gb446, 0, none⟩), .pointer (some ⟨gb449, 0, none⟩), undef, u5, ckVal ad447 l0.length x, .slice (some ad447) l0.length c0, .pointer (some ad447), .pointer (some ad447), .string ((rd_T31 l0 0).f0), .slice (some ad447) l0.length c0, .slice (some ad447) l0.length c0, .int .i64 (l0.length : Int), .int .i64 ji3, .pointer (some (ad447.add (ji3.toNat * 4))), .pointer (some (ad447.add (ji3.toNat * 4))), .string ((rd_T31 l0 (ji3)).f0), .agg #[.string ((rd_T31 l0 0).f0), .string ((rd_T31 l0 (ji3)).f0), .slice none 0 0, .slice none 0 0], .slice (some ad447) l0.length c0, .int .i64 (l0.length : Int), .int .i64 x21_1, .bool false, u23, u24, u25, u26, u27, u28, u29, u30, u31, u32, .pointer (some ⟨gb449, 2, none⟩), .slice Ao37 x450002_1.length co37, .tuple #[], .pointer (some ⟨gb449, 2, none⟩), .slice Ao37 x450002_1.length co37, .slice Ao41 t459.length co41, .pointer (some ⟨gb449, 2, none⟩), .slice (some ad447) l0.length c0, .func (.func 136) #[] #[.pointer (some ⟨w43.heap.size, 0, none⟩), .pointer (some ⟨w43.heap.size + 1, 0, none⟩)], ckVal ad447 l0.length x, undef, undef, undef, undef, undef, undef, undef, undef, undef], defers := [] })
     (fun x a' _ X Y row hs hg hr => hs)
     ?assign ?body ?done ?stop
   case assign =>
     rintro l pre x W K hI hK
     gi_wp2
     exact hK _ _ ((KeepsOthers.refl _).from _) (KpB.refl _ _) hI rfl
   case body =>
     rintro l pre x a' W hl ⟨rr, hrr⟩ ⟨⟨u, ys, g1, g2, g3, g4, g5, g6, g7, g8⟩, hB1⟩ rfl hlt
     obtain ⟨pb, hpb⟩ := bl_all HALL.out x
     have hsn := bl_snoc hpb g1
     obtain ⟨Av, cv, rfl⟩ := Kd.R_slice g6
     have hyl := bl_length g1
     have hyb : ys.length < 8796093022208 := by rw [hyl]; unfold cks at hlt; omega
     obtain ⟨hcl, hcr⟩ := ck_reads (Kd.C_below HR0.out hB1) hcc x
     have ev : ckVal ad447 l0.length x = .slice (some (ad447.add (x * 8 * 4))) (chunkAt l0 x).length (chunkAt l0 x).length := by unfold ckVal; rw [hcl]
     rw [ev]
     obtain ⟨adx, hadx⟩ : ∃ adx, ad447.add (x * 8 * 4) = adx := ⟨_, rfl⟩
     obtain ⟨part, hpart⟩ : ∃ part, chunkAt l0 x = part := ⟨_, rfl⟩
     rw [hadx, hpart]
     rw [hadx, hpart] at hcr
     rw [hpart] at hpb
     have HPB := A_ hpb
     have HSN := A_ hsn
     have G2 := A_ g2
     have BK446 := A_ g3
     have BK449 := A_ g4
     have HO5 := A_ g5
     have HO6 := A_ g6
     have HB := A_ hB1
     have HCR := A_ hcr
     have KO := A_ (KeepsOthers.refl W)
     have CK0 := A_ g7
     have CK1 := A_ g8
     have DK0 := A_ g7
     have DK1 := A_ g8
     have HYB := A_ hyb
     clear hpb hsn g1 g2 g3 g4 g5 g6 g7 g8 hB1 hcr hcl ev hrr hyl hyb hlt hpart hadx
     refine wpIn_block ?_
     refine startIn_ (k := 9) (S := fun w' => w'.cell? ⟨gb449, 0, none⟩ = some (.string ((rd_T31 l0 0).f0)) ∧ w'.cell? ⟨gb449, 1, none⟩ = some (.string ((rd_T31 l0 (ji3)).f0)) ∧ w'.cell? ⟨gb449, 2, none⟩ = some (.slice Ao41 t459.length co41) ∧ w'.cell? ⟨gb449, 3, none⟩ = some (.slice Av ys.length cv)) (ds := [8]) #[false, false, false, false, false, false, false, false, false] (by kernel_rfl) rfl rfl (by kernel_rfl) (fun ⟨_, _, hh⟩ => hh) (bc4 BK449.out) (fun hHeld => ?_)
     refine with_tabW impl_built.tab13 impl_built.bits13 (fun HT_ HW_ => ?_)
     replace HO5 := A_ (Kd.R_drew HO5.out)
     replace HO6 := A_ (Kd.R_drew HO6.out)
     replace BK446 := A_ (blk_drew BK446.out)
     replace BK449 := A_ (blk_drew BK449.out)
     replace HB := A_ (below_drew1 HB.out)
     replace KO := A_ (KO.out.trans (KeepsOthers.drew W))
     replace HCR := A_ (Kd.C_drew HCR.out)
     have G3 : Aside0 (W3.heap.size ≤ W.drew.heap.size) := ⟨G2.out⟩
     replace CK0 := A_ (blk_drew CK0.out)
     replace CK1 := A_ (blk_drew CK1.out)
     generalize W.drew = w51 at HO5 HO6 BK446 BK449 HB KO CK0 CK1 HCR G3 hHeld ⊢
     refine pure_ (i := 0) (N := some 43) (v := _) (a' := _) #[true, false, false, false, false, false, false, false, false] rfl rfl (any_of HT_.out (by kernel_rfl)) (fun _ _ _ h => h) (Or.inl ⟨by rfl, (by intro w'; go_simp; with_reducible rfl)⟩) (by simp only [Act.put, List.setIfInBounds_toArray, List.set_cons_zero, List.set_cons_succ, i64_w, i32_w]; rfl) ?_
     refine pure_ (i := 2) (N := some 45) (v := _) (a' := _) #[true, false, true, false, false, false, false, false, false] rfl rfl (any_of HT_.out (by kernel_rfl)) (fun _ _ _ h => h) (Or.inl ⟨by rfl, (by intro w'; go_simp; with_reducible rfl)⟩) (by simp only [Act.put, List.setIfInBounds_toArray, List.set_cons_zero, List.set_cons_succ, i64_w, i32_w]; rfl) ?_
     refine take_ (i := 1) (N := some 44) (v := _) (a' := _) #[true, true, true, false, false, false, false, false, false] rfl rfl (take_ofW HT_.out HW_.out (by kernel_rfl)) (fun _ _ _ h => h) (Or.inl ⟨by rfl, (by rintro w' ⟨s0, s1, s2, s3⟩; go_simp; with_reducible rfl)⟩) hHeld (by simp only [Act.put, List.setIfInBounds_toArray, List.set_cons_zero, List.set_cons_succ, i64_w, i32_w]; rfl) ?_
     refine one_ (i := 3) (N := some 46) #[true, true, true, true, false, false, false, false, false] rfl rfl (one_of HT_.out (by kernel_rfl)) (by decide) (fun K hK => ?_)
     refine goes_ Try.func115 (by kernel_rfl) rfl #[.slice (some adx) part.length part.length] (by rfl) rfl rfl (by (try simp only [List.map_toArray, List.map_cons, List.map_nil]); first | done | rfl) ?_
     refine (impl_packed.calls k1 _ _ part pb _ HCR.out (Nat.le_refl _) HPB.out).mono ?_
     rintro e w52 ⟨v374, rfl, ho0, hb⟩
     refine ⟨_, rfl, ?_⟩
     replace HO5 := A_ (Kd.R_below HO5.out hb)
     replace HO6 := A_ (Kd.R_below HO6.out hb)
     have HO7 := A_ (Kd.R_lower ho0 (below_size HB.out))
     replace BK446 := A_ (blkb_after BK446.out hb)
     replace BK449 := A_ (blkb_after BK449.out hb)
     replace HB := A_ (below_step HB.out hb)
     replace KO := A_ (KO.out.trans (keeps_below hb))
     replace CK0 := A_ (blkb_after CK0.out hb)
     replace CK1 := A_ (blkb_after CK1.out hb)
     replace G3 := A_ (Nat.le_trans G3.out hb.size)
     clear hb ho0
     refine hK.out _ _ (bc4 BK449.out) (fun hHeld => ?_)
     clear hK K
     refine norm_ (a' := ?_) ?_ ?_
     rotate_left
     · show Act.put _ (some 46) _ = _
       simp only [Act.put, List.setIfInBounds_toArray, List.set_cons_zero, List.set_cons_succ, i64_w, i32_w]
       rfl
     refine one_ (i := 4) (N := some 47) #[true, true, true, true, true, false, false, false, false] rfl rfl (one_of HT_.out (by kernel_rfl)) (by decide) (fun K hK => ?_)
     have hcv53 := own_string (P := Try.prog) Try.underlying36 Try.underlying5 Try.underlying9 (Kd.own_of_R HO7.out)
     refine value_ (w1 := ?_) (v := ?_) (by rfl) rfl ?_ ?_
     rotate_left 2
     · go_simp
       constructor
       · rfl
       · rfl
     clear hcv53
     refine hK.out _ _ (bc4 BK449.out) (fun hHeld => ?_)
     clear hK K
     refine norm_ (a' := ?_) ?_ ?_
     rotate_left
     · show Act.put _ (some 47) _ = _
       simp only [Act.put, List.setIfInBounds_toArray, List.set_cons_zero, List.set_cons_succ, i64_w, i32_w]
       rfl
     refine one_ (i := 5) (N := some 48) #[true, true, true, true, true, true, false, false, false] rfl rfl (one_of HT_.out (by kernel_rfl)) (by decide) (fun K hK => ?_)
     refine value_ (w1 := ?_) (v := ?_) (by rfl) rfl ?_ ?_
     rotate_left 2
     · go_simp
       constructor
       · rfl
       · rfl
     refine hK.out _ _ ⟨(blk_cell (blk_alloc BK449.out _) 0).trans rfl, (blk_cell (blk_alloc BK449.out _) 1).trans rfl, (blk_cell (blk_alloc BK449.out _) 2).trans rfl, (blk_cell (blk_alloc BK449.out _) 3).trans rfl⟩ (fun hHeld => ?_)
     clear hK K
     refine norm_ (a' := ?_) ?_ ?_
     rotate_left
     · show Act.put _ (some 48) _ = _
       simp only [Act.put, List.setIfInBounds_toArray, List.set_cons_zero, List.set_cons_succ, i64_w, i32_w]
       rfl
     refine one_ (i := 6) (N := some 49) #[true, true, true, true, true, true, true, false, false] rfl rfl (one_of HT_.out (by kernel_rfl)) (by decide) (fun K hK => ?_)
     refine Kd.R_append_step Kd.string (w0 := w) w.heap.size (by rfl) (.tmp 44) (.tmp 48) 55 9 (.string ⟨#[]⟩) 16 rfl Try.underlying55 info9 rfl (by decide) (by omega) (.slice Av ys.length cv) ys (strOfNums pb) [.string (strOfNums pb)] (fun _ => True) (fun _ => False) rfl rfl ?aP (fun _ hk => hk.elim) ?aF ?aO ?aB ?aS ?aL ?_
     (case aP => exact rfl)
     (case aB => exact HB.out)
     (case aF => exact (fun _ _ => trivial))
     (case aO => exact HO6.out)
     (case aS => exact below_size HB.out)
     (case aL => have := HYB.out; omega)
     intro v377 w54 ho hb hg hat
     obtain ⟨y2, hy2⟩ : ∃ y2, ys ++ [strOfNums pb] = y2 := ⟨_, rfl⟩
     rw [hy2] at ho
     have HSN2 : Aside0 (impl_built.bl k1 l0 (pre ++ [x]) = some y2) := ⟨HSN.out.trans (congrArg some hy2)⟩
     clear hy2
     have HYN := A_ hg.size
     replace BK446 := A_ (blk_grown BK446.out hg (Kd.R_ne HO6.out BK446.out (by decide)))
     replace BK449 := A_ (blk_grown BK449.out hg (Kd.R_ne HO6.out BK449.out (by decide)))
     replace CK0 := A_ (blk_grown CK0.out hg (Kd.R_ne HO6.out CK0.out (by decide)))
     replace CK1 := A_ (blk_grown CK1.out hg (Kd.R_ne HO6.out CK1.out (by decide)))
     replace HO5 := A_ (Kd.R_over' HO5.out (Kd.R_typed HO6.out) (by decide) hg)
     replace KO := A_ (KO.out.trans (keeps_own hg (Kd.R_typed HO6.out)))
     replace G3 : Aside0 (W3.heap.size ≤ w54.heap.size) := ⟨Nat.le_trans G3.out HYN.out⟩
     replace HB := A_ hb
     replace HO6 := A_ ho
     clear ho hb hg hat HYN
     obtain ⟨Ao55, co55, eo55⟩ := Kd.R_slice HO6.out
     subst eo55
     refine hK.out _ _ (bc4 BK449.out) (fun hHeld => ?_)
     clear hK K
     refine norm_ (a' := ?_) ?_ ?_
     rotate_left
     · show Act.put _ (some 49) _ = _
       simp only [Act.put, List.setIfInBounds_toArray, List.set_cons_zero, List.set_cons_succ, i64_w, i32_w]
       rfl
     refine pure_ (i := 7) (N := some 50) (v := _) (a' := _) #[true, true, true, true, true, true, true, true, false] rfl rfl (any_of HT_.out (by kernel_rfl)) (fun _ _ _ h => h) (Or.inl ⟨by rfl, (by intro w'; go_simp; with_reducible rfl)⟩) (by simp only [Act.put, List.setIfInBounds_toArray, List.set_cons_zero, List.set_cons_succ, i64_w, i32_w]; rfl) ?_
     refine last_ (i := 8) (N := none) #[true, true, true, true, true, true, true, true, true] rfl rfl (one_of HT_.out (by kernel_rfl)) (by decide) (fun K hK => ?_)
     have hs56 : w54.cell? ⟨gb449, 3, none⟩ = some (.slice Av ys.length cv) := (blk_cell BK449.out 3).trans rfl
     have hfs56 := blk_frozen BK449.out 3
     have hns56_0 := NB446_449.out
     have hms56_0 := NB449_446.out
     refine skip_ (w1 := ?_) (by rfl) rfl ?_ ?_
     rotate_left
     · go_simp
       rfl
     refine hK.out _ _ ?_
     clear hK K
     refine done_ (done_of HT_.out (by kernel_rfl)) ?_
     have hgt : gb449 < w43.heap.size := hg2
     refine ⟨(KO.out.trans (KeepsOthers.setCell _ _ _)).from _, ⟨(blk_far CK0.out (Nat.ne_of_gt hgt) _).trans DK0.out.symm, (blk_far CK1.out (Nat.ne_of_gt (Nat.lt_succ_of_lt hgt)) _).trans DK1.out.symm⟩, ⟨_, _, HSN2.out, by simpa using G3.out, blk_far BK446.out NB446_449.out _, blk_put BK449.out 3 _ rfl, ?_, ?_, blk_far CK0.out (Nat.ne_of_gt hgt) _, blk_far CK1.out (Nat.ne_of_gt (Nat.lt_succ_of_lt hgt)) _⟩, below_set HB.out GE449.out⟩
     · exact Kd.R_mono (Kd.R_far (p := ⟨gb449, 3, none⟩) (Kd.R_types HO5.out BK449.out (by decide)) (fun _ hk => hk.2) _) (fun _ _ => trivial)
     · exact Kd.R_mono (Kd.R_far (p := ⟨gb449, 3, none⟩) (Kd.R_types HO6.out BK449.out (by decide)) (fun _ hk => hk.2) _) (fun _ _ => trivial)
   case done =>
     rintro D zs_ W hD rfl ⟨⟨u, ys, g1, g2, g3, g4, g5, g6, g7, g8⟩, hB1⟩ hK
     obtain rfl := Option.some.inj (g1.symm.trans HBS.out)
     obtain ⟨Av, cv, rfl⟩ := Kd.R_slice g6
     have hcw0 : W.cell? ⟨gb449, 0, none⟩ = some (.string ((rd_T31 l0 0).f0)) := (blk_cell g4 0).trans rfl
     have hcw1 : W.cell? ⟨gb449, 1, none⟩ = some (.string ((rd_T31 l0 (ji3)).f0)) := (blk_cell g4 1).trans rfl
     have hcw2 : W.cell? ⟨gb449, 2, none⟩ = some (.slice Ao41 t459.length co41) := (blk_cell g4 2).trans rfl
     have hcw3 : W.cell? ⟨gb449, 3, none⟩ = some (.slice Av ys.length cv) := (blk_cell g4 3).trans rfl
     have hcr0 : W.cell? ⟨gb446, 0, none⟩ = some (.string (⟨#[]⟩ : ByteArray)) := (blk_cell g3 0).trans rfl
     have hcr1 : W.cell? ⟨gb446, 1, none⟩ = some (.string (⟨#[]⟩ : ByteArray)) := (blk_cell g3 1).trans rfl
     have hcr2 : W.cell? ⟨gb446, 2, none⟩ = some (.slice none 0 0) := (blk_cell g3 2).trans rfl
     have hcr3 : W.cell? ⟨gb446, 3, none⟩ = some (.slice none 0 0) := (blk_cell g3 3).trans rfl
     have hfr0 := blk_frozen g3 0
     have hfr1 := blk_frozen g3 1
     have hfr2 := blk_frozen g3 2
     have hfr3 := blk_frozen g3 3
     go_wp2
     obtain ⟨WR, hWR⟩ : ∃ WR, (((W.setCell ⟨gb446, 0, none⟩ (.string ((rd_T31 l0 0).f0))).setCell ⟨gb446, 1, none⟩ (.string ((rd_T31 l0 (ji3)).f0))).setCell ⟨gb446, 2, none⟩ (.slice Ao41 t459.length co41)).setCell ⟨gb446, 3, none⟩ (.slice Av ys.length cv) = WR := ⟨_, rfl⟩
     have r3 : WR.heap[gb446]? = some (.cells #[.string ((rd_T31 l0 0).f0), .string ((rd_T31 l0 (ji3)).f0), .slice Ao41 t459.length co41, .slice Av ys.length cv] 57 (0, 0)) := by
       rw [← hWR]
       exact blk_put (cs := #[.string ((rd_T31 l0 0).f0), .string ((rd_T31 l0 (ji3)).f0), .slice Ao41 t459.length co41, .slice none 0 0]) (blk_put (cs := #[.string ((rd_T31 l0 0).f0), .string ((rd_T31 l0 (ji3)).f0), .slice none 0 0, .slice none 0 0]) (blk_put (cs := #[.string ((rd_T31 l0 0).f0), .string (⟨#[]⟩ : ByteArray), .slice none 0 0, .slice none 0 0]) (blk_put g3 0 _ rfl) 1 _ rfl) 2 _ rfl) 3 _ rfl
     have r5 : Kd.R (Kd.int .i64) 2 WR w.heap.size (fun _ => True) (.slice Ao41 t459.length co41) t459 := by
       rw [← hWR]
       exact Kd.R_mono (Kd.R_far (p := ⟨gb446, 3, none⟩) (Kd.R_far (p := ⟨gb446, 2, none⟩) (Kd.R_far (p := ⟨gb446, 1, none⟩) (Kd.R_far (p := ⟨gb446, 0, none⟩) (Kd.R_types g5 g3 (by decide)) (fun _ hk => hk.2) _) (fun _ hk => hk.2) _) (fun _ hk => hk.2) _) (fun _ hk => hk.2) _) (fun _ _ => trivial)
     have r6 : Kd.R Kd.string 9 WR w.heap.size (fun _ => True) (.slice Av ys.length cv) ys := by
       rw [← hWR]
       exact Kd.R_mono (Kd.R_far (p := ⟨gb446, 3, none⟩) (Kd.R_far (p := ⟨gb446, 2, none⟩) (Kd.R_far (p := ⟨gb446, 1, none⟩) (Kd.R_far (p := ⟨gb446, 0, none⟩) (Kd.R_types g6 g3 (by decide)) (fun _ hk => hk.2) _) (fun _ hk => hk.2) _) (fun _ hk => hk.2) _) (fun _ hk => hk.2) _) (fun _ _ => trivial)
     have rb : Below w.heap.size w WR := by
       rw [← hWR]
       exact below_set (below_set (below_set (below_set hB1 GE446.out) GE446.out) GE446.out) GE446.out
     have hD4 : ∀ (X : World) (i : Nat) (v : Value), X.heap[D]? = some (.deferred (some [])) → (X.setCell ⟨gb446, i, none⟩ v).heap[D]? = some (.deferred (some [])) := fun X i v h => (Below.heap_setCell X ⟨gb446, i, none⟩ v D (by simp only; omega)).trans h
     have rD : WR.heap[D]? = some (.deferred (some [])) := by
       rw [← hWR]
       exact hD4 _ _ _ (hD4 _ _ _ (hD4 _ _ _ (hD4 _ _ _ hK)))
     have rDne : gb446 ≠ D := by omega
     rw [hWR]
     clear hWR hD4 hK hcw0 hcw1 hcw2 hcw3 hcr0 hcr1 hcr2 hcr3 hfr0 hfr1 hfr2 hfr3 g2 g3 g4 g5 g6 g7 g8
     show bodyPostM Fence.wide 5 Try.prog Try.f74 _ Exit.ret _ _
     refine ⟨by simp, .inl ⟨_, _, rfl, run_takeDeferred rD, ?_⟩⟩
     refine ⟨_, results_cell_row rfl _ _ gb446 57 #[.string ((rd_T31 l0 0).f0), .string ((rd_T31 l0 (ji3)).f0), .slice Ao41 t459.length co41, .slice Av ys.length cv] (0, 0) _ rfl ((World.putObj_heap_other rDne).trans r3) Try.underlying57 rfl (by kernel_rfl), ?_⟩
     exact ⟨_, _, rfl, keepR r5 (grownBy_putObj' WR D (.deferred none)) (fun r' e => by cases e; exact ⟨_, rD, rfl⟩), keepR r6 (grownBy_putObj' WR D (.deferred none)) (fun r' e => by cases e; exact ⟨_, rD, rfl⟩), rb.trans (belowK_b (w := W3) (by have := hB3.size; omega) WR D _ _ hD rD rfl rfl)⟩
   case stop => exact fun _ _ _ _ _ _ hh _ => hh.elim
   }
 }
 {
 rw [if_neg c5] at H
 exact absurd H (by simp)
 }
 }
 {
 rw [if_neg c4] at H
 exact absurd H (by simp)
 }
 }
 {
 rw [if_neg c2] at H
 exact absurd H (by simp)
 
 }
end Go.Proofs.Ytaiggfjkikfcbaa.PFnExactEntries

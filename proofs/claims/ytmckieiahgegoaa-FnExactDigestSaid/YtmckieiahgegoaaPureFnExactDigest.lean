/- Proves the plain law behind this statement of the seat (what its functions come to, over numbers and lists): that it answers true. No condition beyond the statement's own. -/
import Derived.Test.YtmckieiahgegoaaPFnExactDigestx
import Derived.Test.YtmckieiahgegoaaLib
import Derived.Test.YtmckieiahgegoaaLibRow
namespace Go.Proofs.Ytmckieiahgegoaa.Pure
open Go Go.RowKit Go.Proofs.Ytmckieiahgegoaa.PFnExactDigest Go.Proofs.YtmckieiahgegoaaW.PrintWords Go.Proofs.YtmckieiahgegoaaW.PrintLast Go.Proofs.YtmckieiahgegoaaW.PrintMore Go.Proofs.Ytmckieiahgegoaa.Lib
set_option linter.unusedVariables false
set_option linter.unusedSimpArgs false
theorem spec_Digest_l0_ev (s : ByteArray) (hs : s.size ≤ 140737488351232) : ∀ (bs : List Int) (i : Nat) (h : Int), (bytesOf s).drop i = bs → 0 ≤ h → h < 2147483647 → Ev (fun k => spec_Digest.l0 k s h i) (dig h bs)
  | [], i, h, hd, h0, h1 => by
    have := bdrop_nil hd
    refine Ev.step (f := fun _ => some h) (fun k => ?_) (Ev.now _)
    simp only [spec_Digest.l0]
    rw [if_neg (by omega)]
  | b :: bs, i, h, hd, h0, h1 => by
    obtain ⟨h2, h3, h4, h5, h6⟩ := bdrop_cons hd
    refine Ev.step (f := fun k => spec_Digest.l0 k s (dstep h b) ((i + 1 : Nat) : Int)) (fun k => ?_) (spec_Digest_l0_ev s hs bs (i + 1) _ h3 (dstep_bd h b).1 (dstep_bd h b).2)
    simp only [spec_Digest.l0]
    rw [if_pos (by omega), if_pos (by omega), h4, dstep_eq h0 h1 h5 h6, w64s (by omega)]
theorem spec_Digest_ev (s : ByteArray) (hs : s.size ≤ 140737488351232) : Ev (fun k => spec_Digest.f k s) (digest s) :=
  spec_Digest_l0_ev s hs (bytesOf s) 0 1 rfl (by decide) (by decide)
theorem impl_Digest_l0_ev (s : ByteArray) (hs : s.size ≤ 140737488351232) : ∀ (bs : List Int) (i : Nat) (h : Int), (bytesOf s).drop i = bs → 0 ≤ h → h < 2147483647 → Ev (fun k => impl_Digest.l0 k s h (s.size : Int) i) (dig h bs)
  | [], i, h, hd, h0, h1 => by
    have := bdrop_nil hd
    refine Ev.step (f := fun _ => some h) (fun k => ?_) (Ev.now _)
    simp only [impl_Digest.l0]
    rw [if_neg (by omega)]
  | b :: bs, i, h, hd, h0, h1 => by
    obtain ⟨h2, h3, h4, h5, h6⟩ := bdrop_cons hd
    refine Ev.step (f := fun k => impl_Digest.l0 k s (dstep h b) (s.size : Int) ((i + 1 : Nat) : Int)) (fun k => ?_) (impl_Digest_l0_ev s hs bs (i + 1) _ h3 (dstep_bd h b).1 (dstep_bd h b).2)
    simp only [impl_Digest.l0]
    rw [if_pos (by omega), if_pos (by omega), if_pos (by omega), h4, dstep_eq h0 h1 h5 h6, w64s (by omega)]
theorem impl_Digest_ev (s : ByteArray) (hs : s.size ≤ 140737488351232) : Ev (fun k => impl_Digest.f k s) (digest s) :=
  impl_Digest_l0_ev s hs (bytesOf s) 0 1 rfl (by decide) (by decide)

theorem FnExactDigest : laws_FnExactDigest.Pure := by
  intro s hs
  refine Ev.rounds (g := fun k => laws_FnExactDigest.f k s) ?_
  simp only [laws_FnExactDigest.f]
  by_cases h1 : (s.size : Int) > 1048576
  · exact evPos h1 (Ev.now _)
  refine evNeg h1 ?_
  exact Ev.bind (spec_Digest_ev s hs) (Ev.bind (impl_Digest_ev s hs) (evPos rfl (Ev.now _)))
end Go.Proofs.Ytmckieiahgegoaa.Pure

/- Proves the plain law behind this statement of the seat (what its functions come to, over numbers and lists): that it answers true. No condition beyond the statement's own. -/
import Derived.Test.YtmckieiahgegoaaPFnExactCommonx
import Derived.Test.YtmckieiahgegoaaLib
import Derived.Test.YtmckieiahgegoaaLibRow
namespace Go.Proofs.Ytmckieiahgegoaa.Pure
open Go Go.RowKit Go.Proofs.Ytmckieiahgegoaa.PFnExactCommon Go.Proofs.YtmckieiahgegoaaW.PrintWords Go.Proofs.YtmckieiahgegoaaW.PrintLast Go.Proofs.YtmckieiahgegoaaW.PrintMore Go.Proofs.Ytmckieiahgegoaa.Lib
set_option linter.unusedVariables false
set_option linter.unusedSimpArgs false
theorem spec_Common_l0_ev (s t : ByteArray) (hs : s.size ≤ 140737488351232) : ∀ (av bs : List Int) (i : Nat), (bytesOf s).drop i = av → (bytesOf t).drop i = bs → Ev (fun k => spec_Common.l0 k s t i) (((i + common av bs : Nat) : Int))
  | [], bs, i, ha, hb => by
    have := bdrop_nil ha
    refine Ev.step (f := fun _ => some (i : Int)) (fun k => ?_) (by simpa [common] using Ev.now (i : Int))
    simp only [spec_Common.l0]
    rw [if_neg (by omega)]
  | a :: av, [], i, ha, hb => by
    obtain ⟨h2, h3, h4, h5, h6⟩ := bdrop_cons ha
    have := bdrop_nil hb
    refine Ev.step (f := fun _ => some (i : Int)) (fun k => ?_) (by simpa [common] using Ev.now (i : Int))
    simp only [spec_Common.l0]
    rw [if_pos (by omega), if_neg (by omega)]
  | a :: av, b :: bs, i, ha, hb => by
    obtain ⟨h2, h3, h4, h5, h6⟩ := bdrop_cons ha
    obtain ⟨g2, g3, g4, g5, g6⟩ := bdrop_cons hb
    by_cases e : a = b
    · have ih := spec_Common_l0_ev s t hs av bs (i + 1) h3 g3
      rw [show i + common (a :: av) (b :: bs) = i + 1 + common av bs by simp only [common, if_pos e]; omega]
      refine Ev.step (f := fun k => spec_Common.l0 k s t ((i + 1 : Nat) : Int)) (fun k => ?_) ih
      simp only [spec_Common.l0]
      rw [if_pos (by omega), if_pos (by omega), if_pos (by omega), h4, g4, if_pos e, w64s (by omega)]
    · rw [show i + common (a :: av) (b :: bs) = i by simp only [common, if_neg e]; omega]
      refine Ev.step (f := fun _ => some (i : Int)) (fun k => ?_) (Ev.now _)
      simp only [spec_Common.l0]
      rw [if_pos (by omega), if_pos (by omega), if_pos (by omega), h4, g4, if_neg e]
theorem spec_Common_ev (s t : ByteArray) (hs : s.size ≤ 140737488351232) : Ev (fun k => spec_Common.f k s t) (common (bytesOf s) (bytesOf t) : Int) := by
  have := spec_Common_l0_ev s t hs (bytesOf s) (bytesOf t) 0 rfl rfl
  rw [Nat.zero_add] at this
  exact this
theorem impl_Common_same : ∀ k s t i, impl_Common.l0 k s t i = spec_Common.l0 k s t i
  | 0, _, _, _ => rfl
  | k + 1, s, t, i => by simp only [impl_Common.l0, spec_Common.l0, impl_Common_same k]
theorem impl_Common_ev (s t : ByteArray) (hs : s.size ≤ 140737488351232) : Ev (fun k => impl_Common.f k s t) (common (bytesOf s) (bytesOf t) : Int) :=
  Ev.congr (fun k => impl_Common_same k s t 0) (spec_Common_ev s t hs)

theorem FnExactCommon : laws_FnExactCommon.Pure := by
  intro s t hs ht
  refine Ev.rounds (g := fun k => laws_FnExactCommon.f k s t) ?_
  simp only [laws_FnExactCommon.f]
  by_cases h1 : (s.size : Int) > 1048576
  · exact evPos h1 (Ev.now _)
  refine evNeg h1 ?_
  by_cases h2 : (t.size : Int) > 1048576
  · exact evPos h2 (Ev.now _)
  refine evNeg h2 ?_
  exact Ev.bind (spec_Common_ev s t hs) (Ev.bind (impl_Common_ev s t hs) (evPos rfl (Ev.now _)))
end Go.Proofs.Ytmckieiahgegoaa.Pure

-- by a program of this session (wip/print/run.py) for this claim
import Derived.Test.YtepcmdmclmfgkaaDoorPFnDigestsx0
import Derived.Test.YtepcmdmclmfgkaaDoorPFnDigestsx1
import Derived.Test.YtepcmdmclmfgkaaDoorPFnDigestsx2
import Derived.Test.YtepcmdmclmfgkaaDoorPFnDigestsx3
namespace Go.Proofs.YtepcmdmclmfgkaaDoor.PFnDigests
open Go.RowKit Go.Proofs.YtepcmdmclmfgkaaDoorW.PrintWords Go.Proofs.YtepcmdmclmfgkaaDoorW.PrintLast Go.Proofs.YtepcmdmclmfgkaaDoorW.PrintMore
attribute [local go_sem] max2_int min2_int max_two min_two max_three min_three max_four min_four   -- for this text's walks alone
set_option linter.unusedVariables false
set_option linter.unusedSimpArgs false

/-! ### laws_FnDigests: function 7 -/
def laws_FnDigests.j0 : Nat → ByteArray → ByteArray → Bool → Int → ByteArray → Int → Int → ByteArray → Int → Bool → Option (Bool)
  | 0, _, _, _, _, _, _, _, _, _, _ => none
  | k + 1, x3, x4, x5, x6, x7, x8, x9, x10, x11, x81 => if x81 = true then (some false) else ((impl_Digest.f k x3).bind fun t273 => ((impl_Digest.f k x4).bind fun t274 => (if x3.toList = x4.toList then (if ((t273 == t274) == true) = true then (if x8 < 0 then ((impl_Signed.f k x9 x10 x11).bind fun t275 => (if t275 = true then ((impl_Tag.f k x9 x10).bind fun t276 => (if t276 = x11 then ((impl_Clash.f k x4 x3).bind fun t277 => (some (t277 == x5))) else (some false))) else ((impl_Clash.f k x4 x3).bind fun t278 => (some (t278 == x5))))) else ((impl_Signed.f k x6 x7 x8).bind fun t279 => (if t279 = true then ((impl_Signed.f k x9 x10 x11).bind fun t280 => (if t280 = true then ((impl_Tag.f k x9 x10).bind fun t281 => (if t281 = x11 then ((impl_Clash.f k x4 x3).bind fun t282 => (some (t282 == x5))) else (some false))) else ((impl_Clash.f k x4 x3).bind fun t283 => (some (t283 == x5))))) else (some false)))) else (some false)) else (if ((t273 == t274) == x5) = true then (if x8 < 0 then ((impl_Signed.f k x9 x10 x11).bind fun t284 => (if t284 = true then ((impl_Tag.f k x9 x10).bind fun t285 => (if t285 = x11 then ((impl_Clash.f k x4 x3).bind fun t286 => (some (t286 == x5))) else (some false))) else ((impl_Clash.f k x4 x3).bind fun t287 => (some (t287 == x5))))) else ((impl_Signed.f k x6 x7 x8).bind fun t288 => (if t288 = true then ((impl_Signed.f k x9 x10 x11).bind fun t289 => (if t289 = true then ((impl_Tag.f k x9 x10).bind fun t290 => (if t290 = x11 then ((impl_Clash.f k x4 x3).bind fun t291 => (some (t291 == x5))) else (some false))) else ((impl_Clash.f k x4 x3).bind fun t292 => (some (t292 == x5))))) else (some false)))) else (some false)))))
def laws_FnDigests.f (k : Nat) (l0 : List Int) : Option (Bool) := (laws_big.f l0).bind fun t253 => (if t253 = true then (some true) else ((spec_DrawClash.f k l0).bind fun bt254 => ((impl_Clash.f k bt254.1 bt254.2).bind fun t256 => ((spec_DrawTag.f k l0).bind fun bt257 => ((impl_Tag.f k bt257.1 bt257.2).bind fun t259 => ((spec_DrawSigned.f k l0).bind fun bt260 => ((spec_DrawPair.f k l0).bind fun bt263 => ((spec_Clash.f k bt254.1 bt254.2).bind fun t265 => (if (t256 != t265) = true then (laws_FnDigests.j0 k bt254.1 bt254.2 t256 bt257.1 bt257.2 t259 bt260.1 bt260.2.1 bt260.2.2 true) else ((spec_Tag.f k bt257.1 bt257.2).bind fun t266 => (if t259 = t266 then ((impl_Signed.f k bt260.1 bt260.2.1 bt260.2.2).bind fun t267 => ((spec_Signed.f k bt260.1 bt260.2.1 bt260.2.2).bind fun t268 => (if (t267 != t268) = true then (laws_FnDigests.j0 k bt254.1 bt254.2 t256 bt257.1 bt257.2 t259 bt260.1 bt260.2.1 bt260.2.2 true) else ((impl_Pair.f k bt263.1 bt263.2).bind fun t269 => ((spec_Pair.f k bt263.1 bt263.2).bind fun t270 => (if t269 = t270 then ((impl_Digest.f k bt254.1).bind fun t271 => ((spec_Digest.f k bt254.1).bind fun t272 => (laws_FnDigests.j0 k bt254.1 bt254.2 t256 bt257.1 bt257.2 t259 bt260.1 bt260.2.1 bt260.2.2 (t271 != t272)))) else (laws_FnDigests.j0 k bt254.1 bt254.2 t256 bt257.1 bt257.2 t259 bt260.1 bt260.2.1 bt260.2.2 true))))))) else (laws_FnDigests.j0 k bt254.1 bt254.2 t256 bt257.1 bt257.2 t259 bt260.1 bt260.2.1 bt260.2.2 true))))))))))))
theorem laws_FnDigests.mono_l : ∀ k, (∀ y0 y1 y2 y3 y4 y5 y6 y7 y8 y9, LeO (laws_FnDigests.j0 k y0 y1 y2 y3 y4 y5 y6 y7 y8 y9) (laws_FnDigests.j0 (k + 1) y0 y1 y2 y3 y4 y5 y6 y7 y8 y9))
  | 0 => fun _ _ _ _ _ _ _ _ _ _ r h => by simp [laws_FnDigests.j0] at h
  | k + 1 => by
    have ih0 := laws_FnDigests.mono_l k
    · intro y0 y1 y2 y3 y4 y5 y6 y7 y8 y9
      unfold laws_FnDigests.j0
      repeat' first
      | (with_reducible exact ih0 _ _ _ _ _ _ _ _ _ _)
      | (with_reducible exact impl_Clash.mono _ _ _)
      | (with_reducible exact impl_Digest.mono _ _)
      | (with_reducible exact impl_Pair.mono _ _ _)
      | (with_reducible exact impl_Signed.mono _ _ _ _)
      | (with_reducible exact impl_Tag.mono _ _ _)
      | (with_reducible exact spec_Clash.mono _ _ _)
      | (with_reducible exact spec_Digest.mono _ _)
      | (with_reducible exact spec_DrawClash.mono _ _)
      | (with_reducible exact spec_DrawPair.mono _ _)
      | (with_reducible exact spec_DrawSigned.mono _ _)
      | (with_reducible exact spec_DrawTag.mono _ _)
      | (with_reducible exact spec_Pair.mono _ _ _)
      | (with_reducible exact spec_Signed.mono _ _ _ _)
      | (with_reducible exact spec_Tag.mono _ _ _)
      | (with_reducible exact LeO.refl _)
      | (with_reducible exact LeO.none _)
      | (with_reducible refine LeO.ite ?_ ?_)
      | (with_reducible refine LeO.bind ?_ (fun _ => ?_))
      | exact ih0 _ _ _ _ _ _ _ _ _ _
      | exact impl_Clash.mono _ _ _
      | exact impl_Digest.mono _ _
      | exact impl_Pair.mono _ _ _
      | exact impl_Signed.mono _ _ _ _
      | exact impl_Tag.mono _ _ _
      | exact spec_Clash.mono _ _ _
      | exact spec_Digest.mono _ _
      | exact spec_DrawClash.mono _ _
      | exact spec_DrawPair.mono _ _
      | exact spec_DrawSigned.mono _ _
      | exact spec_DrawTag.mono _ _
      | exact spec_Pair.mono _ _ _
      | exact spec_Signed.mono _ _ _ _
      | exact spec_Tag.mono _ _ _
      | exact LeO.none _
      | refine LeO.ite ?_ ?_
      | refine LeO.bind ?_ (fun _ => ?_)
theorem laws_FnDigests.mono : ∀ a0 k, LeO (laws_FnDigests.f k a0) (laws_FnDigests.f (k + 1) a0) := by
  intro a0 k
  have ih0 := laws_FnDigests.mono_l k
  unfold laws_FnDigests.f
  repeat' first
      | (with_reducible exact ih0 _ _ _ _ _ _ _ _ _ _)
      | (with_reducible exact impl_Clash.mono _ _ _)
      | (with_reducible exact impl_Digest.mono _ _)
      | (with_reducible exact impl_Pair.mono _ _ _)
      | (with_reducible exact impl_Signed.mono _ _ _ _)
      | (with_reducible exact impl_Tag.mono _ _ _)
      | (with_reducible exact spec_Clash.mono _ _ _)
      | (with_reducible exact spec_Digest.mono _ _)
      | (with_reducible exact spec_DrawClash.mono _ _)
      | (with_reducible exact spec_DrawPair.mono _ _)
      | (with_reducible exact spec_DrawSigned.mono _ _)
      | (with_reducible exact spec_DrawTag.mono _ _)
      | (with_reducible exact spec_Pair.mono _ _ _)
      | (with_reducible exact spec_Signed.mono _ _ _ _)
      | (with_reducible exact spec_Tag.mono _ _ _)
      | (with_reducible exact LeO.refl _)
      | (with_reducible exact LeO.none _)
      | (with_reducible refine LeO.ite ?_ ?_)
      | (with_reducible refine LeO.bind ?_ (fun _ => ?_))
      | exact ih0 _ _ _ _ _ _ _ _ _ _
      | exact impl_Clash.mono _ _ _
      | exact impl_Digest.mono _ _
      | exact impl_Pair.mono _ _ _
      | exact impl_Signed.mono _ _ _ _
      | exact impl_Tag.mono _ _ _
      | exact spec_Clash.mono _ _ _
      | exact spec_Digest.mono _ _
      | exact spec_DrawClash.mono _ _
      | exact spec_DrawPair.mono _ _
      | exact spec_DrawSigned.mono _ _
      | exact spec_DrawTag.mono _ _
      | exact spec_Pair.mono _ _ _
      | exact spec_Signed.mono _ _ _ _
      | exact spec_Tag.mono _ _ _
      | exact LeO.none _
      | refine LeO.ite ?_ ?_
      | refine LeO.bind ?_ (fun _ => ?_)
set_option maxHeartbeats 8000000 in
set_option maxRecDepth 100000 in
theorem laws_FnDigests.calls (k : Nat) (A0 : Option Addr) (c0 : Nat) (l0 : List Int) (r : Bool) (w : World) (hr0 : Kd.C (Kd.int .u8) w A0 l0.length l0) (hc0 : l0.length ≤ c0) (hT : Fmt.TabW w) (h : laws_FnDigests.f k l0 = some r) :
    Calls Tryd.prog 7 #[.slice A0 l0.length c0] w fun e w' => e = .returned (.bool r) ∧ Below w.heap.size w w' := by
  have HR0 := Aside0.mk hr0
  have HC0 := Aside0.mk hc0
  clear hr0 hc0
  have HB := Aside0.mk (Below.refl w.heap.size w)
  have HT := Aside0.mk hT
  clear hT
  have H : ((laws_big.f l0).bind fun t253 => (if t253 = true then (some true) else ((spec_DrawClash.f k l0).bind fun bt254 => ((impl_Clash.f k bt254.1 bt254.2).bind fun t256 => ((spec_DrawTag.f k l0).bind fun bt257 => ((impl_Tag.f k bt257.1 bt257.2).bind fun t259 => ((spec_DrawSigned.f k l0).bind fun bt260 => ((spec_DrawPair.f k l0).bind fun bt263 => ((spec_Clash.f k bt254.1 bt254.2).bind fun t265 => (if (t256 != t265) = true then (laws_FnDigests.j0 k bt254.1 bt254.2 t256 bt257.1 bt257.2 t259 bt260.1 bt260.2.1 bt260.2.2 true) else ((spec_Tag.f k bt257.1 bt257.2).bind fun t266 => (if t259 = t266 then ((impl_Signed.f k bt260.1 bt260.2.1 bt260.2.2).bind fun t267 => ((spec_Signed.f k bt260.1 bt260.2.1 bt260.2.2).bind fun t268 => (if (t267 != t268) = true then (laws_FnDigests.j0 k bt254.1 bt254.2 t256 bt257.1 bt257.2 t259 bt260.1 bt260.2.1 bt260.2.2 true) else ((impl_Pair.f k bt263.1 bt263.2).bind fun t269 => ((spec_Pair.f k bt263.1 bt263.2).bind fun t270 => (if t269 = t270 then ((impl_Digest.f k bt254.1).bind fun t271 => ((spec_Digest.f k bt254.1).bind fun t272 => (laws_FnDigests.j0 k bt254.1 bt254.2 t256 bt257.1 bt257.2 t259 bt260.1 bt260.2.1 bt260.2.2 (t271 != t272)))) else (laws_FnDigests.j0 k bt254.1 bt254.2 t256 bt257.1 bt257.2 t259 bt260.1 bt260.2.1 bt260.2.2 true))))))) else (laws_FnDigests.j0 k bt254.1 bt254.2 t256 bt257.1 bt257.2 t259 bt260.1 bt260.2.1 bt260.2.2 true))))))))))))) = some r := h
  clear h
  replace H := Option.bind_eq_some_iff.mp H
  obtain ⟨t253, A20, H⟩ := H
  replace H : (if t253 = true then (some true) else ((spec_DrawClash.f k l0).bind fun bt254 => ((impl_Clash.f k bt254.1 bt254.2).bind fun t256 => ((spec_DrawTag.f k l0).bind fun bt257 => ((impl_Tag.f k bt257.1 bt257.2).bind fun t259 => ((spec_DrawSigned.f k l0).bind fun bt260 => ((spec_DrawPair.f k l0).bind fun bt263 => ((spec_Clash.f k bt254.1 bt254.2).bind fun t265 => (if (t256 != t265) = true then (laws_FnDigests.j0 k bt254.1 bt254.2 t256 bt257.1 bt257.2 t259 bt260.1 bt260.2.1 bt260.2.2 true) else ((spec_Tag.f k bt257.1 bt257.2).bind fun t266 => (if t259 = t266 then ((impl_Signed.f k bt260.1 bt260.2.1 bt260.2.2).bind fun t267 => ((spec_Signed.f k bt260.1 bt260.2.1 bt260.2.2).bind fun t268 => (if (t267 != t268) = true then (laws_FnDigests.j0 k bt254.1 bt254.2 t256 bt257.1 bt257.2 t259 bt260.1 bt260.2.1 bt260.2.2 true) else ((impl_Pair.f k bt263.1 bt263.2).bind fun t269 => ((spec_Pair.f k bt263.1 bt263.2).bind fun t270 => (if t269 = t270 then ((impl_Digest.f k bt254.1).bind fun t271 => ((spec_Digest.f k bt254.1).bind fun t272 => (laws_FnDigests.j0 k bt254.1 bt254.2 t256 bt257.1 bt257.2 t259 bt260.1 bt260.2.1 bt260.2.2 (t271 != t272)))) else (laws_FnDigests.j0 k bt254.1 bt254.2 t256 bt257.1 bt257.2 t259 bt260.1 bt260.2.1 bt260.2.2 true))))))) else (laws_FnDigests.j0 k bt254.1 bt254.2 t256 bt257.1 bt257.2 t259 bt260.1 bt260.2.1 bt260.2.2 true)))))))))))) = some r := H
  have A2 := Aside0.mk A20
  clear A20
  by_cases c3 : t253 = true
  · subst c3
    have H1 : (some true) = some r := by rw [if_pos rfl] at H; exact H
    clear H
    have H := H1
    clear H1
    obtain rfl := Option.some.inj H
    go_enter Tryd.func7, Tryd.ntmps7
    go_wp2_with (first | ((with_reducible refine gate_callee (f := 18) rfl ?_); refine goesL_ (some 15) rfl rfl Tryd.func18 (by kernel_rfl) rfl #[.slice A0 l0.length c0] rfl (by (try simp only [List.map_toArray, List.map_cons, List.map_nil]); first | done | rfl | (simp only [List.length_drop, List.length_take]; rfl)) ?_; (with_reducible refine (laws_big.calls _ _ l0 true _ ?side1 ?side2 A2.out).mono ?_); (case side1 => repeat (first | exact HR0.out | (with_reducible refine Kd.C_alloc ?_ _) | (with_reducible refine Kd.C_drewN ?_ _) | (with_reducible refine Kd.C_drew ?_))); (case side2 => exact HC0.out); rintro e w' ⟨rfl, ⟨nd, rfl⟩⟩; refine ⟨_, rfl, ?_⟩))
    go_ret
    exact ⟨by first | rfl | (simp [errW_none, errW_some] <;> rfl) | (simp [*, errW_none, errW_some] <;> rfl), by repeat (first | (with_reducible first | exact HB.out | apply below_alloc | apply pw_below_drewN | apply below_drew1) | exact HB.out)⟩
  · replace c3 := Bool.eq_false_iff.mpr c3
    subst c3
    have H1 : ((spec_DrawClash.f k l0).bind fun bt254 => ((impl_Clash.f k bt254.1 bt254.2).bind fun t256 => ((spec_DrawTag.f k l0).bind fun bt257 => ((impl_Tag.f k bt257.1 bt257.2).bind fun t259 => ((spec_DrawSigned.f k l0).bind fun bt260 => ((spec_DrawPair.f k l0).bind fun bt263 => ((spec_Clash.f k bt254.1 bt254.2).bind fun t265 => (if (t256 != t265) = true then (laws_FnDigests.j0 k bt254.1 bt254.2 t256 bt257.1 bt257.2 t259 bt260.1 bt260.2.1 bt260.2.2 true) else ((spec_Tag.f k bt257.1 bt257.2).bind fun t266 => (if t259 = t266 then ((impl_Signed.f k bt260.1 bt260.2.1 bt260.2.2).bind fun t267 => ((spec_Signed.f k bt260.1 bt260.2.1 bt260.2.2).bind fun t268 => (if (t267 != t268) = true then (laws_FnDigests.j0 k bt254.1 bt254.2 t256 bt257.1 bt257.2 t259 bt260.1 bt260.2.1 bt260.2.2 true) else ((impl_Pair.f k bt263.1 bt263.2).bind fun t269 => ((spec_Pair.f k bt263.1 bt263.2).bind fun t270 => (if t269 = t270 then ((impl_Digest.f k bt254.1).bind fun t271 => ((spec_Digest.f k bt254.1).bind fun t272 => (laws_FnDigests.j0 k bt254.1 bt254.2 t256 bt257.1 bt257.2 t259 bt260.1 bt260.2.1 bt260.2.2 (t271 != t272)))) else (laws_FnDigests.j0 k bt254.1 bt254.2 t256 bt257.1 bt257.2 t259 bt260.1 bt260.2.1 bt260.2.2 true))))))) else (laws_FnDigests.j0 k bt254.1 bt254.2 t256 bt257.1 bt257.2 t259 bt260.1 bt260.2.1 bt260.2.2 true))))))))))) = some r := by rw [if_neg (show ¬ (false = true) by decide)] at H; exact H
    clear H
    have H := H1
    clear H1
    replace H := Option.bind_eq_some_iff.mp H
    obtain ⟨⟨t254, t255⟩, A40, H⟩ := H
    replace H : ((impl_Clash.f k t254 t255).bind fun t256 => ((spec_DrawTag.f k l0).bind fun bt257 => ((impl_Tag.f k bt257.1 bt257.2).bind fun t259 => ((spec_DrawSigned.f k l0).bind fun bt260 => ((spec_DrawPair.f k l0).bind fun bt263 => ((spec_Clash.f k t254 t255).bind fun t265 => (if (t256 != t265) = true then (laws_FnDigests.j0 k t254 t255 t256 bt257.1 bt257.2 t259 bt260.1 bt260.2.1 bt260.2.2 true) else ((spec_Tag.f k bt257.1 bt257.2).bind fun t266 => (if t259 = t266 then ((impl_Signed.f k bt260.1 bt260.2.1 bt260.2.2).bind fun t267 => ((spec_Signed.f k bt260.1 bt260.2.1 bt260.2.2).bind fun t268 => (if (t267 != t268) = true then (laws_FnDigests.j0 k t254 t255 t256 bt257.1 bt257.2 t259 bt260.1 bt260.2.1 bt260.2.2 true) else ((impl_Pair.f k bt263.1 bt263.2).bind fun t269 => ((spec_Pair.f k bt263.1 bt263.2).bind fun t270 => (if t269 = t270 then ((impl_Digest.f k t254).bind fun t271 => ((spec_Digest.f k t254).bind fun t272 => (laws_FnDigests.j0 k t254 t255 t256 bt257.1 bt257.2 t259 bt260.1 bt260.2.1 bt260.2.2 (t271 != t272)))) else (laws_FnDigests.j0 k t254 t255 t256 bt257.1 bt257.2 t259 bt260.1 bt260.2.1 bt260.2.2 true))))))) else (laws_FnDigests.j0 k t254 t255 t256 bt257.1 bt257.2 t259 bt260.1 bt260.2.1 bt260.2.2 true)))))))))) = some r := H
    have A4 := Aside0.mk A40
    clear A40
    replace H := Option.bind_eq_some_iff.mp H
    obtain ⟨t256, A50, H⟩ := H
    replace H : ((spec_DrawTag.f k l0).bind fun bt257 => ((impl_Tag.f k bt257.1 bt257.2).bind fun t259 => ((spec_DrawSigned.f k l0).bind fun bt260 => ((spec_DrawPair.f k l0).bind fun bt263 => ((spec_Clash.f k t254 t255).bind fun t265 => (if (t256 != t265) = true then (laws_FnDigests.j0 k t254 t255 t256 bt257.1 bt257.2 t259 bt260.1 bt260.2.1 bt260.2.2 true) else ((spec_Tag.f k bt257.1 bt257.2).bind fun t266 => (if t259 = t266 then ((impl_Signed.f k bt260.1 bt260.2.1 bt260.2.2).bind fun t267 => ((spec_Signed.f k bt260.1 bt260.2.1 bt260.2.2).bind fun t268 => (if (t267 != t268) = true then (laws_FnDigests.j0 k t254 t255 t256 bt257.1 bt257.2 t259 bt260.1 bt260.2.1 bt260.2.2 true) else ((impl_Pair.f k bt263.1 bt263.2).bind fun t269 => ((spec_Pair.f k bt263.1 bt263.2).bind fun t270 => (if t269 = t270 then ((impl_Digest.f k t254).bind fun t271 => ((spec_Digest.f k t254).bind fun t272 => (laws_FnDigests.j0 k t254 t255 t256 bt257.1 bt257.2 t259 bt260.1 bt260.2.1 bt260.2.2 (t271 != t272)))) else (laws_FnDigests.j0 k t254 t255 t256 bt257.1 bt257.2 t259 bt260.1 bt260.2.1 bt260.2.2 true))))))) else (laws_FnDigests.j0 k t254 t255 t256 bt257.1 bt257.2 t259 bt260.1 bt260.2.1 bt260.2.2 true))))))))) = some r := H
    have A5 := Aside0.mk A50
    clear A50
    replace H := Option.bind_eq_some_iff.mp H
    obtain ⟨⟨t257, t258⟩, A60, H⟩ := H
    replace H : ((impl_Tag.f k t257 t258).bind fun t259 => ((spec_DrawSigned.f k l0).bind fun bt260 => ((spec_DrawPair.f k l0).bind fun bt263 => ((spec_Clash.f k t254 t255).bind fun t265 => (if (t256 != t265) = true then (laws_FnDigests.j0 k t254 t255 t256 t257 t258 t259 bt260.1 bt260.2.1 bt260.2.2 true) else ((spec_Tag.f k t257 t258).bind fun t266 => (if t259 = t266 then ((impl_Signed.f k bt260.1 bt260.2.1 bt260.2.2).bind fun t267 => ((spec_Signed.f k bt260.1 bt260.2.1 bt260.2.2).bind fun t268 => (if (t267 != t268) = true then (laws_FnDigests.j0 k t254 t255 t256 t257 t258 t259 bt260.1 bt260.2.1 bt260.2.2 true) else ((impl_Pair.f k bt263.1 bt263.2).bind fun t269 => ((spec_Pair.f k bt263.1 bt263.2).bind fun t270 => (if t269 = t270 then ((impl_Digest.f k t254).bind fun t271 => ((spec_Digest.f k t254).bind fun t272 => (laws_FnDigests.j0 k t254 t255 t256 t257 t258 t259 bt260.1 bt260.2.1 bt260.2.2 (t271 != t272)))) else (laws_FnDigests.j0 k t254 t255 t256 t257 t258 t259 bt260.1 bt260.2.1 bt260.2.2 true))))))) else (laws_FnDigests.j0 k t254 t255 t256 t257 t258 t259 bt260.1 bt260.2.1 bt260.2.2 true)))))))) = some r := H
    have A6 := Aside0.mk A60
    clear A60
    replace H := Option.bind_eq_some_iff.mp H
    obtain ⟨t259, A70, H⟩ := H
    replace H : ((spec_DrawSigned.f k l0).bind fun bt260 => ((spec_DrawPair.f k l0).bind fun bt263 => ((spec_Clash.f k t254 t255).bind fun t265 => (if (t256 != t265) = true then (laws_FnDigests.j0 k t254 t255 t256 t257 t258 t259 bt260.1 bt260.2.1 bt260.2.2 true) else ((spec_Tag.f k t257 t258).bind fun t266 => (if t259 = t266 then ((impl_Signed.f k bt260.1 bt260.2.1 bt260.2.2).bind fun t267 => ((spec_Signed.f k bt260.1 bt260.2.1 bt260.2.2).bind fun t268 => (if (t267 != t268) = true then (laws_FnDigests.j0 k t254 t255 t256 t257 t258 t259 bt260.1 bt260.2.1 bt260.2.2 true) else ((impl_Pair.f k bt263.1 bt263.2).bind fun t269 => ((spec_Pair.f k bt263.1 bt263.2).bind fun t270 => (if t269 = t270 then ((impl_Digest.f k t254).bind fun t271 => ((spec_Digest.f k t254).bind fun t272 => (laws_FnDigests.j0 k t254 t255 t256 t257 t258 t259 bt260.1 bt260.2.1 bt260.2.2 (t271 != t272)))) else (laws_FnDigests.j0 k t254 t255 t256 t257 t258 t259 bt260.1 bt260.2.1 bt260.2.2 true))))))) else (laws_FnDigests.j0 k t254 t255 t256 t257 t258 t259 bt260.1 bt260.2.1 bt260.2.2 true))))))) = some r := H
    have A7 := Aside0.mk A70
    clear A70
    replace H := Option.bind_eq_some_iff.mp H
    obtain ⟨⟨t260, t261, t262⟩, A80, H⟩ := H
    replace H : ((spec_DrawPair.f k l0).bind fun bt263 => ((spec_Clash.f k t254 t255).bind fun t265 => (if (t256 != t265) = true then (laws_FnDigests.j0 k t254 t255 t256 t257 t258 t259 t260 t261 t262 true) else ((spec_Tag.f k t257 t258).bind fun t266 => (if t259 = t266 then ((impl_Signed.f k t260 t261 t262).bind fun t267 => ((spec_Signed.f k t260 t261 t262).bind fun t268 => (if (t267 != t268) = true then (laws_FnDigests.j0 k t254 t255 t256 t257 t258 t259 t260 t261 t262 true) else ((impl_Pair.f k bt263.1 bt263.2).bind fun t269 => ((spec_Pair.f k bt263.1 bt263.2).bind fun t270 => (if t269 = t270 then ((impl_Digest.f k t254).bind fun t271 => ((spec_Digest.f k t254).bind fun t272 => (laws_FnDigests.j0 k t254 t255 t256 t257 t258 t259 t260 t261 t262 (t271 != t272)))) else (laws_FnDigests.j0 k t254 t255 t256 t257 t258 t259 t260 t261 t262 true))))))) else (laws_FnDigests.j0 k t254 t255 t256 t257 t258 t259 t260 t261 t262 true)))))) = some r := H
    have A8 := Aside0.mk A80
    clear A80
    replace H := Option.bind_eq_some_iff.mp H
    obtain ⟨⟨t263, t264⟩, A90, H⟩ := H
    replace H : ((spec_Clash.f k t254 t255).bind fun t265 => (if (t256 != t265) = true then (laws_FnDigests.j0 k t254 t255 t256 t257 t258 t259 t260 t261 t262 true) else ((spec_Tag.f k t257 t258).bind fun t266 => (if t259 = t266 then ((impl_Signed.f k t260 t261 t262).bind fun t267 => ((spec_Signed.f k t260 t261 t262).bind fun t268 => (if (t267 != t268) = true then (laws_FnDigests.j0 k t254 t255 t256 t257 t258 t259 t260 t261 t262 true) else ((impl_Pair.f k t263 t264).bind fun t269 => ((spec_Pair.f k t263 t264).bind fun t270 => (if t269 = t270 then ((impl_Digest.f k t254).bind fun t271 => ((spec_Digest.f k t254).bind fun t272 => (laws_FnDigests.j0 k t254 t255 t256 t257 t258 t259 t260 t261 t262 (t271 != t272)))) else (laws_FnDigests.j0 k t254 t255 t256 t257 t258 t259 t260 t261 t262 true))))))) else (laws_FnDigests.j0 k t254 t255 t256 t257 t258 t259 t260 t261 t262 true))))) = some r := H
    have A9 := Aside0.mk A90
    clear A90
    have HC10 := Aside0.mk H
    clear H
    go_enter Tryd.func7, Tryd.ntmps7
    go_upto_region 9 with (first | ((with_reducible refine gate_callee (f := 18) rfl ?_); refine goesL_ (some 15) rfl rfl Tryd.func18 (by kernel_rfl) rfl #[.slice A0 l0.length c0] rfl (by (try simp only [List.map_toArray, List.map_cons, List.map_nil]); first | done | rfl | (simp only [List.length_drop, List.length_take]; rfl)) ?_; (with_reducible refine (laws_big.calls _ _ l0 false _ ?side1 ?side2 A2.out).mono ?_); (case side1 => repeat (first | exact HR0.out | (with_reducible refine Kd.C_alloc ?_ _) | (with_reducible refine Kd.C_drewN ?_ _) | (with_reducible refine Kd.C_drew ?_))); (case side2 => exact HC0.out); rintro e w' ⟨rfl, ⟨nd, rfl⟩⟩; refine ⟨_, rfl, ?_⟩) | ((with_reducible refine gate_callee (f := 19) rfl ?_); refine goesL_ (some 18) rfl rfl Tryd.func19 (by kernel_rfl) rfl #[.slice A0 l0.length c0] rfl (by (try simp only [List.map_toArray, List.map_cons, List.map_nil]); first | done | rfl | (simp only [List.length_drop, List.length_take]; rfl)) ?_; (with_reducible refine (spec_DrawClash.calls k _ _ l0 t254 t255 _ ?side1 ?side2 A4.out).mono ?_); (case side1 => repeat (first | exact HR0.out | (with_reducible refine Kd.C_alloc ?_ _) | (with_reducible refine Kd.C_drewN ?_ _) | (with_reducible refine Kd.C_drew ?_))); (case side2 => exact HC0.out); rintro e w11 ⟨rfl, hb⟩; refine ⟨_, rfl, ?_⟩; have n0_ := Aside0.mk (below_step (by repeat (first | (with_reducible first | exact HB.out | apply below_alloc | apply pw_below_drewN | apply below_drew1) | exact HB.out)) hb); clear HB; have HB := n0_; clear n0_; (try clear hb); (try clear hb2); (try clear hk); (try clear hi)) | ((with_reducible refine gate_callee (f := 20) rfl ?_); refine goesL_ (some 23) rfl rfl Tryd.func20 (by kernel_rfl) rfl #[.string t254, .string t255] rfl (by (try simp only [List.map_toArray, List.map_cons, List.map_nil]); first | done | rfl | (simp only [List.length_drop, List.length_take]; rfl)) ?_; (with_reducible refine (impl_Clash.calls k t254 t255 t256 _ A5.out).mono ?_); rintro e w' ⟨rfl, ⟨nd, rfl⟩⟩; refine ⟨_, rfl, ?_⟩) | ((with_reducible refine gate_callee (f := 21) rfl ?_); refine goesL_ (some 26) rfl rfl Tryd.func21 (by kernel_rfl) rfl #[.slice A0 l0.length c0] rfl (by (try simp only [List.map_toArray, List.map_cons, List.map_nil]); first | done | rfl | (simp only [List.length_drop, List.length_take]; rfl)) ?_; (with_reducible refine (spec_DrawTag.calls k _ _ l0 t257 t258 _ ?side1 ?side2 A6.out).mono ?_); (case side1 => repeat (first | exact (Kd.C_below HR0.out (by repeat (first | (with_reducible first | exact HB.out | apply below_alloc | apply pw_below_drewN | apply below_drew1) | exact HB.out))) | (with_reducible refine Kd.C_alloc ?_ _) | (with_reducible refine Kd.C_drewN ?_ _) | (with_reducible refine Kd.C_drew ?_))); (case side2 => exact HC0.out); rintro e w12 ⟨rfl, hb⟩; refine ⟨_, rfl, ?_⟩; have n0_ := Aside0.mk (below_step (by repeat (first | (with_reducible first | exact HB.out | apply below_alloc | apply pw_below_drewN | apply below_drew1) | exact HB.out)) hb); clear HB; have HB := n0_; clear n0_; (try clear hb); (try clear hb2); (try clear hk); (try clear hi)) | ((with_reducible refine gate_callee (f := 13) rfl ?_); refine goesL_ (some 31) rfl rfl Tryd.func13 (by kernel_rfl) rfl #[.int .i64 t257, .string t258] rfl (by (try simp only [List.map_toArray, List.map_cons, List.map_nil]); first | done | rfl | (simp only [List.length_drop, List.length_take]; rfl)) ?_; (with_reducible refine (impl_Tag.calls k t257 t258 t259 _ (Fmt.TabW.below HT.out (by repeat (first | (with_reducible first | exact HB.out | apply below_alloc | apply pw_below_drewN | apply below_drew1) | exact HB.out))) A7.out).mono ?_); rintro e w13 ⟨rfl, hb⟩; refine ⟨_, rfl, ?_⟩; have n0_ := Aside0.mk (below_step (by repeat (first | (with_reducible first | exact HB.out | apply below_alloc | apply pw_below_drewN | apply below_drew1) | exact HB.out)) hb); clear HB; have HB := n0_; clear n0_; (try clear hb); (try clear hb2); (try clear hk); (try clear hi)) | ((with_reducible refine gate_callee (f := 22) rfl ?_); refine goesL_ (some 34) rfl rfl Tryd.func22 (by kernel_rfl) rfl #[.slice A0 l0.length c0] rfl (by (try simp only [List.map_toArray, List.map_cons, List.map_nil]); first | done | rfl | (simp only [List.length_drop, List.length_take]; rfl)) ?_; (with_reducible refine (spec_DrawSigned.calls k _ _ l0 t260 t261 t262 _ ?side1 ?side2 A8.out).mono ?_); (case side1 => repeat (first | exact (Kd.C_below HR0.out HB.out) | (with_reducible refine Kd.C_alloc ?_ _) | (with_reducible refine Kd.C_drewN ?_ _) | (with_reducible refine Kd.C_drew ?_))); (case side2 => exact HC0.out); rintro e w14 ⟨rfl, hb⟩; refine ⟨_, rfl, ?_⟩; have n0_ := Aside0.mk (below_step (by repeat (first | (with_reducible first | exact HB.out | apply below_alloc | apply pw_below_drewN | apply below_drew1) | exact HB.out)) hb); clear HB; have HB := n0_; clear n0_; (try clear hb); (try clear hb2); (try clear hk); (try clear hi)) | ((with_reducible refine gate_callee (f := 23) rfl ?_); refine goesL_ (some 40) rfl rfl Tryd.func23 (by kernel_rfl) rfl #[.slice A0 l0.length c0] rfl (by (try simp only [List.map_toArray, List.map_cons, List.map_nil]); first | done | rfl | (simp only [List.length_drop, List.length_take]; rfl)) ?_; (with_reducible refine (spec_DrawPair.calls k _ _ l0 t263 t264 _ ?side1 ?side2 A9.out).mono ?_); (case side1 => repeat (first | exact (Kd.C_below HR0.out HB.out) | (with_reducible refine Kd.C_alloc ?_ _) | (with_reducible refine Kd.C_drewN ?_ _) | (with_reducible refine Kd.C_drew ?_))); (case side2 => exact HC0.out); rintro e w15 ⟨rfl, hb⟩; refine ⟨_, rfl, ?_⟩; have n0_ := Aside0.mk (below_step (by repeat (first | (with_reducible first | exact HB.out | apply below_alloc | apply pw_below_drewN | apply below_drew1) | exact HB.out)) hb); clear HB; have HB := n0_; clear n0_; (try clear hb); (try clear hb2); (try clear hk); (try clear hi)))
    (try simp only [Act.put, List.setIfInBounds_toArray, List.set_cons_zero, List.set_cons_succ])
    go_cut [81] (fun v81 wc => ∃ (kq : Nat) (x81_9 : Bool), v81 = .bool x81_9 ∧ Aside0 (laws_FnDigests.j0 kq t254 t255 t256 t257 t258 t259 t260 t261 t262 x81_9 = some r) ∧ Aside0 (kq ≤ k) ∧ Aside0 (Below w.heap.size w wc))
    case first =>
      have H := HC10.out
      clear HC10
      replace H := Option.bind_eq_some_iff.mp H
      obtain ⟨t265, A160, H⟩ := H
      replace H : (if (t256 != t265) = true then (laws_FnDigests.j0 k t254 t255 t256 t257 t258 t259 t260 t261 t262 true) else ((spec_Tag.f k t257 t258).bind fun t266 => (if t259 = t266 then ((impl_Signed.f k t260 t261 t262).bind fun t267 => ((spec_Signed.f k t260 t261 t262).bind fun t268 => (if (t267 != t268) = true then (laws_FnDigests.j0 k t254 t255 t256 t257 t258 t259 t260 t261 t262 true) else ((impl_Pair.f k t263 t264).bind fun t269 => ((spec_Pair.f k t263 t264).bind fun t270 => (if t269 = t270 then ((impl_Digest.f k t254).bind fun t271 => ((spec_Digest.f k t254).bind fun t272 => (laws_FnDigests.j0 k t254 t255 t256 t257 t258 t259 t260 t261 t262 (t271 != t272)))) else (laws_FnDigests.j0 k t254 t255 t256 t257 t258 t259 t260 t261 t262 true))))))) else (laws_FnDigests.j0 k t254 t255 t256 t257 t258 t259 t260 t261 t262 true)))) = some r := H
      have A16 := Aside0.mk A160
      clear A160
      by_cases c17 : (t256 != t265) = true
      · rw [if_pos c17] at H
        have c17b0 : (t256 != t265) = true := c17
        (try (have c17b1 : decide (t256 = t265) = false := by simpa using c17))
        (try (have c17b2 : (t256 == t265) = false := by simpa using c17))
        (try (have c17b3 : ¬ (t256 = t265) := by simpa using c17))
        clear c17
        (first | rw [c17b0] | (simp only [i64_w, i32_w]; rw [c17b0]) | skip)
        have H' := Aside0.mk H
        clear H
        go_wp2_with (first | ((with_reducible refine gate_callee (f := 24) rfl ?_); refine goesL_ (some 46) rfl rfl Tryd.func24 (by kernel_rfl) rfl #[.string t254, .string t255] rfl (by (try simp only [List.map_toArray, List.map_cons, List.map_nil]); first | done | rfl | (simp only [List.length_drop, List.length_take]; rfl)) ?_; (with_reducible refine (spec_Clash.calls k t254 t255 t265 _ A16.out).mono ?_); rintro e w' ⟨rfl, ⟨nd, rfl⟩⟩; refine ⟨_, rfl, ?_⟩))
        go_meet
        case rel => exact ⟨_, (true), (by first | rfl | (simp; done) | (simp [*]; done)), H', ⟨by first | omega | exact Nat.le_refl _⟩, ⟨by repeat (first | (with_reducible first | exact HB.out | apply below_alloc | apply pw_below_drewN | apply below_drew1) | exact HB.out)⟩⟩
      · rw [if_neg c17] at H
        have c17b0 : (t256 != t265) = false := by simpa using c17
        (try (have c17b1 : decide (t256 = t265) = true := by simpa using c17))
        (try (have c17b2 : (t256 == t265) = true := by simpa using c17))
        clear c17
        (first | rw [c17b0] | (simp only [i64_w, i32_w]; rw [c17b0]) | skip)
        replace H := Option.bind_eq_some_iff.mp H
        obtain ⟨t266, A180, H⟩ := H
        replace H : (if t259 = t266 then ((impl_Signed.f k t260 t261 t262).bind fun t267 => ((spec_Signed.f k t260 t261 t262).bind fun t268 => (if (t267 != t268) = true then (laws_FnDigests.j0 k t254 t255 t256 t257 t258 t259 t260 t261 t262 true) else ((impl_Pair.f k t263 t264).bind fun t269 => ((spec_Pair.f k t263 t264).bind fun t270 => (if t269 = t270 then ((impl_Digest.f k t254).bind fun t271 => ((spec_Digest.f k t254).bind fun t272 => (laws_FnDigests.j0 k t254 t255 t256 t257 t258 t259 t260 t261 t262 (t271 != t272)))) else (laws_FnDigests.j0 k t254 t255 t256 t257 t258 t259 t260 t261 t262 true))))))) else (laws_FnDigests.j0 k t254 t255 t256 t257 t258 t259 t260 t261 t262 true)) = some r := H
        have A18 := Aside0.mk A180
        clear A180
        by_cases c19 : t259 = t266
        · rw [if_pos c19] at H
          have c19b0 : (t259 == t266) = true := beq_iff_eq.mpr c19
          have c19b1 : (t259 != t266) = false := bne_eq_false_iff_eq.mpr c19
          clear c19
          replace H := Option.bind_eq_some_iff.mp H
          obtain ⟨t267, A200, H⟩ := H
          replace H : ((spec_Signed.f k t260 t261 t262).bind fun t268 => (if (t267 != t268) = true then (laws_FnDigests.j0 k t254 t255 t256 t257 t258 t259 t260 t261 t262 true) else ((impl_Pair.f k t263 t264).bind fun t269 => ((spec_Pair.f k t263 t264).bind fun t270 => (if t269 = t270 then ((impl_Digest.f k t254).bind fun t271 => ((spec_Digest.f k t254).bind fun t272 => (laws_FnDigests.j0 k t254 t255 t256 t257 t258 t259 t260 t261 t262 (t271 != t272)))) else (laws_FnDigests.j0 k t254 t255 t256 t257 t258 t259 t260 t261 t262 true)))))) = some r := H
          have A20 := Aside0.mk A200
          clear A200
          replace H := Option.bind_eq_some_iff.mp H
          obtain ⟨t268, A210, H⟩ := H
          replace H : (if (t267 != t268) = true then (laws_FnDigests.j0 k t254 t255 t256 t257 t258 t259 t260 t261 t262 true) else ((impl_Pair.f k t263 t264).bind fun t269 => ((spec_Pair.f k t263 t264).bind fun t270 => (if t269 = t270 then ((impl_Digest.f k t254).bind fun t271 => ((spec_Digest.f k t254).bind fun t272 => (laws_FnDigests.j0 k t254 t255 t256 t257 t258 t259 t260 t261 t262 (t271 != t272)))) else (laws_FnDigests.j0 k t254 t255 t256 t257 t258 t259 t260 t261 t262 true))))) = some r := H
          have A21 := Aside0.mk A210
          clear A210
          by_cases c22 : (t267 != t268) = true
          · rw [if_pos c22] at H
            have c22b0 : (t267 != t268) = true := c22
            (try (have c22b1 : decide (t267 = t268) = false := by simpa using c22))
            (try (have c22b2 : (t267 == t268) = false := by simpa using c22))
            (try (have c22b3 : ¬ (t267 = t268) := by simpa using c22))
            clear c22
            have H' := Aside0.mk H
            clear H
            go_wp2_with (first | ((with_reducible refine gate_callee (f := 24) rfl ?_); refine goesL_ (some 46) rfl rfl Tryd.func24 (by kernel_rfl) rfl #[.string t254, .string t255] rfl (by (try simp only [List.map_toArray, List.map_cons, List.map_nil]); first | done | rfl | (simp only [List.length_drop, List.length_take]; rfl)) ?_; (with_reducible refine (spec_Clash.calls k t254 t255 t265 _ A16.out).mono ?_); rintro e w' ⟨rfl, ⟨nd, rfl⟩⟩; refine ⟨_, rfl, ?_⟩) | (go_at_call 12; (with_reducible refine (spec_Tag.calls k t257 t258 t266 _ A18.out).mono ?_); rintro e w23 ⟨rfl, hb⟩; have n0_ := Aside0.mk (below_step (by repeat (first | (with_reducible first | exact HB.out | apply below_alloc | apply pw_below_drewN | apply below_drew1) | exact HB.out)) hb); clear HB; have HB := n0_; clear n0_; (try clear hb); (try clear hb2); (try clear hk); (try clear hi)) | (go_at_call 15; (with_reducible refine (impl_Signed.calls k t260 t261 t262 t267 _ (Fmt.TabW.below HT.out (by repeat (first | (with_reducible first | exact HB.out | apply below_alloc | apply pw_below_drewN | apply below_drew1) | exact HB.out))) A20.out).mono ?_); rintro e w24 ⟨rfl, hb⟩; have n0_ := Aside0.mk (below_step (by repeat (first | (with_reducible first | exact HB.out | apply below_alloc | apply pw_below_drewN | apply below_drew1) | exact HB.out)) hb); clear HB; have HB := n0_; clear n0_; (try clear hb); (try clear hb2); (try clear hk); (try clear hi)) | (go_at_call 14; (with_reducible refine (spec_Signed.calls k t260 t261 t262 t268 _ A21.out).mono ?_); rintro e w25 ⟨rfl, hb⟩; have n0_ := Aside0.mk (below_step (by repeat (first | (with_reducible first | exact HB.out | apply below_alloc | apply pw_below_drewN | apply below_drew1) | exact HB.out)) hb); clear HB; have HB := n0_; clear n0_; (try clear hb); (try clear hb2); (try clear hk); (try clear hi)))
            go_meet
            case rel => exact ⟨_, (true), (by first | rfl | (simp; done) | (simp [*]; done)), H', ⟨by first | omega | exact Nat.le_refl _⟩, ⟨by repeat (first | (with_reducible first | exact HB.out | apply below_alloc | apply pw_below_drewN | apply below_drew1) | exact HB.out)⟩⟩
          · rw [if_neg c22] at H
            have c22b0 : (t267 != t268) = false := by simpa using c22
            (try (have c22b1 : decide (t267 = t268) = true := by simpa using c22))
            (try (have c22b2 : (t267 == t268) = true := by simpa using c22))
            clear c22
            replace H := Option.bind_eq_some_iff.mp H
            obtain ⟨t269, A260, H⟩ := H
            replace H : ((spec_Pair.f k t263 t264).bind fun t270 => (if t269 = t270 then ((impl_Digest.f k t254).bind fun t271 => ((spec_Digest.f k t254).bind fun t272 => (laws_FnDigests.j0 k t254 t255 t256 t257 t258 t259 t260 t261 t262 (t271 != t272)))) else (laws_FnDigests.j0 k t254 t255 t256 t257 t258 t259 t260 t261 t262 true))) = some r := H
            have A26 := Aside0.mk A260
            clear A260
            replace H := Option.bind_eq_some_iff.mp H
            obtain ⟨t270, A270, H⟩ := H
            replace H : (if t269 = t270 then ((impl_Digest.f k t254).bind fun t271 => ((spec_Digest.f k t254).bind fun t272 => (laws_FnDigests.j0 k t254 t255 t256 t257 t258 t259 t260 t261 t262 (t271 != t272)))) else (laws_FnDigests.j0 k t254 t255 t256 t257 t258 t259 t260 t261 t262 true)) = some r := H
            have A27 := Aside0.mk A270
            clear A270
            by_cases c28 : t269 = t270
            · rw [if_pos c28] at H
              have c28b0 : (t269 == t270) = true := beq_iff_eq.mpr c28
              have c28b1 : (t269 != t270) = false := bne_eq_false_iff_eq.mpr c28
              clear c28
              replace H := Option.bind_eq_some_iff.mp H
              obtain ⟨t271, A290, H⟩ := H
              replace H : ((spec_Digest.f k t254).bind fun t272 => (laws_FnDigests.j0 k t254 t255 t256 t257 t258 t259 t260 t261 t262 (t271 != t272))) = some r := H
              have A29 := Aside0.mk A290
              clear A290
              replace H := Option.bind_eq_some_iff.mp H
              obtain ⟨t272, A300, H⟩ := H
              replace H : (laws_FnDigests.j0 k t254 t255 t256 t257 t258 t259 t260 t261 t262 (t271 != t272)) = some r := H
              have A30 := Aside0.mk A300
              clear A300
              have H' := Aside0.mk H
              clear H
              go_wp2_with (first | ((with_reducible refine gate_callee (f := 24) rfl ?_); refine goesL_ (some 46) rfl rfl Tryd.func24 (by kernel_rfl) rfl #[.string t254, .string t255] rfl (by (try simp only [List.map_toArray, List.map_cons, List.map_nil]); first | done | rfl | (simp only [List.length_drop, List.length_take]; rfl)) ?_; (with_reducible refine (spec_Clash.calls k t254 t255 t265 _ A16.out).mono ?_); rintro e w' ⟨rfl, ⟨nd, rfl⟩⟩; refine ⟨_, rfl, ?_⟩) | (go_at_call 12; (with_reducible refine (spec_Tag.calls k t257 t258 t266 _ A18.out).mono ?_); rintro e w31 ⟨rfl, hb⟩; have n0_ := Aside0.mk (below_step (by repeat (first | (with_reducible first | exact HB.out | apply below_alloc | apply pw_below_drewN | apply below_drew1) | exact HB.out)) hb); clear HB; have HB := n0_; clear n0_; (try clear hb); (try clear hb2); (try clear hk); (try clear hi)) | (go_at_call 15; (with_reducible refine (impl_Signed.calls k t260 t261 t262 t267 _ (Fmt.TabW.below HT.out (by repeat (first | (with_reducible first | exact HB.out | apply below_alloc | apply pw_below_drewN | apply below_drew1) | exact HB.out))) A20.out).mono ?_); rintro e w32 ⟨rfl, hb⟩; have n0_ := Aside0.mk (below_step (by repeat (first | (with_reducible first | exact HB.out | apply below_alloc | apply pw_below_drewN | apply below_drew1) | exact HB.out)) hb); clear HB; have HB := n0_; clear n0_; (try clear hb); (try clear hb2); (try clear hk); (try clear hi)) | (go_at_call 14; (with_reducible refine (spec_Signed.calls k t260 t261 t262 t268 _ A21.out).mono ?_); rintro e w33 ⟨rfl, hb⟩; have n0_ := Aside0.mk (below_step (by repeat (first | (with_reducible first | exact HB.out | apply below_alloc | apply pw_below_drewN | apply below_drew1) | exact HB.out)) hb); clear HB; have HB := n0_; clear n0_; (try clear hb); (try clear hb2); (try clear hk); (try clear hi)) | (go_at_call 11; (with_reducible refine (impl_Pair.calls k t263 t264 t269 _ (Fmt.TabW.below HT.out (by repeat (first | (with_reducible first | exact HB.out | apply below_alloc | apply pw_below_drewN | apply below_drew1) | exact HB.out))) A26.out).mono ?_); rintro e w34 ⟨rfl, hb⟩; have n0_ := Aside0.mk (below_step (by repeat (first | (with_reducible first | exact HB.out | apply below_alloc | apply pw_below_drewN | apply below_drew1) | exact HB.out)) hb); clear HB; have HB := n0_; clear n0_; (try clear hb); (try clear hb2); (try clear hk); (try clear hi)) | (go_at_call 10; (with_reducible refine (spec_Pair.calls k t263 t264 t270 _ A27.out).mono ?_); rintro e w35 ⟨rfl, hb⟩; have n0_ := Aside0.mk (below_step (by repeat (first | (with_reducible first | exact HB.out | apply below_alloc | apply pw_below_drewN | apply below_drew1) | exact HB.out)) hb); clear HB; have HB := n0_; clear n0_; (try clear hb); (try clear hb2); (try clear hk); (try clear hi)) | (go_at_call 25; (with_reducible refine (impl_Digest.calls k t254 t271 _ A29.out).mono ?_); rintro e w' ⟨rfl, ⟨nd, rfl⟩⟩) | (go_at_call 26; (with_reducible refine (spec_Digest.calls k t254 t272 _ A30.out).mono ?_); rintro e w' ⟨rfl, ⟨nd, rfl⟩⟩))
              go_meet
              case rel => exact ⟨_, ((t271 != t272)), (by first | rfl | (simp; done) | (simp [*]; done)), H', ⟨by first | omega | exact Nat.le_refl _⟩, ⟨by repeat (first | (with_reducible first | exact HB.out | apply below_alloc | apply pw_below_drewN | apply below_drew1) | exact HB.out)⟩⟩
            · rw [if_neg c28] at H
              have c28b0 : (t269 == t270) = false := beq_eq_false_iff_ne.mpr c28
              have c28b1 : (t269 != t270) = true := bne_iff_ne.mpr c28
              have H' := Aside0.mk H
              clear H
              go_wp2_with (first | ((with_reducible refine gate_callee (f := 24) rfl ?_); refine goesL_ (some 46) rfl rfl Tryd.func24 (by kernel_rfl) rfl #[.string t254, .string t255] rfl (by (try simp only [List.map_toArray, List.map_cons, List.map_nil]); first | done | rfl | (simp only [List.length_drop, List.length_take]; rfl)) ?_; (with_reducible refine (spec_Clash.calls k t254 t255 t265 _ A16.out).mono ?_); rintro e w' ⟨rfl, ⟨nd, rfl⟩⟩; refine ⟨_, rfl, ?_⟩) | (go_at_call 12; (with_reducible refine (spec_Tag.calls k t257 t258 t266 _ A18.out).mono ?_); rintro e w36 ⟨rfl, hb⟩; have n0_ := Aside0.mk (below_step (by repeat (first | (with_reducible first | exact HB.out | apply below_alloc | apply pw_below_drewN | apply below_drew1) | exact HB.out)) hb); clear HB; have HB := n0_; clear n0_; (try clear hb); (try clear hb2); (try clear hk); (try clear hi)) | (go_at_call 15; (with_reducible refine (impl_Signed.calls k t260 t261 t262 t267 _ (Fmt.TabW.below HT.out (by repeat (first | (with_reducible first | exact HB.out | apply below_alloc | apply pw_below_drewN | apply below_drew1) | exact HB.out))) A20.out).mono ?_); rintro e w37 ⟨rfl, hb⟩; have n0_ := Aside0.mk (below_step (by repeat (first | (with_reducible first | exact HB.out | apply below_alloc | apply pw_below_drewN | apply below_drew1) | exact HB.out)) hb); clear HB; have HB := n0_; clear n0_; (try clear hb); (try clear hb2); (try clear hk); (try clear hi)) | (go_at_call 14; (with_reducible refine (spec_Signed.calls k t260 t261 t262 t268 _ A21.out).mono ?_); rintro e w38 ⟨rfl, hb⟩; have n0_ := Aside0.mk (below_step (by repeat (first | (with_reducible first | exact HB.out | apply below_alloc | apply pw_below_drewN | apply below_drew1) | exact HB.out)) hb); clear HB; have HB := n0_; clear n0_; (try clear hb); (try clear hb2); (try clear hk); (try clear hi)) | (go_at_call 11; (with_reducible refine (impl_Pair.calls k t263 t264 t269 _ (Fmt.TabW.below HT.out (by repeat (first | (with_reducible first | exact HB.out | apply below_alloc | apply pw_below_drewN | apply below_drew1) | exact HB.out))) A26.out).mono ?_); rintro e w39 ⟨rfl, hb⟩; have n0_ := Aside0.mk (below_step (by repeat (first | (with_reducible first | exact HB.out | apply below_alloc | apply pw_below_drewN | apply below_drew1) | exact HB.out)) hb); clear HB; have HB := n0_; clear n0_; (try clear hb); (try clear hb2); (try clear hk); (try clear hi)) | (go_at_call 10; (with_reducible refine (spec_Pair.calls k t263 t264 t270 _ A27.out).mono ?_); rintro e w40 ⟨rfl, hb⟩; have n0_ := Aside0.mk (below_step (by repeat (first | (with_reducible first | exact HB.out | apply below_alloc | apply pw_below_drewN | apply below_drew1) | exact HB.out)) hb); clear HB; have HB := n0_; clear n0_; (try clear hb); (try clear hb2); (try clear hk); (try clear hi)))
              go_meet
              case rel => exact ⟨_, (true), (by first | rfl | (simp; done) | (simp [*]; done)), H', ⟨by first | omega | exact Nat.le_refl _⟩, ⟨by repeat (first | (with_reducible first | exact HB.out | apply below_alloc | apply pw_below_drewN | apply below_drew1) | exact HB.out)⟩⟩
        · rw [if_neg c19] at H
          have c19b0 : (t259 == t266) = false := beq_eq_false_iff_ne.mpr c19
          have c19b1 : (t259 != t266) = true := bne_iff_ne.mpr c19
          have H' := Aside0.mk H
          clear H
          go_wp2_with (first | ((with_reducible refine gate_callee (f := 24) rfl ?_); refine goesL_ (some 46) rfl rfl Tryd.func24 (by kernel_rfl) rfl #[.string t254, .string t255] rfl (by (try simp only [List.map_toArray, List.map_cons, List.map_nil]); first | done | rfl | (simp only [List.length_drop, List.length_take]; rfl)) ?_; (with_reducible refine (spec_Clash.calls k t254 t255 t265 _ A16.out).mono ?_); rintro e w' ⟨rfl, ⟨nd, rfl⟩⟩; refine ⟨_, rfl, ?_⟩) | (go_at_call 12; (with_reducible refine (spec_Tag.calls k t257 t258 t266 _ A18.out).mono ?_); rintro e w41 ⟨rfl, hb⟩; have n0_ := Aside0.mk (below_step (by repeat (first | (with_reducible first | exact HB.out | apply below_alloc | apply pw_below_drewN | apply below_drew1) | exact HB.out)) hb); clear HB; have HB := n0_; clear n0_; (try clear hb); (try clear hb2); (try clear hk); (try clear hi)))
          go_meet
          case rel => exact ⟨_, (true), (by first | rfl | (simp; done) | (simp [*]; done)), H', ⟨by first | omega | exact Nat.le_refl _⟩, ⟨by repeat (first | (with_reducible first | exact HB.out | apply below_alloc | apply pw_below_drewN | apply below_drew1) | exact HB.out)⟩⟩
    case rest =>
      clear HC10
      try clear c1
      try clear c2
      try clear p2
      try clear c3
      try clear c7
      try clear c13
      try clear c17
      try clear c17b0
      try clear c17b1
      try clear c17b2
      try clear c18
      try clear c19
      try clear c19b0
      try clear c19b1
      try clear c20
      try clear c21
      try clear c22
      try clear c22b0
      try clear c22b1
      try clear c22b2
      try clear c23
      try clear c24
      try clear c28
      try clear c28b0
      try clear c28b1
      obtain ⟨kq, x81_9, rfl, HA, HJ9, HB⟩ := hcut
      cases kq with
      | zero => exact absurd HA.out (by simp [laws_FnDigests.j0])
      | succ kj9 =>
        have H := HA.out
        clear HA
        simp only [laws_FnDigests.j0] at H
        by_cases c42 : x81_9 = true
        · subst c42
          have H1 : (some false) = some r := by rw [if_pos rfl] at H; exact H
          clear H
          have H := H1
          clear H1
          obtain rfl := Option.some.inj H
          go_wp2
          go_ret
          exact ⟨by first | rfl | (simp [errW_none, errW_some] <;> rfl) | (simp [*, errW_none, errW_some] <;> rfl), by repeat (first | (with_reducible first | exact HB.out | apply below_alloc | apply pw_below_drewN | apply below_drew1) | exact HB.out)⟩
        · replace c42 := Bool.eq_false_iff.mpr c42
          subst c42
          have H1 : ((impl_Digest.f kj9 t254).bind fun t273 => ((impl_Digest.f kj9 t255).bind fun t274 => (if t254.toList = t255.toList then (if ((t273 == t274) == true) = true then (if t259 < 0 then ((impl_Signed.f kj9 t260 t261 t262).bind fun t275 => (if t275 = true then ((impl_Tag.f kj9 t260 t261).bind fun t276 => (if t276 = t262 then ((impl_Clash.f kj9 t255 t254).bind fun t277 => (some (t277 == t256))) else (some false))) else ((impl_Clash.f kj9 t255 t254).bind fun t278 => (some (t278 == t256))))) else ((impl_Signed.f kj9 t257 t258 t259).bind fun t279 => (if t279 = true then ((impl_Signed.f kj9 t260 t261 t262).bind fun t280 => (if t280 = true then ((impl_Tag.f kj9 t260 t261).bind fun t281 => (if t281 = t262 then ((impl_Clash.f kj9 t255 t254).bind fun t282 => (some (t282 == t256))) else (some false))) else ((impl_Clash.f kj9 t255 t254).bind fun t283 => (some (t283 == t256))))) else (some false)))) else (some false)) else (if ((t273 == t274) == t256) = true then (if t259 < 0 then ((impl_Signed.f kj9 t260 t261 t262).bind fun t284 => (if t284 = true then ((impl_Tag.f kj9 t260 t261).bind fun t285 => (if t285 = t262 then ((impl_Clash.f kj9 t255 t254).bind fun t286 => (some (t286 == t256))) else (some false))) else ((impl_Clash.f kj9 t255 t254).bind fun t287 => (some (t287 == t256))))) else ((impl_Signed.f kj9 t257 t258 t259).bind fun t288 => (if t288 = true then ((impl_Signed.f kj9 t260 t261 t262).bind fun t289 => (if t289 = true then ((impl_Tag.f kj9 t260 t261).bind fun t290 => (if t290 = t262 then ((impl_Clash.f kj9 t255 t254).bind fun t291 => (some (t291 == t256))) else (some false))) else ((impl_Clash.f kj9 t255 t254).bind fun t292 => (some (t292 == t256))))) else (some false)))) else (some false))))) = some r := by rw [if_neg (show ¬ (false = true) by decide)] at H; exact H
          clear H
          have H := H1
          clear H1
          replace H := Option.bind_eq_some_iff.mp H
          obtain ⟨t273, A430, H⟩ := H
          replace H : ((impl_Digest.f kj9 t255).bind fun t274 => (if t254.toList = t255.toList then (if ((t273 == t274) == true) = true then (if t259 < 0 then ((impl_Signed.f kj9 t260 t261 t262).bind fun t275 => (if t275 = true then ((impl_Tag.f kj9 t260 t261).bind fun t276 => (if t276 = t262 then ((impl_Clash.f kj9 t255 t254).bind fun t277 => (some (t277 == t256))) else (some false))) else ((impl_Clash.f kj9 t255 t254).bind fun t278 => (some (t278 == t256))))) else ((impl_Signed.f kj9 t257 t258 t259).bind fun t279 => (if t279 = true then ((impl_Signed.f kj9 t260 t261 t262).bind fun t280 => (if t280 = true then ((impl_Tag.f kj9 t260 t261).bind fun t281 => (if t281 = t262 then ((impl_Clash.f kj9 t255 t254).bind fun t282 => (some (t282 == t256))) else (some false))) else ((impl_Clash.f kj9 t255 t254).bind fun t283 => (some (t283 == t256))))) else (some false)))) else (some false)) else (if ((t273 == t274) == t256) = true then (if t259 < 0 then ((impl_Signed.f kj9 t260 t261 t262).bind fun t284 => (if t284 = true then ((impl_Tag.f kj9 t260 t261).bind fun t285 => (if t285 = t262 then ((impl_Clash.f kj9 t255 t254).bind fun t286 => (some (t286 == t256))) else (some false))) else ((impl_Clash.f kj9 t255 t254).bind fun t287 => (some (t287 == t256))))) else ((impl_Signed.f kj9 t257 t258 t259).bind fun t288 => (if t288 = true then ((impl_Signed.f kj9 t260 t261 t262).bind fun t289 => (if t289 = true then ((impl_Tag.f kj9 t260 t261).bind fun t290 => (if t290 = t262 then ((impl_Clash.f kj9 t255 t254).bind fun t291 => (some (t291 == t256))) else (some false))) else ((impl_Clash.f kj9 t255 t254).bind fun t292 => (some (t292 == t256))))) else (some false)))) else (some false)))) = some r := H
          have A43 := Aside0.mk A430
          clear A430
          replace H := Option.bind_eq_some_iff.mp H
          obtain ⟨t274, A440, H⟩ := H
          replace H : (if t254.toList = t255.toList then (if ((t273 == t274) == true) = true then (if t259 < 0 then ((impl_Signed.f kj9 t260 t261 t262).bind fun t275 => (if t275 = true then ((impl_Tag.f kj9 t260 t261).bind fun t276 => (if t276 = t262 then ((impl_Clash.f kj9 t255 t254).bind fun t277 => (some (t277 == t256))) else (some false))) else ((impl_Clash.f kj9 t255 t254).bind fun t278 => (some (t278 == t256))))) else ((impl_Signed.f kj9 t257 t258 t259).bind fun t279 => (if t279 = true then ((impl_Signed.f kj9 t260 t261 t262).bind fun t280 => (if t280 = true then ((impl_Tag.f kj9 t260 t261).bind fun t281 => (if t281 = t262 then ((impl_Clash.f kj9 t255 t254).bind fun t282 => (some (t282 == t256))) else (some false))) else ((impl_Clash.f kj9 t255 t254).bind fun t283 => (some (t283 == t256))))) else (some false)))) else (some false)) else (if ((t273 == t274) == t256) = true then (if t259 < 0 then ((impl_Signed.f kj9 t260 t261 t262).bind fun t284 => (if t284 = true then ((impl_Tag.f kj9 t260 t261).bind fun t285 => (if t285 = t262 then ((impl_Clash.f kj9 t255 t254).bind fun t286 => (some (t286 == t256))) else (some false))) else ((impl_Clash.f kj9 t255 t254).bind fun t287 => (some (t287 == t256))))) else ((impl_Signed.f kj9 t257 t258 t259).bind fun t288 => (if t288 = true then ((impl_Signed.f kj9 t260 t261 t262).bind fun t289 => (if t289 = true then ((impl_Tag.f kj9 t260 t261).bind fun t290 => (if t290 = t262 then ((impl_Clash.f kj9 t255 t254).bind fun t291 => (some (t291 == t256))) else (some false))) else ((impl_Clash.f kj9 t255 t254).bind fun t292 => (some (t292 == t256))))) else (some false)))) else (some false))) = some r := H
          have A44 := Aside0.mk A440
          clear A440
          by_cases c45 : t254.toList = t255.toList
          · rw [if_pos c45] at H
            have c45b0 : (t254.toList == t255.toList) = true := beq_iff_eq.mpr c45
            have c45b1 : (t254.toList != t255.toList) = false := bne_eq_false_iff_eq.mpr c45
            clear c45
            by_cases c46 : ((t273 == t274) == true) = true
            · rw [if_pos c46] at H
              have c46b0 : ((t273 == t274) == true) = true := c46
              (try (have c46b1 : decide ((t273 == t274) = true) = true := by simpa using c46))
              (try (have c46b2 : ((t273 == t274) == true) = true := by simpa using c46))
              clear c46
              by_cases c47 : t259 < 0
              · rw [if_pos c47] at H
                have c47b0 : decide (t259 < 0) = true := decide_eq_true c47
                clear c47
                replace H := Option.bind_eq_some_iff.mp H
                obtain ⟨t275, A480, H⟩ := H
                replace H : (if t275 = true then ((impl_Tag.f kj9 t260 t261).bind fun t276 => (if t276 = t262 then ((impl_Clash.f kj9 t255 t254).bind fun t277 => (some (t277 == t256))) else (some false))) else ((impl_Clash.f kj9 t255 t254).bind fun t278 => (some (t278 == t256)))) = some r := H
                have A48 := Aside0.mk A480
                clear A480
                by_cases c49 : t275 = true
                · subst c49
                  have H1 : ((impl_Tag.f kj9 t260 t261).bind fun t276 => (if t276 = t262 then ((impl_Clash.f kj9 t255 t254).bind fun t277 => (some (t277 == t256))) else (some false))) = some r := by rw [if_pos rfl] at H; exact H
                  clear H
                  have H := H1
                  clear H1
                  replace H := Option.bind_eq_some_iff.mp H
                  obtain ⟨t276, A500, H⟩ := H
                  replace H : (if t276 = t262 then ((impl_Clash.f kj9 t255 t254).bind fun t277 => (some (t277 == t256))) else (some false)) = some r := H
                  have A50 := Aside0.mk A500
                  clear A500
                  by_cases c51 : t276 = t262
                  · rw [if_pos c51] at H
                    have c51b0 : (t276 == t262) = true := beq_iff_eq.mpr c51
                    have c51b1 : (t276 != t262) = false := bne_eq_false_iff_eq.mpr c51
                    clear c51
                    replace H := Option.bind_eq_some_iff.mp H
                    obtain ⟨t277, A520, H⟩ := H
                    replace H : (some (t277 == t256)) = some r := H
                    have A52 := Aside0.mk A520
                    clear A520
                    obtain rfl := Option.some.inj H
                    go_wp2_with (first | ((with_reducible refine gate_callee (f := 25) rfl ?_); refine goesL_ (some 83) rfl rfl Tryd.func25 (by kernel_rfl) rfl #[.string t254] rfl (by (try simp only [List.map_toArray, List.map_cons, List.map_nil]); first | done | rfl | (simp only [List.length_drop, List.length_take]; rfl)) ?_; (with_reducible refine (impl_Digest.calls kj9 t254 t273 _ A43.out).mono ?_); rintro e w' ⟨rfl, ⟨nd, rfl⟩⟩; refine ⟨_, rfl, ?_⟩) | ((with_reducible refine gate_callee (f := 25) rfl ?_); refine goesL_ (some 85) rfl rfl Tryd.func25 (by kernel_rfl) rfl #[.string t255] rfl (by (try simp only [List.map_toArray, List.map_cons, List.map_nil]); first | done | rfl | (simp only [List.length_drop, List.length_take]; rfl)) ?_; (with_reducible refine (impl_Digest.calls kj9 t255 t274 _ A44.out).mono ?_); rintro e w' ⟨rfl, ⟨nd, rfl⟩⟩; refine ⟨_, rfl, ?_⟩) | (go_at_call 15; (with_reducible refine (impl_Signed.calls kj9 t260 t261 t262 true _ (Fmt.TabW.below HT.out (by repeat (first | (with_reducible first | exact HB.out | apply below_alloc | apply pw_below_drewN | apply below_drew1) | exact HB.out))) A48.out).mono ?_); rintro e w53 ⟨rfl, hb⟩; have n0_ := Aside0.mk (below_step (by repeat (first | (with_reducible first | exact HB.out | apply below_alloc | apply pw_below_drewN | apply below_drew1) | exact HB.out)) hb); clear HB; have HB := n0_; clear n0_; (try clear hb); (try clear hb2); (try clear hk); (try clear hi)) | (go_at_call 13; (with_reducible refine (impl_Tag.calls kj9 t260 t261 t276 _ (Fmt.TabW.below HT.out (by repeat (first | (with_reducible first | exact HB.out | apply below_alloc | apply pw_below_drewN | apply below_drew1) | exact HB.out))) A50.out).mono ?_); rintro e w54 ⟨rfl, hb⟩; have n0_ := Aside0.mk (below_step (by repeat (first | (with_reducible first | exact HB.out | apply below_alloc | apply pw_below_drewN | apply below_drew1) | exact HB.out)) hb); clear HB; have HB := n0_; clear n0_; (try clear hb); (try clear hb2); (try clear hk); (try clear hi)) | (go_at_call 20; (with_reducible refine (impl_Clash.calls kj9 t255 t254 t277 _ A52.out).mono ?_); rintro e w' ⟨rfl, ⟨nd, rfl⟩⟩))
                    go_ret
                    exact ⟨by first | rfl | (simp [errW_none, errW_some] <;> rfl) | (simp [*, errW_none, errW_some] <;> rfl), by repeat (first | (with_reducible first | exact HB.out | apply below_alloc | apply pw_below_drewN | apply below_drew1) | exact HB.out)⟩
                  · rw [if_neg c51] at H
                    have c51b0 : (t276 == t262) = false := beq_eq_false_iff_ne.mpr c51
                    have c51b1 : (t276 != t262) = true := bne_iff_ne.mpr c51
                    obtain rfl := Option.some.inj H
                    go_wp2_with (first | ((with_reducible refine gate_callee (f := 25) rfl ?_); refine goesL_ (some 83) rfl rfl Tryd.func25 (by kernel_rfl) rfl #[.string t254] rfl (by (try simp only [List.map_toArray, List.map_cons, List.map_nil]); first | done | rfl | (simp only [List.length_drop, List.length_take]; rfl)) ?_; (with_reducible refine (impl_Digest.calls kj9 t254 t273 _ A43.out).mono ?_); rintro e w' ⟨rfl, ⟨nd, rfl⟩⟩; refine ⟨_, rfl, ?_⟩) | ((with_reducible refine gate_callee (f := 25) rfl ?_); refine goesL_ (some 85) rfl rfl Tryd.func25 (by kernel_rfl) rfl #[.string t255] rfl (by (try simp only [List.map_toArray, List.map_cons, List.map_nil]); first | done | rfl | (simp only [List.length_drop, List.length_take]; rfl)) ?_; (with_reducible refine (impl_Digest.calls kj9 t255 t274 _ A44.out).mono ?_); rintro e w' ⟨rfl, ⟨nd, rfl⟩⟩; refine ⟨_, rfl, ?_⟩) | (go_at_call 15; (with_reducible refine (impl_Signed.calls kj9 t260 t261 t262 true _ (Fmt.TabW.below HT.out (by repeat (first | (with_reducible first | exact HB.out | apply below_alloc | apply pw_below_drewN | apply below_drew1) | exact HB.out))) A48.out).mono ?_); rintro e w55 ⟨rfl, hb⟩; have n0_ := Aside0.mk (below_step (by repeat (first | (with_reducible first | exact HB.out | apply below_alloc | apply pw_below_drewN | apply below_drew1) | exact HB.out)) hb); clear HB; have HB := n0_; clear n0_; (try clear hb); (try clear hb2); (try clear hk); (try clear hi)) | (go_at_call 13; (with_reducible refine (impl_Tag.calls kj9 t260 t261 t276 _ (Fmt.TabW.below HT.out (by repeat (first | (with_reducible first | exact HB.out | apply below_alloc | apply pw_below_drewN | apply below_drew1) | exact HB.out))) A50.out).mono ?_); rintro e w56 ⟨rfl, hb⟩; have n0_ := Aside0.mk (below_step (by repeat (first | (with_reducible first | exact HB.out | apply below_alloc | apply pw_below_drewN | apply below_drew1) | exact HB.out)) hb); clear HB; have HB := n0_; clear n0_; (try clear hb); (try clear hb2); (try clear hk); (try clear hi)))
                    go_ret
                    exact ⟨by first | rfl | (simp [errW_none, errW_some] <;> rfl) | (simp [*, errW_none, errW_some] <;> rfl), by repeat (first | (with_reducible first | exact HB.out | apply below_alloc | apply pw_below_drewN | apply below_drew1) | exact HB.out)⟩
                · replace c49 := Bool.eq_false_iff.mpr c49
                  subst c49
                  have H1 : ((impl_Clash.f kj9 t255 t254).bind fun t278 => (some (t278 == t256))) = some r := by rw [if_neg (show ¬ (false = true) by decide)] at H; exact H
                  clear H
                  have H := H1
                  clear H1
                  replace H := Option.bind_eq_some_iff.mp H
                  obtain ⟨t278, A570, H⟩ := H
                  replace H : (some (t278 == t256)) = some r := H
                  have A57 := Aside0.mk A570
                  clear A570
                  obtain rfl := Option.some.inj H
                  go_wp2_with (first | ((with_reducible refine gate_callee (f := 25) rfl ?_); refine goesL_ (some 83) rfl rfl Tryd.func25 (by kernel_rfl) rfl #[.string t254] rfl (by (try simp only [List.map_toArray, List.map_cons, List.map_nil]); first | done | rfl | (simp only [List.length_drop, List.length_take]; rfl)) ?_; (with_reducible refine (impl_Digest.calls kj9 t254 t273 _ A43.out).mono ?_); rintro e w' ⟨rfl, ⟨nd, rfl⟩⟩; refine ⟨_, rfl, ?_⟩) | ((with_reducible refine gate_callee (f := 25) rfl ?_); refine goesL_ (some 85) rfl rfl Tryd.func25 (by kernel_rfl) rfl #[.string t255] rfl (by (try simp only [List.map_toArray, List.map_cons, List.map_nil]); first | done | rfl | (simp only [List.length_drop, List.length_take]; rfl)) ?_; (with_reducible refine (impl_Digest.calls kj9 t255 t274 _ A44.out).mono ?_); rintro e w' ⟨rfl, ⟨nd, rfl⟩⟩; refine ⟨_, rfl, ?_⟩) | (go_at_call 15; (with_reducible refine (impl_Signed.calls kj9 t260 t261 t262 false _ (Fmt.TabW.below HT.out (by repeat (first | (with_reducible first | exact HB.out | apply below_alloc | apply pw_below_drewN | apply below_drew1) | exact HB.out))) A48.out).mono ?_); rintro e w58 ⟨rfl, hb⟩; have n0_ := Aside0.mk (below_step (by repeat (first | (with_reducible first | exact HB.out | apply below_alloc | apply pw_below_drewN | apply below_drew1) | exact HB.out)) hb); clear HB; have HB := n0_; clear n0_; (try clear hb); (try clear hb2); (try clear hk); (try clear hi)) | (go_at_call 20; (with_reducible refine (impl_Clash.calls kj9 t255 t254 t278 _ A57.out).mono ?_); rintro e w' ⟨rfl, ⟨nd, rfl⟩⟩))
                  go_ret
                  exact ⟨by first | rfl | (simp [errW_none, errW_some] <;> rfl) | (simp [*, errW_none, errW_some] <;> rfl), by repeat (first | (with_reducible first | exact HB.out | apply below_alloc | apply pw_below_drewN | apply below_drew1) | exact HB.out)⟩
              · rw [if_neg c47] at H
                have c47b0 : decide (t259 < 0) = false := decide_eq_false c47
                clear c47
                replace H := Option.bind_eq_some_iff.mp H
                obtain ⟨t279, A590, H⟩ := H
                replace H : (if t279 = true then ((impl_Signed.f kj9 t260 t261 t262).bind fun t280 => (if t280 = true then ((impl_Tag.f kj9 t260 t261).bind fun t281 => (if t281 = t262 then ((impl_Clash.f kj9 t255 t254).bind fun t282 => (some (t282 == t256))) else (some false))) else ((impl_Clash.f kj9 t255 t254).bind fun t283 => (some (t283 == t256))))) else (some false)) = some r := H
                have A59 := Aside0.mk A590
                clear A590
                by_cases c60 : t279 = true
                · subst c60
                  have H1 : ((impl_Signed.f kj9 t260 t261 t262).bind fun t280 => (if t280 = true then ((impl_Tag.f kj9 t260 t261).bind fun t281 => (if t281 = t262 then ((impl_Clash.f kj9 t255 t254).bind fun t282 => (some (t282 == t256))) else (some false))) else ((impl_Clash.f kj9 t255 t254).bind fun t283 => (some (t283 == t256))))) = some r := by rw [if_pos rfl] at H; exact H
                  clear H
                  have H := H1
                  clear H1
                  replace H := Option.bind_eq_some_iff.mp H
                  obtain ⟨t280, A610, H⟩ := H
                  replace H : (if t280 = true then ((impl_Tag.f kj9 t260 t261).bind fun t281 => (if t281 = t262 then ((impl_Clash.f kj9 t255 t254).bind fun t282 => (some (t282 == t256))) else (some false))) else ((impl_Clash.f kj9 t255 t254).bind fun t283 => (some (t283 == t256)))) = some r := H
                  have A61 := Aside0.mk A610
                  clear A610
                  by_cases c62 : t280 = true
                  · subst c62
                    have H1 : ((impl_Tag.f kj9 t260 t261).bind fun t281 => (if t281 = t262 then ((impl_Clash.f kj9 t255 t254).bind fun t282 => (some (t282 == t256))) else (some false))) = some r := by rw [if_pos rfl] at H; exact H
                    clear H
                    have H := H1
                    clear H1
                    replace H := Option.bind_eq_some_iff.mp H
                    obtain ⟨t281, A630, H⟩ := H
                    replace H : (if t281 = t262 then ((impl_Clash.f kj9 t255 t254).bind fun t282 => (some (t282 == t256))) else (some false)) = some r := H
                    have A63 := Aside0.mk A630
                    clear A630
                    by_cases c64 : t281 = t262
                    · rw [if_pos c64] at H
                      have c64b0 : (t281 == t262) = true := beq_iff_eq.mpr c64
                      have c64b1 : (t281 != t262) = false := bne_eq_false_iff_eq.mpr c64
                      clear c64
                      replace H := Option.bind_eq_some_iff.mp H
                      obtain ⟨t282, A650, H⟩ := H
                      replace H : (some (t282 == t256)) = some r := H
                      have A65 := Aside0.mk A650
                      clear A650
                      obtain rfl := Option.some.inj H
                      go_wp2_with (first | ((with_reducible refine gate_callee (f := 25) rfl ?_); refine goesL_ (some 83) rfl rfl Tryd.func25 (by kernel_rfl) rfl #[.string t254] rfl (by (try simp only [List.map_toArray, List.map_cons, List.map_nil]); first | done | rfl | (simp only [List.length_drop, List.length_take]; rfl)) ?_; (with_reducible refine (impl_Digest.calls kj9 t254 t273 _ A43.out).mono ?_); rintro e w' ⟨rfl, ⟨nd, rfl⟩⟩; refine ⟨_, rfl, ?_⟩) | ((with_reducible refine gate_callee (f := 25) rfl ?_); refine goesL_ (some 85) rfl rfl Tryd.func25 (by kernel_rfl) rfl #[.string t255] rfl (by (try simp only [List.map_toArray, List.map_cons, List.map_nil]); first | done | rfl | (simp only [List.length_drop, List.length_take]; rfl)) ?_; (with_reducible refine (impl_Digest.calls kj9 t255 t274 _ A44.out).mono ?_); rintro e w' ⟨rfl, ⟨nd, rfl⟩⟩; refine ⟨_, rfl, ?_⟩) | (go_at_call 15; (with_reducible refine (impl_Signed.calls kj9 t257 t258 t259 true _ (Fmt.TabW.below HT.out (by repeat (first | (with_reducible first | exact HB.out | apply below_alloc | apply pw_below_drewN | apply below_drew1) | exact HB.out))) A59.out).mono ?_); rintro e w66 ⟨rfl, hb⟩; have n0_ := Aside0.mk (below_step (by repeat (first | (with_reducible first | exact HB.out | apply below_alloc | apply pw_below_drewN | apply below_drew1) | exact HB.out)) hb); clear HB; have HB := n0_; clear n0_; (try clear hb); (try clear hb2); (try clear hk); (try clear hi)) | (go_at_call 15; (with_reducible refine (impl_Signed.calls kj9 t260 t261 t262 true _ (Fmt.TabW.below HT.out (by repeat (first | (with_reducible first | exact HB.out | apply below_alloc | apply pw_below_drewN | apply below_drew1) | exact HB.out))) A61.out).mono ?_); rintro e w67 ⟨rfl, hb⟩; have n0_ := Aside0.mk (below_step (by repeat (first | (with_reducible first | exact HB.out | apply below_alloc | apply pw_below_drewN | apply below_drew1) | exact HB.out)) hb); clear HB; have HB := n0_; clear n0_; (try clear hb); (try clear hb2); (try clear hk); (try clear hi)) | (go_at_call 13; (with_reducible refine (impl_Tag.calls kj9 t260 t261 t281 _ (Fmt.TabW.below HT.out (by repeat (first | (with_reducible first | exact HB.out | apply below_alloc | apply pw_below_drewN | apply below_drew1) | exact HB.out))) A63.out).mono ?_); rintro e w68 ⟨rfl, hb⟩; have n0_ := Aside0.mk (below_step (by repeat (first | (with_reducible first | exact HB.out | apply below_alloc | apply pw_below_drewN | apply below_drew1) | exact HB.out)) hb); clear HB; have HB := n0_; clear n0_; (try clear hb); (try clear hb2); (try clear hk); (try clear hi)) | (go_at_call 20; (with_reducible refine (impl_Clash.calls kj9 t255 t254 t282 _ A65.out).mono ?_); rintro e w' ⟨rfl, ⟨nd, rfl⟩⟩))
                      go_ret
                      exact ⟨by first | rfl | (simp [errW_none, errW_some] <;> rfl) | (simp [*, errW_none, errW_some] <;> rfl), by repeat (first | (with_reducible first | exact HB.out | apply below_alloc | apply pw_below_drewN | apply below_drew1) | exact HB.out)⟩
                    · rw [if_neg c64] at H
                      have c64b0 : (t281 == t262) = false := beq_eq_false_iff_ne.mpr c64
                      have c64b1 : (t281 != t262) = true := bne_iff_ne.mpr c64
                      obtain rfl := Option.some.inj H
                      go_wp2_with (first | ((with_reducible refine gate_callee (f := 25) rfl ?_); refine goesL_ (some 83) rfl rfl Tryd.func25 (by kernel_rfl) rfl #[.string t254] rfl (by (try simp only [List.map_toArray, List.map_cons, List.map_nil]); first | done | rfl | (simp only [List.length_drop, List.length_take]; rfl)) ?_; (with_reducible refine (impl_Digest.calls kj9 t254 t273 _ A43.out).mono ?_); rintro e w' ⟨rfl, ⟨nd, rfl⟩⟩; refine ⟨_, rfl, ?_⟩) | ((with_reducible refine gate_callee (f := 25) rfl ?_); refine goesL_ (some 85) rfl rfl Tryd.func25 (by kernel_rfl) rfl #[.string t255] rfl (by (try simp only [List.map_toArray, List.map_cons, List.map_nil]); first | done | rfl | (simp only [List.length_drop, List.length_take]; rfl)) ?_; (with_reducible refine (impl_Digest.calls kj9 t255 t274 _ A44.out).mono ?_); rintro e w' ⟨rfl, ⟨nd, rfl⟩⟩; refine ⟨_, rfl, ?_⟩) | (go_at_call 15; (with_reducible refine (impl_Signed.calls kj9 t257 t258 t259 true _ (Fmt.TabW.below HT.out (by repeat (first | (with_reducible first | exact HB.out | apply below_alloc | apply pw_below_drewN | apply below_drew1) | exact HB.out))) A59.out).mono ?_); rintro e w69 ⟨rfl, hb⟩; have n0_ := Aside0.mk (below_step (by repeat (first | (with_reducible first | exact HB.out | apply below_alloc | apply pw_below_drewN | apply below_drew1) | exact HB.out)) hb); clear HB; have HB := n0_; clear n0_; (try clear hb); (try clear hb2); (try clear hk); (try clear hi)) | (go_at_call 15; (with_reducible refine (impl_Signed.calls kj9 t260 t261 t262 true _ (Fmt.TabW.below HT.out (by repeat (first | (with_reducible first | exact HB.out | apply below_alloc | apply pw_below_drewN | apply below_drew1) | exact HB.out))) A61.out).mono ?_); rintro e w70 ⟨rfl, hb⟩; have n0_ := Aside0.mk (below_step (by repeat (first | (with_reducible first | exact HB.out | apply below_alloc | apply pw_below_drewN | apply below_drew1) | exact HB.out)) hb); clear HB; have HB := n0_; clear n0_; (try clear hb); (try clear hb2); (try clear hk); (try clear hi)) | (go_at_call 13; (with_reducible refine (impl_Tag.calls kj9 t260 t261 t281 _ (Fmt.TabW.below HT.out (by repeat (first | (with_reducible first | exact HB.out | apply below_alloc | apply pw_below_drewN | apply below_drew1) | exact HB.out))) A63.out).mono ?_); rintro e w71 ⟨rfl, hb⟩; have n0_ := Aside0.mk (below_step (by repeat (first | (with_reducible first | exact HB.out | apply below_alloc | apply pw_below_drewN | apply below_drew1) | exact HB.out)) hb); clear HB; have HB := n0_; clear n0_; (try clear hb); (try clear hb2); (try clear hk); (try clear hi)))
                      go_ret
                      exact ⟨by first | rfl | (simp [errW_none, errW_some] <;> rfl) | (simp [*, errW_none, errW_some] <;> rfl), by repeat (first | (with_reducible first | exact HB.out | apply below_alloc | apply pw_below_drewN | apply below_drew1) | exact HB.out)⟩
                  · replace c62 := Bool.eq_false_iff.mpr c62
                    subst c62
                    have H1 : ((impl_Clash.f kj9 t255 t254).bind fun t283 => (some (t283 == t256))) = some r := by rw [if_neg (show ¬ (false = true) by decide)] at H; exact H
                    clear H
                    have H := H1
                    clear H1
                    replace H := Option.bind_eq_some_iff.mp H
                    obtain ⟨t283, A720, H⟩ := H
                    replace H : (some (t283 == t256)) = some r := H
                    have A72 := Aside0.mk A720
                    clear A720
                    obtain rfl := Option.some.inj H
                    go_wp2_with (first | ((with_reducible refine gate_callee (f := 25) rfl ?_); refine goesL_ (some 83) rfl rfl Tryd.func25 (by kernel_rfl) rfl #[.string t254] rfl (by (try simp only [List.map_toArray, List.map_cons, List.map_nil]); first | done | rfl | (simp only [List.length_drop, List.length_take]; rfl)) ?_; (with_reducible refine (impl_Digest.calls kj9 t254 t273 _ A43.out).mono ?_); rintro e w' ⟨rfl, ⟨nd, rfl⟩⟩; refine ⟨_, rfl, ?_⟩) | ((with_reducible refine gate_callee (f := 25) rfl ?_); refine goesL_ (some 85) rfl rfl Tryd.func25 (by kernel_rfl) rfl #[.string t255] rfl (by (try simp only [List.map_toArray, List.map_cons, List.map_nil]); first | done | rfl | (simp only [List.length_drop, List.length_take]; rfl)) ?_; (with_reducible refine (impl_Digest.calls kj9 t255 t274 _ A44.out).mono ?_); rintro e w' ⟨rfl, ⟨nd, rfl⟩⟩; refine ⟨_, rfl, ?_⟩) | (go_at_call 15; (with_reducible refine (impl_Signed.calls kj9 t257 t258 t259 true _ (Fmt.TabW.below HT.out (by repeat (first | (with_reducible first | exact HB.out | apply below_alloc | apply pw_below_drewN | apply below_drew1) | exact HB.out))) A59.out).mono ?_); rintro e w73 ⟨rfl, hb⟩; have n0_ := Aside0.mk (below_step (by repeat (first | (with_reducible first | exact HB.out | apply below_alloc | apply pw_below_drewN | apply below_drew1) | exact HB.out)) hb); clear HB; have HB := n0_; clear n0_; (try clear hb); (try clear hb2); (try clear hk); (try clear hi)) | (go_at_call 15; (with_reducible refine (impl_Signed.calls kj9 t260 t261 t262 false _ (Fmt.TabW.below HT.out (by repeat (first | (with_reducible first | exact HB.out | apply below_alloc | apply pw_below_drewN | apply below_drew1) | exact HB.out))) A61.out).mono ?_); rintro e w74 ⟨rfl, hb⟩; have n0_ := Aside0.mk (below_step (by repeat (first | (with_reducible first | exact HB.out | apply below_alloc | apply pw_below_drewN | apply below_drew1) | exact HB.out)) hb); clear HB; have HB := n0_; clear n0_; (try clear hb); (try clear hb2); (try clear hk); (try clear hi)) | (go_at_call 20; (with_reducible refine (impl_Clash.calls kj9 t255 t254 t283 _ A72.out).mono ?_); rintro e w' ⟨rfl, ⟨nd, rfl⟩⟩))
                    go_ret
                    exact ⟨by first | rfl | (simp [errW_none, errW_some] <;> rfl) | (simp [*, errW_none, errW_some] <;> rfl), by repeat (first | (with_reducible first | exact HB.out | apply below_alloc | apply pw_below_drewN | apply below_drew1) | exact HB.out)⟩
                · replace c60 := Bool.eq_false_iff.mpr c60
                  subst c60
                  have H1 : (some false) = some r := by rw [if_neg (show ¬ (false = true) by decide)] at H; exact H
                  clear H
                  have H := H1
                  clear H1
                  obtain rfl := Option.some.inj H
                  go_wp2_with (first | ((with_reducible refine gate_callee (f := 25) rfl ?_); refine goesL_ (some 83) rfl rfl Tryd.func25 (by kernel_rfl) rfl #[.string t254] rfl (by (try simp only [List.map_toArray, List.map_cons, List.map_nil]); first | done | rfl | (simp only [List.length_drop, List.length_take]; rfl)) ?_; (with_reducible refine (impl_Digest.calls kj9 t254 t273 _ A43.out).mono ?_); rintro e w' ⟨rfl, ⟨nd, rfl⟩⟩; refine ⟨_, rfl, ?_⟩) | ((with_reducible refine gate_callee (f := 25) rfl ?_); refine goesL_ (some 85) rfl rfl Tryd.func25 (by kernel_rfl) rfl #[.string t255] rfl (by (try simp only [List.map_toArray, List.map_cons, List.map_nil]); first | done | rfl | (simp only [List.length_drop, List.length_take]; rfl)) ?_; (with_reducible refine (impl_Digest.calls kj9 t255 t274 _ A44.out).mono ?_); rintro e w' ⟨rfl, ⟨nd, rfl⟩⟩; refine ⟨_, rfl, ?_⟩) | (go_at_call 15; (with_reducible refine (impl_Signed.calls kj9 t257 t258 t259 false _ (Fmt.TabW.below HT.out (by repeat (first | (with_reducible first | exact HB.out | apply below_alloc | apply pw_below_drewN | apply below_drew1) | exact HB.out))) A59.out).mono ?_); rintro e w75 ⟨rfl, hb⟩; have n0_ := Aside0.mk (below_step (by repeat (first | (with_reducible first | exact HB.out | apply below_alloc | apply pw_below_drewN | apply below_drew1) | exact HB.out)) hb); clear HB; have HB := n0_; clear n0_; (try clear hb); (try clear hb2); (try clear hk); (try clear hi)))
                  go_ret
                  exact ⟨by first | rfl | (simp [errW_none, errW_some] <;> rfl) | (simp [*, errW_none, errW_some] <;> rfl), by repeat (first | (with_reducible first | exact HB.out | apply below_alloc | apply pw_below_drewN | apply below_drew1) | exact HB.out)⟩
            · rw [if_neg c46] at H
              have c46b0 : ((t273 == t274) == true) = false := by simpa using c46
              (try (have c46b1 : decide ((t273 == t274) = true) = false := by simpa using c46))
              (try (have c46b2 : ((t273 == t274) == true) = false := by simpa using c46))
              (try (have c46b3 : ¬ ((t273 == t274) = true) := by simpa using c46))
              clear c46
              obtain rfl := Option.some.inj H
              go_wp2_with (first | ((with_reducible refine gate_callee (f := 25) rfl ?_); refine goesL_ (some 83) rfl rfl Tryd.func25 (by kernel_rfl) rfl #[.string t254] rfl (by (try simp only [List.map_toArray, List.map_cons, List.map_nil]); first | done | rfl | (simp only [List.length_drop, List.length_take]; rfl)) ?_; (with_reducible refine (impl_Digest.calls kj9 t254 t273 _ A43.out).mono ?_); rintro e w' ⟨rfl, ⟨nd, rfl⟩⟩; refine ⟨_, rfl, ?_⟩) | ((with_reducible refine gate_callee (f := 25) rfl ?_); refine goesL_ (some 85) rfl rfl Tryd.func25 (by kernel_rfl) rfl #[.string t255] rfl (by (try simp only [List.map_toArray, List.map_cons, List.map_nil]); first | done | rfl | (simp only [List.length_drop, List.length_take]; rfl)) ?_; (with_reducible refine (impl_Digest.calls kj9 t255 t274 _ A44.out).mono ?_); rintro e w' ⟨rfl, ⟨nd, rfl⟩⟩; refine ⟨_, rfl, ?_⟩))
              go_ret
              exact ⟨by first | rfl | (simp [errW_none, errW_some] <;> rfl) | (simp [*, errW_none, errW_some] <;> rfl), by repeat (first | (with_reducible first | exact HB.out | apply below_alloc | apply pw_below_drewN | apply below_drew1) | exact HB.out)⟩
          · rw [if_neg c45] at H
            have c45b0 : (t254.toList == t255.toList) = false := beq_eq_false_iff_ne.mpr c45
            have c45b1 : (t254.toList != t255.toList) = true := bne_iff_ne.mpr c45
            by_cases c76 : ((t273 == t274) == t256) = true
            · rw [if_pos c76] at H
              have c76b0 : ((t273 == t274) == t256) = true := c76
              (try (have c76b1 : decide ((t273 == t274) = t256) = true := by simpa using c76))
              (try (have c76b2 : ((t273 == t274) == t256) = true := by simpa using c76))
              clear c76
              by_cases c77 : t259 < 0
              · rw [if_pos c77] at H
                have c77b0 : decide (t259 < 0) = true := decide_eq_true c77
                clear c77
                replace H := Option.bind_eq_some_iff.mp H
                obtain ⟨t284, A780, H⟩ := H
                replace H : (if t284 = true then ((impl_Tag.f kj9 t260 t261).bind fun t285 => (if t285 = t262 then ((impl_Clash.f kj9 t255 t254).bind fun t286 => (some (t286 == t256))) else (some false))) else ((impl_Clash.f kj9 t255 t254).bind fun t287 => (some (t287 == t256)))) = some r := H
                have A78 := Aside0.mk A780
                clear A780
                by_cases c79 : t284 = true
                · subst c79
                  have H1 : ((impl_Tag.f kj9 t260 t261).bind fun t285 => (if t285 = t262 then ((impl_Clash.f kj9 t255 t254).bind fun t286 => (some (t286 == t256))) else (some false))) = some r := by rw [if_pos rfl] at H; exact H
                  clear H
                  have H := H1
                  clear H1
                  replace H := Option.bind_eq_some_iff.mp H
                  obtain ⟨t285, A800, H⟩ := H
                  replace H : (if t285 = t262 then ((impl_Clash.f kj9 t255 t254).bind fun t286 => (some (t286 == t256))) else (some false)) = some r := H
                  have A80 := Aside0.mk A800
                  clear A800
                  by_cases c81 : t285 = t262
                  · rw [if_pos c81] at H
                    have c81b0 : (t285 == t262) = true := beq_iff_eq.mpr c81
                    have c81b1 : (t285 != t262) = false := bne_eq_false_iff_eq.mpr c81
                    clear c81
                    replace H := Option.bind_eq_some_iff.mp H
                    obtain ⟨t286, A820, H⟩ := H
                    replace H : (some (t286 == t256)) = some r := H
                    have A82 := Aside0.mk A820
                    clear A820
                    obtain rfl := Option.some.inj H
                    go_wp2_with (first | ((with_reducible refine gate_callee (f := 25) rfl ?_); refine goesL_ (some 83) rfl rfl Tryd.func25 (by kernel_rfl) rfl #[.string t254] rfl (by (try simp only [List.map_toArray, List.map_cons, List.map_nil]); first | done | rfl | (simp only [List.length_drop, List.length_take]; rfl)) ?_; (with_reducible refine (impl_Digest.calls kj9 t254 t273 _ A43.out).mono ?_); rintro e w' ⟨rfl, ⟨nd, rfl⟩⟩; refine ⟨_, rfl, ?_⟩) | ((with_reducible refine gate_callee (f := 25) rfl ?_); refine goesL_ (some 85) rfl rfl Tryd.func25 (by kernel_rfl) rfl #[.string t255] rfl (by (try simp only [List.map_toArray, List.map_cons, List.map_nil]); first | done | rfl | (simp only [List.length_drop, List.length_take]; rfl)) ?_; (with_reducible refine (impl_Digest.calls kj9 t255 t274 _ A44.out).mono ?_); rintro e w' ⟨rfl, ⟨nd, rfl⟩⟩; refine ⟨_, rfl, ?_⟩) | (go_at_call 15; (with_reducible refine (impl_Signed.calls kj9 t260 t261 t262 true _ (Fmt.TabW.below HT.out (by repeat (first | (with_reducible first | exact HB.out | apply below_alloc | apply pw_below_drewN | apply below_drew1) | exact HB.out))) A78.out).mono ?_); rintro e w83 ⟨rfl, hb⟩; have n0_ := Aside0.mk (below_step (by repeat (first | (with_reducible first | exact HB.out | apply below_alloc | apply pw_below_drewN | apply below_drew1) | exact HB.out)) hb); clear HB; have HB := n0_; clear n0_; (try clear hb); (try clear hb2); (try clear hk); (try clear hi)) | (go_at_call 13; (with_reducible refine (impl_Tag.calls kj9 t260 t261 t285 _ (Fmt.TabW.below HT.out (by repeat (first | (with_reducible first | exact HB.out | apply below_alloc | apply pw_below_drewN | apply below_drew1) | exact HB.out))) A80.out).mono ?_); rintro e w84 ⟨rfl, hb⟩; have n0_ := Aside0.mk (below_step (by repeat (first | (with_reducible first | exact HB.out | apply below_alloc | apply pw_below_drewN | apply below_drew1) | exact HB.out)) hb); clear HB; have HB := n0_; clear n0_; (try clear hb); (try clear hb2); (try clear hk); (try clear hi)) | (go_at_call 20; (with_reducible refine (impl_Clash.calls kj9 t255 t254 t286 _ A82.out).mono ?_); rintro e w' ⟨rfl, ⟨nd, rfl⟩⟩))
                    go_ret
                    exact ⟨by first | rfl | (simp [errW_none, errW_some] <;> rfl) | (simp [*, errW_none, errW_some] <;> rfl), by repeat (first | (with_reducible first | exact HB.out | apply below_alloc | apply pw_below_drewN | apply below_drew1) | exact HB.out)⟩
                  · rw [if_neg c81] at H
                    have c81b0 : (t285 == t262) = false := beq_eq_false_iff_ne.mpr c81
                    have c81b1 : (t285 != t262) = true := bne_iff_ne.mpr c81
                    obtain rfl := Option.some.inj H
                    go_wp2_with (first | ((with_reducible refine gate_callee (f := 25) rfl ?_); refine goesL_ (some 83) rfl rfl Tryd.func25 (by kernel_rfl) rfl #[.string t254] rfl (by (try simp only [List.map_toArray, List.map_cons, List.map_nil]); first | done | rfl | (simp only [List.length_drop, List.length_take]; rfl)) ?_; (with_reducible refine (impl_Digest.calls kj9 t254 t273 _ A43.out).mono ?_); rintro e w' ⟨rfl, ⟨nd, rfl⟩⟩; refine ⟨_, rfl, ?_⟩) | ((with_reducible refine gate_callee (f := 25) rfl ?_); refine goesL_ (some 85) rfl rfl Tryd.func25 (by kernel_rfl) rfl #[.string t255] rfl (by (try simp only [List.map_toArray, List.map_cons, List.map_nil]); first | done | rfl | (simp only [List.length_drop, List.length_take]; rfl)) ?_; (with_reducible refine (impl_Digest.calls kj9 t255 t274 _ A44.out).mono ?_); rintro e w' ⟨rfl, ⟨nd, rfl⟩⟩; refine ⟨_, rfl, ?_⟩) | (go_at_call 15; (with_reducible refine (impl_Signed.calls kj9 t260 t261 t262 true _ (Fmt.TabW.below HT.out (by repeat (first | (with_reducible first | exact HB.out | apply below_alloc | apply pw_below_drewN | apply below_drew1) | exact HB.out))) A78.out).mono ?_); rintro e w85 ⟨rfl, hb⟩; have n0_ := Aside0.mk (below_step (by repeat (first | (with_reducible first | exact HB.out | apply below_alloc | apply pw_below_drewN | apply below_drew1) | exact HB.out)) hb); clear HB; have HB := n0_; clear n0_; (try clear hb); (try clear hb2); (try clear hk); (try clear hi)) | (go_at_call 13; (with_reducible refine (impl_Tag.calls kj9 t260 t261 t285 _ (Fmt.TabW.below HT.out (by repeat (first | (with_reducible first | exact HB.out | apply below_alloc | apply pw_below_drewN | apply below_drew1) | exact HB.out))) A80.out).mono ?_); rintro e w86 ⟨rfl, hb⟩; have n0_ := Aside0.mk (below_step (by repeat (first | (with_reducible first | exact HB.out | apply below_alloc | apply pw_below_drewN | apply below_drew1) | exact HB.out)) hb); clear HB; have HB := n0_; clear n0_; (try clear hb); (try clear hb2); (try clear hk); (try clear hi)))
                    go_ret
                    exact ⟨by first | rfl | (simp [errW_none, errW_some] <;> rfl) | (simp [*, errW_none, errW_some] <;> rfl), by repeat (first | (with_reducible first | exact HB.out | apply below_alloc | apply pw_below_drewN | apply below_drew1) | exact HB.out)⟩
                · replace c79 := Bool.eq_false_iff.mpr c79
                  subst c79
                  have H1 : ((impl_Clash.f kj9 t255 t254).bind fun t287 => (some (t287 == t256))) = some r := by rw [if_neg (show ¬ (false = true) by decide)] at H; exact H
                  clear H
                  have H := H1
                  clear H1
                  replace H := Option.bind_eq_some_iff.mp H
                  obtain ⟨t287, A870, H⟩ := H
                  replace H : (some (t287 == t256)) = some r := H
                  have A87 := Aside0.mk A870
                  clear A870
                  obtain rfl := Option.some.inj H
                  go_wp2_with (first | ((with_reducible refine gate_callee (f := 25) rfl ?_); refine goesL_ (some 83) rfl rfl Tryd.func25 (by kernel_rfl) rfl #[.string t254] rfl (by (try simp only [List.map_toArray, List.map_cons, List.map_nil]); first | done | rfl | (simp only [List.length_drop, List.length_take]; rfl)) ?_; (with_reducible refine (impl_Digest.calls kj9 t254 t273 _ A43.out).mono ?_); rintro e w' ⟨rfl, ⟨nd, rfl⟩⟩; refine ⟨_, rfl, ?_⟩) | ((with_reducible refine gate_callee (f := 25) rfl ?_); refine goesL_ (some 85) rfl rfl Tryd.func25 (by kernel_rfl) rfl #[.string t255] rfl (by (try simp only [List.map_toArray, List.map_cons, List.map_nil]); first | done | rfl | (simp only [List.length_drop, List.length_take]; rfl)) ?_; (with_reducible refine (impl_Digest.calls kj9 t255 t274 _ A44.out).mono ?_); rintro e w' ⟨rfl, ⟨nd, rfl⟩⟩; refine ⟨_, rfl, ?_⟩) | (go_at_call 15; (with_reducible refine (impl_Signed.calls kj9 t260 t261 t262 false _ (Fmt.TabW.below HT.out (by repeat (first | (with_reducible first | exact HB.out | apply below_alloc | apply pw_below_drewN | apply below_drew1) | exact HB.out))) A78.out).mono ?_); rintro e w88 ⟨rfl, hb⟩; have n0_ := Aside0.mk (below_step (by repeat (first | (with_reducible first | exact HB.out | apply below_alloc | apply pw_below_drewN | apply below_drew1) | exact HB.out)) hb); clear HB; have HB := n0_; clear n0_; (try clear hb); (try clear hb2); (try clear hk); (try clear hi)) | (go_at_call 20; (with_reducible refine (impl_Clash.calls kj9 t255 t254 t287 _ A87.out).mono ?_); rintro e w' ⟨rfl, ⟨nd, rfl⟩⟩))
                  go_ret
                  exact ⟨by first | rfl | (simp [errW_none, errW_some] <;> rfl) | (simp [*, errW_none, errW_some] <;> rfl), by repeat (first | (with_reducible first | exact HB.out | apply below_alloc | apply pw_below_drewN | apply below_drew1) | exact HB.out)⟩
              · rw [if_neg c77] at H
                have c77b0 : decide (t259 < 0) = false := decide_eq_false c77
                clear c77
                replace H := Option.bind_eq_some_iff.mp H
                obtain ⟨t288, A890, H⟩ := H
                replace H : (if t288 = true then ((impl_Signed.f kj9 t260 t261 t262).bind fun t289 => (if t289 = true then ((impl_Tag.f kj9 t260 t261).bind fun t290 => (if t290 = t262 then ((impl_Clash.f kj9 t255 t254).bind fun t291 => (some (t291 == t256))) else (some false))) else ((impl_Clash.f kj9 t255 t254).bind fun t292 => (some (t292 == t256))))) else (some false)) = some r := H
                have A89 := Aside0.mk A890
                clear A890
                by_cases c90 : t288 = true
                · subst c90
                  have H1 : ((impl_Signed.f kj9 t260 t261 t262).bind fun t289 => (if t289 = true then ((impl_Tag.f kj9 t260 t261).bind fun t290 => (if t290 = t262 then ((impl_Clash.f kj9 t255 t254).bind fun t291 => (some (t291 == t256))) else (some false))) else ((impl_Clash.f kj9 t255 t254).bind fun t292 => (some (t292 == t256))))) = some r := by rw [if_pos rfl] at H; exact H
                  clear H
                  have H := H1
                  clear H1
                  replace H := Option.bind_eq_some_iff.mp H
                  obtain ⟨t289, A910, H⟩ := H
                  replace H : (if t289 = true then ((impl_Tag.f kj9 t260 t261).bind fun t290 => (if t290 = t262 then ((impl_Clash.f kj9 t255 t254).bind fun t291 => (some (t291 == t256))) else (some false))) else ((impl_Clash.f kj9 t255 t254).bind fun t292 => (some (t292 == t256)))) = some r := H
                  have A91 := Aside0.mk A910
                  clear A910
                  by_cases c92 : t289 = true
                  · subst c92
                    have H1 : ((impl_Tag.f kj9 t260 t261).bind fun t290 => (if t290 = t262 then ((impl_Clash.f kj9 t255 t254).bind fun t291 => (some (t291 == t256))) else (some false))) = some r := by rw [if_pos rfl] at H; exact H
                    clear H
                    have H := H1
                    clear H1
                    replace H := Option.bind_eq_some_iff.mp H
                    obtain ⟨t290, A930, H⟩ := H
                    replace H : (if t290 = t262 then ((impl_Clash.f kj9 t255 t254).bind fun t291 => (some (t291 == t256))) else (some false)) = some r := H
                    have A93 := Aside0.mk A930
                    clear A930
                    by_cases c94 : t290 = t262
                    · rw [if_pos c94] at H
                      have c94b0 : (t290 == t262) = true := beq_iff_eq.mpr c94
                      have c94b1 : (t290 != t262) = false := bne_eq_false_iff_eq.mpr c94
                      clear c94
                      replace H := Option.bind_eq_some_iff.mp H
                      obtain ⟨t291, A950, H⟩ := H
                      replace H : (some (t291 == t256)) = some r := H
                      have A95 := Aside0.mk A950
                      clear A950
                      obtain rfl := Option.some.inj H
                      go_wp2_with (first | ((with_reducible refine gate_callee (f := 25) rfl ?_); refine goesL_ (some 83) rfl rfl Tryd.func25 (by kernel_rfl) rfl #[.string t254] rfl (by (try simp only [List.map_toArray, List.map_cons, List.map_nil]); first | done | rfl | (simp only [List.length_drop, List.length_take]; rfl)) ?_; (with_reducible refine (impl_Digest.calls kj9 t254 t273 _ A43.out).mono ?_); rintro e w' ⟨rfl, ⟨nd, rfl⟩⟩; refine ⟨_, rfl, ?_⟩) | ((with_reducible refine gate_callee (f := 25) rfl ?_); refine goesL_ (some 85) rfl rfl Tryd.func25 (by kernel_rfl) rfl #[.string t255] rfl (by (try simp only [List.map_toArray, List.map_cons, List.map_nil]); first | done | rfl | (simp only [List.length_drop, List.length_take]; rfl)) ?_; (with_reducible refine (impl_Digest.calls kj9 t255 t274 _ A44.out).mono ?_); rintro e w' ⟨rfl, ⟨nd, rfl⟩⟩; refine ⟨_, rfl, ?_⟩) | (go_at_call 15; (with_reducible refine (impl_Signed.calls kj9 t257 t258 t259 true _ (Fmt.TabW.below HT.out (by repeat (first | (with_reducible first | exact HB.out | apply below_alloc | apply pw_below_drewN | apply below_drew1) | exact HB.out))) A89.out).mono ?_); rintro e w96 ⟨rfl, hb⟩; have n0_ := Aside0.mk (below_step (by repeat (first | (with_reducible first | exact HB.out | apply below_alloc | apply pw_below_drewN | apply below_drew1) | exact HB.out)) hb); clear HB; have HB := n0_; clear n0_; (try clear hb); (try clear hb2); (try clear hk); (try clear hi)) | (go_at_call 15; (with_reducible refine (impl_Signed.calls kj9 t260 t261 t262 true _ (Fmt.TabW.below HT.out (by repeat (first | (with_reducible first | exact HB.out | apply below_alloc | apply pw_below_drewN | apply below_drew1) | exact HB.out))) A91.out).mono ?_); rintro e w97 ⟨rfl, hb⟩; have n0_ := Aside0.mk (below_step (by repeat (first | (with_reducible first | exact HB.out | apply below_alloc | apply pw_below_drewN | apply below_drew1) | exact HB.out)) hb); clear HB; have HB := n0_; clear n0_; (try clear hb); (try clear hb2); (try clear hk); (try clear hi)) | (go_at_call 13; (with_reducible refine (impl_Tag.calls kj9 t260 t261 t290 _ (Fmt.TabW.below HT.out (by repeat (first | (with_reducible first | exact HB.out | apply below_alloc | apply pw_below_drewN | apply below_drew1) | exact HB.out))) A93.out).mono ?_); rintro e w98 ⟨rfl, hb⟩; have n0_ := Aside0.mk (below_step (by repeat (first | (with_reducible first | exact HB.out | apply below_alloc | apply pw_below_drewN | apply below_drew1) | exact HB.out)) hb); clear HB; have HB := n0_; clear n0_; (try clear hb); (try clear hb2); (try clear hk); (try clear hi)) | (go_at_call 20; (with_reducible refine (impl_Clash.calls kj9 t255 t254 t291 _ A95.out).mono ?_); rintro e w' ⟨rfl, ⟨nd, rfl⟩⟩))
                      go_ret
                      exact ⟨by first | rfl | (simp [errW_none, errW_some] <;> rfl) | (simp [*, errW_none, errW_some] <;> rfl), by repeat (first | (with_reducible first | exact HB.out | apply below_alloc | apply pw_below_drewN | apply below_drew1) | exact HB.out)⟩
                    · rw [if_neg c94] at H
                      have c94b0 : (t290 == t262) = false := beq_eq_false_iff_ne.mpr c94
                      have c94b1 : (t290 != t262) = true := bne_iff_ne.mpr c94
                      obtain rfl := Option.some.inj H
                      go_wp2_with (first | ((with_reducible refine gate_callee (f := 25) rfl ?_); refine goesL_ (some 83) rfl rfl Tryd.func25 (by kernel_rfl) rfl #[.string t254] rfl (by (try simp only [List.map_toArray, List.map_cons, List.map_nil]); first | done | rfl | (simp only [List.length_drop, List.length_take]; rfl)) ?_; (with_reducible refine (impl_Digest.calls kj9 t254 t273 _ A43.out).mono ?_); rintro e w' ⟨rfl, ⟨nd, rfl⟩⟩; refine ⟨_, rfl, ?_⟩) | ((with_reducible refine gate_callee (f := 25) rfl ?_); refine goesL_ (some 85) rfl rfl Tryd.func25 (by kernel_rfl) rfl #[.string t255] rfl (by (try simp only [List.map_toArray, List.map_cons, List.map_nil]); first | done | rfl | (simp only [List.length_drop, List.length_take]; rfl)) ?_; (with_reducible refine (impl_Digest.calls kj9 t255 t274 _ A44.out).mono ?_); rintro e w' ⟨rfl, ⟨nd, rfl⟩⟩; refine ⟨_, rfl, ?_⟩) | (go_at_call 15; (with_reducible refine (impl_Signed.calls kj9 t257 t258 t259 true _ (Fmt.TabW.below HT.out (by repeat (first | (with_reducible first | exact HB.out | apply below_alloc | apply pw_below_drewN | apply below_drew1) | exact HB.out))) A89.out).mono ?_); rintro e w99 ⟨rfl, hb⟩; have n0_ := Aside0.mk (below_step (by repeat (first | (with_reducible first | exact HB.out | apply below_alloc | apply pw_below_drewN | apply below_drew1) | exact HB.out)) hb); clear HB; have HB := n0_; clear n0_; (try clear hb); (try clear hb2); (try clear hk); (try clear hi)) | (go_at_call 15; (with_reducible refine (impl_Signed.calls kj9 t260 t261 t262 true _ (Fmt.TabW.below HT.out (by repeat (first | (with_reducible first | exact HB.out | apply below_alloc | apply pw_below_drewN | apply below_drew1) | exact HB.out))) A91.out).mono ?_); rintro e w100 ⟨rfl, hb⟩; have n0_ := Aside0.mk (below_step (by repeat (first | (with_reducible first | exact HB.out | apply below_alloc | apply pw_below_drewN | apply below_drew1) | exact HB.out)) hb); clear HB; have HB := n0_; clear n0_; (try clear hb); (try clear hb2); (try clear hk); (try clear hi)) | (go_at_call 13; (with_reducible refine (impl_Tag.calls kj9 t260 t261 t290 _ (Fmt.TabW.below HT.out (by repeat (first | (with_reducible first | exact HB.out | apply below_alloc | apply pw_below_drewN | apply below_drew1) | exact HB.out))) A93.out).mono ?_); rintro e w101 ⟨rfl, hb⟩; have n0_ := Aside0.mk (below_step (by repeat (first | (with_reducible first | exact HB.out | apply below_alloc | apply pw_below_drewN | apply below_drew1) | exact HB.out)) hb); clear HB; have HB := n0_; clear n0_; (try clear hb); (try clear hb2); (try clear hk); (try clear hi)))
                      go_ret
                      exact ⟨by first | rfl | (simp [errW_none, errW_some] <;> rfl) | (simp [*, errW_none, errW_some] <;> rfl), by repeat (first | (with_reducible first | exact HB.out | apply below_alloc | apply pw_below_drewN | apply below_drew1) | exact HB.out)⟩
                  · replace c92 := Bool.eq_false_iff.mpr c92
                    subst c92
                    have H1 : ((impl_Clash.f kj9 t255 t254).bind fun t292 => (some (t292 == t256))) = some r := by rw [if_neg (show ¬ (false = true) by decide)] at H; exact H
                    clear H
                    have H := H1
                    clear H1
                    replace H := Option.bind_eq_some_iff.mp H
                    obtain ⟨t292, A1020, H⟩ := H
                    replace H : (some (t292 == t256)) = some r := H
                    have A102 := Aside0.mk A1020
                    clear A1020
                    obtain rfl := Option.some.inj H
                    go_wp2_with (first | ((with_reducible refine gate_callee (f := 25) rfl ?_); refine goesL_ (some 83) rfl rfl Tryd.func25 (by kernel_rfl) rfl #[.string t254] rfl (by (try simp only [List.map_toArray, List.map_cons, List.map_nil]); first | done | rfl | (simp only [List.length_drop, List.length_take]; rfl)) ?_; (with_reducible refine (impl_Digest.calls kj9 t254 t273 _ A43.out).mono ?_); rintro e w' ⟨rfl, ⟨nd, rfl⟩⟩; refine ⟨_, rfl, ?_⟩) | ((with_reducible refine gate_callee (f := 25) rfl ?_); refine goesL_ (some 85) rfl rfl Tryd.func25 (by kernel_rfl) rfl #[.string t255] rfl (by (try simp only [List.map_toArray, List.map_cons, List.map_nil]); first | done | rfl | (simp only [List.length_drop, List.length_take]; rfl)) ?_; (with_reducible refine (impl_Digest.calls kj9 t255 t274 _ A44.out).mono ?_); rintro e w' ⟨rfl, ⟨nd, rfl⟩⟩; refine ⟨_, rfl, ?_⟩) | (go_at_call 15; (with_reducible refine (impl_Signed.calls kj9 t257 t258 t259 true _ (Fmt.TabW.below HT.out (by repeat (first | (with_reducible first | exact HB.out | apply below_alloc | apply pw_below_drewN | apply below_drew1) | exact HB.out))) A89.out).mono ?_); rintro e w103 ⟨rfl, hb⟩; have n0_ := Aside0.mk (below_step (by repeat (first | (with_reducible first | exact HB.out | apply below_alloc | apply pw_below_drewN | apply below_drew1) | exact HB.out)) hb); clear HB; have HB := n0_; clear n0_; (try clear hb); (try clear hb2); (try clear hk); (try clear hi)) | (go_at_call 15; (with_reducible refine (impl_Signed.calls kj9 t260 t261 t262 false _ (Fmt.TabW.below HT.out (by repeat (first | (with_reducible first | exact HB.out | apply below_alloc | apply pw_below_drewN | apply below_drew1) | exact HB.out))) A91.out).mono ?_); rintro e w104 ⟨rfl, hb⟩; have n0_ := Aside0.mk (below_step (by repeat (first | (with_reducible first | exact HB.out | apply below_alloc | apply pw_below_drewN | apply below_drew1) | exact HB.out)) hb); clear HB; have HB := n0_; clear n0_; (try clear hb); (try clear hb2); (try clear hk); (try clear hi)) | (go_at_call 20; (with_reducible refine (impl_Clash.calls kj9 t255 t254 t292 _ A102.out).mono ?_); rintro e w' ⟨rfl, ⟨nd, rfl⟩⟩))
                    go_ret
                    exact ⟨by first | rfl | (simp [errW_none, errW_some] <;> rfl) | (simp [*, errW_none, errW_some] <;> rfl), by repeat (first | (with_reducible first | exact HB.out | apply below_alloc | apply pw_below_drewN | apply below_drew1) | exact HB.out)⟩
                · replace c90 := Bool.eq_false_iff.mpr c90
                  subst c90
                  have H1 : (some false) = some r := by rw [if_neg (show ¬ (false = true) by decide)] at H; exact H
                  clear H
                  have H := H1
                  clear H1
                  obtain rfl := Option.some.inj H
                  go_wp2_with (first | ((with_reducible refine gate_callee (f := 25) rfl ?_); refine goesL_ (some 83) rfl rfl Tryd.func25 (by kernel_rfl) rfl #[.string t254] rfl (by (try simp only [List.map_toArray, List.map_cons, List.map_nil]); first | done | rfl | (simp only [List.length_drop, List.length_take]; rfl)) ?_; (with_reducible refine (impl_Digest.calls kj9 t254 t273 _ A43.out).mono ?_); rintro e w' ⟨rfl, ⟨nd, rfl⟩⟩; refine ⟨_, rfl, ?_⟩) | ((with_reducible refine gate_callee (f := 25) rfl ?_); refine goesL_ (some 85) rfl rfl Tryd.func25 (by kernel_rfl) rfl #[.string t255] rfl (by (try simp only [List.map_toArray, List.map_cons, List.map_nil]); first | done | rfl | (simp only [List.length_drop, List.length_take]; rfl)) ?_; (with_reducible refine (impl_Digest.calls kj9 t255 t274 _ A44.out).mono ?_); rintro e w' ⟨rfl, ⟨nd, rfl⟩⟩; refine ⟨_, rfl, ?_⟩) | (go_at_call 15; (with_reducible refine (impl_Signed.calls kj9 t257 t258 t259 false _ (Fmt.TabW.below HT.out (by repeat (first | (with_reducible first | exact HB.out | apply below_alloc | apply pw_below_drewN | apply below_drew1) | exact HB.out))) A89.out).mono ?_); rintro e w105 ⟨rfl, hb⟩; have n0_ := Aside0.mk (below_step (by repeat (first | (with_reducible first | exact HB.out | apply below_alloc | apply pw_below_drewN | apply below_drew1) | exact HB.out)) hb); clear HB; have HB := n0_; clear n0_; (try clear hb); (try clear hb2); (try clear hk); (try clear hi)))
                  go_ret
                  exact ⟨by first | rfl | (simp [errW_none, errW_some] <;> rfl) | (simp [*, errW_none, errW_some] <;> rfl), by repeat (first | (with_reducible first | exact HB.out | apply below_alloc | apply pw_below_drewN | apply below_drew1) | exact HB.out)⟩
            · rw [if_neg c76] at H
              have c76b0 : ((t273 == t274) == t256) = false := by simpa using c76
              (try (have c76b1 : decide ((t273 == t274) = t256) = false := by simpa using c76))
              (try (have c76b2 : ((t273 == t274) == t256) = false := by simpa using c76))
              (try (have c76b3 : ¬ ((t273 == t274) = t256) := by simpa using c76))
              clear c76
              obtain rfl := Option.some.inj H
              go_wp2_with (first | ((with_reducible refine gate_callee (f := 25) rfl ?_); refine goesL_ (some 83) rfl rfl Tryd.func25 (by kernel_rfl) rfl #[.string t254] rfl (by (try simp only [List.map_toArray, List.map_cons, List.map_nil]); first | done | rfl | (simp only [List.length_drop, List.length_take]; rfl)) ?_; (with_reducible refine (impl_Digest.calls kj9 t254 t273 _ A43.out).mono ?_); rintro e w' ⟨rfl, ⟨nd, rfl⟩⟩; refine ⟨_, rfl, ?_⟩) | ((with_reducible refine gate_callee (f := 25) rfl ?_); refine goesL_ (some 85) rfl rfl Tryd.func25 (by kernel_rfl) rfl #[.string t255] rfl (by (try simp only [List.map_toArray, List.map_cons, List.map_nil]); first | done | rfl | (simp only [List.length_drop, List.length_take]; rfl)) ?_; (with_reducible refine (impl_Digest.calls kj9 t255 t274 _ A44.out).mono ?_); rintro e w' ⟨rfl, ⟨nd, rfl⟩⟩; refine ⟨_, rfl, ?_⟩))
              go_ret
              exact ⟨by first | rfl | (simp [errW_none, errW_some] <;> rfl) | (simp [*, errW_none, errW_some] <;> rfl), by repeat (first | (with_reducible first | exact HB.out | apply below_alloc | apply pw_below_drewN | apply below_drew1) | exact HB.out)⟩

/-- THE ONE PURE STATEMENT of laws_FnDigests: yours. -/
def laws_FnDigests.Pure : Prop := ∀ (l0 : List Int), l0.length ≤ maxLen → l0.length * 1 ≤ 140737488351232 → (∀ x ∈ l0, (Lit.int .u8 x).wf = true) → ∃ k, laws_FnDigests.f k l0 = some true

end Go.Proofs.YtepcmdmclmfgkaaDoor.PFnDigests

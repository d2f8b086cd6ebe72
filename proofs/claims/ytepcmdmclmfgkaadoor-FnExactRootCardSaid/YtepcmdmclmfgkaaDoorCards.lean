/-
  DERIVED. GIVEN WITH THE SEED: THE CARDS: each row of YtepcmdmclmfgkaaDoorRows.lean that lists a variable, with what it lists TIED to the program's text (the seventh form; the later family's looks); each row that meets fmt, with fmt's text TOLD by the authors' own Lean function (tested against real Go, not proved from fmt's source: count such statements apart). THE CARD IS WHAT COUNTS. Prove the row's statement (the work); the ties are given (YtepcmdmclmfgkaaDoorTie.lean); close each card by the builder's one call (the guide's Derived/Test/ToyasCard.lean, 'card_holds'). Laid BY PROGRAM, IN A SANDBOX (cutbox-door.mjs). By AI agents, Wed Nov 11 2026. No macro, syntax, notation, axiom, sorry.
-/
import Derived.Test.YtepcmdmclmfgkaaDoorRows
import GoSem.ClaimSeven
namespace Go.Proofs.YtepcmdmclmfgkaaDoor
namespace Rows

/-- THE TIED CARD OF 'laws.FnExactPair'. -/
def fnExactPairCard : Claim7 := { stood := { row := fnExactPairRow, standIns := [], harness := (true, "527aee6dc672904eda103545eb6e2ef84123330ebf591bd45c006657e3a7654a"), looks := true }, kinds := [], alts := [], laidByText := true, laidKinds := [.data, .data, .data], laidTests := true, laidLooks := .later }
def FnExactPairCardSaid : Prop := Claim7.holds Tryd.pinned (.plain (OpenSpec.ofChange fnExactPairSpec)) fnExactPairCard

/-- THE TIED CARD OF 'laws.FnExactTag'. -/
def fnExactTagCard : Claim7 := { stood := { row := fnExactTagRow, standIns := [], harness := (true, "527aee6dc672904eda103545eb6e2ef84123330ebf591bd45c006657e3a7654a"), looks := true }, kinds := [], alts := [], laidByText := true, laidKinds := [.data, .data, .data], laidTests := true, laidLooks := .later }
def FnExactTagCardSaid : Prop := Claim7.holds Tryd.pinned (.plain (OpenSpec.ofChange fnExactTagSpec)) fnExactTagCard

/-- THE TIED CARD OF 'laws.FnExactSigned'. -/
def fnExactSignedCard : Claim7 := { stood := { row := fnExactSignedRow, standIns := [], harness := (true, "527aee6dc672904eda103545eb6e2ef84123330ebf591bd45c006657e3a7654a"), looks := true }, kinds := [], alts := [], laidByText := true, laidKinds := [.data, .data, .data], laidTests := true, laidLooks := .later }
def FnExactSignedCardSaid : Prop := Claim7.holds Tryd.pinned (.plain (OpenSpec.ofChange fnExactSignedSpec)) fnExactSignedCard

/-- THE TIED CARD OF 'laws.FnExactSlot'. -/
def fnExactSlotCard : Claim7 := { stood := { row := fnExactSlotRow, standIns := [], harness := (true, "527aee6dc672904eda103545eb6e2ef84123330ebf591bd45c006657e3a7654a"), looks := true }, kinds := [], alts := [], laidByText := true, laidKinds := [.data, .data, .data], laidTests := true, laidLooks := .later }
def FnExactSlotCardSaid : Prop := Claim7.holds Tryd.pinned (.plain (OpenSpec.ofChange fnExactSlotSpec)) fnExactSlotCard

/-- THE TIED CARD OF 'laws.FnDigests'. -/
def fnDigestsCard : Claim7 := { stood := { row := fnDigestsRow, standIns := [], harness := (true, "527aee6dc672904eda103545eb6e2ef84123330ebf591bd45c006657e3a7654a"), looks := true }, kinds := [], alts := [], laidByText := true, laidKinds := [.data, .data, .data], laidTests := true, laidLooks := .later }
def FnDigestsCardSaid : Prop := Claim7.holds Tryd.pinned (.plain (OpenSpec.ofChange fnDigestsSpec)) fnDigestsCard

/-- THE TIED CARD OF 'laws.FnExactReadSlot'. -/
def fnExactReadSlotCard : Claim7 := { stood := { row := fnExactReadSlotRow, standIns := [], harness := (true, "527aee6dc672904eda103545eb6e2ef84123330ebf591bd45c006657e3a7654a"), looks := true }, kinds := [], alts := [], laidByText := true, laidKinds := [.data, .data, .data, .sentinel, .sentinel], laidTests := true, laidLooks := .later }
def FnExactReadSlotCardSaid : Prop := Claim7.holds Tryd.pinned (.plain (OpenSpec.ofChange fnExactReadSlotSpec)) fnExactReadSlotCard

/-- THE TIED CARD OF 'laws.FnExactRoot'. -/
def fnExactRootCard : Claim7 := { stood := { row := fnExactRootRow, standIns := [], harness := (true, "527aee6dc672904eda103545eb6e2ef84123330ebf591bd45c006657e3a7654a"), looks := true }, kinds := [], alts := [], laidByText := true, laidKinds := [.data, .data, .data, .sentinel, .sentinel], laidTests := true, laidLooks := .later }
def FnExactRootCardSaid : Prop := Claim7.holds Tryd.pinned (.plain (OpenSpec.ofChange fnExactRootSpec)) fnExactRootCard

/-- THE SECOND FORM's CARD OF 'laws.FnExactPair'. -/
def fnExactPairUptoCard : Claim7 := { stood := { row := fnExactPairUptoRow, standIns := [], harness := (true, "527aee6dc672904eda103545eb6e2ef84123330ebf591bd45c006657e3a7654a"), looks := true }, kinds := [], alts := [], laidByText := true, laidKinds := [.data, .data, .data], laidTests := true, laidLooks := .later }
def FnExactPairUptoCardSaid : Prop := Claim7.holds Tryd.pinned (.plain (OpenSpec.upto fnExactPairSpec)) fnExactPairUptoCard

/-- THE SECOND FORM's CARD OF 'laws.FnExactTag'. -/
def fnExactTagUptoCard : Claim7 := { stood := { row := fnExactTagUptoRow, standIns := [], harness := (true, "527aee6dc672904eda103545eb6e2ef84123330ebf591bd45c006657e3a7654a"), looks := true }, kinds := [], alts := [], laidByText := true, laidKinds := [.data, .data, .data], laidTests := true, laidLooks := .later }
def FnExactTagUptoCardSaid : Prop := Claim7.holds Tryd.pinned (.plain (OpenSpec.upto fnExactTagSpec)) fnExactTagUptoCard

/-- THE SECOND FORM's CARD OF 'laws.FnExactSigned'. -/
def fnExactSignedUptoCard : Claim7 := { stood := { row := fnExactSignedUptoRow, standIns := [], harness := (true, "527aee6dc672904eda103545eb6e2ef84123330ebf591bd45c006657e3a7654a"), looks := true }, kinds := [], alts := [], laidByText := true, laidKinds := [.data, .data, .data], laidTests := true, laidLooks := .later }
def FnExactSignedUptoCardSaid : Prop := Claim7.holds Tryd.pinned (.plain (OpenSpec.upto fnExactSignedSpec)) fnExactSignedUptoCard

/-- THE SECOND FORM's CARD OF 'laws.FnExactSlot'. -/
def fnExactSlotUptoCard : Claim7 := { stood := { row := fnExactSlotUptoRow, standIns := [], harness := (true, "527aee6dc672904eda103545eb6e2ef84123330ebf591bd45c006657e3a7654a"), looks := true }, kinds := [], alts := [], laidByText := true, laidKinds := [.data, .data, .data], laidTests := true, laidLooks := .later }
def FnExactSlotUptoCardSaid : Prop := Claim7.holds Tryd.pinned (.plain (OpenSpec.upto fnExactSlotSpec)) fnExactSlotUptoCard

/-- THE SECOND FORM's CARD OF 'laws.FnDigests'. -/
def fnDigestsUptoCard : Claim7 := { stood := { row := fnDigestsUptoRow, standIns := [], harness := (true, "527aee6dc672904eda103545eb6e2ef84123330ebf591bd45c006657e3a7654a"), looks := true }, kinds := [], alts := [], laidByText := true, laidKinds := [.data, .data, .data], laidTests := true, laidLooks := .later }
def FnDigestsUptoCardSaid : Prop := Claim7.holds Tryd.pinned (.plain (OpenSpec.upto fnDigestsSpec)) fnDigestsUptoCard

/-- THE SECOND FORM's CARD OF 'laws.FnExactReadSlot'. -/
def fnExactReadSlotUptoCard : Claim7 := { stood := { row := fnExactReadSlotUptoRow, standIns := [], harness := (true, "527aee6dc672904eda103545eb6e2ef84123330ebf591bd45c006657e3a7654a"), looks := true }, kinds := [], alts := [], laidByText := true, laidKinds := [.data, .data, .data, .sentinel, .sentinel], laidTests := true, laidLooks := .later }
def FnExactReadSlotUptoCardSaid : Prop := Claim7.holds Tryd.pinned (.plain (OpenSpec.upto fnExactReadSlotSpec)) fnExactReadSlotUptoCard

/-- THE SECOND FORM's CARD OF 'laws.FnExactRoot'. -/
def fnExactRootUptoCard : Claim7 := { stood := { row := fnExactRootUptoRow, standIns := [], harness := (true, "527aee6dc672904eda103545eb6e2ef84123330ebf591bd45c006657e3a7654a"), looks := true }, kinds := [], alts := [], laidByText := true, laidKinds := [.data, .data, .data, .sentinel, .sentinel], laidTests := true, laidLooks := .later }
def FnExactRootUptoCardSaid : Prop := Claim7.holds Tryd.pinned (.plain (OpenSpec.upto fnExactRootSpec)) fnExactRootUptoCard
end Rows
end Go.Proofs.YtepcmdmclmfgkaaDoor

/-
  DERIVED. GIVEN WITH THE SEED: THE CARDS: each row of YtepcmdmclmfgkaaGreatDoorRows.lean that lists a variable, with what it lists TIED to the program's text (the seventh form; the later family's looks); each row that meets fmt, with fmt's text TOLD by the authors' own Lean function (tested against real Go, not proved from fmt's source: count such statements apart). THE CARD IS WHAT COUNTS. Prove the row's statement (the work); the ties are given (YtepcmdmclmfgkaaGreatDoorTie.lean); close each card by the builder's one call (the guide's Derived/Test/ToyasCard.lean, 'card_holds'). Laid BY PROGRAM, IN A SANDBOX (cutbox-door.mjs). By AI agents, Wed Nov 11 2026. No macro, syntax, notation, axiom, sorry.
-/
import Derived.Test.YtepcmdmclmfgkaaGreatDoorRows
import GoSem.ClaimSeven
namespace Go.Proofs.YtepcmdmclmfgkaaGreatDoor
namespace Rows

/-- THE TIED CARD OF 'laws.FnExactHalfway'. -/
def fnExactHalfwayCard : Claim7 := { stood := { row := fnExactHalfwayRow, standIns := [], harness := (true, "3bf7c79fe50ad589a29cbb9241883ef947a1b14daea73ed3f89454730143825b"), looks := true }, kinds := [], alts := [], laidByText := true, laidKinds := [.data, .data, .data, .sentinel, .sentinel], laidTests := true, laidLooks := .later }
def FnExactHalfwayCardSaid : Prop := Claim7.holds Tryz.pinned (.plain (OpenSpec.ofChange fnExactHalfwaySpec)) fnExactHalfwayCard

/-- THE SECOND FORM's CARD OF 'laws.FnExactHalfway'. -/
def fnExactHalfwayUptoCard : Claim7 := { stood := { row := fnExactHalfwayUptoRow, standIns := [], harness := (true, "3bf7c79fe50ad589a29cbb9241883ef947a1b14daea73ed3f89454730143825b"), looks := true }, kinds := [], alts := [], laidByText := true, laidKinds := [.data, .data, .data, .sentinel, .sentinel], laidTests := true, laidLooks := .later }
def FnExactHalfwayUptoCardSaid : Prop := Claim7.holds Tryz.pinned (.plain (OpenSpec.upto fnExactHalfwaySpec)) fnExactHalfwayUptoCard
end Rows
end Go.Proofs.YtepcmdmclmfgkaaGreatDoor

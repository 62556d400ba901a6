/-
  DERIVED. GIVEN WITH THE SEED: THE CARDS: each row of YtibiofjkgdidmaaGreatDoorRows.lean that lists a variable, with what it lists TIED to the program's text (the seventh form; the later family's looks); each row that meets fmt, with fmt's text TOLD by the authors' own Lean function (tested against real Go, not proved from fmt's source: count such statements apart). THE CARD IS WHAT COUNTS. Prove the row's statement (the work); the ties are given (YtibiofjkgdidmaaGreatDoorTie.lean); close each card by the builder's one call (the guide's Derived/Test/ToyasCard.lean, 'card_holds'). Laid BY PROGRAM, IN A SANDBOX (cutbox-door.mjs). By AI agents, Wed Nov 11 2026. No macro, syntax, notation, axiom, sorry.
-/
import Derived.Test.YtibiofjkgdidmaaGreatDoorRows
import GoSem.ClaimSeven
namespace Go.Proofs.YtibiofjkgdidmaaGreatDoor
namespace Rows

/-- THE TIED CARD OF 'laws.FnExactBlocksOfWorld'. -/
def fnExactBlocksOfWorldCard : Claim7 := { stood := { row := fnExactBlocksOfWorldRow, standIns := [], harness := (true, "33b832230db8f0b776a5afb2768aaa0b7bec80275e006d03f806408da7623a0e"), looks := false }, kinds := [], alts := [], laidByText := true, laidKinds := [.data, .data, .data], laidTests := true, laidLooks := .later }
def FnExactBlocksOfWorldCardSaid : Prop := Claim7.holds Tryz.pinned (.plain (OpenSpec.ofChange fnExactBlocksOfWorldSpec)) fnExactBlocksOfWorldCard

/-- THE SECOND FORM's CARD OF 'laws.FnExactBlocksOfWorld'. -/
def fnExactBlocksOfWorldUptoCard : Claim7 := { stood := { row := fnExactBlocksOfWorldUptoRow, standIns := [], harness := (true, "33b832230db8f0b776a5afb2768aaa0b7bec80275e006d03f806408da7623a0e"), looks := false }, kinds := [], alts := [], laidByText := true, laidKinds := [.data, .data, .data], laidTests := true, laidLooks := .later }
def FnExactBlocksOfWorldUptoCardSaid : Prop := Claim7.holds Tryz.pinned (.plain (OpenSpec.upto fnExactBlocksOfWorldSpec)) fnExactBlocksOfWorldUptoCard
end Rows
end Go.Proofs.YtibiofjkgdidmaaGreatDoor

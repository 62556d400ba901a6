/-
  DERIVED. GIVEN WITH THE SEED: THE CARDS: each row of YthpamdpneanlpaaGreatDoorRows.lean that lists a variable, with what it lists TIED to the program's text (the seventh form; the later family's looks); each row that meets fmt, with fmt's text TOLD by the authors' own Lean function (tested against real Go, not proved from fmt's source: count such statements apart). THE CARD IS WHAT COUNTS. Prove the row's statement (the work); the ties are given (YthpamdpneanlpaaGreatDoorTie.lean); close each card by the builder's one call (the guide's Derived/Test/ToyasCard.lean, 'card_holds'). Laid BY PROGRAM, IN A SANDBOX (cutbox-door.mjs). By AI agents, Wed Nov 11 2026. No macro, syntax, notation, axiom, sorry.
-/
import Derived.Test.YthpamdpneanlpaaGreatDoorRows
import GoSem.ClaimSeven
namespace Go.Proofs.YthpamdpneanlpaaGreatDoor
namespace Rows

/-- THE TIED CARD OF 'laws.FnExactSheafPicture'. -/
def fnExactSheafPictureCard : Claim7 := { stood := { row := fnExactSheafPictureRow, standIns := [], harness := (true, "b60f73c5a41da9463615e06c2427b94d3b55abed75779d9fdf668868a333bd0d"), looks := false }, kinds := [], alts := [], laidByText := true, laidKinds := [.data, .data, .data], laidTests := true, laidLooks := .later }
def FnExactSheafPictureCardSaid : Prop := Claim7.holds Tryz.pinned (.plain (OpenSpec.ofChange fnExactSheafPictureSpec)) fnExactSheafPictureCard

/-- THE SECOND FORM's CARD OF 'laws.FnExactSheafPicture'. -/
def fnExactSheafPictureUptoCard : Claim7 := { stood := { row := fnExactSheafPictureUptoRow, standIns := [], harness := (true, "b60f73c5a41da9463615e06c2427b94d3b55abed75779d9fdf668868a333bd0d"), looks := false }, kinds := [], alts := [], laidByText := true, laidKinds := [.data, .data, .data], laidTests := true, laidLooks := .later }
def FnExactSheafPictureUptoCardSaid : Prop := Claim7.holds Tryz.pinned (.plain (OpenSpec.upto fnExactSheafPictureSpec)) fnExactSheafPictureUptoCard
end Rows
end Go.Proofs.YthpamdpneanlpaaGreatDoor

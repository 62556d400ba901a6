/-
  DERIVED. GIVEN WITH THE SEED: THE CARDS: each row of YteiflkhpafhhkaaGreatDoorRows.lean that lists a variable, with what it lists TIED to the program's text (the seventh form; the later family's looks); each row that meets fmt, with fmt's text TOLD by the authors' own Lean function (tested against real Go, not proved from fmt's source: count such statements apart). THE CARD IS WHAT COUNTS. Prove the row's statement (the work); the ties are given (YteiflkhpafhhkaaGreatDoorTie.lean); close each card by the builder's one call (the guide's Derived/Test/ToyasCard.lean, 'card_holds'). Laid BY PROGRAM, IN A SANDBOX (cutbox-door.mjs). By AI agents, Wed Nov 11 2026. No macro, syntax, notation, axiom, sorry.
-/
import Derived.Test.YteiflkhpafhhkaaGreatDoorRows
import GoSem.ClaimSeven
namespace Go.Proofs.YteiflkhpafhhkaaGreatDoor
namespace Rows

/-- THE TIED CARD OF 'laws.FnExactLoadBlocks'. -/
def fnExactLoadBlocksCard : Claim7 := { stood := { row := fnExactLoadBlocksRow, standIns := [], harness := (true, "ef7469b989a8dfb63f45a22342188d86fe9c615a20277cfe87e812d4c842b46a"), looks := true }, kinds := [], alts := [], laidByText := true, laidKinds := [.data, .data, .data, .data, .sentinel, .sentinel, .pinned], laidTests := true, laidLooks := .later }
def FnExactLoadBlocksCardSaid : Prop := Claim7.holds Tryz.pinned (.plain (OpenSpec.ofChange fnExactLoadBlocksSpec)) fnExactLoadBlocksCard

/-- THE SECOND FORM's CARD OF 'laws.FnExactLoadBlocks'. -/
def fnExactLoadBlocksUptoCard : Claim7 := { stood := { row := fnExactLoadBlocksUptoRow, standIns := [], harness := (true, "ef7469b989a8dfb63f45a22342188d86fe9c615a20277cfe87e812d4c842b46a"), looks := true }, kinds := [], alts := [], laidByText := true, laidKinds := [.data, .data, .data, .data, .sentinel, .sentinel, .pinned], laidTests := true, laidLooks := .later }
def FnExactLoadBlocksUptoCardSaid : Prop := Claim7.holds Tryz.pinned (.plain (OpenSpec.upto fnExactLoadBlocksSpec)) fnExactLoadBlocksUptoCard
end Rows
end Go.Proofs.YteiflkhpafhhkaaGreatDoor

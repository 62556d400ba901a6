/-
  DERIVED. GIVEN WITH THE SEED: THE CARDS: each row of YtackggcodaolaaaDoorRows.lean that lists a variable, with what it lists TIED to the program's text (the seventh form; the later family's looks); each row that meets fmt, with fmt's text TOLD by the authors' own Lean function (tested against real Go, not proved from fmt's source: count such statements apart). THE CARD IS WHAT COUNTS. Prove the row's statement (the work); the ties are given (YtackggcodaolaaaDoorTie.lean); close each card by the builder's one call (the guide's Derived/Test/ToyasCard.lean, 'card_holds'). Laid BY PROGRAM, IN A SANDBOX (cutbox-door.mjs). By AI agents, Wed Nov 11 2026. No macro, syntax, notation, axiom, sorry.
-/
import Derived.Test.YtackggcodaolaaaDoorRows
import GoSem.ClaimSeven
namespace Go.Proofs.YtackggcodaolaaaDoor
namespace Rows

/-- THE TIED CARD OF 'laws.FnExactGraphPicture'. -/
def fnExactGraphPictureCard : Claim7 := { stood := { row := fnExactGraphPictureRow, standIns := [], harness := (true, "e0109050c5895226b198357a8f24e0f214021408ca804aee0b1bbc548428ec49"), looks := false }, kinds := [], alts := [], laidByText := true, laidKinds := [.data, .data, .data], laidTests := true, laidLooks := .later }
def FnExactGraphPictureCardSaid : Prop := Claim7.holds Tryd.pinned (.plain (OpenSpec.ofChange fnExactGraphPictureSpec)) fnExactGraphPictureCard

/-- THE TIED CARD OF 'laws.FnExactMatrixPicture'. -/
def fnExactMatrixPictureCard : Claim7 := { stood := { row := fnExactMatrixPictureRow, standIns := [], harness := (true, "e0109050c5895226b198357a8f24e0f214021408ca804aee0b1bbc548428ec49"), looks := false }, kinds := [], alts := [], laidByText := true, laidKinds := [.data, .data, .data], laidTests := true, laidLooks := .later }
def FnExactMatrixPictureCardSaid : Prop := Claim7.holds Tryd.pinned (.plain (OpenSpec.ofChange fnExactMatrixPictureSpec)) fnExactMatrixPictureCard

/-- THE TIED CARD OF 'laws.FnExactSaveBlocks'. -/
def fnExactSaveBlocksCard : Claim7 := { stood := { row := fnExactSaveBlocksRow, standIns := [], harness := (true, "e0109050c5895226b198357a8f24e0f214021408ca804aee0b1bbc548428ec49"), looks := false }, kinds := [], alts := [], laidByText := true, laidKinds := [.data, .data, .data], laidTests := true, laidLooks := .later }
def FnExactSaveBlocksCardSaid : Prop := Claim7.holds Tryd.pinned (.plain (OpenSpec.ofChange fnExactSaveBlocksSpec)) fnExactSaveBlocksCard

/-- THE SECOND FORM's CARD OF 'laws.FnExactGraphPicture'. -/
def fnExactGraphPictureUptoCard : Claim7 := { stood := { row := fnExactGraphPictureUptoRow, standIns := [], harness := (true, "e0109050c5895226b198357a8f24e0f214021408ca804aee0b1bbc548428ec49"), looks := false }, kinds := [], alts := [], laidByText := true, laidKinds := [.data, .data, .data], laidTests := true, laidLooks := .later }
def FnExactGraphPictureUptoCardSaid : Prop := Claim7.holds Tryd.pinned (.plain (OpenSpec.upto fnExactGraphPictureSpec)) fnExactGraphPictureUptoCard

/-- THE SECOND FORM's CARD OF 'laws.FnExactMatrixPicture'. -/
def fnExactMatrixPictureUptoCard : Claim7 := { stood := { row := fnExactMatrixPictureUptoRow, standIns := [], harness := (true, "e0109050c5895226b198357a8f24e0f214021408ca804aee0b1bbc548428ec49"), looks := false }, kinds := [], alts := [], laidByText := true, laidKinds := [.data, .data, .data], laidTests := true, laidLooks := .later }
def FnExactMatrixPictureUptoCardSaid : Prop := Claim7.holds Tryd.pinned (.plain (OpenSpec.upto fnExactMatrixPictureSpec)) fnExactMatrixPictureUptoCard

/-- THE SECOND FORM's CARD OF 'laws.FnExactSaveBlocks'. -/
def fnExactSaveBlocksUptoCard : Claim7 := { stood := { row := fnExactSaveBlocksUptoRow, standIns := [], harness := (true, "e0109050c5895226b198357a8f24e0f214021408ca804aee0b1bbc548428ec49"), looks := false }, kinds := [], alts := [], laidByText := true, laidKinds := [.data, .data, .data], laidTests := true, laidLooks := .later }
def FnExactSaveBlocksUptoCardSaid : Prop := Claim7.holds Tryd.pinned (.plain (OpenSpec.upto fnExactSaveBlocksSpec)) fnExactSaveBlocksUptoCard
end Rows
end Go.Proofs.YtackggcodaolaaaDoor

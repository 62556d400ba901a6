/-
  DERIVED. GIVEN WITH THE SEED: THE CARDS: each row of YtfepelmocldcnaaDoorRows.lean that lists a variable, with what it lists TIED to the program's text (the seventh form; the later family's looks); each row that meets fmt, with fmt's text TOLD by the authors' own Lean function (tested against real Go, not proved from fmt's source: count such statements apart). THE CARD IS WHAT COUNTS. Prove the row's statement (the work); the ties are given (YtfepelmocldcnaaDoorTie.lean); close each card by the builder's one call (the guide's Derived/Test/ToyasCard.lean, 'card_holds'). Laid BY PROGRAM, IN A SANDBOX (cutbox-door.mjs). By AI agents, Wed Nov 11 2026. No macro, syntax, notation, axiom, sorry.
-/
import Derived.Test.YtfepelmocldcnaaDoorRows
import GoSem.ClaimSeven
namespace Go.Proofs.YtfepelmocldcnaaDoor
namespace Rows

/-- THE TIED CARD OF 'laws.FnExactSalvageBlocks'. -/
def fnExactSalvageBlocksCard : Claim7 := { stood := { row := fnExactSalvageBlocksRow, standIns := [], harness := (true, "43fd789283c3175268b6e9ecab9ed0633bf8da6c1bd2282d5ff81ac6c7bb2580"), looks := false }, kinds := [], alts := [], laidByText := true, laidKinds := [.data, .data, .data, .data, .pinned], laidTests := true, laidLooks := .later }
def FnExactSalvageBlocksCardSaid : Prop := Claim7.holds Tryd.pinned (.plain (OpenSpec.ofChange fnExactSalvageBlocksSpec)) fnExactSalvageBlocksCard

/-- THE SECOND FORM's CARD OF 'laws.FnExactSalvageBlocks'. -/
def fnExactSalvageBlocksUptoCard : Claim7 := { stood := { row := fnExactSalvageBlocksUptoRow, standIns := [], harness := (true, "43fd789283c3175268b6e9ecab9ed0633bf8da6c1bd2282d5ff81ac6c7bb2580"), looks := false }, kinds := [], alts := [], laidByText := true, laidKinds := [.data, .data, .data, .data, .pinned], laidTests := true, laidLooks := .later }
def FnExactSalvageBlocksUptoCardSaid : Prop := Claim7.holds Tryd.pinned (.plain (OpenSpec.upto fnExactSalvageBlocksSpec)) fnExactSalvageBlocksUptoCard
end Rows
end Go.Proofs.YtfepelmocldcnaaDoor

/-
  DERIVED. GIVEN WITH THE SEED: THE CARDS: each row of YtbipmejjnalmiaaDoorRows.lean that lists a variable, with what it lists TIED to the program's text (the seventh form; the later family's looks); each row that meets fmt, with fmt's text TOLD by the authors' own Lean function (tested against real Go, not proved from fmt's source: count such statements apart). THE CARD IS WHAT COUNTS. Prove the row's statement (the work); the ties are given (YtbipmejjnalmiaaDoorTie.lean); close each card by the builder's one call (the guide's Derived/Test/ToyasCard.lean, 'card_holds'). Laid BY PROGRAM, IN A SANDBOX (cutbox-door.mjs). By AI agents, Wed Nov 11 2026. No macro, syntax, notation, axiom, sorry.
-/
import Derived.Test.YtbipmejjnalmiaaDoorRows
import GoSem.ClaimSeven
namespace Go.Proofs.YtbipmejjnalmiaaDoor
namespace Rows

/-- THE TIED CARD OF 'laws.FnExactReadItems'. -/
def fnExactReadItemsCard : Claim7 := { stood := { row := fnExactReadItemsRow, standIns := [], harness := (true, "c5fe02bf196068364a4bf176150c0d3a558369633ecd10c682ed7c8982bb9da4"), looks := true }, kinds := [], alts := [], laidByText := true, laidKinds := [.data, .data, .data, .data, .sentinel, .sentinel, .pinned], laidTests := true, laidLooks := .later }
def FnExactReadItemsCardSaid : Prop := Claim7.holds Tryd.pinned (.plain (OpenSpec.ofChange fnExactReadItemsSpec)) fnExactReadItemsCard

/-- THE SECOND FORM's CARD OF 'laws.FnExactReadItems'. -/
def fnExactReadItemsUptoCard : Claim7 := { stood := { row := fnExactReadItemsUptoRow, standIns := [], harness := (true, "c5fe02bf196068364a4bf176150c0d3a558369633ecd10c682ed7c8982bb9da4"), looks := true }, kinds := [], alts := [], laidByText := true, laidKinds := [.data, .data, .data, .data, .sentinel, .sentinel, .pinned], laidTests := true, laidLooks := .later }
def FnExactReadItemsUptoCardSaid : Prop := Claim7.holds Tryd.pinned (.plain (OpenSpec.upto fnExactReadItemsSpec)) fnExactReadItemsUptoCard
end Rows
end Go.Proofs.YtbipmejjnalmiaaDoor

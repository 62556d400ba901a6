/-
  DERIVED. GIVEN WITH THE SEED: THE CARDS: each row of YtfinlkoplekgkaaGreatDoorRows.lean that lists a variable, with what it lists TIED to the program's text (the seventh form; the later family's looks); each row that meets fmt, with fmt's text TOLD by the authors' own Lean function (tested against real Go, not proved from fmt's source: count such statements apart). THE CARD IS WHAT COUNTS. Prove the row's statement (the work); the ties are given (YtfinlkoplekgkaaGreatDoorTie.lean); close each card by the builder's one call (the guide's Derived/Test/ToyasCard.lean, 'card_holds'). Laid BY PROGRAM, IN A SANDBOX (cutbox-door.mjs). By AI agents, Wed Nov 11 2026. No macro, syntax, notation, axiom, sorry.
-/
import Derived.Test.YtfinlkoplekgkaaGreatDoorRows
import GoSem.ClaimSeven
namespace Go.Proofs.YtfinlkoplekgkaaGreatDoor
namespace Rows

/-- THE TIED CARD OF 'laws.FnExactPassesAudit'. -/
def fnExactPassesAuditCard : Claim7 := { stood := { row := fnExactPassesAuditRow, standIns := [], harness := (true, "31d7bb60d4cbae46097e9b1d4025aafe4ea47d0eca3fbf389f6918d424500c55"), looks := false }, kinds := [], alts := [], laidByText := true, laidKinds := [.data, .data, .data], laidTests := true, laidLooks := .later }
def FnExactPassesAuditCardSaid : Prop := Claim7.holds Tryz.pinned (.plain (OpenSpec.ofChange fnExactPassesAuditSpec)) fnExactPassesAuditCard

/-- THE SECOND FORM's CARD OF 'laws.FnExactPassesAudit'. -/
def fnExactPassesAuditUptoCard : Claim7 := { stood := { row := fnExactPassesAuditUptoRow, standIns := [], harness := (true, "31d7bb60d4cbae46097e9b1d4025aafe4ea47d0eca3fbf389f6918d424500c55"), looks := false }, kinds := [], alts := [], laidByText := true, laidKinds := [.data, .data, .data], laidTests := true, laidLooks := .later }
def FnExactPassesAuditUptoCardSaid : Prop := Claim7.holds Tryz.pinned (.plain (OpenSpec.upto fnExactPassesAuditSpec)) fnExactPassesAuditUptoCard
end Rows
end Go.Proofs.YtfinlkoplekgkaaGreatDoor

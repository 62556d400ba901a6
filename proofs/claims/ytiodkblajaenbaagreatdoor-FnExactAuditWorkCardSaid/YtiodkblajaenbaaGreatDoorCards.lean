/-
  DERIVED. GIVEN WITH THE SEED: THE CARDS: each row of YtiodkblajaenbaaGreatDoorRows.lean that lists a variable, with what it lists TIED to the program's text (the seventh form; the later family's looks); each row that meets fmt, with fmt's text TOLD by the authors' own Lean function (tested against real Go, not proved from fmt's source: count such statements apart). THE CARD IS WHAT COUNTS. Prove the row's statement (the work); the ties are given (YtiodkblajaenbaaGreatDoorTie.lean); close each card by the builder's one call (the guide's Derived/Test/ToyasCard.lean, 'card_holds'). Laid BY PROGRAM, IN A SANDBOX (cutbox-door.mjs). By AI agents, Wed Nov 11 2026. No macro, syntax, notation, axiom, sorry.
-/
import Derived.Test.YtiodkblajaenbaaGreatDoorRows
import GoSem.ClaimSeven
namespace Go.Proofs.YtiodkblajaenbaaGreatDoor
namespace Rows

/-- THE TIED CARD OF 'laws.FnExactAuditWork'. -/
def fnExactAuditWorkCard : Claim7 := { stood := { row := fnExactAuditWorkRow, standIns := [], harness := (true, "eee65766c333728e8c4b1fd156cc223e6378ba7b4f413a687dc4e408e4a9db10"), looks := false }, kinds := [], alts := [], laidByText := true, laidKinds := [.data, .data, .data], laidTests := true, laidLooks := .later }
def FnExactAuditWorkCardSaid : Prop := Claim7.holds Tryz.pinned (.plain (OpenSpec.ofChange fnExactAuditWorkSpec)) fnExactAuditWorkCard

/-- THE SECOND FORM's CARD OF 'laws.FnExactAuditWork'. -/
def fnExactAuditWorkUptoCard : Claim7 := { stood := { row := fnExactAuditWorkUptoRow, standIns := [], harness := (true, "eee65766c333728e8c4b1fd156cc223e6378ba7b4f413a687dc4e408e4a9db10"), looks := false }, kinds := [], alts := [], laidByText := true, laidKinds := [.data, .data, .data], laidTests := true, laidLooks := .later }
def FnExactAuditWorkUptoCardSaid : Prop := Claim7.holds Tryz.pinned (.plain (OpenSpec.upto fnExactAuditWorkSpec)) fnExactAuditWorkUptoCard
end Rows
end Go.Proofs.YtiodkblajaenbaaGreatDoor

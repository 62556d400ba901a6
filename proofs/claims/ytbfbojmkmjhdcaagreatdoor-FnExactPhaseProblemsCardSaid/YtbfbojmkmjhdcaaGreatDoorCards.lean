/-
  DERIVED. GIVEN WITH THE SEED: THE CARDS: each row of YtbfbojmkmjhdcaaGreatDoorRows.lean that lists a variable, with what it lists TIED to the program's text (the seventh form; the later family's looks); each row that meets fmt, with fmt's text TOLD by the authors' own Lean function (tested against real Go, not proved from fmt's source: count such statements apart). THE CARD IS WHAT COUNTS. Prove the row's statement (the work); the ties are given (YtbfbojmkmjhdcaaGreatDoorTie.lean); close each card by the builder's one call (the guide's Derived/Test/ToyasCard.lean, 'card_holds'). Laid BY PROGRAM, IN A SANDBOX (cutbox-door.mjs). By AI agents, Wed Nov 11 2026. No macro, syntax, notation, axiom, sorry.
-/
import Derived.Test.YtbfbojmkmjhdcaaGreatDoorRows
import GoSem.ClaimSeven
namespace Go.Proofs.YtbfbojmkmjhdcaaGreatDoor
namespace Rows

/-- THE TIED CARD OF 'laws.FnExactPhaseProblems'. -/
def fnExactPhaseProblemsCard : Claim7 := { stood := { row := fnExactPhaseProblemsRow, standIns := [], harness := (true, "9854386839cc2408b53cc0dffa5aeaf79c741849781730bc9ddfe5bd4699547b"), looks := false }, kinds := [], alts := [], laidByText := true, laidKinds := [.data, .data, .data], laidTests := true, laidLooks := .later }
def FnExactPhaseProblemsCardSaid : Prop := Claim7.holds Tryz.pinned (.plain (OpenSpec.ofChange fnExactPhaseProblemsSpec)) fnExactPhaseProblemsCard

/-- THE SECOND FORM's CARD OF 'laws.FnExactPhaseProblems'. -/
def fnExactPhaseProblemsUptoCard : Claim7 := { stood := { row := fnExactPhaseProblemsUptoRow, standIns := [], harness := (true, "9854386839cc2408b53cc0dffa5aeaf79c741849781730bc9ddfe5bd4699547b"), looks := false }, kinds := [], alts := [], laidByText := true, laidKinds := [.data, .data, .data], laidTests := true, laidLooks := .later }
def FnExactPhaseProblemsUptoCardSaid : Prop := Claim7.holds Tryz.pinned (.plain (OpenSpec.upto fnExactPhaseProblemsSpec)) fnExactPhaseProblemsUptoCard
end Rows
end Go.Proofs.YtbfbojmkmjhdcaaGreatDoor

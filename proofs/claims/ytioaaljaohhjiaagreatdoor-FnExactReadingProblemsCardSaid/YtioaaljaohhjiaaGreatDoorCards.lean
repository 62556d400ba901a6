/-
  DERIVED. GIVEN WITH THE SEED: THE CARDS: each row of YtioaaljaohhjiaaGreatDoorRows.lean that lists a variable, with what it lists TIED to the program's text (the seventh form; the later family's looks); each row that meets fmt, with fmt's text TOLD by the authors' own Lean function (tested against real Go, not proved from fmt's source: count such statements apart). THE CARD IS WHAT COUNTS. Prove the row's statement (the work); the ties are given (YtioaaljaohhjiaaGreatDoorTie.lean); close each card by the builder's one call (the guide's Derived/Test/ToyasCard.lean, 'card_holds'). Laid BY PROGRAM, IN A SANDBOX (cutbox-door.mjs). By AI agents, Wed Nov 11 2026. No macro, syntax, notation, axiom, sorry.
-/
import Derived.Test.YtioaaljaohhjiaaGreatDoorRows
import GoSem.ClaimSeven
namespace Go.Proofs.YtioaaljaohhjiaaGreatDoor
namespace Rows

/-- THE TIED CARD OF 'laws.FnExactReadingProblems'. -/
def fnExactReadingProblemsCard : Claim7 := { stood := { row := fnExactReadingProblemsRow, standIns := [], harness := (true, "31e7d2fa7ea379dce74a1db4dd7c4eef2924936cd83a182eefa92e392bb62886"), looks := false }, kinds := [], alts := [], laidByText := true, laidKinds := [.data, .data, .data], laidTests := true, laidLooks := .later }
def FnExactReadingProblemsCardSaid : Prop := Claim7.holds Tryz.pinned (.plain (OpenSpec.ofChange fnExactReadingProblemsSpec)) fnExactReadingProblemsCard

/-- THE SECOND FORM's CARD OF 'laws.FnExactReadingProblems'. -/
def fnExactReadingProblemsUptoCard : Claim7 := { stood := { row := fnExactReadingProblemsUptoRow, standIns := [], harness := (true, "31e7d2fa7ea379dce74a1db4dd7c4eef2924936cd83a182eefa92e392bb62886"), looks := false }, kinds := [], alts := [], laidByText := true, laidKinds := [.data, .data, .data], laidTests := true, laidLooks := .later }
def FnExactReadingProblemsUptoCardSaid : Prop := Claim7.holds Tryz.pinned (.plain (OpenSpec.upto fnExactReadingProblemsSpec)) fnExactReadingProblemsUptoCard
end Rows
end Go.Proofs.YtioaaljaohhjiaaGreatDoor

/-
  DERIVED. GIVEN WITH THE SEED: THE CARDS: each row of YtchfjdcfhlhgcaaGreatDoorRows.lean that lists a variable, with what it lists TIED to the program's text (the seventh form; the later family's looks); each row that meets fmt, with fmt's text TOLD by the authors' own Lean function (tested against real Go, not proved from fmt's source: count such statements apart). THE CARD IS WHAT COUNTS. Prove the row's statement (the work); the ties are given (YtchfjdcfhlhgcaaGreatDoorTie.lean); close each card by the builder's one call (the guide's Derived/Test/ToyasCard.lean, 'card_holds'). Laid BY PROGRAM, IN A SANDBOX (cutbox-door.mjs). By AI agents, Wed Nov 11 2026. No macro, syntax, notation, axiom, sorry.
-/
import Derived.Test.YtchfjdcfhlhgcaaGreatDoorRows
import GoSem.ClaimSeven
namespace Go.Proofs.YtchfjdcfhlhgcaaGreatDoor
namespace Rows

/-- THE TIED CARD OF 'laws.FnExactSheafProblems'. -/
def fnExactSheafProblemsCard : Claim7 := { stood := { row := fnExactSheafProblemsRow, standIns := [], harness := (true, "b4d4088422f40a1e5b3e2735e57883e236646b06971a3db4f4be19129793593b"), looks := false }, kinds := [], alts := [], laidByText := true, laidKinds := [.data, .data, .data], laidTests := true, laidLooks := .later }
def FnExactSheafProblemsCardSaid : Prop := Claim7.holds Tryz.pinned (.plain (OpenSpec.ofChange fnExactSheafProblemsSpec)) fnExactSheafProblemsCard

/-- THE SECOND FORM's CARD OF 'laws.FnExactSheafProblems'. -/
def fnExactSheafProblemsUptoCard : Claim7 := { stood := { row := fnExactSheafProblemsUptoRow, standIns := [], harness := (true, "b4d4088422f40a1e5b3e2735e57883e236646b06971a3db4f4be19129793593b"), looks := false }, kinds := [], alts := [], laidByText := true, laidKinds := [.data, .data, .data], laidTests := true, laidLooks := .later }
def FnExactSheafProblemsUptoCardSaid : Prop := Claim7.holds Tryz.pinned (.plain (OpenSpec.upto fnExactSheafProblemsSpec)) fnExactSheafProblemsUptoCard
end Rows
end Go.Proofs.YtchfjdcfhlhgcaaGreatDoor

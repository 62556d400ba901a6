/-
  DERIVED. GIVEN WITH THE SEED: THE CARDS: each row of YthbodbmcalfmaaaGreatDoorRows.lean that lists a variable, with what it lists TIED to the program's text (the seventh form; the later family's looks); each row that meets fmt, with fmt's text TOLD by the authors' own Lean function (tested against real Go, not proved from fmt's source: count such statements apart). THE CARD IS WHAT COUNTS. Prove the row's statement (the work); the ties are given (YthbodbmcalfmaaaGreatDoorTie.lean); close each card by the builder's one call (the guide's Derived/Test/ToyasCard.lean, 'card_holds'). Laid BY PROGRAM, IN A SANDBOX (cutbox-door.mjs). By AI agents, Wed Nov 11 2026. No macro, syntax, notation, axiom, sorry.
-/
import Derived.Test.YthbodbmcalfmaaaGreatDoorRows
import GoSem.ClaimSeven
namespace Go.Proofs.YthbodbmcalfmaaaGreatDoor
namespace Rows

/-- THE TIED CARD OF 'laws.FnExactFlowProblems'. -/
def fnExactFlowProblemsCard : Claim7 := { stood := { row := fnExactFlowProblemsRow, standIns := [], harness := (true, "ad16ffc8abe2117d9d9bd43f8718f3cfc14d79e7ba5456449226908e39bb061f"), looks := false }, kinds := [], alts := [], laidByText := true, laidKinds := [.data, .data, .data], laidTests := true, laidLooks := .later }
def FnExactFlowProblemsCardSaid : Prop := Claim7.holds Tryz.pinned (.plain (OpenSpec.ofChange fnExactFlowProblemsSpec)) fnExactFlowProblemsCard

/-- THE SECOND FORM's CARD OF 'laws.FnExactFlowProblems'. -/
def fnExactFlowProblemsUptoCard : Claim7 := { stood := { row := fnExactFlowProblemsUptoRow, standIns := [], harness := (true, "ad16ffc8abe2117d9d9bd43f8718f3cfc14d79e7ba5456449226908e39bb061f"), looks := false }, kinds := [], alts := [], laidByText := true, laidKinds := [.data, .data, .data], laidTests := true, laidLooks := .later }
def FnExactFlowProblemsUptoCardSaid : Prop := Claim7.holds Tryz.pinned (.plain (OpenSpec.upto fnExactFlowProblemsSpec)) fnExactFlowProblemsUptoCard
end Rows
end Go.Proofs.YthbodbmcalfmaaaGreatDoor

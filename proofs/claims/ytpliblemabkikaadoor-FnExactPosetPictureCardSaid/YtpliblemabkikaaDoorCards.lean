/-
  DERIVED. GIVEN WITH THE SEED: THE CARDS: each row of YtpliblemabkikaaDoorRows.lean that lists a variable, with what it lists TIED to the program's text (the seventh form; the later family's looks); each row that meets fmt, with fmt's text TOLD by the authors' own Lean function (tested against real Go, not proved from fmt's source: count such statements apart). THE CARD IS WHAT COUNTS. Prove the row's statement (the work); the ties are given (YtpliblemabkikaaDoorTie.lean); close each card by the builder's one call (the guide's Derived/Test/ToyasCard.lean, 'card_holds'). Laid BY PROGRAM, IN A SANDBOX (cutbox-door.mjs). By AI agents, Wed Nov 11 2026. No macro, syntax, notation, axiom, sorry.
-/
import Derived.Test.YtpliblemabkikaaDoorRows
import GoSem.ClaimSeven
namespace Go.Proofs.YtpliblemabkikaaDoor
namespace Rows

/-- THE TIED CARD OF 'laws.FnExactPosetPicture'. -/
def fnExactPosetPictureCard : Claim7 := { stood := { row := fnExactPosetPictureRow, standIns := [], harness := (true, "781b02ebb2b1e28f34b52b34c1a79a218a21386fc453ca68ce481966e8ae463d"), looks := false }, kinds := [], alts := [], laidByText := true, laidKinds := [.data, .data, .data], laidTests := true, laidLooks := .later }
def FnExactPosetPictureCardSaid : Prop := Claim7.holds Tryd.pinned (.plain (OpenSpec.ofChange fnExactPosetPictureSpec)) fnExactPosetPictureCard

/-- THE SECOND FORM's CARD OF 'laws.FnExactPosetPicture'. -/
def fnExactPosetPictureUptoCard : Claim7 := { stood := { row := fnExactPosetPictureUptoRow, standIns := [], harness := (true, "781b02ebb2b1e28f34b52b34c1a79a218a21386fc453ca68ce481966e8ae463d"), looks := false }, kinds := [], alts := [], laidByText := true, laidKinds := [.data, .data, .data], laidTests := true, laidLooks := .later }
def FnExactPosetPictureUptoCardSaid : Prop := Claim7.holds Tryd.pinned (.plain (OpenSpec.upto fnExactPosetPictureSpec)) fnExactPosetPictureUptoCard
end Rows
end Go.Proofs.YtpliblemabkikaaDoor

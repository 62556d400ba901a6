/- FnExactLoadBlocks: the printed law answers true. No conditions. -/
import Derived.Test.YteiflkhpafhhkaaGreatDoorPlFnExactLoadBlocks
set_option linter.unusedVariables false
namespace Go.Proofs.YteiflkhpafhhkaaGreatDoor.Pure
open Go.RowKit Go.Proofs.YteiflkhpafhhkaaGreatDoor.Ev
theorem FnExactLoadBlocks (a0:List UInt8) (f0:InR .str a0):∃ k:Nat,zff k a0=some true:=zyx a0 f0
end Go.Proofs.YteiflkhpafhhkaaGreatDoor.Pure

/- FnSalvage: the printed law answers true. No conditions. -/
import Derived.Test.YtjbnebolfnjneaaGreatDoorPlFnSalvage
set_option linter.unusedVariables false
namespace Go.Proofs.YtjbnebolfnjneaaGreatDoor.Pure
open Go.RowKit Go.Proofs.YtjbnebolfnjneaaGreatDoor.Ev
theorem FnSalvage (a0:List Int) (a1:List Int) (f0:InR (.sl 5 (.int .u8)) a0) (f1:InR (.sl 5 (.int .u8)) a1):∃ k:Nat,zhh k a0 a1=some true:=z16j a0 a1 f0 f1
end Go.Proofs.YtjbnebolfnjneaaGreatDoor.Pure

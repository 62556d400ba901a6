/- FnExactReadItems: the printed law answers true. No conditions. -/
import Derived.Test.YtbipmejjnalmiaaDoorPlFnExactReadItems
set_option linter.unusedVariables false
namespace Go.Proofs.YtbipmejjnalmiaaDoor.Pure
open Go.RowKit Go.Proofs.YtbipmejjnalmiaaDoor.Ev
theorem FnExactReadItems (a0:List UInt8) (f0:InR .str a0):∃ k:Nat,zfw k a0=some true:=z10c a0 f0
end Go.Proofs.YtbipmejjnalmiaaDoor.Pure

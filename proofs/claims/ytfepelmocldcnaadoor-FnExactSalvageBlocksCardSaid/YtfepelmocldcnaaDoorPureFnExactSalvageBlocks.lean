/- FnExactSalvageBlocks: the printed law answers true. No conditions. -/
import Derived.Test.YtfepelmocldcnaaDoorPlFnExactSalvageBlocks
set_option linter.unusedVariables false
namespace Go.Proofs.YtfepelmocldcnaaDoor.Pure
open Go.RowKit Go.Proofs.YtfepelmocldcnaaDoor.Ev
theorem FnExactSalvageBlocks (a0 : List UInt8) (f0 : InR .str a0) : ∃ k : Nat, laws_FnExactSalvageBlocks k a0 = some true := pure_FnExactSalvageBlocks a0 f0
end Go.Proofs.YtfepelmocldcnaaDoor.Pure

/- FnExactDamagedLines: the printed law answers true. No conditions. -/
import Derived.Test.YtobblpbbjaennaaDoorPlFnExactDamagedLines
set_option linter.unusedVariables false
namespace Go.Proofs.YtobblpbbjaennaaDoor.Pure
open Go.RowKit Go.Proofs.YtobblpbbjaennaaDoor.Ev
theorem FnExactDamagedLines (a0 : List UInt8) (f0 : InR .str a0) : ∃ k : Nat, laws_FnExactDamagedLines k a0 = some true := pure_FnExactDamagedLines a0 f0
end Go.Proofs.YtobblpbbjaennaaDoor.Pure

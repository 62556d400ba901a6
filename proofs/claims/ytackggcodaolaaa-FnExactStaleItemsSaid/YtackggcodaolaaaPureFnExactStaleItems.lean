/- FnExactStaleItems: the printed law answers true. No conditions. -/
import Derived.Test.YtackggcodaolaaaPlFnExactStaleItems
set_option linter.unusedVariables false
namespace Go.Proofs.Ytackggcodaolaaa.Pure
open Go.RowKit Go.Proofs.Ytackggcodaolaaa.Ev
theorem FnExactStaleItems (a0 : List (List UInt8 × List (List UInt8) × Int × Int)) (f0 : InR (.sl 151 (.st (.pr .str (.pr (.sl 9 .str) (.pr (.int .i64) (.int .i64)))))) a0) : ∃ k : Nat, laws_FnExactStaleItems k a0 = some true := pure_FnExactStaleItems a0 f0
end Go.Proofs.Ytackggcodaolaaa.Pure

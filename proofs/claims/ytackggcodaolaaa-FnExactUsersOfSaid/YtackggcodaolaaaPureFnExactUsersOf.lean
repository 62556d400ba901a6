/- FnExactUsersOf: the printed law answers true. No conditions. -/
import Derived.Test.YtackggcodaolaaaPlFnExactUsersOf
set_option linter.unusedVariables false
namespace Go.Proofs.Ytackggcodaolaaa.Pure
open Go.RowKit Go.Proofs.Ytackggcodaolaaa.Ev
theorem FnExactUsersOf (a0 : List (List UInt8 × List (List UInt8) × Int × Int)) (a1 : List UInt8) (f0 : InR (.sl 151 (.st (.pr .str (.pr (.sl 9 .str) (.pr (.int .i64) (.int .i64)))))) a0) (f1 : InR .str a1) : ∃ k : Nat, laws_FnExactUsersOf k a0 a1 = some true := pure_FnExactUsersOf a0 a1 f0 f1
end Go.Proofs.Ytackggcodaolaaa.Pure

/- FnExactRunPlan: the printed law answers true. No conditions. -/
import Derived.Test.YtmfkljkpdigenaaPlFnExactRunPlan
set_option linter.unusedVariables false
namespace Go.Proofs.Ytmfkljkpdigenaa.Pure
open Go.RowKit Go.Proofs.Ytmfkljkpdigenaa.Ev
theorem FnExactRunPlan (a0 : List (List UInt8 × List (List UInt8) × Int × Int)) (a1 : List UInt8) (a2 : Int) (f0 : InR (.sl 34 (.st (.pr .str (.pr (.sl 9 .str) (.pr (.int .i64) (.int .i64)))))) a0) (f1 : InR .str a1) (f2 : InR (.int .i64) a2) : ∃ k : Nat, laws_FnExactRunPlan k a0 a1 a2 = some true := pure_FnExactRunPlan a0 a1 a2 f0 f1 f2
end Go.Proofs.Ytmfkljkpdigenaa.Pure

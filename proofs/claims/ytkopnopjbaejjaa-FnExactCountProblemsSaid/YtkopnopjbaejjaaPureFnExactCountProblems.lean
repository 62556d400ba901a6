/- FnExactCountProblems: the printed law answers true. No conditions. -/
import Derived.Test.YtkopnopjbaejjaaPlFnExactCountProblems
set_option linter.unusedVariables false
namespace Go.Proofs.Ytkopnopjbaejjaa.Pure
open Go.RowKit Go.Proofs.Ytkopnopjbaejjaa.Ev
theorem FnExactCountProblems (a0 : List (Int × List UInt8 × List UInt8)) (f0 : InR (.sl 86 (.st (.pr (.int .i64) (.pr .str .str)))) a0) : ∃ k : Nat, laws_FnExactCountProblems k a0 = some true := pure_FnExactCountProblems a0 f0
end Go.Proofs.Ytkopnopjbaejjaa.Pure

/- FnExactProblemText: the printed law answers true. No conditions. -/
import Derived.Test.YtlcophcnioaaoaaPlFnExactProblemText
set_option linter.unusedVariables false
namespace Go.Proofs.Ytlcophcnioaaoaa.Pure
open Go.RowKit Go.Proofs.Ytlcophcnioaaoaa.Ev
theorem FnExactProblemText (a0 : Int × List UInt8 × List UInt8) (f0 : InR (.st (.pr (.int .i64) (.pr .str .str))) a0) : ∃ k : Nat, laws_FnExactProblemText a0 = some true := pure_FnExactProblemText a0 f0
end Go.Proofs.Ytlcophcnioaaoaa.Pure

/- FnExactCommandNames: the printed law answers true. No conditions. -/
import Derived.Test.YtlcophcnioaaoaaPlFnExactCommandNames
set_option linter.unusedVariables false
namespace Go.Proofs.Ytlcophcnioaaoaa.Pure
open Go.RowKit Go.Proofs.Ytlcophcnioaaoaa.Ev
theorem FnExactCommandNames : ∃ k : Nat, laws_FnExactCommandNames k = some true := pure_FnExactCommandNames
end Go.Proofs.Ytlcophcnioaaoaa.Pure

/- FnExactIncidencePicture: the printed law answers true. No conditions. -/
import Derived.Test.YtnlpjpfpjnmjmaaPlFnExactIncidencePicture
set_option linter.unusedVariables false
namespace Go.Proofs.Ytnlpjpfpjnmjmaa.Pure
open Go.RowKit Go.Proofs.Ytnlpjpfpjnmjmaa.Ev
theorem FnExactIncidencePicture (a0 : List (List Int)) (f0 : InR (.st (.sl 43 (.sl 2 (.int .i64)))) a0) : ∃ k : Nat, laws_FnExactIncidencePicture k a0 = some true := pure_FnExactIncidencePicture a0 f0
end Go.Proofs.Ytnlpjpfpjnmjmaa.Pure

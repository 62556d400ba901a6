/- FnExactValidPicture: the printed law answers true. No conditions. -/
import Derived.Test.YtlcophcnioaaoaaPlFnExactValidPicture
set_option linter.unusedVariables false
namespace Go.Proofs.Ytlcophcnioaaoaa.Pure
open Go.RowKit Go.Proofs.Ytlcophcnioaaoaa.Ev
theorem FnExactValidPicture (a0 : List (List UInt8)) (f0 : InR (.sl 9 .str) a0) : ∃ k : Nat, laws_FnExactValidPicture k a0 = some true := pure_FnExactValidPicture a0 f0
end Go.Proofs.Ytlcophcnioaaoaa.Pure

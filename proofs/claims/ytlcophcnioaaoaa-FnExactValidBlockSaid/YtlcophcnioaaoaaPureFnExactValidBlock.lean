/- FnExactValidBlock: the printed law answers true. No conditions. -/
import Derived.Test.YtlcophcnioaaoaaPlFnExactValidBlock
set_option linter.unusedVariables false
namespace Go.Proofs.Ytlcophcnioaaoaa.Pure
open Go.RowKit Go.Proofs.Ytlcophcnioaaoaa.Ev
theorem FnExactValidBlock (a0 : List UInt8 × List UInt8 × List UInt8) (f0 : InR (.st (.pr .str (.pr .str .str))) a0) : ∃ k : Nat, laws_FnExactValidBlock k a0 = some true := pure_FnExactValidBlock a0 f0
end Go.Proofs.Ytlcophcnioaaoaa.Pure

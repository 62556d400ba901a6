/- FnExactSameBlocks: the printed law answers true. No conditions. -/
import Derived.Test.YtlcophcnioaaoaaPlFnExactSameBlocks
set_option linter.unusedVariables false
namespace Go.Proofs.Ytlcophcnioaaoaa.Pure
open Go.RowKit Go.Proofs.Ytlcophcnioaaoaa.Ev
theorem FnExactSameBlocks (a0 : List (List UInt8 × List UInt8 × List UInt8)) (a1 : List (List UInt8 × List UInt8 × List UInt8)) (f0 : InR (.sl 48 (.st (.pr .str (.pr .str .str)))) a0) (f1 : InR (.sl 48 (.st (.pr .str (.pr .str .str)))) a1) : ∃ k : Nat, laws_FnExactSameBlocks k a0 a1 = some true := pure_FnExactSameBlocks a0 a1 f0 f1
end Go.Proofs.Ytlcophcnioaaoaa.Pure

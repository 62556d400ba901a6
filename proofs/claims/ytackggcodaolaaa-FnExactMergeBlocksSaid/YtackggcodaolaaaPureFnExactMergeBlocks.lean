/- FnExactMergeBlocks: the printed law answers true. No conditions. -/
import Derived.Test.YtackggcodaolaaaPlFnExactMergeBlocks
set_option linter.unusedVariables false
namespace Go.Proofs.Ytackggcodaolaaa.Pure
open Go.RowKit Go.Proofs.Ytackggcodaolaaa.Ev
theorem FnExactMergeBlocks (a0 : List (List UInt8 × List UInt8 × List UInt8)) (a1 : List (List UInt8 × List UInt8 × List UInt8)) (f0 : InR (.sl 32 (.st (.pr .str (.pr .str .str)))) a0) (f1 : InR (.sl 32 (.st (.pr .str (.pr .str .str)))) a1) : ∃ k : Nat, laws_FnExactMergeBlocks k a0 a1 = some true := pure_FnExactMergeBlocks a0 a1 f0 f1
end Go.Proofs.Ytackggcodaolaaa.Pure

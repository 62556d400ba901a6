/- FnExactPutBlock: the printed law answers true. No conditions. -/
import Derived.Test.YtackggcodaolaaaPlFnExactPutBlock
set_option linter.unusedVariables false
namespace Go.Proofs.Ytackggcodaolaaa.Pure
open Go.RowKit Go.Proofs.Ytackggcodaolaaa.Ev
theorem FnExactPutBlock (a0 : List (List UInt8 × List UInt8 × List UInt8)) (a1 : List UInt8 × List UInt8 × List UInt8) (f0 : InR (.sl 32 (.st (.pr .str (.pr .str .str)))) a0) (f1 : InR (.st (.pr .str (.pr .str .str))) a1) : ∃ k : Nat, laws_FnExactPutBlock k a0 a1 = some true := pure_FnExactPutBlock a0 a1 f0 f1
end Go.Proofs.Ytackggcodaolaaa.Pure

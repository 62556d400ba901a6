/- FnExactDropBlock: the printed law answers true. No conditions. -/
import Derived.Test.YtackggcodaolaaaPlFnExactDropBlock
set_option linter.unusedVariables false
namespace Go.Proofs.Ytackggcodaolaaa.Pure
open Go.RowKit Go.Proofs.Ytackggcodaolaaa.Ev
theorem FnExactDropBlock (a0 : List (List UInt8 × List UInt8 × List UInt8)) (a1 : List UInt8) (a2 : List UInt8) (f0 : InR (.sl 32 (.st (.pr .str (.pr .str .str)))) a0) (f1 : InR .str a1) (f2 : InR .str a2) : ∃ k : Nat, laws_FnExactDropBlock k a0 a1 a2 = some true := pure_FnExactDropBlock a0 a1 a2 f0 f1 f2
end Go.Proofs.Ytackggcodaolaaa.Pure

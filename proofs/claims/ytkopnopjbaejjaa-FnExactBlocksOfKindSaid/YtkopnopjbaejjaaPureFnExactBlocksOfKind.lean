/- FnExactBlocksOfKind: the printed law answers true. No conditions. -/
import Derived.Test.YtkopnopjbaejjaaPlFnExactBlocksOfKind
set_option linter.unusedVariables false
namespace Go.Proofs.Ytkopnopjbaejjaa.Pure
open Go.RowKit Go.Proofs.Ytkopnopjbaejjaa.Ev
theorem FnExactBlocksOfKind (a0 : List (List UInt8 × List UInt8 × List UInt8)) (a1 : List UInt8) (f0 : InR (.sl 66 (.st (.pr .str (.pr .str .str)))) a0) (f1 : InR .str a1) : ∃ k : Nat, laws_FnExactBlocksOfKind k a0 a1 = some true := pure_FnExactBlocksOfKind a0 a1 f0 f1
end Go.Proofs.Ytkopnopjbaejjaa.Pure

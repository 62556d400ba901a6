/- FnExactValidBlocks: the printed law answers true. No conditions. -/
import Derived.Test.YtkopnopjbaejjaaPlFnExactValidBlocks
set_option linter.unusedVariables false
namespace Go.Proofs.Ytkopnopjbaejjaa.Pure
open Go.RowKit Go.Proofs.Ytkopnopjbaejjaa.Ev
theorem FnExactValidBlocks (a0 : List (List UInt8 × List UInt8 × List UInt8)) (f0 : InR (.sl 66 (.st (.pr .str (.pr .str .str)))) a0) : ∃ k : Nat, laws_FnExactValidBlocks k a0 = some true := pure_FnExactValidBlocks a0 f0
end Go.Proofs.Ytkopnopjbaejjaa.Pure

/- FnExactFramePicture: the printed law answers true. No conditions. -/
import Derived.Test.YtkopnopjbaejjaaPlFnExactFramePicture
set_option linter.unusedVariables false
namespace Go.Proofs.Ytkopnopjbaejjaa.Pure
open Go.RowKit Go.Proofs.Ytkopnopjbaejjaa.Ev
theorem FnExactFramePicture (a0 : List (List UInt8)) (f0 : InR (.sl 9 .str) a0) : ∃ k : Nat, laws_FnExactFramePicture k a0 = some true := pure_FnExactFramePicture a0 f0
end Go.Proofs.Ytkopnopjbaejjaa.Pure

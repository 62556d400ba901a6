/- FnExactBesidePictures: the printed law answers true. No conditions. -/
import Derived.Test.YtkopnopjbaejjaaPlFnExactBesidePictures
set_option linter.unusedVariables false
namespace Go.Proofs.Ytkopnopjbaejjaa.Pure
open Go.RowKit Go.Proofs.Ytkopnopjbaejjaa.Ev
theorem FnExactBesidePictures (a0 : List (List UInt8)) (a1 : List (List UInt8)) (a2 : Int) (f0 : InR (.sl 9 .str) a0) (f1 : InR (.sl 9 .str) a1) (f2 : InR (.int .i64) a2) : ∃ k : Nat, laws_FnExactBesidePictures k a0 a1 a2 = some true := pure_FnExactBesidePictures a0 a1 a2 f0 f1 f2
end Go.Proofs.Ytkopnopjbaejjaa.Pure

/- FnExactCropPicture: the printed law answers true. No conditions. -/
import Derived.Test.YtlcophcnioaaoaaPlFnExactCropPicture
set_option linter.unusedVariables false
namespace Go.Proofs.Ytlcophcnioaaoaa.Pure
open Go.RowKit Go.Proofs.Ytlcophcnioaaoaa.Ev
theorem FnExactCropPicture (a0 : List (List UInt8)) (a1 : Int) (a2 : Int) (a3 : Int) (a4 : Int) (f0 : InR (.sl 9 .str) a0) (f1 : InR (.int .i64) a1) (f2 : InR (.int .i64) a2) (f3 : InR (.int .i64) a3) (f4 : InR (.int .i64) a4) : ∃ k : Nat, laws_FnExactCropPicture k a0 a1 a2 a3 a4 = some true := pure_FnExactCropPicture a0 a1 a2 a3 a4 f0 f1 f2 f3 f4
end Go.Proofs.Ytlcophcnioaaoaa.Pure

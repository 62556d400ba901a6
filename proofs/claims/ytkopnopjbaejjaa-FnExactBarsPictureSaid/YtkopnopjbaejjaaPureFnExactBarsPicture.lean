/- FnExactBarsPicture: the printed law answers true. No conditions. -/
import Derived.Test.YtkopnopjbaejjaaPlFnExactBarsPicture
set_option linter.unusedVariables false
namespace Go.Proofs.Ytkopnopjbaejjaa.Pure
open Go.RowKit Go.Proofs.Ytkopnopjbaejjaa.Ev
theorem FnExactBarsPicture (a0 : List (Int × Int × Int)) (a1 : Int) (f0 : InR (.sl 112 (.st (.pr (.int .i64) (.pr (.int .i64) (.int .i64))))) a0) (f1 : InR (.int .i64) a1) : ∃ k : Nat, laws_FnExactBarsPicture k a0 a1 = some true := pure_FnExactBarsPicture a0 a1 f0 f1
end Go.Proofs.Ytkopnopjbaejjaa.Pure

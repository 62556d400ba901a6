/- FnExactGraphPicture: the printed law answers true. No conditions. -/
import Derived.Test.YtackggcodaolaaaDoorPlFnExactGraphPicture
set_option linter.unusedVariables false
namespace Go.Proofs.YtackggcodaolaaaDoor.Pure
open Go.RowKit Go.Proofs.YtackggcodaolaaaDoor.Ev
theorem FnExactGraphPicture (a0 : Int × List (Int × Int × Int)) (f0 : InR (.st (.pr (.int .i64) (.sl 102 (.st (.pr (.int .i64) (.pr (.int .i64) (.int .i64))))))) a0) : ∃ k : Nat, laws_FnExactGraphPicture k a0 = some true := pure_FnExactGraphPicture a0 f0
end Go.Proofs.YtackggcodaolaaaDoor.Pure

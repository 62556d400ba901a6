/- FnExactMatrixPicture: the printed law answers true. No conditions. -/
import Derived.Test.YtackggcodaolaaaDoorPlFnExactMatrixPicture
set_option linter.unusedVariables false
namespace Go.Proofs.YtackggcodaolaaaDoor.Pure
open Go.RowKit Go.Proofs.YtackggcodaolaaaDoor.Ev
theorem FnExactMatrixPicture (a0 : Int × Int × Int × List Int) (f0 : InR (.st (.pr (.int .i64) (.pr (.int .i64) (.pr (.int .i64) (.sl 2 (.int .i64)))))) a0) : ∃ k : Nat, laws_FnExactMatrixPicture k a0 = some true := pure_FnExactMatrixPicture a0 f0
end Go.Proofs.YtackggcodaolaaaDoor.Pure

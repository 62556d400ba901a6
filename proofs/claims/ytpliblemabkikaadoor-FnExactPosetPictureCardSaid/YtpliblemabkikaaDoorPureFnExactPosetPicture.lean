/- FnExactPosetPicture: the printed law answers true. No conditions. -/
import Derived.Test.YtpliblemabkikaaDoorPlFnExactPosetPicture
set_option linter.unusedVariables false
namespace Go.Proofs.YtpliblemabkikaaDoor.Pure
open Go.RowKit Go.Proofs.YtpliblemabkikaaDoor.Ev
theorem FnExactPosetPicture (a0 : Int × List (List Int)) (f0 : InR (.st (.pr (.int .i64) (.sl 41 (.sl 2 (.int .i64))))) a0) : ∃ k : Nat, laws_FnExactPosetPicture k a0 = some true := pure_FnExactPosetPicture a0 f0
end Go.Proofs.YtpliblemabkikaaDoor.Pure

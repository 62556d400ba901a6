/- FnExactSheafProblems: the printed law answers true. No conditions. -/
import Derived.Test.YtchfjdcfhlhgcaaGreatDoorPlFnExactSheafProblems
set_option linter.unusedVariables false
namespace Go.Proofs.YtchfjdcfhlhgcaaGreatDoor.Pure
open Go.RowKit Go.Proofs.YtchfjdcfhlhgcaaGreatDoor.Ev
theorem FnExactSheafProblems (a0:(List (List Int)×Int×List Int×List (Int×Int×Int×List Int))×Int×List Int×List Int×(Int×Int×Int×List (Int×Int×Int))×List Int×List Int×(Int×Int×List (Int×Int×Int))×List Int) (f0:InR (.st (.pr (.st (.pr (.st (.sl 25 (.sl 2 (.int .i64)))) (.pr (.int .i64) (.pr (.sl 2 (.int .i64)) (.sl 112 (.st (.pr (.int .i64) (.pr (.int .i64) (.pr (.int .i64) (.sl 2 (.int .i64))))))))))) (.pr (.int .i64) (.pr (.sl 2 (.int .i64)) (.pr (.sl 2 (.int .i64)) (.pr (.st (.pr (.int .i64) (.pr (.int .i64) (.pr (.int .i64) (.sl 143 (.st (.pr (.int .i64) (.pr (.int .i64) (.int .i64))))))))) (.pr (.sl 2 (.int .i64)) (.pr (.sl 2 (.int .i64)) (.pr (.st (.pr (.int .i64) (.pr (.int .i64) (.sl 145 (.st (.pr (.int .i64) (.pr (.int .i64) (.int .i64)))))))) (.sl 2 (.int .i64))))))))))) a0):∃ k:Nat,zlq k a0=some true:=z1qq a0 f0
end Go.Proofs.YtchfjdcfhlhgcaaGreatDoor.Pure

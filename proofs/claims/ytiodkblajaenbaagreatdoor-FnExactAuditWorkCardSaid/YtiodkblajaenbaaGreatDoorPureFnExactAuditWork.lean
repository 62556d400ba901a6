/- FnExactAuditWork: the printed law answers true. No conditions. -/
import Derived.Test.YtiodkblajaenbaaGreatDoorPlFnExactAuditWork
set_option linter.unusedVariables false
namespace Go.Proofs.YtiodkblajaenbaaGreatDoor.Pure
open Go.RowKit Go.Proofs.YtiodkblajaenbaaGreatDoor.Ev
theorem FnExactAuditWork (a0:(List (List Int)×Int×List Int×List (Int×Int×Int×List Int))×Int×List Int×List Int×(Int×Int×Int×List (Int×Int×Int))×List Int×List Int×(Int×Int×List (Int×Int×Int))×List Int) (f0:InR (.st (.pr (.st (.pr (.st (.sl 25 (.sl 2 (.int .i64)))) (.pr (.int .i64) (.pr (.sl 2 (.int .i64)) (.sl 130 (.st (.pr (.int .i64) (.pr (.int .i64) (.pr (.int .i64) (.sl 2 (.int .i64))))))))))) (.pr (.int .i64) (.pr (.sl 2 (.int .i64)) (.pr (.sl 2 (.int .i64)) (.pr (.st (.pr (.int .i64) (.pr (.int .i64) (.pr (.int .i64) (.sl 155 (.st (.pr (.int .i64) (.pr (.int .i64) (.int .i64))))))))) (.pr (.sl 2 (.int .i64)) (.pr (.sl 2 (.int .i64)) (.pr (.st (.pr (.int .i64) (.pr (.int .i64) (.sl 157 (.st (.pr (.int .i64) (.pr (.int .i64) (.int .i64)))))))) (.sl 2 (.int .i64))))))))))) a0):∃ k:Nat,zo6 k a0=some true:=z1w9 a0 f0
end Go.Proofs.YtiodkblajaenbaaGreatDoor.Pure

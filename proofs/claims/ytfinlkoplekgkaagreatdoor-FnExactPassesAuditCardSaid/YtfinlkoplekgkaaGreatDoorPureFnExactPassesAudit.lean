/- FnExactPassesAudit: the printed law answers true. No conditions. -/
import Derived.Test.YtfinlkoplekgkaaGreatDoorPlFnExactPassesAudit
set_option linter.unusedVariables false
namespace Go.Proofs.YtfinlkoplekgkaaGreatDoor.Pure
open Go.RowKit Go.Proofs.YtfinlkoplekgkaaGreatDoor.Ev
theorem FnExactPassesAudit (a0:(List (List Int)×Int×List Int×List (Int×Int×Int×List Int))×Int×List Int×List Int×(Int×Int×Int×List (Int×Int×Int))×List Int×List Int×(Int×Int×List (Int×Int×Int))×List Int) (f0:InR (.st (.pr (.st (.pr (.st (.sl 25 (.sl 2 (.int .i64)))) (.pr (.int .i64) (.pr (.sl 2 (.int .i64)) (.sl 100 (.st (.pr (.int .i64) (.pr (.int .i64) (.pr (.int .i64) (.sl 2 (.int .i64))))))))))) (.pr (.int .i64) (.pr (.sl 2 (.int .i64)) (.pr (.sl 2 (.int .i64)) (.pr (.st (.pr (.int .i64) (.pr (.int .i64) (.pr (.int .i64) (.sl 132 (.st (.pr (.int .i64) (.pr (.int .i64) (.int .i64))))))))) (.pr (.sl 2 (.int .i64)) (.pr (.sl 2 (.int .i64)) (.pr (.st (.pr (.int .i64) (.pr (.int .i64) (.sl 134 (.st (.pr (.int .i64) (.pr (.int .i64) (.int .i64)))))))) (.sl 2 (.int .i64))))))))))) a0):∃ k:Nat,znd k a0=some true:=z1t2 a0 f0
end Go.Proofs.YtfinlkoplekgkaaGreatDoor.Pure

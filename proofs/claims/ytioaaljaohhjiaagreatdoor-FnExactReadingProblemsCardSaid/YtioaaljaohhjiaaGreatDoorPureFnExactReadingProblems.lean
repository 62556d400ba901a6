/- FnExactReadingProblems: the printed law answers true. No conditions. -/
import Derived.Test.YtioaaljaohhjiaaGreatDoorPlFnExactReadingProblems
set_option linter.unusedVariables false
namespace Go.Proofs.YtioaaljaohhjiaaGreatDoor.Pure
open Go.RowKit Go.Proofs.YtioaaljaohhjiaaGreatDoor.Ev
theorem FnExactReadingProblems (a0:(List (List Int)×Int×List Int×List (Int×Int×Int×List Int))×Int×List Int×List Int×(Int×Int×Int×List (Int×Int×Int))×List Int×List Int×(Int×Int×List (Int×Int×Int))×List Int) (f0:InR (.st (.pr (.st (.pr (.st (.sl 25 (.sl 2 (.int .i64)))) (.pr (.int .i64) (.pr (.sl 2 (.int .i64)) (.sl 108 (.st (.pr (.int .i64) (.pr (.int .i64) (.pr (.int .i64) (.sl 2 (.int .i64))))))))))) (.pr (.int .i64) (.pr (.sl 2 (.int .i64)) (.pr (.sl 2 (.int .i64)) (.pr (.st (.pr (.int .i64) (.pr (.int .i64) (.pr (.int .i64) (.sl 140 (.st (.pr (.int .i64) (.pr (.int .i64) (.int .i64))))))))) (.pr (.sl 2 (.int .i64)) (.pr (.sl 2 (.int .i64)) (.pr (.st (.pr (.int .i64) (.pr (.int .i64) (.sl 142 (.st (.pr (.int .i64) (.pr (.int .i64) (.int .i64)))))))) (.sl 2 (.int .i64))))))))))) a0):∃ k:Nat,zgd_ k a0=some true:=zz2_ a0 f0
end Go.Proofs.YtioaaljaohhjiaaGreatDoor.Pure

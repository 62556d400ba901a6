/- FnExactFlowProblems: the printed law answers true. No conditions. -/
import Derived.Test.YthbodbmcalfmaaaGreatDoorPlFnExactFlowProblems
set_option linter.unusedVariables false
namespace Go.Proofs.YthbodbmcalfmaaaGreatDoor.Pure
open Go.RowKit Go.Proofs.YthbodbmcalfmaaaGreatDoor.Ev
theorem FnExactFlowProblems (a0:(List (List Int)×Int×List Int×List (Int×Int×Int×List Int))×Int×List Int×List Int×(Int×Int×Int×List (Int×Int×Int))×List Int×List Int×(Int×Int×List (Int×Int×Int))×List Int) (f0:InR (.st (.pr (.st (.pr (.st (.sl 25 (.sl 2 (.int .i64)))) (.pr (.int .i64) (.pr (.sl 2 (.int .i64)) (.sl 110 (.st (.pr (.int .i64) (.pr (.int .i64) (.pr (.int .i64) (.sl 2 (.int .i64))))))))))) (.pr (.int .i64) (.pr (.sl 2 (.int .i64)) (.pr (.sl 2 (.int .i64)) (.pr (.st (.pr (.int .i64) (.pr (.int .i64) (.pr (.int .i64) (.sl 142 (.st (.pr (.int .i64) (.pr (.int .i64) (.int .i64))))))))) (.pr (.sl 2 (.int .i64)) (.pr (.sl 2 (.int .i64)) (.pr (.st (.pr (.int .i64) (.pr (.int .i64) (.sl 144 (.st (.pr (.int .i64) (.pr (.int .i64) (.int .i64)))))))) (.sl 2 (.int .i64))))))))))) a0):∃ k:Nat,zf1_ k a0=some true:=zwj_ a0 f0
end Go.Proofs.YthbodbmcalfmaaaGreatDoor.Pure

/- FnExactSheafPicture: the printed law answers true. No conditions. -/
import Derived.Test.YthpamdpneanlpaaGreatDoorPlFnExactSheafPicture
set_option linter.unusedVariables false
namespace Go.Proofs.YthpamdpneanlpaaGreatDoor.Pure
open Go.RowKit Go.Proofs.YthpamdpneanlpaaGreatDoor.Ev
theorem FnExactSheafPicture (a0:List (List Int)×Int×List Int×List (Int×Int×Int×List Int)) (f0:InR (.st (.pr (.st (.sl 25 (.sl 2 (.int .i64)))) (.pr (.int .i64) (.pr (.sl 2 (.int .i64)) (.sl 73 (.st (.pr (.int .i64) (.pr (.int .i64) (.pr (.int .i64) (.sl 2 (.int .i64))))))))))) a0):∃ k:Nat,zgc_ k a0=some true:=z1ei_ a0 f0
end Go.Proofs.YthpamdpneanlpaaGreatDoor.Pure

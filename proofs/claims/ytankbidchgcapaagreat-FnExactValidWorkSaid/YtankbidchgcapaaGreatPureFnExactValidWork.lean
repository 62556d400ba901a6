/- FnExactValidWork: the printed law answers true. No conditions. -/
import Derived.Test.YtankbidchgcapaaGreatPlFnExactValidWork
set_option linter.unusedVariables false
namespace Go.Proofs.YtankbidchgcapaaGreat.Pure
open Go.RowKit Go.Proofs.YtankbidchgcapaaGreat.Ev
theorem FnExactValidWork (a0 : (List (List Int) × Int × List Int × List (Int × Int × Int × List Int)) × Int × List Int × List Int × (Int × Int × Int × List (Int × Int × Int)) × List Int × List Int × (Int × Int × List (Int × Int × Int)) × List Int) (f0 : InR (.st (.pr (.st (.pr (.st (.sl 25 (.sl 2 (.int .i64)))) (.pr (.int .i64) (.pr (.sl 2 (.int .i64)) (.sl 118 (.st (.pr (.int .i64) (.pr (.int .i64) (.pr (.int .i64) (.sl 2 (.int .i64))))))))))) (.pr (.int .i64) (.pr (.sl 2 (.int .i64)) (.pr (.sl 2 (.int .i64)) (.pr (.st (.pr (.int .i64) (.pr (.int .i64) (.pr (.int .i64) (.sl 129 (.st (.pr (.int .i64) (.pr (.int .i64) (.int .i64))))))))) (.pr (.sl 2 (.int .i64)) (.pr (.sl 2 (.int .i64)) (.pr (.st (.pr (.int .i64) (.pr (.int .i64) (.sl 131 (.st (.pr (.int .i64) (.pr (.int .i64) (.int .i64)))))))) (.sl 2 (.int .i64))))))))))) a0) : ∃ k : Nat, laws_FnExactValidWork k a0 = some true := pure_FnExactValidWork a0 f0
end Go.Proofs.YtankbidchgcapaaGreat.Pure

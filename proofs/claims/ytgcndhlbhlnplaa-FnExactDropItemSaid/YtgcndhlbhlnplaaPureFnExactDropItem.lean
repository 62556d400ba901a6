/- FnExactDropItem: the printed law answers true. No conditions. -/
import Derived.Test.YtgcndhlbhlnplaaPlFnExactDropItem
set_option linter.unusedVariables false
namespace Go.Proofs.Ytgcndhlbhlnplaa.Pure
open Go.RowKit Go.Proofs.Ytgcndhlbhlnplaa.Ev
theorem FnExactDropItem (a0 : List (List UInt8 × List (List UInt8) × Int × Int)) (a1 : List UInt8) (f0 : InR (.sl 34 (.st (.pr .str (.pr (.sl 9 .str) (.pr (.int .i64) (.int .i64)))))) a0) (f1 : InR .str a1) : ∃ k : Nat, laws_FnExactDropItem k a0 a1 = some true := pure_FnExactDropItem a0 a1 f0 f1
end Go.Proofs.Ytgcndhlbhlnplaa.Pure

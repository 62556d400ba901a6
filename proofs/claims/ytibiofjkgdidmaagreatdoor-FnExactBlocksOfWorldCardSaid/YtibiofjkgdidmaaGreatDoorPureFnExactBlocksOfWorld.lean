/- FnExactBlocksOfWorld: the printed law answers true. No conditions. -/
import Derived.Test.YtibiofjkgdidmaaGreatDoorPlFnExactBlocksOfWorld
set_option linter.unusedVariables false
namespace Go.Proofs.YtibiofjkgdidmaaGreatDoor.Pure
open Go.RowKit Go.Proofs.YtibiofjkgdidmaaGreatDoor.Ev
theorem FnExactBlocksOfWorld (a0 : (List (List UInt8 × List (List Int))) × List (List UInt8 × List (List Int) × Int × List Int × List (Int × Int × Int × List Int))) (f0 : InR (.st (.pr (.sl 66 (.st (.pr .str (.st (.sl 68 (.sl 2 (.int .i64))))))) (.sl 73 (.st (.pr .str (.st (.pr (.st (.sl 68 (.sl 2 (.int .i64)))) (.pr (.int .i64) (.pr (.sl 2 (.int .i64)) (.sl 182 (.st (.pr (.int .i64) (.pr (.int .i64) (.pr (.int .i64) (.sl 2 (.int .i64)))))))))))))))) a0) : ∃ k : Nat, zf0_ k a0 = some true := zx5_ a0 f0
end Go.Proofs.YtibiofjkgdidmaaGreatDoor.Pure

/- FnBlocks: the printed law answers true. No conditions. -/
import Derived.Test.YtogbhjffiglbjaaPlFnBlocks
set_option linter.unusedVariables false
namespace Go.Proofs.Ytogbhjffiglbjaa.Pure
open Go.RowKit Go.Proofs.Ytogbhjffiglbjaa.Ev
theorem FnBlocks (a0:List Int) (a1:List Int) (f0:InR (.sl 5 (.int .u8)) a0) (f1:InR (.sl 5 (.int .u8)) a1):∃ k:Nat,zfv k a0 a1=some true:=z10r a0 a1 f0 f1
end Go.Proofs.Ytogbhjffiglbjaa.Pure

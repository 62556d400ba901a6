/- Plain laws of the printed functions. No conditions but those in each statement. -/
import Derived.Test.YtlcophcnioaaoaaEv4
import Derived.Test.YtlcophcnioaaoaaG3
set_option linter.unusedVariables false
set_option linter.unusedSimpArgs false
namespace Go.Proofs.Ytlcophcnioaaoaa.Ev
open Go.RowKit
theorem pure_FnExactProblemText (a0 : Int × List UInt8 × List UInt8) (f0 : InR (.st (.pr (.int .i64) (.pr .str .str))) a0) : ∃ k : Nat, laws_FnExactProblemText a0 = some true := by
  obtain ⟨n, who, what⟩ := a0
  obtain ⟨hn, h1, h2⟩ := f0
  have h1 : who.length ≤ 140737488351232 := h1
  have h2 : what.length ≤ 140737488351232 := h2
  refine ⟨0, ?_⟩
  have key : spec_ProblemText (n, who, what) = impl_ProblemText (n, who, what) ∧ ∃ r, impl_ProblemText (n, who, what) = some r := by
    unfold spec_ProblemText impl_ProblemText spec_l31Kind impl_isProblem impl_ProblemName impl_isProblem spec_l00In impl_within spec_l31Names
    by_cases q1 : 1 ≤ n
    · by_cases q2 : n ≤ 5
      · have h : n = 1 ∨ n = 2 ∨ n = 3 ∨ n = 4 ∨ n = 5 := by omega
        rcases h with rfl | rfl | rfl | rfl | rfl <;> simp [w_id] <;> omega
      · simp [q1, q2]
    · simp [q1]
  obtain ⟨e1, r, e2⟩ := key
  unfold laws_FnExactProblemText laws_szProblem laws_toProblem
  simp only [Option.bind_some]
  rw [e1, e2]
  simp
  repeat' split
  all_goals simp
end Go.Proofs.Ytlcophcnioaaoaa.Ev

/- FnExactProblemName: the program's ProblemName and the reference's answer the same text for every number; no conditions. -/
import Derived.Test.YtlcophcnioaaoaaPFnExactProblemNamex1
namespace Go.Proofs.Ytlcophcnioaaoaa.Pure
open Go.RowKit Go.Proofs.Ytlcophcnioaaoaa.PFnExactProblemName Go.Proofs.YtlcophcnioaaoaaW.PrintWords Go.Proofs.YtlcophcnioaaoaaW.PrintLast

/-- YOURS: ∀ (a0 : Int), (Lit.int .i64 a0).wf = true → laws_FnExactProblemName.f a0 = some true
What it reaches (each with k first where it has rounds; `.mono`: more rounds tell the same; `.l0`, ..: its loops, with `.mono_l`): spec_l00In.f, spec_l31Kind.f, spec_l31Names.f, spec_ProblemName.f, impl_within.f, impl_isProblem.f, impl_ProblemName.f, laws_FnExactProblemName.f -/
theorem FnExactProblemName : laws_FnExactProblemName.Pure := by
  intro a hw
  have key : spec_ProblemName.f a = impl_ProblemName.f a := by
    unfold spec_ProblemName.f impl_ProblemName.f spec_l31Kind.f impl_isProblem.f spec_l00In.f impl_within.f spec_l31Names.f
    by_cases h1 : a ≥ 1
    · by_cases h2 : a ≤ 5
      · have h : a = 1 ∨ a = 2 ∨ a = 3 ∨ a = 4 ∨ a = 5 := by omega
        rcases h with rfl | rfl | rfl | rfl | rfl <;> simp [wrap64, rdOf]
      · simp [h1, h2]
    · simp [h1]
  have tot : ∃ r, impl_ProblemName.f a = some r := by
    unfold impl_ProblemName.f impl_isProblem.f impl_within.f
    by_cases h1 : a ≥ 1
    · by_cases h2 : a ≤ 5
      · have h : a = 1 ∨ a = 2 ∨ a = 3 ∨ a = 4 ∨ a = 5 := by omega
        rcases h with rfl | rfl | rfl | rfl | rfl <;> simp [wrap64, rdOf]
      · simp [h1, h2]
    · simp [h1]
  obtain ⟨r, hr⟩ := tot
  unfold laws_FnExactProblemName.f
  rw [key, hr]
  simp

end Go.Proofs.Ytlcophcnioaaoaa.Pure

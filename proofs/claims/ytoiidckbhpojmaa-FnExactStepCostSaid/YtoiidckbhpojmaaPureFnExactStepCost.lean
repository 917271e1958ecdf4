/- The pure statement of FnExactStepCost, with no condition beyond the law's own. -/
import Derived.Test.YtoiidckbhpojmaaQFnExactStepCost
namespace Go.Proofs.Ytoiidckbhpojmaa.Pure
open Go.RowKit Go.Proofs.Ytoiidckbhpojmaa.QFnExactStepCost Go.Proofs.Ytoiidckbhpojmaa.PFnExactStepCost Go.Proofs.YtoiidckbhpojmaaW.PrintWords Go.Proofs.YtoiidckbhpojmaaW.PrintLast Go.Proofs.Ytoiidckbhpojmaa.Math
set_option linter.unusedVariables false
set_option linter.unusedSimpArgs false

theorem FnExactStepCost (a b c : Int) (_ : (Lit.int .i64 a).wf = true) (_ : (Lit.int .i64 b).wf = true) (_ : (Lit.int .i64 c).wf = true) : laws_FnExactStepCost.f a b c = some true := by
  have h : impl_StepCost.f a b c = spec_StepCost.f a b c := by
    simp only [impl_StepCost.f, spec_StepCost.f]
    by_cases h1 : 0 ≤ b
    · rw [if_neg (by omega), if_pos h1]
      by_cases h2 : b < c
      · rw [if_neg (by omega), if_pos h2]
      · rw [if_pos (by omega), if_neg h2]
    · rw [if_pos (by omega), if_neg h1]
  obtain ⟨r, hr⟩ : ∃ r, spec_StepCost.f a b c = some r := by
    simp only [spec_StepCost.f]
    split
    · split <;> exact ⟨_, rfl⟩
    · exact ⟨_, rfl⟩
  simp only [laws_FnExactStepCost.f, laws_toStep.f, h, hr, Option.bind_some, if_true]

end Go.Proofs.Ytoiidckbhpojmaa.Pure

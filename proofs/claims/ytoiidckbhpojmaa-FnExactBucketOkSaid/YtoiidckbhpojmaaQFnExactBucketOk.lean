/- Lemmas on the printed functions of FnExactBucketOk: what each comes to. -/
import Derived.Test.YtoiidckbhpojmaaPFnExactBucketOkx
import Derived.Test.YtoiidckbhpojmaaMath
namespace Go.Proofs.Ytoiidckbhpojmaa.QFnExactBucketOk
open Go.RowKit Go.Proofs.Ytoiidckbhpojmaa.PFnExactBucketOk Go.Proofs.YtoiidckbhpojmaaW.PrintWords Go.Proofs.YtoiidckbhpojmaaW.PrintLast Go.Proofs.Ytoiidckbhpojmaa.Math
set_option linter.unusedVariables false
set_option linter.unusedSimpArgs false

-- block l01In
theorem in_eq (a b c : Int) : spec_l01In.f a b c = some (decide (b ≤ a ∧ a ≤ c)) := by
  simp only [spec_l01In.f, if_dec]

-- block bOk
def bOk (a b c d : Int) : Prop := 0 ≤ a ∧ a ≤ 1000000000 ∧ 0 ≤ b ∧ b ≤ 1000000 ∧ 0 ≤ c ∧ c ≤ a ∧ 0 ≤ d ∧ d ≤ 1000000000
instance bOk_dec (a b c d : Int) : Decidable (bOk a b c d) := by unfold bOk; infer_instance

-- block sBucket
theorem sBucket (a b c d : Int) : spec_BucketOk.f a b c d = some (decide (bOk a b c d)) := by
  simp only [spec_BucketOk.f, in_eq, Option.bind_some, decide_eq_true_eq, if_dec]
  exact congrArg some (decide_eq_decide.2 (by unfold bOk; omega))

-- block iBucket
theorem iBucket (a b c d : Int) : impl_isBucket.f a b c d = some (decide (bOk a b c d)) := by
  simp only [impl_isBucket.f, if_dec]
  exact congrArg some (decide_eq_decide.2 (by unfold bOk; omega))

end Go.Proofs.Ytoiidckbhpojmaa.QFnExactBucketOk

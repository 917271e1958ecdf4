import Derived.Test.YtoiidckbhpojmaaPFnExactBucketOkx
namespace Go.Proofs.Ytoiidckbhpojmaa.Pure
open Go.RowKit Go.Proofs.Ytoiidckbhpojmaa.PFnExactBucketOk Go.Proofs.YtoiidckbhpojmaaW.PrintWords Go.Proofs.YtoiidckbhpojmaaW.PrintLast

theorem if_dec {c p : Prop} [Decidable c] [Decidable p] : (if c then some (decide p) else some false) = some (decide (c ∧ p)) := by
  by_cases h : c <;> simp [h]
def bOk (a b c d : Int) : Prop := 0 ≤ a ∧ a ≤ 1000000000 ∧ 0 ≤ b ∧ b ≤ 1000000 ∧ 0 ≤ c ∧ c ≤ a ∧ 0 ≤ d ∧ d ≤ 1000000000
instance (a b c d : Int) : Decidable (bOk a b c d) := by unfold bOk; infer_instance
theorem in_eq (a b c : Int) : spec_l01In.f a b c = some (decide (b ≤ a ∧ a ≤ c)) := by
  simp only [spec_l01In.f, if_dec]
theorem sBucket (a b c d : Int) : spec_BucketOk.f a b c d = some (decide (bOk a b c d)) := by
  simp only [spec_BucketOk.f, in_eq, Option.bind_some, decide_eq_true_eq, if_dec]
  exact congrArg some (decide_eq_decide.2 (by unfold bOk; omega))
theorem iBucket (a b c d : Int) : impl_isBucket.f a b c d = some (decide (bOk a b c d)) := by
  simp only [impl_isBucket.f, if_dec]
  exact congrArg some (decide_eq_decide.2 (by unfold bOk; omega))
theorem BucketOk (a b c d : Int) : laws_FnExactBucketOk.f a b c d = some true := by
  simp only [laws_FnExactBucketOk.f, laws_toBucket.f, sBucket, impl_BucketOk.f, iBucket, Option.bind_some, bne_self_eq_false]
  rfl

end Go.Proofs.Ytoiidckbhpojmaa.Pure

/- The pure statement of FnExactBucketOk, with no condition beyond the law's own. -/
import Derived.Test.YtoiidckbhpojmaaQFnExactBucketOk
namespace Go.Proofs.Ytoiidckbhpojmaa.Pure
open Go.RowKit Go.Proofs.Ytoiidckbhpojmaa.QFnExactBucketOk Go.Proofs.Ytoiidckbhpojmaa.PFnExactBucketOk Go.Proofs.YtoiidckbhpojmaaW.PrintWords Go.Proofs.YtoiidckbhpojmaaW.PrintLast Go.Proofs.Ytoiidckbhpojmaa.Math
set_option linter.unusedVariables false
set_option linter.unusedSimpArgs false

theorem FnExactBucketOk (a b c d : Int) (_ : (Lit.int .i64 a).wf = true) (_ : (Lit.int .i64 b).wf = true) (_ : (Lit.int .i64 c).wf = true) (_ : (Lit.int .i64 d).wf = true) : laws_FnExactBucketOk.f a b c d = some true := by
  simp only [laws_FnExactBucketOk.f, laws_toBucket.f, sBucket, impl_BucketOk.f, iBucket, Option.bind_some, bne_self_eq_false]
  rfl

end Go.Proofs.Ytoiidckbhpojmaa.Pure

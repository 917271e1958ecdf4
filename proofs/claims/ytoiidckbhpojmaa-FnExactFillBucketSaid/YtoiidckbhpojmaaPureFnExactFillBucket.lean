/- The pure statement of FnExactFillBucket, with no condition beyond the law's own. -/
import Derived.Test.YtoiidckbhpojmaaQFnExactFillBucket
namespace Go.Proofs.Ytoiidckbhpojmaa.Pure
open Go.RowKit Go.Proofs.Ytoiidckbhpojmaa.QFnExactFillBucket Go.Proofs.Ytoiidckbhpojmaa.PFnExactFillBucket Go.Proofs.YtoiidckbhpojmaaW.PrintWords Go.Proofs.YtoiidckbhpojmaaW.PrintLast Go.Proofs.Ytoiidckbhpojmaa.Math
set_option linter.unusedVariables false
set_option linter.unusedSimpArgs false

theorem FnExactFillBucket (a b c d n : Int) (_ : (Lit.int .i64 a).wf = true) (_ : (Lit.int .i64 b).wf = true) (_ : (Lit.int .i64 c).wf = true) (_ : (Lit.int .i64 d).wf = true) (_ : (Lit.int .i64 n).wf = true) : ∃ k, laws_FnExactFillBucket.f k a b c d n = some true := by
  refine ⟨1, ?_⟩
  have h2 := sFill 0 a b c d n
  simp only [laws_FnExactFillBucket.f, laws_toBucket.f, Option.bind_some, h2, iFillBucket, eqBucket_self, if_true, bne_self_eq_false, Bool.false_eq_true, if_false]

end Go.Proofs.Ytoiidckbhpojmaa.Pure

/- The pure statement of FnExactCeiling, with no condition beyond the law's own. -/
import Derived.Test.YtoiidckbhpojmaaQFnExactCeiling
namespace Go.Proofs.Ytoiidckbhpojmaa.Pure
open Go.RowKit Go.Proofs.Ytoiidckbhpojmaa.QFnExactCeiling Go.Proofs.Ytoiidckbhpojmaa.PFnExactCeiling Go.Proofs.YtoiidckbhpojmaaW.PrintWords Go.Proofs.YtoiidckbhpojmaaW.PrintLast Go.Proofs.Ytoiidckbhpojmaa.Math
set_option linter.unusedVariables false
set_option linter.unusedSimpArgs false

theorem FnExactCeiling (a b c d n : Int) (_ : (Lit.int .i64 a).wf = true) (_ : (Lit.int .i64 b).wf = true) (_ : (Lit.int .i64 c).wf = true) (_ : (Lit.int .i64 d).wf = true) (_ : (Lit.int .i64 n).wf = true) : laws_FnExactCeiling.f a b c d n = some true := by
  simp only [laws_FnExactCeiling.f, laws_toBucket.f, Option.bind_some, sCeiling, iCeiling, if_true]

end Go.Proofs.Ytoiidckbhpojmaa.Pure

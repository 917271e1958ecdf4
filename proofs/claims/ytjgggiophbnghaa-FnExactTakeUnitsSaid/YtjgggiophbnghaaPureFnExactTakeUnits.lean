/- The pure statement of FnExactTakeUnits, with no condition beyond the law's own. -/
import Derived.Test.YtjgggiophbnghaaQFnExactTakeUnits
namespace Go.Proofs.Ytjgggiophbnghaa.Pure
open Go.RowKit Go.Proofs.Ytjgggiophbnghaa.QFnExactTakeUnits Go.Proofs.Ytjgggiophbnghaa.PFnExactTakeUnits Go.Proofs.YtjgggiophbnghaaW.PrintWords Go.Proofs.YtjgggiophbnghaaW.PrintLast Go.Proofs.Ytjgggiophbnghaa.Math
set_option linter.unusedVariables false
set_option linter.unusedSimpArgs false

theorem FnExactTakeUnits (a b c d n u : Int) (_ : (Lit.int .i64 a).wf = true) (_ : (Lit.int .i64 b).wf = true) (_ : (Lit.int .i64 c).wf = true) (_ : (Lit.int .i64 d).wf = true) (_ : (Lit.int .i64 n).wf = true) (_ : (Lit.int .i64 u).wf = true) : ∃ k, laws_FnExactTakeUnits.f k a b c d n u = some true := by
  refine ⟨1, ?_⟩
  simp only [laws_FnExactTakeUnits.f, laws_toBucket.f, Option.bind_some, sTake 0, iTakeUnits 0, eqBucket_self, if_true]

end Go.Proofs.Ytjgggiophbnghaa.Pure

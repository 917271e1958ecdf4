/- The pure statement of FnExactWhenReady, with no condition beyond the law's own. -/
import Derived.Test.YtjgggiophbnghaaQFnExactWhenReady
namespace Go.Proofs.Ytjgggiophbnghaa.Pure
open Go.RowKit Go.Proofs.Ytjgggiophbnghaa.QFnExactWhenReady Go.Proofs.Ytjgggiophbnghaa.PFnExactWhenReady Go.Proofs.YtjgggiophbnghaaW.PrintWords Go.Proofs.YtjgggiophbnghaaW.PrintLast Go.Proofs.Ytjgggiophbnghaa.Math
set_option linter.unusedVariables false
set_option linter.unusedSimpArgs false

theorem FnExactWhenReady (a b c d n : Int) (_ : (Lit.int .i64 a).wf = true) (_ : (Lit.int .i64 b).wf = true) (_ : (Lit.int .i64 c).wf = true) (_ : (Lit.int .i64 d).wf = true) (hn : (Lit.int .i64 n).wf = true) : ∃ k, laws_FnExactWhenReady.f k a b c d n = some true := by
  obtain ⟨K, h1⟩ := sReady_ev a b c d n
  refine ⟨K + 1, ?_⟩
  have h2 := h1 (K + 1) (by omega)
  simp only [laws_FnExactWhenReady.f, laws_toBucket.f, Option.bind_some, h2, iReady K a b c d n hn, if_true]

end Go.Proofs.Ytjgggiophbnghaa.Pure

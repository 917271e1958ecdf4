/- The pure statement of FnExactFrameOk, with no condition beyond the law's own. -/
import Derived.Test.YtjgggiophbnghaaQFnExactFrameOk
namespace Go.Proofs.Ytjgggiophbnghaa.Pure
open Go.RowKit Go.Proofs.Ytjgggiophbnghaa.QFnExactFrameOk Go.Proofs.Ytjgggiophbnghaa.PFnExactFrameOk Go.Proofs.YtjgggiophbnghaaW.PrintWords Go.Proofs.YtjgggiophbnghaaW.PrintLast Go.Proofs.Ytjgggiophbnghaa.Math
set_option linter.unusedVariables false
set_option linter.unusedSimpArgs false

theorem FnExactFrameOk (a b : Int) (l : List Int) (_ : (Lit.int .i64 a).wf = true) (_ : (Lit.int .i64 b).wf = true) (hl : l.length ≤ maxLen) (_ : ∀ y ∈ l, (Lit.int .u8 y).wf = true) : ∃ k, laws_FnExactFrameOk.f k a b l = some true := by
  by_cases h : (1048576 : Int) < l.length
  · exact ⟨0, by simp only [laws_FnExactFrameOk.f, szFrame_eq a b l 1048576 (by omega) (by omega) hl, h, if_true, Option.bind_some]; rfl⟩
  · obtain ⟨K1, h1⟩ := toFrame_ev a b l (by omega)
    obtain ⟨K2, h2⟩ := eqFrame_ev a b l (by omega)
    refine ⟨K1 + K2, ?_⟩
    have h1 := h1 (K1 + K2) (by omega)
    have h2 := h2 (K1 + K2) (by omega)
    simp only [laws_FnExactFrameOk.f, szFrame_eq a b l 1048576 (by omega) (by omega) hl, h, if_false, Option.bind_some, h1, h2, sFrameOk, iFrameOk, bne_self_eq_false, Bool.false_eq_true, if_true]
    rw [if_neg (by omega)]

end Go.Proofs.Ytjgggiophbnghaa.Pure

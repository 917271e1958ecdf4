/- The pure statement of FnExactRunStep, with no condition beyond the law's own. -/
import Derived.Test.YtjgggiophbnghafQFnExactRunStep
namespace Go.Proofs.Ytjgggiophbnghaf.Pure
open Go.RowKit Go.Proofs.Ytjgggiophbnghaf.QFnExactRunStep Go.Proofs.Ytjgggiophbnghaf.PFnExactRunStep Go.Proofs.YtjgggiophbnghafW.PrintWords Go.Proofs.YtjgggiophbnghafW.PrintLast Go.Proofs.Ytjgggiophbnghaf.Math
set_option linter.unusedVariables false
set_option linter.unusedSimpArgs false

theorem FnExactRunStep (f : Int) (v : List Int) (lv fr en : Int) (_ : (Lit.int .i64 f).wf = true) (hl : v.length ≤ maxLen) (_ : ∀ y ∈ v, (Lit.int .i64 y).wf = true) (_ : (Lit.int .i64 lv).wf = true) (_ : (Lit.int .i64 fr).wf = true) (_ : (Lit.int .i64 en).wf = true) : ∃ k, laws_FnExactRunStep.f k f v lv fr en = some true := by
  by_cases h : (v.length : Int) > 1048576
  · exact ⟨0, by simp only [laws_FnExactRunStep.f, h, if_true]⟩
  · have hlen := runP_len f v lv fr en
    obtain ⟨n, h1, h2, h3, h4, h5, h6, h7, h8⟩ := evs8 (toIntS_ev v (by omega)) (sRunStep_ev f v (by omega) lv fr en) (iRunStep_ev f v (by omega) lv fr en) (eqIntS_ev v (by omega)) (eqIntS_ev (runP f v lv fr en).1 (by omega)) (markIntS_ev v 1 (by omega) (by omega)) (markIntS_ev (runP f v lv fr en).1 1 (by omega) (by omega)) (heldIntS_ev (runP f v lv fr en).1.length 1 (by omega) (by omega))
    have e1 : ¬ (1 + ((runP f v lv fr en).1.length : Int) < 0) := by omega
    have e2 : ¬ (1 + (v.length : Int) < 0) := by omega
    refine ⟨n + 5, ?_⟩
    simp only [laws_FnExactRunStep.f, laws_FnExactRunStep.j0, laws_FnExactRunStep.j1, laws_FnExactRunStep.j2, laws_toStep.f, h, h1, h2, h3, h4, h5, h6, h7, h8, e1, e2, Option.bind_some, if_true, if_false, bne_self_eq_false, Bool.false_eq_true]

end Go.Proofs.Ytjgggiophbnghaf.Pure

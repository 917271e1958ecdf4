/- The pure statement of FnExactMakePlan, with no condition beyond the law's own. -/
import Derived.Test.YtjgggiophbnghacQFnExactMakePlan
namespace Go.Proofs.Ytjgggiophbnghac.Pure
open Go.RowKit Go.Proofs.Ytjgggiophbnghac.QFnExactMakePlan Go.Proofs.Ytjgggiophbnghac.PFnExactMakePlan Go.Proofs.YtjgggiophbnghacW.PrintWords Go.Proofs.YtjgggiophbnghacW.PrintLast Go.Proofs.Ytjgggiophbnghac.Math
set_option linter.unusedVariables false
set_option linter.unusedSimpArgs false

theorem FnExactMakePlan : laws_FnExactMakePlan.Pure := by
  intro f k most _ _ _
  have hl := planP_len f k most
  obtain ⟨n, h1, h2, h3, h4, h5⟩ := evs5 (sPlan_ev f k most) (iPlan_ev f k most) (eqPlan_ev (planP f k most).1 (planP f k most).2.1 (planP f k most).2.2.1 (by omega)) (markPlan_ev (planP f k most).1 (planP f k most).2.1 (planP f k most).2.2.1 1 (by omega) (by omega)) (heldPlan_ev (planP f k most).1 (planP f k most).2.1 (planP f k most).2.2.1.length 1 (by omega) (by omega))
  have e1 : ¬ (1 + 3 * ((planP f k most).2.2.1.length : Int) < 0) := by omega
  refine ⟨n + 5, ?_⟩
  simp only [laws_FnExactMakePlan.f, laws_FnExactMakePlan.j0, laws_FnExactMakePlan.j1, h1, h2, h3, h4, h5, e1, Option.bind_some, if_true, if_false, bne_self_eq_false, Bool.false_eq_true]

end Go.Proofs.Ytjgggiophbnghac.Pure

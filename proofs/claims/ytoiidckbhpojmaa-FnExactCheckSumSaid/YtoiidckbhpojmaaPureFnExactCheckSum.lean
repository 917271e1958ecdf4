/- The pure statement of FnExactCheckSum, with no condition beyond the law's own. -/
import Derived.Test.YtoiidckbhpojmaaSz
import Derived.Test.YtoiidckbhpojmaaQFnExactCheckSum
namespace Go.Proofs.Ytoiidckbhpojmaa.Pure
open Go.RowKit Go.Proofs.Ytoiidckbhpojmaa.QFnExactCheckSum Go.Proofs.Ytoiidckbhpojmaa.PFnExactCheckSum Go.Proofs.YtoiidckbhpojmaaW.PrintWords Go.Proofs.YtoiidckbhpojmaaW.PrintLast Go.Proofs.Ytoiidckbhpojmaa.Math
set_option linter.unusedVariables false
set_option linter.unusedSimpArgs false

theorem FnExactCheckSum : laws_FnExactCheckSum.Pure := by
  intro l hm hn hw
  have hb := isB_of hw
  obtain ⟨K1, h1⟩ := toByteS_ev l (by omega)
  obtain ⟨K2, h2⟩ := sCks_ev l (by omega) hb
  obtain ⟨K3, h3⟩ := iCheckSum_ev l (by omega) hb
  obtain ⟨K4, h4⟩ := eqByteS_ev l (by omega)
  refine ⟨K1 + K2 + K3 + K4, ?_⟩
  simp only [laws_FnExactCheckSum.f, h1 _ (show K1 ≤ K1 + K2 + K3 + K4 by omega), h2 _ (show K2 ≤ K1 + K2 + K3 + K4 by omega), h3 _ (show K3 ≤ K1 + K2 + K3 + K4 by omega), h4 _ (show K4 ≤ K1 + K2 + K3 + K4 by omega), Option.bind_some, if_true]
  split <;> rfl

end Go.Proofs.Ytoiidckbhpojmaa.Pure

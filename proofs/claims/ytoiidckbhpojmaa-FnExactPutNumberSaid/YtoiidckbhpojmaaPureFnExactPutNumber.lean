/- The pure statement of FnExactPutNumber, with no condition beyond the law's own. -/
import Derived.Test.YtoiidckbhpojmaaQFnExactPutNumber
namespace Go.Proofs.Ytoiidckbhpojmaa.Pure
open Go.RowKit Go.Proofs.Ytoiidckbhpojmaa.QFnExactPutNumber Go.Proofs.Ytoiidckbhpojmaa.PFnExactPutNumber Go.Proofs.YtoiidckbhpojmaaW.PrintWords Go.Proofs.YtoiidckbhpojmaaW.PrintLast Go.Proofs.Ytoiidckbhpojmaa.Math
set_option linter.unusedVariables false
set_option linter.unusedSimpArgs false

theorem FnExactPutNumber : laws_FnExactPutNumber.Pure := by
  intro x hx
  have hl := putOf_len x
  obtain ⟨K1, h1⟩ := sPut_ev x hx
  obtain ⟨K2, h2⟩ := iPutN_ev x
  obtain ⟨K3, h3⟩ := eqByteS_ev (putOf x) (by omega)
  obtain ⟨K4, h4⟩ := markByteS_ev (putOf x) 1 (by omega) (by omega)
  obtain ⟨K5, h5⟩ := heldByteS_ev (putOf x).length 1 (by omega) (by omega)
  refine ⟨K1 + K2 + K3 + K4 + K5, ?_⟩
  simp only [laws_FnExactPutNumber.f, h1 _ (show K1 ≤ K1 + K2 + K3 + K4 + K5 by omega), h2 _ (show K2 ≤ K1 + K2 + K3 + K4 + K5 by omega), h3 _ (show K3 ≤ K1 + K2 + K3 + K4 + K5 by omega), h4 _ (show K4 ≤ K1 + K2 + K3 + K4 + K5 by omega), h5 _ (show K5 ≤ K1 + K2 + K3 + K4 + K5 by omega), Option.bind_some, if_true]
  rw [if_neg (by omega), if_neg (by omega)]

end Go.Proofs.Ytoiidckbhpojmaa.Pure

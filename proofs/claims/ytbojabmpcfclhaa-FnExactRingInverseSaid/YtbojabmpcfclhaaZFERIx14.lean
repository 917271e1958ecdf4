/- The pure statement of FnExactRingInverse, with no condition beyond the law's own. -/
import Derived.Test.YtbojabmpcfclhaaZFERIx11
import Derived.Test.YtbojabmpcfclhaaZFERIx13
namespace Go.Proofs.Ytbojabmpcfclhaa.Pure
open Go.RowKit Go.Proofs.Ytbojabmpcfclhaa.QFnExactRingInverse Go.Proofs.Ytbojabmpcfclhaa.PFnExactRingInverse Go.Proofs.YtbojabmpcfclhaaW.PrintWords Go.Proofs.YtbojabmpcfclhaaW.PrintLast Go.Proofs.Ytbojabmpcfclhaa.Math
set_option linter.unusedVariables false
set_option linter.unusedSimpArgs false

theorem FnExactRingInverse : laws_FnExactRingInverse.Pure := by
  intro f v _ hl _ _
  by_cases h : (v.length : Int) > 1048576
  · exact ⟨0, by simp only [laws_FnExactRingInverse.f, h, if_true]⟩
  · have hlen := ringI_len f v
    have hS := sRingI_ev f v (by omega)
    have hI := iRingI_ev f v (by omega)
    generalize ringI f v = R at hlen hS hI
    obtain ⟨n, h1, h2, h3, h4, h5, h6, h7, h8, h9⟩ := evs9 (toIntS_ev v (by omega)) hS hI (eqIntS_ev v (by omega)) (eqIntS_ev R.1 (by omega)) (markIntS_ev v 1 (by omega) (by omega)) (markIntS_ev R.1 1 (by omega) (by omega)) (heldIntS_ev R.1.length 1 (by omega) (by omega)) (heldIntS_ev v.length 1 (by omega) (by omega))
    have e1 : ¬ (1 + (R.1.length : Int) < 0) := by omega
    have e2 : ¬ (1 + (v.length : Int) < 0) := by omega
    refine ⟨n + 5, ?_⟩
    simp only [laws_FnExactRingInverse.f, laws_FnExactRingInverse.j0, laws_FnExactRingInverse.j1, laws_FnExactRingInverse.j2, h, h1, h2, h3, h4, h5, h6, h7, h8, h9, e1, e2, Option.bind_some, if_true, if_false, Bool.not_true, Bool.false_eq_true, bne_self_eq_false]

end Go.Proofs.Ytbojabmpcfclhaa.Pure

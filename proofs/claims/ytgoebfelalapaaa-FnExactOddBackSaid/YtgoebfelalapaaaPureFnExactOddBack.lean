/- The pure statement of FnExactOddBack, with no condition beyond the law's own. -/
import Derived.Test.YtgoebfelalapaaaSz
import Derived.Test.YtgoebfelalapaaaQFnExactOddBack
namespace Go.Proofs.Ytgoebfelalapaaa.Pure
open Go.RowKit Go.Proofs.Ytgoebfelalapaaa.QFnExactOddBack Go.Proofs.Ytgoebfelalapaaa.PFnExactOddBack Go.Proofs.YtgoebfelalapaaaW.PrintWords Go.Proofs.YtgoebfelalapaaaW.PrintLast Go.Proofs.Ytgoebfelalapaaa.Math
set_option linter.unusedVariables false
set_option linter.unusedSimpArgs false

theorem FnExactOddBack : laws_FnExactOddBack.Pure := by
  intro f v _ hl _ _
  by_cases h : (v.length : Int) > 1048576
  · exact ⟨0, by simp only [laws_FnExactOddBack.f, h, if_true]⟩
  · have hlen := oddB_len f v
    obtain ⟨n, h1, h2, h3, h4, h5, h6, h7, h8, h9⟩ := evs9 (toIntS_ev v (by omega)) (sOddBack_ev f v (by omega)) (iOddBack_ev f v (by omega)) (eqIntS_ev v (by omega)) (eqIntS_ev (oddB f v) (by omega)) (markIntS_ev v 1 (by omega) (by omega)) (markIntS_ev (oddB f v) 1 (by omega) (by omega)) (heldIntS_ev (oddB f v).length 1 (by omega) (by omega)) (heldIntS_ev v.length 1 (by omega) (by omega))
    have e1 : ¬ (1 + ((oddB f v).length : Int) < 0) := by omega
    have e2 : ¬ (1 + (v.length : Int) < 0) := by omega
    refine ⟨n + 5, ?_⟩
    simp only [laws_FnExactOddBack.f, laws_FnExactOddBack.j0, h, h1, h2, h3, h4, h5, h6, h7, h8, h9, e1, e2, Option.bind_some, if_true, if_false, Bool.not_true, Bool.false_eq_true]

end Go.Proofs.Ytgoebfelalapaaa.Pure

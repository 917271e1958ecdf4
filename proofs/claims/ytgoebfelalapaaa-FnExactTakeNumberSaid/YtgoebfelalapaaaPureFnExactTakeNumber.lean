/- The pure statement of FnExactTakeNumber, with no condition beyond the law's own. -/
import Derived.Test.YtgoebfelalapaaaSz
import Derived.Test.YtgoebfelalapaaaQFnExactTakeNumber
namespace Go.Proofs.Ytgoebfelalapaaa.Pure
open Go.RowKit Go.Proofs.Ytgoebfelalapaaa.QFnExactTakeNumber Go.Proofs.Ytgoebfelalapaaa.PFnExactTakeNumber Go.Proofs.YtgoebfelalapaaaW.PrintWords Go.Proofs.YtgoebfelalapaaaW.PrintLast Go.Proofs.Ytgoebfelalapaaa.Math
set_option linter.unusedVariables false
set_option linter.unusedSimpArgs false

theorem FnExactTakeNumber : laws_FnExactTakeNumber.Pure := by
  intro l a _ hl hw ha
  by_cases h : (l.length : Int) > 1048576
  · exact ⟨0, by simp only [laws_FnExactTakeNumber.f, h, if_true]⟩
  · have hb := isB_of hw
    have ha2 := wf_i64 ha
    obtain ⟨n, h1, h2, h3, h4⟩ := evs4 (toByteS_ev l (by omega)) (sTake_ev l (by omega) hb a) (iTakeI_ev l (by omega) hb a ha2.2) (eqByteS_ev l (by omega))
    refine ⟨n + 2, ?_⟩
    simp only [laws_FnExactTakeNumber.f, laws_FnExactTakeNumber.j0, h, h1, h2, h3, h4, Option.bind_some, if_true, if_false, bne_self_eq_false, Bool.false_eq_true]

end Go.Proofs.Ytgoebfelalapaaa.Pure

/- The pure statement of FnExactDecodeFrame, with no condition beyond the law's own. -/
import Derived.Test.YtjgggiophbnghadSz
import Derived.Test.YtjgggiophbnghadQFnExactDecodeFrame
namespace Go.Proofs.Ytjgggiophbnghad.Pure
open Go.RowKit Go.Proofs.Ytjgggiophbnghad.QFnExactDecodeFrame Go.Proofs.Ytjgggiophbnghad.PFnExactDecodeFrame Go.Proofs.YtjgggiophbnghadW.PrintWords Go.Proofs.YtjgggiophbnghadW.PrintLast Go.Proofs.Ytjgggiophbnghad.Math
set_option linter.unusedVariables false
set_option linter.unusedSimpArgs false

theorem FnExactDecodeFrame : laws_FnExactDecodeFrame.Pure := by
  intro l hm hn hw
  have hb := isB_of hw
  by_cases h : (l.length : Int) > 1048576
  · exact ⟨0, by simp only [laws_FnExactDecodeFrame.f, h, if_true]⟩
  · have hl := decF_len l
    obtain ⟨n, h1, h2, h3, h4, h5, h6, h7, h8⟩ := evs8 (toByteS_ev l (by omega)) (sDec_ev l (by omega) hb) (iDecF_ev l (by omega) hb) (eqByteS_ev l (by omega)) (eqFrame_ev (decF l).1 (decF l).2.1 (decF l).2.2.1 (by omega)) (markByteS_ev l 1 (by omega) (by omega)) (markFrame_ev (decF l).1 (decF l).2.1 (decF l).2.2.1 1 (by omega) (by omega)) (heldFrame_ev (decF l).1 (decF l).2.1 (decF l).2.2.1.length 1 (by omega) (by omega))
    have e1 : ¬ (1 + ((decF l).2.2.1.length : Int) < 0) := by omega
    have e2 : ¬ (1 + (l.length : Int) < 0) := by omega
    refine ⟨n + 5, ?_⟩
    simp only [laws_FnExactDecodeFrame.f, laws_FnExactDecodeFrame.j0, laws_FnExactDecodeFrame.j1, laws_FnExactDecodeFrame.j2, h, h1, h2, h3, h4, h5, h6, h7, h8, e1, e2, Option.bind_some, if_true, if_false, bne_self_eq_false, Bool.false_eq_true]

end Go.Proofs.Ytjgggiophbnghad.Pure

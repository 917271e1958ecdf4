/- The pure statement of FnExactDecodeJob, with no condition beyond the law's own. -/
import Derived.Test.YtdefnccngnilmaaZFEDJx12
import Derived.Test.YtdefnccngnilmaaZFEDJx14
namespace Go.Proofs.Ytdefnccngnilmaa.Pure
open Go.RowKit Go.Proofs.Ytdefnccngnilmaa.QFnExactDecodeJob Go.Proofs.Ytdefnccngnilmaa.PFnExactDecodeJob Go.Proofs.YtdefnccngnilmaaW.PrintWords Go.Proofs.YtdefnccngnilmaaW.PrintLast Go.Proofs.Ytdefnccngnilmaa.Math
set_option linter.unusedVariables false
set_option linter.unusedSimpArgs false

theorem FnExactDecodeJob : laws_FnExactDecodeJob.Pure := by
  intro l _ hl hw
  by_cases h : (l.length : Int) > 1048576
  · exact ⟨0, by simp only [laws_FnExactDecodeJob.f, h, if_true]⟩
  · have hb := isB_of hw
    have hL := decV_len l
    obtain ⟨n1, g1, g2, g3⟩ := evs3 (markByteS_ev l 1 (by omega) (by omega)) (markJob_ev (decV l).1 (decV l).2.1 (decV l).2.2.2.2.1 (decV l).2.2.1 (decV l).2.2.2.1 1 (by omega) (by omega)) (heldJob_ev (decV l).1 (decV l).2.1 (decV l).2.2.2.2.1 (decV l).2.2.1.length (decV l).2.2.2.1.length 1 (by omega) (by omega))
    obtain ⟨n, h1, h2, h3, h4, h5⟩ := evs5 (toByteS_ev l (by omega)) (sDecode_ev l (by omega) hb) (iDecode_ev l (by omega) hb) (eqByteS_ev l (by omega)) (eqJob_ev (decV l).1 (decV l).2.1 (decV l).2.2.2.2.1 (decV l).2.2.1 (decV l).2.2.2.1 (by omega) (by omega))
    have e1 : ¬ (1 + (l.length : Int) < 0) := by omega
    have e2 : ¬ (1 + ((decV l).2.2.1.length : Int) + (decV l).2.2.2.1.length < 0) := by omega
    have g1' := fun j => by have := g1 (n + j); rwa [show n1 + (n + j) = n1 + n + j by omega] at this
    have g2' := fun j => by have := g2 (n + j); rwa [show n1 + (n + j) = n1 + n + j by omega] at this
    have g3' := fun j => by have := g3 (n + j); rwa [show n1 + (n + j) = n1 + n + j by omega] at this
    have h1' := fun j => by have := h1 (n1 + j); rwa [show n + (n1 + j) = n1 + n + j by omega] at this
    have h2' := fun j => by have := h2 (n1 + j); rwa [show n + (n1 + j) = n1 + n + j by omega] at this
    have h3' := fun j => by have := h3 (n1 + j); rwa [show n + (n1 + j) = n1 + n + j by omega] at this
    have h4' := fun j => by have := h4 (n1 + j); rwa [show n + (n1 + j) = n1 + n + j by omega] at this
    have h5' := fun j => by have := h5 (n1 + j); rwa [show n + (n1 + j) = n1 + n + j by omega] at this
    refine ⟨n1 + n + 5, ?_⟩
    simp only [laws_FnExactDecodeJob.f, laws_FnExactDecodeJob.j0, laws_FnExactDecodeJob.j1, laws_FnExactDecodeJob.j2, h, e1, e2, h1', h2', h3', h4', h5', g1', g2', g3', Option.bind_some, if_true, if_false, bne_self_eq_false, Bool.false_eq_true]

end Go.Proofs.Ytdefnccngnilmaa.Pure

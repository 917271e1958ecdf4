/- The pure statement of FnExactSwapSteps, with no condition beyond the law's own. -/
import Derived.Test.YtdefnccngnilmaaZFESSx13
namespace Go.Proofs.Ytdefnccngnilmaa.Pure
open Go.RowKit Go.Proofs.Ytdefnccngnilmaa.QFnExactSwapSteps Go.Proofs.Ytdefnccngnilmaa.PFnExactSwapSteps Go.Proofs.YtdefnccngnilmaaW.PrintWords Go.Proofs.YtdefnccngnilmaaW.PrintLast Go.Proofs.Ytdefnccngnilmaa.Math
set_option linter.unusedVariables false
set_option linter.unusedSimpArgs false

theorem FnExactSwapSteps (f K : Int) (l : List S115) (i : Int) (_ : (Lit.int .i64 f).wf = true) (_ : (Lit.int .i64 K).wf = true) (hl : l.length ≤ maxLen) (_ : ∀ y ∈ l, (Lit.int .i64 y.f0).wf = true ∧ (Lit.int .i64 y.f1).wf = true ∧ (Lit.int .i64 y.f2).wf = true) (_ : (Lit.int .i64 i).wf = true) : ∃ k, laws_FnExactSwapSteps.f k f K l i = some true := by
  have hsz := szPlan_eq f K l 1048576 (by omega) (by omega) hl
  by_cases h : (1048576 : Int) < l.length
  · rw [if_pos h] at hsz
    exact ⟨0, by simp only [laws_FnExactSwapSteps.f, hsz, Option.bind_some]; rfl⟩
  · rw [if_neg h] at hsz
    have hm : (l.map toStep_c).length ≤ 1048576 := by rw [List.length_map]; omega
    have hr := swapR_len f K (l.map toStep_c) i
    generalize hR : swapR f K (l.map toStep_c) i = R at hr
    have hS := sSwapSteps_ev f K (l.map toStep_c) i hm
    have hI := iSwapSteps_ev f K (l.map toStep_c) i hm
    rw [hR] at hS hI
    obtain ⟨n1, g1, g2, g3, g4⟩ := evs4 (markPlan_ev f K (l.map toStep_c) 1 (by omega) (by omega)) (markPlan_ev R.1 R.2.1 R.2.2.1 1 (by omega) (by omega)) (heldPlan_ev R.1 R.2.1 R.2.2.1.length 1 (by omega) (by omega)) (heldPlan_ev f K (l.map toStep_c).length 1 (by omega) (by omega))
    obtain ⟨n, h1, h2, h3, h4, h5⟩ := evs5 (toPlan_ev f K l (by omega)) hS hI (eqPlan_ev f K (l.map toStep_c) hm) (eqPlan_ev R.1 R.2.1 R.2.2.1 (by omega))
    have e1 : ¬ (1048576 - (l.length : Int) < 0) := by omega
    have e2 : ¬ (1 + 3 * (R.2.2.1.length : Int) < 0) := by omega
    have e3 : ¬ (1 + 3 * ((l.map toStep_c).length : Int) < 0) := by omega
    have g1' := fun j => by have := g1 (n + j); rwa [show n1 + (n + j) = n1 + n + j by omega] at this
    have g2' := fun j => by have := g2 (n + j); rwa [show n1 + (n + j) = n1 + n + j by omega] at this
    have g3' := fun j => by have := g3 (n + j); rwa [show n1 + (n + j) = n1 + n + j by omega] at this
    have g4' := fun j => by have := g4 (n + j); rwa [show n1 + (n + j) = n1 + n + j by omega] at this
    have h1' := fun j => by have := h1 (n1 + j); rwa [show n + (n1 + j) = n1 + n + j by omega] at this
    have h2' := fun j => by have := h2 (n1 + j); rwa [show n + (n1 + j) = n1 + n + j by omega] at this
    have h3' := fun j => by have := h3 (n1 + j); rwa [show n + (n1 + j) = n1 + n + j by omega] at this
    have h4' := fun j => by have := h4 (n1 + j); rwa [show n + (n1 + j) = n1 + n + j by omega] at this
    have h5' := fun j => by have := h5 (n1 + j); rwa [show n + (n1 + j) = n1 + n + j by omega] at this
    refine ⟨n1 + n + 5, ?_⟩
    simp only [laws_FnExactSwapSteps.f, laws_FnExactSwapSteps.j0, laws_FnExactSwapSteps.j1, laws_FnExactSwapSteps.j2, hsz, e1, e2, e3, h1', h2', h3', h4', h5', g1', g2', g3', g4', Option.bind_some, if_true, if_false, bne_self_eq_false, Bool.false_eq_true]

end Go.Proofs.Ytdefnccngnilmaa.Pure

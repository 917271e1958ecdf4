/- The pure statement of FnExactRunPlan, with no condition beyond the law's own. -/
import Derived.Test.YtpomhmcehbefaaaZFERPx14
namespace Go.Proofs.Ytpomhmcehbefaaa.Pure
open Go.RowKit Go.Proofs.Ytpomhmcehbefaaa.QFnExactRunPlan Go.Proofs.Ytpomhmcehbefaaa.PFnExactRunPlan Go.Proofs.YtpomhmcehbefaaaW.PrintWords Go.Proofs.YtpomhmcehbefaaaW.PrintLast Go.Proofs.Ytpomhmcehbefaaa.Math
set_option linter.unusedVariables false
set_option linter.unusedSimpArgs false

theorem FnExactRunPlan (f K : Int) (l : List S100) (v : List Int) (_ : (Lit.int .i64 f).wf = true) (_ : (Lit.int .i64 K).wf = true) (hl : l.length ≤ maxLen) (_ : ∀ y ∈ l, (Lit.int .i64 y.f0).wf = true ∧ (Lit.int .i64 y.f1).wf = true ∧ (Lit.int .i64 y.f2).wf = true) (_ : v.length ≤ maxLen) (_ : ∀ y ∈ v, (Lit.int .i64 y).wf = true) : ∃ k, laws_FnExactRunPlan.f k f K l v = some true := by
  by_cases hv : (v.length : Int) > 1048576
  · exact ⟨0, by simp only [laws_FnExactRunPlan.f, hv, if_true]⟩
  have hsz := szPlan_eq f K l 1048576 (by omega) (by omega) hl
  by_cases h : (1048576 : Int) < l.length
  · rw [if_pos h] at hsz
    exact ⟨0, by simp only [laws_FnExactRunPlan.f, hv, if_false, hsz, Option.bind_some]; rfl⟩
  · rw [if_neg h] at hsz
    have hm : (l.map toStep_c).length ≤ 1048576 := by rw [List.length_map]; omega
    have hr := runPV_len f K (l.map toStep_c) v
    have hS := sRunPlanP_ev f K (l.map toStep_c) v hm (by omega)
    have hI := iRunPlanP_ev f K (l.map toStep_c) v hm (by omega)
    generalize hR : runPV f K (l.map toStep_c) v = R at hr hS hI
    obtain ⟨n1, g1, g2, g3, g4, g5⟩ := evs5 (markPlan_ev f K (l.map toStep_c) 1 (by omega) (by omega)) (markIntS_ev v (1 + 3 * ((l.map toStep_c).length : Int)) (by omega) (by omega)) (markIntS_ev R.1 1 (by omega) (by omega)) (heldIntS_ev R.1.length 1 (by omega) (by omega)) (toIntS_ev v (by omega))
    obtain ⟨n, h1, h2, h3, h4, h5, h6⟩ := evs6 (toPlan_ev f K l (by omega)) hS hI (eqPlan_ev f K (l.map toStep_c) hm) (eqIntS_ev R.1 (by omega)) (eqIntS_ev v (by omega))
    have e1 : ¬ (1048576 - (l.length : Int) < 0) := by omega
    have e2 : ¬ (1 + (R.1.length : Int) < 0) := by omega
    have e3 : ¬ (1 + 3 * ((l.map toStep_c).length : Int) + (v.length : Int) < 0) := by omega
    have g1' := fun j => by have := g1 (n + j); rwa [show n1 + (n + j) = n1 + n + j by omega] at this
    have g2' := fun j => by have := g2 (n + j); rwa [show n1 + (n + j) = n1 + n + j by omega] at this
    have g3' := fun j => by have := g3 (n + j); rwa [show n1 + (n + j) = n1 + n + j by omega] at this
    have g4' := fun j => by have := g4 (n + j); rwa [show n1 + (n + j) = n1 + n + j by omega] at this
    have g5' := fun j => by have := g5 (n + j); rwa [show n1 + (n + j) = n1 + n + j by omega] at this
    have h1' := fun j => by have := h1 (n1 + j); rwa [show n + (n1 + j) = n1 + n + j by omega] at this
    have h2' := fun j => by have := h2 (n1 + j); rwa [show n + (n1 + j) = n1 + n + j by omega] at this
    have h3' := fun j => by have := h3 (n1 + j); rwa [show n + (n1 + j) = n1 + n + j by omega] at this
    have h4' := fun j => by have := h4 (n1 + j); rwa [show n + (n1 + j) = n1 + n + j by omega] at this
    have h5' := fun j => by have := h5 (n1 + j); rwa [show n + (n1 + j) = n1 + n + j by omega] at this
    have h6' := fun j => by have := h6 (n1 + j); rwa [show n + (n1 + j) = n1 + n + j by omega] at this
    refine ⟨n1 + n + 5, ?_⟩
    simp only [laws_FnExactRunPlan.f, laws_FnExactRunPlan.j0, laws_FnExactRunPlan.j1, laws_FnExactRunPlan.j2, hv, hsz, e1, e2, e3, h1', h2', h3', h4', h5', h6', g1', g2', g3', g4', g5', Option.bind_some, if_true, if_false, bne_self_eq_false, Bool.false_eq_true]

end Go.Proofs.Ytpomhmcehbefaaa.Pure

/- The pure statement of FnExactDeal, with no condition beyond the law's own. -/
import Derived.Test.YtogdhclomgafdaaZFEDx11
namespace Go.Proofs.Ytogdhclomgafdaa.Pure
open Go.RowKit Go.Proofs.Ytogdhclomgafdaa.QFnExactDeal Go.Proofs.Ytogdhclomgafdaa.PFnExactDeal Go.Proofs.YtogdhclomgafdaaW.PrintWords Go.Proofs.YtogdhclomgafdaaW.PrintLast Go.Proofs.Ytogdhclomgafdaa.Math
set_option linter.unusedVariables false
set_option linter.unusedSimpArgs false

theorem FnExactDeal (f K : Int) (l : List S133) (a : Int) (_ : (Lit.int .i64 f).wf = true) (_ : (Lit.int .i64 K).wf = true) (hl : l.length ≤ maxLen) (_ : ∀ y ∈ l, (Lit.int .i64 y.f0).wf = true ∧ (Lit.int .i64 y.f1).wf = true ∧ (Lit.int .i64 y.f2).wf = true) (_ : (Lit.int .i64 a).wf = true) : ∃ k, laws_FnExactDeal.f k f K l a = some true := by
  have hsz := szPlan_eq f K l 1048576 (by omega) (by omega) hl
  by_cases h : (1048576 : Int) < l.length
  · rw [if_pos h] at hsz
    exact ⟨0, by simp only [laws_FnExactDeal.f, hsz, Option.bind_some]; rfl⟩
  · rw [if_neg h] at hsz
    have hm : (l.map toStep_c).length ≤ 1048576 := by rw [List.length_map]; omega
    obtain ⟨hr1, hr2⟩ := dealR_len f K (l.map toStep_c) a
    have hS := sDeal_ev f K (l.map toStep_c) a hm
    have hI := iDeal_ev f K (l.map toStep_c) a hm
    generalize dealR f K (l.map toStep_c) a = R at hr1 hr2 hS hI
    have ht := totL_le R.1 hr2
    have ht2 : totL R.1 ≤ 9600 := Nat.le_trans ht (by omega)
    obtain ⟨n1, g1, g2, g3⟩ := evs3 (markPlan_ev f K (l.map toStep_c) 1 (by omega) (by omega)) (markIntSS_ev R.1 1 (by omega) (by omega) (by omega)) (heldIntSS_ev R.1 1 (by omega) (by omega) (by omega))
    obtain ⟨n, h1, h2, h3, h4, h5⟩ := evs5 (toPlan_ev f K l (by omega)) hS hI (eqPlan_ev f K (l.map toStep_c) hm) (eqIntSS_ev R.1 (by omega) (fun r hr => by have := hr2 r hr; omega))
    have e1 : ¬ (1048576 - (l.length : Int) < 0) := by omega
    have e2 : ¬ (1 + (totL R.1 : Int) < 0) := by omega
    have e3 : ¬ (1 + 3 * ((l.map toStep_c).length : Int) < 0) := by omega
    have g1' := fun j => by have := g1 (n + j); rwa [show n1 + (n + j) = n1 + n + j by omega] at this
    have g2' := fun j => by have := g2 (n + j); rwa [show n1 + (n + j) = n1 + n + j by omega] at this
    have g3' := fun j => by have := g3 (n + j); rwa [show n1 + (n + j) = n1 + n + j by omega] at this
    have h1' := fun j => by have := h1 (n1 + j); rwa [show n + (n1 + j) = n1 + n + j by omega] at this
    have h2' := fun j => by have := h2 (n1 + j); rwa [show n + (n1 + j) = n1 + n + j by omega] at this
    have h3' := fun j => by have := h3 (n1 + j); rwa [show n + (n1 + j) = n1 + n + j by omega] at this
    have h4' := fun j => by have := h4 (n1 + j); rwa [show n + (n1 + j) = n1 + n + j by omega] at this
    have h5' := fun j => by have := h5 (n1 + j); rwa [show n + (n1 + j) = n1 + n + j by omega] at this
    refine ⟨n1 + n + 5, ?_⟩
    simp only [laws_FnExactDeal.f, laws_FnExactDeal.j0, laws_FnExactDeal.j1, laws_FnExactDeal.j2, hsz, e1, e2, e3, h1', h2', h3', h4', h5', g1', g2', g3', Option.bind_some, if_true, if_false, bne_self_eq_false, Bool.false_eq_true]

end Go.Proofs.Ytogdhclomgafdaa.Pure

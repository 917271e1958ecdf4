/- The pure statement of FnExactUnpackJobs, with no condition beyond the law's own. -/
import Derived.Test.YtogdhclomgafdaaZFEUJx14
namespace Go.Proofs.Ytogdhclomgafdaa.Pure
open Go.RowKit Go.Proofs.Ytogdhclomgafdaa.QFnExactUnpackJobs Go.Proofs.Ytogdhclomgafdaa.PFnExactUnpackJobs Go.Proofs.YtogdhclomgafdaaW.PrintWords Go.Proofs.YtogdhclomgafdaaW.PrintLast Go.Proofs.Ytogdhclomgafdaa.Math
set_option linter.unusedVariables false
set_option linter.unusedSimpArgs false

theorem FnExactUnpackJobs (a b : Int) (l : List Int) (_ : (Lit.int .i64 a).wf = true) (_ : (Lit.int .i64 b).wf = true) (hl : l.length ≤ maxLen) (hw : ∀ y ∈ l, (Lit.int .u8 y).wf = true) : ∃ k, laws_FnExactUnpackJobs.f k a b l = some true := by
  have hsz := szFrame_eq a b l 1048576 (by omega) (by omega) hl
  by_cases h : (1048576 : Int) < l.length
  · rw [if_pos h] at hsz
    exact ⟨0, by simp only [laws_FnExactUnpackJobs.f, hsz, Option.bind_some]; rfl⟩
  · rw [if_neg h] at hsz
    have hb := isB_of hw
    have hL := unpV_len a b l
    have e0 : ¬ (1048576 - (l.length : Int) < 0) := by omega
    obtain ⟨n1, g1, g2, g3⟩ := evs3 (markFrame_ev a b l 1 (by omega) (by omega)) (markJob_ev (unpV a b l).1 (unpV a b l).2.1 (unpV a b l).2.2.2.2.1 (unpV a b l).2.2.1 (unpV a b l).2.2.2.1 1 (by omega) (by omega)) (heldJob_ev (unpV a b l).1 (unpV a b l).2.1 (unpV a b l).2.2.2.2.1 (unpV a b l).2.2.1.length (unpV a b l).2.2.2.1.length 1 (by omega) (by omega))
    obtain ⟨n, h1, h2, h3, h4, h5⟩ := evs5 (toFrame_ev a b l (by omega)) (sUnpack_ev a b l (by omega) hb) (iUnpack_ev a b l (by omega) hb) (eqFrame_ev a b l (by omega)) (eqJob_ev (unpV a b l).1 (unpV a b l).2.1 (unpV a b l).2.2.2.2.1 (unpV a b l).2.2.1 (unpV a b l).2.2.2.1 (by omega) (by omega))
    have e1 : ¬ (1 + (l.length : Int) < 0) := by omega
    have e2 : ¬ (1 + ((unpV a b l).2.2.1.length : Int) + (unpV a b l).2.2.2.1.length < 0) := by omega
    have g1' := fun j => by have := g1 (n + j); rwa [show n1 + (n + j) = n1 + n + j by omega] at this
    have g2' := fun j => by have := g2 (n + j); rwa [show n1 + (n + j) = n1 + n + j by omega] at this
    have g3' := fun j => by have := g3 (n + j); rwa [show n1 + (n + j) = n1 + n + j by omega] at this
    have h1' := fun j => by have := h1 (n1 + j); rwa [show n + (n1 + j) = n1 + n + j by omega] at this
    have h2' := fun j => by have := h2 (n1 + j); rwa [show n + (n1 + j) = n1 + n + j by omega] at this
    have h3' := fun j => by have := h3 (n1 + j); rwa [show n + (n1 + j) = n1 + n + j by omega] at this
    have h4' := fun j => by have := h4 (n1 + j); rwa [show n + (n1 + j) = n1 + n + j by omega] at this
    have h5' := fun j => by have := h5 (n1 + j); rwa [show n + (n1 + j) = n1 + n + j by omega] at this
    refine ⟨n1 + n + 5, ?_⟩
    simp only [laws_FnExactUnpackJobs.f, laws_FnExactUnpackJobs.j0, laws_FnExactUnpackJobs.j1, laws_FnExactUnpackJobs.j2, hsz, e0, e1, e2, h1', h2', h3', h4', h5', g1', g2', g3', Option.bind_some, if_true, if_false, bne_self_eq_false, Bool.false_eq_true]

end Go.Proofs.Ytogdhclomgafdaa.Pure

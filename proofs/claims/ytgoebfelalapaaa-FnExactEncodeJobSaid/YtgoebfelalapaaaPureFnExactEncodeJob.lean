/- The pure statement of FnExactEncodeJob, with no condition beyond the law's own. -/
import Derived.Test.YtgoebfelalapaaaQFnExactEncodeJob
namespace Go.Proofs.Ytgoebfelalapaaa.Pure
open Go.RowKit Go.Proofs.Ytgoebfelalapaaa.QFnExactEncodeJob Go.Proofs.Ytgoebfelalapaaa.PFnExactEncodeJob Go.Proofs.YtgoebfelalapaaaW.PrintWords Go.Proofs.YtgoebfelalapaaaW.PrintLast Go.Proofs.Ytgoebfelalapaaa.Math
set_option linter.unusedVariables false
set_option linter.unusedSimpArgs false

theorem FnExactEncodeJob (a b : Int) (A B : List Int) (c : Int) (_ : (Lit.int .i64 a).wf = true) (_ : (Lit.int .i64 b).wf = true) (hA : A.length ≤ maxLen) (_ : ∀ y ∈ A, (Lit.int .i64 y).wf = true) (hB : B.length ≤ maxLen) (_ : ∀ y ∈ B, (Lit.int .i64 y).wf = true) (_ : (Lit.int .i64 c).wf = true) : ∃ k, laws_FnExactEncodeJob.f k a b A B c = some true := by
  have hsz := szJob_eq a b c A B 1048576 (by omega) (by omega) hA hB
  by_cases h : (1048576 : Int) < A.length + B.length
  · rw [if_pos h] at hsz
    exact ⟨0, by simp only [laws_FnExactEncodeJob.f, hsz, Option.bind_some]; rfl⟩
  · rw [if_neg h] at hsz
    have hlen := jobEncV_len a b A B c
    obtain ⟨n, h1, h2, h3, h4, h5, h6, h7, h8⟩ := evs8 (toJob_ev a b c A B (by omega) (by omega)) (sEncJob_ev a b A B c (by omega) (by omega)) (iEncJob_ev a b A B c (by omega) (by omega)) (eqJob_ev a b c A B (by omega) (by omega)) (eqByteS_ev (jobEncV a b A B c) (by omega)) (markJob_ev a b c A B 1 (by omega) (by omega)) (markByteS_ev (jobEncV a b A B c) 1 (by omega) (by omega)) (heldByteS_ev (jobEncV a b A B c).length 1 (by omega) (by omega))
    have e0 : ¬ (1048576 - ((A.length : Int) + B.length) < 0) := by omega
    have e0' : ¬ (1048576 - (A.length : Int) - B.length < 0) := by omega
    have e1 : ¬ (1 + ((jobEncV a b A B c).length : Int) < 0) := by omega
    have e2 : ¬ (1 + (A.length : Int) + B.length < 0) := by omega
    refine ⟨n + 5, ?_⟩
    simp only [laws_FnExactEncodeJob.f, laws_FnExactEncodeJob.j0, hsz, e0, e0', e1, e2, h1, h2, h3, h4, h5, h6, h7, h8, Option.bind_some, if_true, if_false, Bool.not_true, Bool.false_eq_true]

end Go.Proofs.Ytgoebfelalapaaa.Pure

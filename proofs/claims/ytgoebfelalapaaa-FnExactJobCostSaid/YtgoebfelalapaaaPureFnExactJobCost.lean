/- The pure statement of FnExactJobCost, with no condition beyond the law's own. -/
import Derived.Test.YtgoebfelalapaaaQFnExactJobCost
namespace Go.Proofs.Ytgoebfelalapaaa.Pure
open Go.RowKit Go.Proofs.Ytgoebfelalapaaa.QFnExactJobCost Go.Proofs.Ytgoebfelalapaaa.PFnExactJobCost Go.Proofs.YtgoebfelalapaaaW.PrintWords Go.Proofs.YtgoebfelalapaaaW.PrintLast Go.Proofs.Ytgoebfelalapaaa.Math
set_option linter.unusedVariables false
set_option linter.unusedSimpArgs false

theorem FnExactJobCost (a b : Int) (A B : List Int) (c : Int) (_ : (Lit.int .i64 a).wf = true) (_ : (Lit.int .i64 b).wf = true) (hA : A.length ≤ maxLen) (_ : ∀ y ∈ A, (Lit.int .i64 y).wf = true) (hB : B.length ≤ maxLen) (_ : ∀ y ∈ B, (Lit.int .i64 y).wf = true) (_ : (Lit.int .i64 c).wf = true) : ∃ k, laws_FnExactJobCost.f k a b A B c = some true := by
  have hsz := szJob_eq a b c A B 1048576 (by omega) (by omega) hA hB
  by_cases h : (1048576 : Int) < A.length + B.length
  · rw [if_pos h] at hsz
    exact ⟨0, by simp only [laws_FnExactJobCost.f, hsz, Option.bind_some]; rfl⟩
  · rw [if_neg h] at hsz
    obtain ⟨n, h1, h2, h3, h4⟩ := evs4 (toJob_ev a b c A B (by omega) (by omega)) (sJobCost_ev a b A B c (by omega) (by omega)) (iJobCost_ev a b A B c (by omega) (by omega)) (eqJob_ev a b c A B (by omega) (by omega))
    refine ⟨n + 1, ?_⟩
    simp only [laws_FnExactJobCost.f, hsz, h1, h2, h3, h4, Option.bind_some, if_true]
    rw [if_neg (by omega)]

end Go.Proofs.Ytgoebfelalapaaa.Pure

/- The pure statement of FnExactJobOk, with no condition beyond the law's own. -/
import Derived.Test.YtjgggiophbnghabQFnExactJobOk
namespace Go.Proofs.Ytjgggiophbnghab.Pure
open Go.RowKit Go.Proofs.Ytjgggiophbnghab.QFnExactJobOk Go.Proofs.Ytjgggiophbnghab.PFnExactJobOk Go.Proofs.YtjgggiophbnghabW.PrintWords Go.Proofs.YtjgggiophbnghabW.PrintLast Go.Proofs.Ytjgggiophbnghab.Math
set_option linter.unusedVariables false
set_option linter.unusedSimpArgs false

theorem FnExactJobOk (a b : Int) (A B : List Int) (c : Int) (_ : (Lit.int .i64 a).wf = true) (_ : (Lit.int .i64 b).wf = true) (hA : A.length ≤ maxLen) (_ : ∀ y ∈ A, (Lit.int .i64 y).wf = true) (hB : B.length ≤ maxLen) (_ : ∀ y ∈ B, (Lit.int .i64 y).wf = true) (_ : (Lit.int .i64 c).wf = true) : ∃ k, laws_FnExactJobOk.f k a b A B c = some true := by
  have hsz := szJob_eq a b c A B 1048576 (by omega) (by omega) hA hB
  by_cases h : (1048576 : Int) < A.length + B.length
  · rw [if_pos h] at hsz
    exact ⟨0, by simp only [laws_FnExactJobOk.f, hsz, Option.bind_some]; rfl⟩
  · rw [if_neg h] at hsz
    obtain ⟨n, h1, h2, h3, h4⟩ := evs4 (toJob_ev a b c A B (by omega) (by omega)) (sJob_ev a b A B c (by omega) (by omega)) (iJob_ev a b A B c (by omega) (by omega)) (eqJob_ev a b c A B (by omega) (by omega))
    refine ⟨n + 1, ?_⟩
    simp only [laws_FnExactJobOk.f, impl_JobOk.f, hsz, h1, h2, h3, h4, Option.bind_some, bne_self_eq_false, Bool.false_eq_true, if_false, if_true]
    rw [if_neg (by omega)]

end Go.Proofs.Ytjgggiophbnghab.Pure

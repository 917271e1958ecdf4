/- The pure statement of FnExactMerge, with no condition beyond the law's own. -/
import Derived.Test.YtpomhmcehbefaaaQFnExactMerge
namespace Go.Proofs.Ytpomhmcehbefaaa.Pure
open Go.RowKit Go.Proofs.Ytpomhmcehbefaaa.QFnExactMerge Go.Proofs.Ytpomhmcehbefaaa.PFnExactMerge Go.Proofs.YtpomhmcehbefaaaW.PrintWords Go.Proofs.YtpomhmcehbefaaaW.PrintLast Go.Proofs.Ytpomhmcehbefaaa.Math
set_option linter.unusedVariables false
set_option linter.unusedSimpArgs false

theorem FnExactMerge (a0 a1 a2 a3 b0 b1 b2 b3 : Int) (_ : (Lit.int .i64 a0).wf = true) (_ : (Lit.int .i64 a1).wf = true) (_ : (Lit.int .i64 a2).wf = true) (_ : (Lit.int .i64 a3).wf = true) (_ : (Lit.int .i64 b0).wf = true) (_ : (Lit.int .i64 b1).wf = true) (_ : (Lit.int .i64 b2).wf = true) (_ : (Lit.int .i64 b3).wf = true) : ∃ k, laws_FnExactMerge.f k a0 a1 a2 a3 b0 b1 b2 b3 = some true := by
  refine ⟨3, ?_⟩
  have h2 := sMerge a0 a1 a2 a3 b0 b1 b2 b3 0
  simp only [laws_FnExactMerge.f, laws_toBucket.f, Option.bind_some, Nat.zero_add] at h2 ⊢
  simp only [h2, iMerge, Option.bind_some, eqBucket_self, if_true, bne_self_eq_false, Bool.false_eq_true, if_false]

end Go.Proofs.Ytpomhmcehbefaaa.Pure

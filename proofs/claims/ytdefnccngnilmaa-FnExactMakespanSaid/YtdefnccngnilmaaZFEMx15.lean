/- The pure statement of FnExactMakespan, with no condition beyond the law's own. -/
import Derived.Test.YtdefnccngnilmaaZFEMx14
namespace Go.Proofs.Ytdefnccngnilmaa.Pure
open Go.RowKit Go.Proofs.Ytdefnccngnilmaa.QFnExactMakespan Go.Proofs.Ytdefnccngnilmaa.PFnExactMakespan Go.Proofs.YtdefnccngnilmaaW.PrintWords Go.Proofs.YtdefnccngnilmaaW.PrintLast Go.Proofs.Ytdefnccngnilmaa.Math
set_option linter.unusedVariables false
set_option linter.unusedSimpArgs false

theorem FnExactMakespan (f K : Int) (l : List S115) (a : Int) (_ : (Lit.int .i64 f).wf = true) (_ : (Lit.int .i64 K).wf = true) (hl : l.length ≤ maxLen) (_ : ∀ y ∈ l, (Lit.int .i64 y.f0).wf = true ∧ (Lit.int .i64 y.f1).wf = true ∧ (Lit.int .i64 y.f2).wf = true) (_ : (Lit.int .i64 a).wf = true) : ∃ k, laws_FnExactMakespan.f k f K l a = some true := by
 have hsz := szPlan_eq f K l 1048576 (by omega) (by omega) hl
 by_cases h : (1048576 : Int) < l.length
 · rw [if_pos h] at hsz
   exact ⟨0, by simp only [laws_FnExactMakespan.f, hsz, Option.bind_some]; rfl⟩
 · rw [if_neg h] at hsz
   have hm : (l.map toStep_c).length ≤ 1048576 := by rw [List.length_map]; omega
   obtain ⟨n, h1, h2, h3, h4⟩ := evs4 (toPlan_ev f K l (by omega)) (sMakespan_ev f K (l.map toStep_c) a hm) (iMakespan_ev f K (l.map toStep_c) a hm) (eqPlan_ev f K (l.map toStep_c) hm)
   have e1 : ¬ (1048576 - (l.length : Int) < 0) := by omega
   refine ⟨n + 5, ?_⟩
   simp only [laws_FnExactMakespan.f, hsz, e1, h1, h2, h3, h4, Option.bind_some, if_true, if_false, bne_self_eq_false, Bool.false_eq_true]

end Go.Proofs.Ytdefnccngnilmaa.Pure

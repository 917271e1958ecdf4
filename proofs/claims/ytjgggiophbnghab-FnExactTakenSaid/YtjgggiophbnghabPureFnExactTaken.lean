/- The pure statement of FnExactTaken, with no condition beyond the law's own. -/
import Derived.Test.YtjgggiophbnghabQFnExactTaken
namespace Go.Proofs.Ytjgggiophbnghab.Pure
open Go.RowKit Go.Proofs.Ytjgggiophbnghab.QFnExactTaken Go.Proofs.Ytjgggiophbnghab.PFnExactTaken Go.Proofs.YtjgggiophbnghabW.PrintWords Go.Proofs.YtjgggiophbnghabW.PrintLast Go.Proofs.Ytjgggiophbnghab.Math
set_option linter.unusedVariables false
set_option linter.unusedSimpArgs false

theorem FnExactTaken (a b c d : Int) (l : List S89) (_ : (Lit.int .i64 a).wf = true) (_ : (Lit.int .i64 b).wf = true) (_ : (Lit.int .i64 c).wf = true) (_ : (Lit.int .i64 d).wf = true) (hl : l.length ≤ maxLen) (_ : ∀ y ∈ l, (Lit.int .i64 y.f0).wf = true ∧ (Lit.int .i64 y.f1).wf = true) : ∃ k, laws_FnExactTaken.f k a b c d l = some true := by
  have hsz := szAskS_eq l 1048576 (by omega) (by omega) hl
  by_cases h : (1048576 : Int) < l.length
  · rw [if_pos h] at hsz
    exact ⟨0, by simp only [laws_FnExactTaken.f, hsz, Option.bind_some]; rfl⟩
  · rw [if_neg h] at hsz
    obtain ⟨n, h1, h2, h3, h4⟩ := evs4 (toAskS_ev l (by omega)) (sTaken_ev a b c d (l.map toAsk_c) (by simp; omega)) (iTaken_ev a b c d (l.map toAsk_c)) (eqAskS_ev (l.map toAsk_c) (by simp; omega))
    refine ⟨n + 1, ?_⟩
    simp only [laws_FnExactTaken.f, laws_toBucket.f, hsz, h1, h2, h3, h4, Option.bind_some, if_true]
    rw [if_neg (by omega)]

end Go.Proofs.Ytjgggiophbnghab.Pure

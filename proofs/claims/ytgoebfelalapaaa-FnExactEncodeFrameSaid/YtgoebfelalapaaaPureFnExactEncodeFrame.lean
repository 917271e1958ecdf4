/- The pure statement of FnExactEncodeFrame, with no condition beyond the law's own. -/
import Derived.Test.YtgoebfelalapaaaQFnExactEncodeFrame
namespace Go.Proofs.Ytgoebfelalapaaa.Pure
open Go.RowKit Go.Proofs.Ytgoebfelalapaaa.QFnExactEncodeFrame Go.Proofs.Ytgoebfelalapaaa.PFnExactEncodeFrame Go.Proofs.YtgoebfelalapaaaW.PrintWords Go.Proofs.YtgoebfelalapaaaW.PrintLast Go.Proofs.Ytgoebfelalapaaa.Math
set_option linter.unusedVariables false
set_option linter.unusedSimpArgs false

theorem FnExactEncodeFrame (a b : Int) (l : List Int) (_ : (Lit.int .i64 a).wf = true) (_ : (Lit.int .i64 b).wf = true) (hl : l.length ≤ maxLen) (hw : ∀ y ∈ l, (Lit.int .u8 y).wf = true) : ∃ k, laws_FnExactEncodeFrame.f k a b l = some true := by
  have hsz := szFrame_eq a b l 1048576 (by omega) (by omega) hl
  by_cases h : (1048576 : Int) < l.length
  · rw [if_pos h] at hsz
    exact ⟨0, by simp only [laws_FnExactEncodeFrame.f, hsz, Option.bind_some]; rfl⟩
  · rw [if_neg h] at hsz
    have hb := isB_of hw
    have hlen := encB_len a b l
    obtain ⟨n, h1, h2, h3, h4, h5, h6, h7, h8⟩ := evs8 (toFrame_ev a b l (by omega)) (sEncF_ev a b l hb) (iEncF_ev a b l hb) (eqByteS_ev (encB a b l) (by omega)) (eqFrame_ev a b l (by omega)) (markFrame_ev a b l 1 (by omega) (by omega)) (markByteS_ev (encB a b l) 1 (by omega) (by omega)) (heldByteS_ev (encB a b l).length 1 (by omega) (by omega))
    have e0 : ¬ (1048576 - (l.length : Int) < 0) := by omega
    have e1 : ¬ (1 + ((encB a b l).length : Int) < 0) := by omega
    have e2 : ¬ (1 + (l.length : Int) < 0) := by omega
    refine ⟨n + 5, ?_⟩
    simp only [laws_FnExactEncodeFrame.f, laws_FnExactEncodeFrame.j0, hsz, e0, e1, e2, h1, h2, h3, h4, h5, h6, h7, h8, Option.bind_some, if_true, if_false, Bool.not_true, Bool.false_eq_true]

end Go.Proofs.Ytgoebfelalapaaa.Pure

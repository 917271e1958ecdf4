/- The pure statement of FnExactPlayBucket, with no condition beyond the law's own. -/
import Derived.Test.YtjgggiophbnghacQFnExactPlayBucket
namespace Go.Proofs.Ytjgggiophbnghac.Pure
open Go.RowKit Go.Proofs.Ytjgggiophbnghac.QFnExactPlayBucket Go.Proofs.Ytjgggiophbnghac.PFnExactPlayBucket Go.Proofs.YtjgggiophbnghacW.PrintWords Go.Proofs.YtjgggiophbnghacW.PrintLast Go.Proofs.Ytjgggiophbnghac.Math
set_option linter.unusedVariables false
set_option linter.unusedSimpArgs false

theorem FnExactPlayBucket (a b c d : Int) (l : List S96) (_ : (Lit.int .i64 a).wf = true) (_ : (Lit.int .i64 b).wf = true) (_ : (Lit.int .i64 c).wf = true) (_ : (Lit.int .i64 d).wf = true) (hl : l.length ≤ maxLen) (_ : ∀ y ∈ l, (Lit.int .i64 y.f0).wf = true ∧ (Lit.int .i64 y.f1).wf = true) : ∃ k, laws_FnExactPlayBucket.f k a b c d l = some true := by
  have hsz := szAskS_eq l 1048576 (by omega) (by omega) hl
  by_cases h : (1048576 : Int) < l.length
  · rw [if_pos h] at hsz
    exact ⟨0, by simp only [laws_FnExactPlayBucket.f, hsz, Option.bind_some]; rfl⟩
  · rw [if_neg h] at hsz
    have hlen : (playP a b c d (l.map toAsk_c)).2.2.2.2.length ≤ 1048576 := by
      unfold playP
      split
      · rw [play_len]; simp; omega
      · simp
    obtain ⟨n, h1, h2, h3, h4, h5, h6, h7, h8⟩ := evs8 (toAskS_ev l (by omega)) (sPlay_ev a b c d (l.map toAsk_c) (by simp; omega)) (iPlay_ev a b c d (l.map toAsk_c) (by simp; omega)) (eqAskS_ev (l.map toAsk_c) (by simp; omega)) (eqIntS_ev (playP a b c d (l.map toAsk_c)).2.2.2.2 (by omega)) (markAskS_ev (l.map toAsk_c) 1 (by omega) (by simp; omega)) (markIntS_ev (playP a b c d (l.map toAsk_c)).2.2.2.2 1 (by omega) (by omega)) (heldIntS_ev (playP a b c d (l.map toAsk_c)).2.2.2.2.length 1 (by omega) (by omega))
    refine ⟨n + 9, ?_⟩
    have e1 : ¬ (1048576 - (l.length : Int) < 0) := by omega
    have e2 : ¬ (1 + 2 * ((l.map toAsk_c).length : Int) < 0) := by simp; omega
    have e3 : ¬ (1 + ((playP a b c d (l.map toAsk_c)).2.2.2.2.length : Int) < 0) := by omega
    simp only [laws_FnExactPlayBucket.f, laws_FnExactPlayBucket.j0, laws_FnExactPlayBucket.j1, laws_FnExactPlayBucket.j2, laws_toBucket.f, eqBucket_self, hsz, h1, h2, h3, h4, h5, h6, h7, h8, e1, e2, e3, Option.bind_some, if_true, if_false, Bool.not_true, Bool.false_eq_true]

end Go.Proofs.Ytjgggiophbnghac.Pure

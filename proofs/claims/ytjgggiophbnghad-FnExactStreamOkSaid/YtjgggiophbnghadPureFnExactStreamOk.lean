/- The pure statement of FnExactStreamOk, with no condition beyond the law's own. -/
import Derived.Test.YtjgggiophbnghadQFnExactStreamOk
namespace Go.Proofs.Ytjgggiophbnghad.Pure
open Go.RowKit Go.Proofs.Ytjgggiophbnghad.QFnExactStreamOk Go.Proofs.Ytjgggiophbnghad.PFnExactStreamOk Go.Proofs.YtjgggiophbnghadW.PrintWords Go.Proofs.YtjgggiophbnghadW.PrintLast Go.Proofs.Ytjgggiophbnghad.Math
set_option linter.unusedVariables false
set_option linter.unusedSimpArgs false

theorem FnExactStreamOk (l : List Int) (a : Int) (hl : l.length ≤ maxLen) (hw : ∀ y ∈ l, (Lit.int .u8 y).wf = true) (_ : (Lit.int .i64 a).wf = true) : ∃ k, laws_FnExactStreamOk.f k l a = some true := by
  have hb := isB_of hw
  have hsz := szStream_eq l a 1048576 (by omega) (by omega) hl
  by_cases h : (1048576 : Int) < l.length
  · rw [if_pos h] at hsz
    exact ⟨0, by simp only [laws_FnExactStreamOk.f, hsz, Option.bind_some]; rfl⟩
  · rw [if_neg h] at hsz
    obtain ⟨n, h1, h2, h3, h4⟩ := evs4 (toStream_ev l a (by omega)) (sStream_ev l a (by omega) hb) (iStream_ev l a (by omega) hb) (eqStream_ev l a (by omega))
    refine ⟨n, ?_⟩
    have h1 := h1 0
    have h2 := h2 0
    have h3 := h3 0
    have h4 := h4 0
    simp only [Nat.add_zero] at h1 h2 h3 h4
    simp only [laws_FnExactStreamOk.f, impl_StreamOk.f, hsz, h1, h2, h3, h4, Option.bind_some, bne_self_eq_false, Bool.false_eq_true, if_false, if_true]
    rw [if_neg (by omega)]

end Go.Proofs.Ytjgggiophbnghad.Pure

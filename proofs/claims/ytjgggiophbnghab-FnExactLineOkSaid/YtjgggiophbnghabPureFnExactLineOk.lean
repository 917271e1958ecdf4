/- The pure statement of FnExactLineOk, with no condition beyond the law's own. -/
import Derived.Test.YtjgggiophbnghabQFnExactLineOk
namespace Go.Proofs.Ytjgggiophbnghab.Pure
open Go.RowKit Go.Proofs.Ytjgggiophbnghab.QFnExactLineOk Go.Proofs.Ytjgggiophbnghab.PFnExactLineOk Go.Proofs.YtjgggiophbnghabW.PrintWords Go.Proofs.YtjgggiophbnghabW.PrintLast Go.Proofs.Ytjgggiophbnghab.Math
set_option linter.unusedVariables false
set_option linter.unusedSimpArgs false

theorem FnExactLineOk (l : List S104) (hl : l.length ≤ maxLen) (_ : ∀ y ∈ l, (Lit.int .i64 y.f0).wf = true ∧ (Lit.int .i64 y.f1).wf = true) : ∃ k, laws_FnExactLineOk.f k l = some true := by
  have hsz := szTicketS_eq l 1048576 (by omega) (by omega) hl
  by_cases h : (1048576 : Int) < l.length
  · rw [if_pos h] at hsz
    exact ⟨0, by simp only [laws_FnExactLineOk.f, laws_szLine.f, hsz, Option.bind_some]; rfl⟩
  · rw [if_neg h] at hsz
    obtain ⟨K1, h1⟩ := toTicketS_ev l (by omega)
    obtain ⟨K2, h2⟩ := sLine_ev (l.map toTicket_c) (by simp; omega)
    obtain ⟨K3, h3⟩ := iLine_ev (l.map toTicket_c) (by simp; omega)
    obtain ⟨K4, h4⟩ := eqTicketS_ev (l.map toTicket_c) (by simp; omega)
    refine ⟨K1 + K2 + K3 + K4, ?_⟩
    have h1 := h1 (K1 + K2 + K3 + K4) (by omega)
    have h2 := h2 (K1 + K2 + K3 + K4) (by omega)
    have h3 := h3 (K1 + K2 + K3 + K4) (by omega)
    have h4 := h4 (K1 + K2 + K3 + K4) (by omega)
    simp only [laws_FnExactLineOk.f, laws_szLine.f, laws_toLine.f, laws_eqLine.f, impl_LineOk.f, hsz, h1, h2, h3, h4, Option.bind_some, bne_self_eq_false, Bool.false_eq_true, if_false, if_true]
    rw [if_neg (by omega)]
    simp only [Option.bind_some]
    rw [if_neg (by omega)]

end Go.Proofs.Ytjgggiophbnghab.Pure

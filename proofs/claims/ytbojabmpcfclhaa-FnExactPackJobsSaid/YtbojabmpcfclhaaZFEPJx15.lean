/- The pure statement of FnExactPackJobs, with no condition beyond the law's own. -/
import Derived.Test.YtbojabmpcfclhaaZFEPJx14
namespace Go.Proofs.Ytbojabmpcfclhaa.Pure
open Go.RowKit Go.Proofs.Ytbojabmpcfclhaa.QFnExactPackJobs Go.Proofs.Ytbojabmpcfclhaa.PFnExactPackJobs Go.Proofs.YtbojabmpcfclhaaW.PrintWords Go.Proofs.YtbojabmpcfclhaaW.PrintLast Go.Proofs.Ytbojabmpcfclhaa.Math
set_option linter.unusedVariables false
set_option linter.unusedSimpArgs false

theorem FnExactPackJobs (a b : Int) (l : List S102) (ha : (Lit.int .i64 a).wf = true) (hb : (Lit.int .i64 b).wf = true) (hl : l.length ≤ maxLen) (hw : ∀ y ∈ l, (Lit.int .i64 y.f0).wf = true ∧ (Lit.int .i64 y.f1).wf = true ∧ (y.f2.length ≤ maxLen ∧ ∀ z ∈ y.f2, (Lit.int .i64 z).wf = true) ∧ (y.f3.length ≤ maxLen ∧ ∀ z ∈ y.f3, (Lit.int .i64 z).wf = true) ∧ (Lit.int .i64 y.f4).wf = true) : ∃ k, laws_FnExactPackJobs.f k a b l = some true := by
 have hbr := wf_i64 hb
 obtain ⟨z, hsz, hz⟩ := szJobS_ev l hl (fun c hc => ⟨(hw c hc).2.2.1.1, (hw c hc).2.2.2.1.1⟩)
 by_cases h : z < 0
 · obtain ⟨n, e1⟩ := evs1 hsz
   exact ⟨n + 0, by simp only [laws_FnExactPackJobs.f, e1 0, Option.bind_some, h, if_true]⟩
 · obtain ⟨hl1, hl2⟩ := hz (by omega)
   have hc : ∀ c ∈ l, c.f2.length ≤ 1048576 ∧ c.f3.length ≤ 1048576 := fun c hc => by have := totW_mem l c hc; omega
   have hj : ∀ r ∈ l.map cvJ, r.f2.length ≤ 1048576 ∧ r.f3.length ≤ 1048576 := by
    intro r hr
    obtain ⟨c, hc1, rfl⟩ := List.mem_map.1 hr
    exact hc c hc1
   have hlm : (l.map cvJ).length ≤ 1048576 := by rw [List.length_map]; exact hl1
   have hV := packV_len a b (l.map cvJ)
   have hT := totJ_cv l
   obtain ⟨X, hX⟩ := markJobS_ev (l.map cvJ) 1 (by omega) (by omega) hlm
   have e1 : ¬ (1 + (totJ (l.map cvJ) : Int) < 0) := by omega
   have e2 : ¬ (1 + ((packV a b (l.map cvJ)).1.length : Int) < 0) := by omega
   obtain ⟨n1, g1, g2, g3, g4⟩ := evs4 hX (markByteS_ev (packV a b (l.map cvJ)).1 1 (by omega) (by omega)) (heldByteS_ev (packV a b (l.map cvJ)).1.length 1 (by omega) (by omega)) hsz
   obtain ⟨n2, h1, h2, h3, h4, h5⟩ := evs5 (toJobS_ev l hl1 hc) (sPack_ev a b (l.map cvJ) hj) (iPack_ev a b (by omega) (l.map cvJ) hj) (eqByteS_ev (packV a b (l.map cvJ)).1 (by omega)) (eqJobS_ev (l.map cvJ) hlm hj)
   have g1' := fun j => by have := g1 (n2 + j); rwa [show n1 + (n2 + j) = n1 + n2 + j by omega] at this
   have g2' := fun j => by have := g2 (n2 + j); rwa [show n1 + (n2 + j) = n1 + n2 + j by omega] at this
   have g3' := fun j => by have := g3 (n2 + j); rwa [show n1 + (n2 + j) = n1 + n2 + j by omega] at this
   have g4' := fun j => by have := g4 (n2 + j); rwa [show n1 + (n2 + j) = n1 + n2 + j by omega] at this
   have h1' := fun j => by have := h1 (n1 + j); rwa [show n2 + (n1 + j) = n1 + n2 + j by omega] at this
   have h2' := fun j => by have := h2 (n1 + j); rwa [show n2 + (n1 + j) = n1 + n2 + j by omega] at this
   have h3' := fun j => by have := h3 (n1 + j); rwa [show n2 + (n1 + j) = n1 + n2 + j by omega] at this
   have h4' := fun j => by have := h4 (n1 + j); rwa [show n2 + (n1 + j) = n1 + n2 + j by omega] at this
   have h5' := fun j => by have := h5 (n1 + j); rwa [show n2 + (n1 + j) = n1 + n2 + j by omega] at this
   refine ⟨n1 + n2 + 5, ?_⟩
   simp only [laws_FnExactPackJobs.f, laws_FnExactPackJobs.j0, laws_FnExactPackJobs.j1, laws_FnExactPackJobs.j2, h, e1, e2, h1', h2', h3', h4', h5', g1', g2', g3', g4', Option.bind_some, if_true, if_false, bne_self_eq_false, Bool.false_eq_true]

end Go.Proofs.Ytbojabmpcfclhaa.Pure

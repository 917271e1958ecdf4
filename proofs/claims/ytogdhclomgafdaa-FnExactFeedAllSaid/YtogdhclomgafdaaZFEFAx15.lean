/- The pure statement of FnExactFeedAll, with no condition beyond the law's own. -/
import Derived.Test.YtogdhclomgafdaaZFEFAx14
namespace Go.Proofs.Ytogdhclomgafdaa.Pure
open Go.RowKit Go.Proofs.Ytogdhclomgafdaa.QFnExactFeedAll Go.Proofs.Ytogdhclomgafdaa.PFnExactFeedAll Go.Proofs.YtogdhclomgafdaaW.PrintWords Go.Proofs.YtogdhclomgafdaaW.PrintLast Go.Proofs.Ytogdhclomgafdaa.Math
set_option linter.unusedVariables false
set_option linter.unusedSimpArgs false

theorem faV_vals (cs : List (List Int)) (hB : ∀ c ∈ cs, isB c) : totF (faV cs).2.2 + (faV cs).1.length ≤ 20000 := by
 unfold faV
 split
 · rename_i h
   have := faG_vals (cs.flatten.length + 1) cs.flatten [] 0 (isB_flat hB)
   have := totC_flatten cs
   simp only [totF] at *
   omega
 · simp [totF]
theorem totL_C (cs : List (List Int)) : totL cs = totC cs := by
 unfold totC
 induction cs with
 | nil => rfl
 | cons c cs ih => rw [totL, ih]; simp
theorem FnExactFeedAll (l : List (List Int)) (hl : l.length ≤ maxLen) (hw : ∀ y ∈ l, y.length ≤ maxLen ∧ ∀ z ∈ y, (Lit.int .u8 z).wf = true) : ∃ k, laws_FnExactFeedAll.f k l = some true := by
 have hB : ∀ c ∈ l, isB c := fun c hc => isB_of (hw c hc).2
 obtain ⟨r, er, hr⟩ := szByteSS_ev l hl (fun c hc => (hw c hc).1)
 refine Ev.rounds ?_
 simp only [laws_FnExactFeedAll.f]
 refine Ev.bind er ?_
 by_cases h : r < 0
 · simp only [if_pos h]
   exact Ev.now _
 · simp only [if_neg h]
   obtain ⟨h1, h2⟩ := hr (by omega)
   have hc : ∀ c ∈ l, c.length ≤ 1048576 := fun c hc => by
    obtain ⟨i, hi, rfl⟩ := List.getElem_of_mem hc
    have a1 := totC_take l i hi
    have a2 := totC_le l (i + 1)
    omega
   have hv := faV_vals l hB
   have hS := sFA_ev l hB hc h1
   have hI := iFA_ev l hB hc h1
   have hto := toByteSS_ev l h1 hc
   have hL := totL_C l
   have hmk := markByteSS_ev l 1 (by omega) (by omega) h1
   have heq := eqByteSS_ev l h1 hc
   generalize faV l = R at hv hS hI
   obtain ⟨B, L, F⟩ := R
   simp only at hv
   have hF := faF_len F
   have e1 := eqStream_ev B L (by omega)
   have e2 := eqFrameS_ev F (by omega) (fun r hr => by have := faF_mem hr; omega)
   have m1 := markByteS_ev B 1 (by omega) (by omega)
   have m2 := markFrameS_ev F (1 + B.length) (by omega) (by omega) (by omega)
   have m3 := heldByteS_ev B.length 1 (by omega) (by omega)
   have m4 := heldFrameS_ev F (1 + B.length) (by omega) (by omega) (by omega)
   have n2 : ¬ (1 + (B.length : Int) < 0) := by omega
   have n3 : ¬ (1 + (totL l : Int) < 0) := by omega
   have n4 : ¬ (1 + (B.length : Int) + (totF F : Int) < 0) := by omega
   have hms : Ev (fun k => laws_markStream.f k B L 1) (1 + (B.length : Int), marksB B.length 1) := by
    simp only [laws_markStream.f]
    exact Ev.bind m1 (Ev.now _)
   have hhs : Ev (fun k => laws_heldStream.f k (marksB B.length 1) L 1) (1 + (B.length : Int)) := by
    simp only [laws_heldStream.f]
    refine Ev.bind m3 ?_
    simp only [if_neg n2]
    exact Ev.now _
   refine Ev.bind hto (Ev.bind hS (Ev.bind hto (Ev.bind hI (Ev.bind e1 ?_))))
   simp only [if_true]
   refine Ev.bind e2 ?_
   refine Ev.step (fun k => by rw [laws_FnExactFeedAll.j0]) ?_
   simp only [Bool.not_true, Bool.false_eq_true, if_false]
   refine Ev.bind hto (Ev.bind heq ?_)
   simp only [if_true]
   refine Ev.bind hmk ?_
   simp only [if_neg n3]
   refine Ev.bind e1 ?_
   simp only [if_true]
   refine Ev.bind e2 ?_
   refine Ev.step (fun k => by rw [laws_FnExactFeedAll.j1]) ?_
   simp only [Bool.not_true, Bool.false_eq_true, if_false]
   refine Ev.bind hms (Ev.bind m2 (Ev.bind hhs ?_))
   simp only [if_neg n2]
   refine Ev.bind m4 ?_
   simp only [if_neg n4, if_true]
   refine Ev.bind hto (Ev.bind hI (Ev.bind e1 ?_))
   simp only [if_true]
   refine Ev.bind e2 ?_
   refine Ev.step (fun k => by rw [laws_FnExactFeedAll.j2]) ?_
   simp only [Bool.not_true, Bool.false_eq_true, if_false]
   refine Ev.bind hhs ?_
   simp only [if_neg n2]
   refine Ev.bind m4 ?_
   simp only [if_neg n4, if_true]
   exact Ev.now _

end Go.Proofs.Ytogdhclomgafdaa.Pure

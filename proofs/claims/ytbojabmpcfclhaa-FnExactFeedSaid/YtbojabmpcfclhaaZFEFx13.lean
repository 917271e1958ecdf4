/- The pure statement of FnExactFeed, with no condition beyond the law's own. -/
import Derived.Test.YtbojabmpcfclhaaZFEFx12
namespace Go.Proofs.Ytbojabmpcfclhaa.Pure
open Go.RowKit Go.Proofs.Ytbojabmpcfclhaa.QFnExactFeed Go.Proofs.Ytbojabmpcfclhaa.PFnExactFeed Go.Proofs.YtbojabmpcfclhaaW.PrintWords Go.Proofs.YtbojabmpcfclhaaW.PrintLast Go.Proofs.Ytbojabmpcfclhaa.Math
set_option linter.unusedVariables false
set_option linter.unusedSimpArgs false

theorem totF_snoc (L : List S109) (r : S109) : totF (L ++ [r]) = totF L + (2 + r.f2.length) := by
  induction L with
  | nil => simp [totF]
  | cons a L ih => simp only [List.cons_append, totF, ih]; omega
theorem totF_mem {L : List S109} {r : S109} (h : r ∈ L) : r.f2.length ≤ totF L := by
  induction L with
  | nil => simp at h
  | cons a L ih =>
    simp only [totF]
    rcases List.mem_cons.1 h with rfl | h
    · omega
    · have := ih h; omega
theorem totF_len (L : List S109) : 2 * L.length ≤ totF L := by
  induction L with
  | nil => simp [totF]
  | cons a L ih => simp only [totF, List.length_cons]; omega
theorem fdG_vals : ∀ (d : Nat) (l : List Int) (out : List S109) (lost : Int), isB l → totF (fdG d l out lost).2.2 + (fdG d l out lost).1.length ≤ totF out + l.length := by
  intro d
  induction d with
  | zero => intro l out lost hb; exact Nat.le_refl _
  | succ d ih =>
    intro l out lost hb
    rcases decF_cases hb with h | ⟨h, h1⟩ | ⟨n, h, h1⟩
    · rw [fdG_more d out lost h]
      exact Nat.le_refl _
    · rw [fdG_bad d out lost h]
      have h2 := ih (l.drop 1) out (if lost < 2147483647 then lost + 1 else lost) (isB_drop hb 1)
      rw [List.length_drop] at h2
      omega
    · rw [fdG_done d out lost n h]
      have h2 := ih (l.drop (13 + n)) (out ++ [⟨(frDone l n).1, (frDone l n).2.1, (frDone l n).2.2.1⟩]) lost (isB_drop hb _)
      have hf : (frDone l n).2.2.1.length ≤ n := by unfold frDone; simp; omega
      rw [List.length_drop, totF_snoc] at h2
      simp only at h2
      omega
theorem feedV_vals (buf : List Int) (lost : Int) (chunk : List Int) (hb : isB buf) (hc : isB chunk) : totF (feedV buf lost chunk).2.2 + (feedV buf lost chunk).1.length ≤ buf.length + chunk.length := by
  unfold feedV
  split
  · have := fdG_vals ((buf ++ chunk).length + 1) (buf ++ chunk) [] lost (isB_append hb hc)
    simp only [totF, List.length_append] at this ⊢
    omega
  · simp [totF]
theorem FnExactFeed (l : List Int) (a : Int) (c : List Int) (hl : l.length ≤ maxLen) (hw : ∀ y ∈ l, (Lit.int .u8 y).wf = true) (_ : (Lit.int .i64 a).wf = true) (hlc : c.length ≤ maxLen) (hwc : ∀ y ∈ c, (Lit.int .u8 y).wf = true) : ∃ k, laws_FnExactFeed.f k l a c = some true := by
  have hb := isB_of hw
  have hbc := isB_of hwc
  by_cases hbig : (c.length : Int) > 1048576
  · exact ⟨0, by simp only [laws_FnExactFeed.f]; rw [if_pos hbig]⟩
  · have hsz := szStream_eq l a 1048576 (by omega) (by omega) hl
    by_cases h : (1048576 : Int) < l.length
    · rw [if_pos h] at hsz
      exact ⟨0, by simp only [laws_FnExactFeed.f, hsz, Option.bind_some]; rw [if_neg hbig]; rfl⟩
    · rw [if_neg h] at hsz
      have hv := feedV_vals l a c hb hbc
      have hS := sFeed_ev l a c hb hbc (by omega) (by omega)
      have hI := iFeed_ev l a c hb hbc (by omega) (by omega)
      generalize feedV l a c = R at hv hS hI
      obtain ⟨B, L, F⟩ := R
      simp only at hv
      have hF := totF_len F
      obtain ⟨n1, g1, g2, g3, g4⟩ := evs4 (markByteS_ev l 1 (by omega) (by omega)) (markByteS_ev c (1 + l.length) (by omega) (by omega)) (markByteS_ev B 1 (by omega) (by omega)) (heldByteS_ev B.length 1 (by omega) (by omega))
      obtain ⟨n2, f1, f2⟩ := evs2 (markFrameS_ev F (1 + B.length) (by omega) (by omega) (by omega)) (heldFrameS_ev F (1 + B.length) (by omega) (by omega) (by omega))
      obtain ⟨n, h1, h2, h3, h4, h5, h6, h7, h8⟩ := evs8 (toStream_ev l a (by omega)) (toByteS_ev c (by omega)) hS hI (eqStream_ev l a (by omega)) (eqStream_ev B L (by omega)) (eqByteS_ev c (by omega)) (eqFrameS_ev F (by omega) (fun r hr => by have := totF_mem hr; omega))
      have e1 : ¬ (1048576 - (l.length : Int) < 0) := by omega
      have e2 : ¬ (1 + (B.length : Int) < 0) := by omega
      have e3 : ¬ (1 + (l.length : Int) + (c.length : Int) < 0) := by omega
      have e4 : ¬ (1 + (B.length : Int) + (totF F : Int) < 0) := by omega
      have g1' := fun j => by have := g1 (n2 + n + j); rwa [show n1 + (n2 + n + j) = n1 + n2 + n + j by omega] at this
      have g2' := fun j => by have := g2 (n2 + n + j); rwa [show n1 + (n2 + n + j) = n1 + n2 + n + j by omega] at this
      have g3' := fun j => by have := g3 (n2 + n + j); rwa [show n1 + (n2 + n + j) = n1 + n2 + n + j by omega] at this
      have g4' := fun j => by have := g4 (n2 + n + j); rwa [show n1 + (n2 + n + j) = n1 + n2 + n + j by omega] at this
      have f1' := fun j => by have := f1 (n1 + n + j); rwa [show n2 + (n1 + n + j) = n1 + n2 + n + j by omega] at this
      have f2' := fun j => by have := f2 (n1 + n + j); rwa [show n2 + (n1 + n + j) = n1 + n2 + n + j by omega] at this
      have h1' := fun j => by have := h1 (n1 + n2 + j); rwa [show n + (n1 + n2 + j) = n1 + n2 + n + j by omega] at this
      have h2' := fun j => by have := h2 (n1 + n2 + j); rwa [show n + (n1 + n2 + j) = n1 + n2 + n + j by omega] at this
      have h3' := fun j => by have := h3 (n1 + n2 + j); rwa [show n + (n1 + n2 + j) = n1 + n2 + n + j by omega] at this
      have h4' := fun j => by have := h4 (n1 + n2 + j); rwa [show n + (n1 + n2 + j) = n1 + n2 + n + j by omega] at this
      have h5' := fun j => by have := h5 (n1 + n2 + j); rwa [show n + (n1 + n2 + j) = n1 + n2 + n + j by omega] at this
      have h6' := fun j => by have := h6 (n1 + n2 + j); rwa [show n + (n1 + n2 + j) = n1 + n2 + n + j by omega] at this
      have h7' := fun j => by have := h7 (n1 + n2 + j); rwa [show n + (n1 + n2 + j) = n1 + n2 + n + j by omega] at this
      have h8' := fun j => by have := h8 (n1 + n2 + j); rwa [show n + (n1 + n2 + j) = n1 + n2 + n + j by omega] at this
      refine ⟨n1 + n2 + n + 5, ?_⟩
      simp only [laws_FnExactFeed.f, laws_FnExactFeed.j0, laws_FnExactFeed.j1, laws_FnExactFeed.j2, laws_markStream.f, laws_heldStream.f, if_neg hbig, hsz, e1, e2, e3, e4, h1', h2', h3', h4', h5', h6', h7', h8', g1', g2', g3', g4', f1', f2', Option.bind_some, if_true, if_false, Bool.not_true, Bool.false_eq_true]

end Go.Proofs.Ytbojabmpcfclhaa.Pure

/- The pure statement of FnPlanTurned, with no condition beyond the law's own. -/
import Derived.Test.YtbojabmpcfclhaaZFPTx20
import Derived.Test.YtbojabmpcfclhaaZFPTx22
namespace Go.Proofs.Ytbojabmpcfclhaa.Pure
open Go.RowKit Go.Proofs.Ytbojabmpcfclhaa.QFnPlanTurned Go.Proofs.Ytbojabmpcfclhaa.PFnPlanTurned Go.Proofs.YtbojabmpcfclhaaW.PrintWords Go.Proofs.YtbojabmpcfclhaaW.PrintLast Go.Proofs.Ytbojabmpcfclhaa.Math
set_option linter.unusedVariables false
set_option linter.unusedSimpArgs false

theorem pt_j4 (code v : List Int) (hb : isB code) (hn : code.length ≤ 1048576) {f : Int} {K : Nat} {l : List S36} (hp : planV f (K : Int) l) (hvec : vecP f v) (h3 : v.length = 2 ^ K) (hv : v.length ≤ 1024) : Ev (fun k => laws_FnPlanTurned.j4 k code v (tab v.length (fwd f K v)) f (K : Int) l) true := by
 have hl6 := hp.2.1
 obtain ⟨c, hc, hc0, hc1⟩ := lawsAtB code hb (by omega) 1 (by omega)
 have hc : laws_at.f code 1 = some c := hc
 have hw : wrap64 (1 + (l.length : Int)) = 1 + l.length := w64 (by omega) (by omega)
 have hS := sSwapSteps_ev f (K : Int) l (Int.tmod c (1 + (l.length : Int))) (by omega)
 have hI := iSwapSteps_ev f (K : Int) l (Int.tmod c (1 + (l.length : Int))) (by omega)
 by_cases h : swapC f (K : Int) l (Int.tmod c (1 + (l.length : Int)))
 · have hq := planV_swap h
   have hlen := swapL_len l (Int.tmod c (1 + (l.length : Int))).toNat
   unfold swapR at hS hI
   rw [if_pos h] at hS hI
   generalize swapL l (Int.tmod c (1 + (l.length : Int))).toNat = X at hS hI hq hlen
   have hR := iRunPlanP_ev f (K : Int) X v (by omega) (by omega)
   rw [runPV_yes hq hvec (by rw [Int.toNat_natCast]; exact h3), Int.toNat_natCast] at hR
   obtain ⟨m, g1, g2, g3, g4, g5, g6⟩ := evs6 hS (cpPlan_ev f (K : Int) l (by omega)) hI (lawsCp_ev v (by omega)) hR (lawsSame_ev (tab v.length (fwd f K v)) (by rw [tab_len]; omega))
   refine ⟨m + 1, fun k hk => ?_⟩
   obtain ⟨j, rfl⟩ : ∃ j, k = m + j + 1 := ⟨k - m - 1, by omega⟩
   simp only [laws_FnPlanTurned.j4, hc, hw, g1 j, g2 j, g3 j, g4 j, g5 j, g6 j, Option.bind_some, if_true]
   rw [if_neg (by omega)]
 · unfold swapR at hS
   rw [if_neg h] at hS
   obtain ⟨m, g1⟩ := evs1 hS
   refine ⟨m + 1, fun k hk => ?_⟩
   obtain ⟨j, rfl⟩ : ∃ j, k = m + j + 1 := ⟨k - m - 1, by omega⟩
   simp only [laws_FnPlanTurned.j4, hc, hw, g1 j, Option.bind_some, Bool.false_eq_true, if_false]
   rw [if_neg (by omega)]
theorem pt_l0 (code v W : List Int) (M f K : Int) (l X : List S36) (x y : Int) (hX : X.length ≤ 600) (hs : ∀ s ∈ X, 0 ≤ s.f1 ∧ s.f1 < s.f2 ∧ s.f2 ≤ 1048576 ∧ s.f2 - s.f1 ≤ M) (h4 : Ev (fun k => laws_FnPlanTurned.j4 k code v W f K l) true) : ∀ (d i : Nat), X.length - i = d → i ≤ X.length → Ev (fun k => laws_FnPlanTurned.l0 k code v W M (i : Int) f K l x y X) true := by
 intro d
 induction d with
 | zero =>
  intro i hd hi
  refine Ev.step (fun k => ?_) h4
  simp only [laws_FnPlanTurned.l0]
  rw [if_neg (by omega)]
 | succ d ih =>
  intro i hd hi
  have hi2 : i < X.length := by omega
  obtain ⟨s0, s1, s2, s3⟩ := hs _ (List.getElem_mem hi2)
  refine Ev.step (fun k => ?_) (ih (i + 1) (by omega) (by omega))
  have hw : wrap64 ((X[i]).f2 - (X[i]).f1) = (X[i]).f2 - (X[i]).f1 := w64 (by omega) (by omega)
  have hc : impl_StepCost.f (X[i]).f0 (X[i]).f1 (X[i]).f2 = some ((X[i]).f2 - (X[i]).f1) := by
   simp only [impl_StepCost.f, hw]
   first | rw [if_neg (by omega), if_neg (by omega)] | rw [if_pos (by omega), if_pos (by omega)] | rw [if_neg (by omega), if_pos (by omega)] | rw [if_pos (by omega), if_neg (by omega)]
  simp only [laws_FnPlanTurned.l0, rdStep hi2, hc, Option.bind_some]
  rw [if_pos (by omega), if_pos (by omega), if_neg (by omega), wsucc (by omega)]
theorem FnPlanTurned : laws_FnPlanTurned.Pure := by
 intro code _ hl hwf
 by_cases hbig : (code.length : Int) > 1048576
 · exact ⟨0, by simp only [laws_FnPlanTurned.f, laws_big.f, decide_eq_true hbig, Option.bind_some, if_true]⟩
 have hb : laws_big.f code = some false := by simp only [laws_big.f, decide_eq_false hbig]
 have hB := isB_of hwf
 obtain ⟨f, K0, l, v, e0, hl6, hv⟩ := drawRunPlan code (by omega)
 have hS := sRunPlanP_ev f K0 l v (by omega) (by omega)
 by_cases h : planV f K0 l ∧ vecP f v ∧ v.length = 2 ^ K0.toNat
 · obtain ⟨hp, hvec, h3⟩ := h
   obtain ⟨K, rfl, hK⟩ := planV_nat2 hp
   have hrv := runPV_yes hp hvec h3
   rw [hrv] at hS
   rw [Int.toNat_natCast] at hS h3
   have hlog : logB (v.length : Int) = K := by rw [h3]; simpa using logB_pow hK
   have hF := sForward_ev hvec hK hlog h3 hp.1.2.2.2
   obtain ⟨c, hc, hc0, hc1⟩ := lawsAtB code hB (by omega) 0 (by omega)
   have hc : laws_at.f code 0 = some c := hc
   have hM0 : 0 ≤ Int.tmod c 9 ∧ Int.tmod c 9 < 9 := by rw [Int.tmod_eq_emod_of_nonneg hc0]; omega
   obtain ⟨M, hM⟩ : ∃ M : Int, wrap64 (1 + Int.tmod c 9) = M := ⟨_, rfl⟩
   have hMv : M = 1 + Int.tmod c 9 := by rw [← hM]; exact w64 (by omega) (by omega)
   have hM16 : wrap64 (16 + M) = 16 + M := w64 (by omega) (by omega)
   obtain ⟨q1, q2⟩ := planV_levels (most := 16 + M) hp.1 (by omega)
   have hMk := iPlan_ev f (K : Int) (16 + M)
   unfold planP at hMk
   rw [if_pos ⟨hp.1, by omega, q1⟩] at hMk
   generalize levels (K : Int) (16 + M) (K : Int).toNat 0 = X at hMk q1 q2
   have hOk := sIsPlan_ev f (K : Int) X (by omega)
   rw [decide_eq_true q2] at hOk
   have hR := iRunPlanP_ev f (K : Int) X v (by omega) (by omega)
   rw [runPV_yes q2 hvec (by rw [Int.toNat_natCast]; exact h3), Int.toNat_natCast] at hR
   have hsame := lawsSame_ev (tab v.length (fwd f K v)) (by rw [tab_len]; omega)
   have h4 := pt_j4 code v hB (by omega) hp hvec h3 hv
   have hJ1 : Ev (fun k => laws_FnPlanTurned.j1 k code v (tab v.length (fwd f K v)) M false f (K : Int) l) true := by
    have hSp := sSplitPlan_ev f (K : Int) l M (by omega)
    have hIp := iSplitPlan_ev f (K : Int) l M (by omega)
    by_cases hx : (splL M l).length ≤ 600
    · have hq := planV_spl hp (show 1 ≤ M by omega) hx
      have hmem := splL_mem (show 1 ≤ M by omega) l
      have hst := (okS_srt.1 hq.2.2.1).1
      unfold splitR at hSp hIp
      rw [if_pos ⟨hp, by omega, hx⟩] at hSp hIp
      generalize splL M l = Y at hSp hIp hx hq hmem hst
      have hRY := iRunPlanP_ev f (K : Int) Y v (by omega) (by omega)
      rw [runPV_yes hq hvec (by rw [Int.toNat_natCast]; exact h3), Int.toNat_natCast] at hRY
      have hh : halfK (K : Int) ≤ 256 := by
       unfold halfK
       rw [Int.toNat_natCast]
       have h256 : 2 ^ (K - 1) ≤ 256 := Nat.pow_le_pow_right (show 0 < 2 by omega) (show K - 1 ≤ 8 by omega)
       have : (2 : Int) ^ (K - 1) = ((2 ^ (K - 1) : Nat) : Int) := by simp
       omega
      have hL := pt_l0 code v (tab v.length (fwd f K v)) M f (K : Int) l Y f (K : Int) hx (fun s hs => by
       obtain ⟨_, _, _, _, _, _, g⟩ := hmem s hs
       have := hst s hs
       unfold stepP at this
       omega) h4 Y.length 0 (by omega) (by omega)
      obtain ⟨m, g1, g2, g3, g4, g5, g6, g7⟩ := evs7 hSp (cpPlan_ev f (K : Int) l (by omega)) hIp (lawsCp_ev v (by omega)) hRY hsame hL
      refine ⟨m + 2, fun k hk => ?_⟩
      obtain ⟨j, rfl⟩ : ∃ j, k = m + j + 1 + 1 := ⟨k - m - 2, by omega⟩
      have g1' := g1 (j + 1)
      have g2' := g2 (j + 1)
      have g3' := g3 (j + 1)
      have g4' := g4 (j + 1)
      have g5' := g5 (j + 1)
      have g6' := g6 (j + 1)
      rw [show m + (j + 1) = m + j + 1 by omega] at g1' g2' g3' g4' g5' g6'
      simp only [laws_FnPlanTurned.j1, g1', g2', g3', g4', g5', g6', Option.bind_some, if_true, Bool.false_eq_true, if_false, Bool.not_true]
      simp only [laws_FnPlanTurned.j2, Bool.false_eq_true, if_false]
      exact g7 j
    · unfold splitR at hSp
      rw [if_neg (fun hh => hx hh.2.2)] at hSp
      obtain ⟨m, g1, g2⟩ := evs2 hSp h4
      refine ⟨m + 1, fun k hk => ?_⟩
      obtain ⟨j, rfl⟩ : ∃ j, k = m + j + 1 := ⟨k - m - 1, by omega⟩
      simp only [laws_FnPlanTurned.j1, g1 j, Option.bind_some, Bool.false_eq_true, if_false]
      exact g2 j
   have hJ0 : Ev (fun k => laws_FnPlanTurned.j0 k code v (tab v.length (fwd f K v)) M false f (K : Int) l f (K : Int) X) true := by
    obtain ⟨m, g1, g2, g3, g4⟩ := evs4 (lawsCp_ev v (by omega)) hR hsame hJ1
    refine ⟨m + 1, fun k hk => ?_⟩
    obtain ⟨j, rfl⟩ : ∃ j, k = m + j + 1 := ⟨k - m - 1, by omega⟩
    simp only [laws_FnPlanTurned.j0, g1 j, g2 j, g3 j, Option.bind_some, if_true, Bool.false_eq_true, if_false, Bool.not_true]
    exact g4 j
   obtain ⟨m, k0, k1, k2, k3, k4, k5⟩ := evs6 e0 hS hF hMk hOk hJ0
   refine ⟨m + 0, ?_⟩
   simp only [laws_FnPlanTurned.f, hb, k0 0, k1 0, k2 0, hc, hM, hM16, k3 0, k4 0, Option.bind_some, Bool.false_eq_true, if_false, if_true, Bool.not_true]
   exact k5 0
 · rw [runPV_no h] at hS
   obtain ⟨m, k0, k1⟩ := evs2 e0 hS
   refine ⟨m + 0, ?_⟩
   simp only [laws_FnPlanTurned.f, hb, k0 0, k1 0, Option.bind_some, Bool.false_eq_true, if_false]

end Go.Proofs.Ytbojabmpcfclhaa.Pure

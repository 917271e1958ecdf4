/- The pure statement of FnPlanAny, with no condition beyond the law's own. -/
import Derived.Test.YtbojabmpcfclhaaZFPAx16
import Derived.Test.YtbojabmpcfclhaaZFPAx18
namespace Go.Proofs.Ytbojabmpcfclhaa.Pure
open Go.RowKit Go.Proofs.Ytbojabmpcfclhaa.QFnPlanAny Go.Proofs.Ytbojabmpcfclhaa.PFnPlanAny Go.Proofs.YtbojabmpcfclhaaW.PrintWords Go.Proofs.YtbojabmpcfclhaaW.PrintLast Go.Proofs.Ytbojabmpcfclhaa.Math
set_option linter.unusedVariables false
set_option linter.unusedSimpArgs false

theorem FnPlanAny : laws_FnPlanAny.Pure := by
  intro code _ hl _
  by_cases hbig : (code.length : Int) > 1048576
  · exact ⟨0, by simp only [laws_FnPlanAny.f, laws_big.f, decide_eq_true hbig, Option.bind_some, if_true]⟩
  have hb : laws_big.f code = some false := by simp only [laws_big.f, decide_eq_false hbig]
  obtain ⟨f, K0, l, v, e0, hl6, hv⟩ := drawRunPlan code (by omega)
  have hS := sRunPlanP_ev f K0 l v (by omega) (by omega)
  by_cases h : planV f K0 l ∧ vecP f v ∧ v.length = 2 ^ K0.toNat
  · obtain ⟨hp, hvec, h3⟩ := h
    obtain ⟨K, rfl, hK⟩ := planV_nat2 hp
    have hrv := runPV_yes hp hvec h3
    rw [Int.toNat_natCast] at h3
    have hI := iRunPlanP_ev f (K : Int) l v (by omega) (by omega)
    have hC := iPlanCost_ev f (K : Int) l (by omega)
    rw [hrv] at hS hI
    rw [Int.toNat_natCast] at hS hI
    have hpts := (planV_pts hp).2
    rw [Int.toNat_natCast] at hpts
    have hcost : costV f (K : Int) l = ((pts l).length : Int) := by
      unfold costV
      rw [if_pos hp, Int.toNat_natCast, hpts]
    rw [hcost] at hC
    have hf := hvec.1
    have hm := mdP_range hf
    have hel := vec_el hvec
    have hlog : logB (v.length : Int) = K := by rw [h3]; simpa using logB_pow hK
    have hF := sForward_ev hvec hK hlog h3 hp.1.2.2.2
    have hfw := lev_fwd hf K hp.1.2.2.2 v h3 hel
    have hfin : Ev (fun k => laws_FnPlanAny.l0 k v (tab v.length (fwd f K v)) (tab v.length (lev (mdP f) (rt f) (fun y => rd v ((rv K y : Nat) : Int)) K)) ((pts l).length : Int) (l.length : Int) f (K : Int) l) true := by
      rw [hfw]
      obtain ⟨m, g0, g1, g2, g3, g4⟩ := evs5 (cpPlan_ev f (K : Int) l (by omega)) (lawsCp_ev v (by omega)) hI (lawsSame_ev (tab v.length (fwd f K v)) (by rw [tab_len]; omega)) hC
      refine ⟨m + 1, fun k hk => ?_⟩
      obtain ⟨j, rfl⟩ : ∃ j, k = m + j + 1 := ⟨k - m - 1, by omega⟩
      simp only [laws_FnPlanAny.l0, g0 j, g1 j, g2 j, g3 j, g4 j, Option.bind_some, if_true, beq_self_eq_true]
      rw [if_neg (by omega)]
    have key := lawPlan_l hf hK hp.1.2.2.2 l hp.2.1 hp.2.2.1 (by have := hp.2.2.2; rwa [Int.toNat_natCast] at this) v.length h3 v (tab v.length (fwd f K v)) hvec rfl (fun y => rd v ((rv K y : Nat) : Int)) (fun i hi => hel _ (by have := rv_lt K i; omega)) hfin l.length 0 [] (by omega) (by omega) (by simp) rfl (by intro y hy; exact absurd hy (by simp))
    have ec : tab v.length (curP f K (fun y => rd v ((rv K y : Nat) : Int)) []) = tab v.length (fun y => rd v ((rv K y : Nat) : Int)) := by
      refine tab_congr fun x hx => ?_
      unfold curP
      rw [hgt_eq K (Nat.zero_le _) (fun t ht => by omega) (fun t _ _ => by simp), lev]
    rw [ec] at key
    obtain ⟨m, k0, k1, k2, k3, k4, k5, k6⟩ := evs7 e0 hS hF (lawsCp_ev v (by omega)) (iLogOf_ev (v.length : Int)) (iPerm_ev K hK v h3) key
    refine ⟨m, ?_⟩
    have q0 := k0 0
    have q1 := k1 0
    have q2 := k2 0
    have q3 := k3 0
    have q4 := k4 0
    have q5 := k5 0
    have q6 := k6 0
    rw [Nat.add_zero] at q0 q1 q2 q3 q4 q5 q6
    rw [hlog] at q4
    simp only [laws_FnPlanAny.f, hb, q0, q1, q2, q3, impl_Permute.f, q4, q5, Option.bind_some, Bool.false_eq_true, if_false, if_true]
    rw [if_neg (by omega), Option.bind_some]
    exact q6
  · rw [runPV_no h] at hS
    obtain ⟨m, k0, k1⟩ := evs2 e0 hS
    refine ⟨m, ?_⟩
    have q0 := k0 0
    have q1 := k1 0
    rw [Nat.add_zero] at q0 q1
    simp only [laws_FnPlanAny.f, hb, q0, q1, Option.bind_some, Bool.false_eq_true, if_false]

end Go.Proofs.Ytbojabmpcfclhaa.Pure

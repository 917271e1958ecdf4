/- The pure statement of FnDealt, with no condition beyond the law's own. -/
import Derived.Test.YtogdhclomgafdaaZFDx12
import Derived.Test.YtogdhclomgafdaaZFDx14
namespace Go.Proofs.Ytogdhclomgafdaa.Pure
open Go.RowKit Go.Proofs.Ytogdhclomgafdaa.QFnDealt Go.Proofs.Ytogdhclomgafdaa.PFnDealt Go.Proofs.YtogdhclomgafdaaW.PrintWords Go.Proofs.YtogdhclomgafdaaW.PrintLast Go.Proofs.Ytogdhclomgafdaa.Math
set_option linter.unusedVariables false
set_option linter.unusedSimpArgs false

theorem FnDealt : laws_FnDealt.Pure := by
 intro code _ hl _
 by_cases hbig : (code.length : Int) > 1048576
 · exact ⟨0, by simp only [laws_FnDealt.f, laws_big.f, decide_eq_true hbig, Option.bind_some, if_true]⟩
 have hb : laws_big.f code = some false := by simp only [laws_big.f, decide_eq_false hbig]
 obtain ⟨f, K, l, a, e0, hl6⟩ := drawDeal code (by omega)
 refine Ev.rounds ?_
 simp only [laws_FnDealt.f, hb, Option.bind_some, Bool.false_eq_true, if_false]
 refine Ev.bind e0 ?_
 have hS := sDeal_ev f K l a (by omega)
 refine Ev.bind hS ?_
 by_cases h : dealC f K l a
 · have hR : dealR f K l a = (rowsL a.toNat (fun w => mineL l a.toNat w l.length), true) := if_pos h
   have hI := iDeal_ev f K l a (by omega)
   rw [hR] at hI ⊢
   simp only [if_true]
   refine Ev.bind (cpPlan_ev f K l (by omega)) ?_
   refine Ev.bind hI ?_
   simp only [if_true]
   obtain ⟨n, rfl, hn⟩ := planV_nat2 h.1
   obtain ⟨m, rfl⟩ : ∃ m : Nat, a = m := ⟨a.toNat, by have := h.2; omega⟩
   have hm := h.2
   simp only [Int.toNat_natCast]
   have hP := h.1
   have hpts := (planV_pts hP).2
   rw [Int.toNat_natCast] at hpts
   have hcost : costV f (n : Int) l = ((pts l).length : Int) := by
    unfold costV
    rw [if_pos hP, Int.toNat_natCast, hpts]
   have hsmall : (pts l).length ≤ 100000 := by
    rw [hpts]
    have := (pow2_9 (K := n - 1) (by omega)).1
    calc n * 2 ^ (n - 1) ≤ 9 * 512 := Nat.mul_le_mul hn this
     _ ≤ 100000 := by omega
   have hC := sPlanCost_ev f (n : Int) l (by omega)
   rw [hcost] at hC
   have hM := iMakespan_ev f (n : Int) l (m : Int) (by omega)
   have hM1 := iMakespan_ev f (n : Int) l 1 (by omega)
   rw [show spanV f (n : Int) l (m : Int) = spanH l (rowsL m (fun w => mineL l m w l.length)) m n from by unfold spanV; rw [if_pos h]; rfl] at hM
   rw [show spanV f (n : Int) l 1 = spanH l (rowsL 1 (fun w => mineL l 1 w l.length)) 1 n from by unfold spanV; rw [if_pos ⟨hP, by omega, by omega⟩]; rfl] at hM1
   obtain ⟨a1, a2, a3⟩ := span_cost hn hP m (by omega) hsmall
   obtain ⟨b1, b2, b3⟩ := span_cost hn hP 1 (by omega) hsmall
   generalize spanH l (rowsL m (fun w => mineL l m w l.length)) m n = S at hM a1 a2 a3
   generalize spanH l (rowsL 1 (fun w => mineL l 1 w l.length)) 1 n = S1 at hM1 b1 b2 b3
   have e1 : S1 = ((pts l).length : Int) := by omega
   have e2 : wrap64 (S * (m : Int)) ≥ ((pts l).length : Int) := by
    rw [Int.mul_comm] at a3
    have h1 : S * (m : Int) ≤ 100000 * 16 := by
     have h2 : S * (m : Int) ≤ S * 16 := Int.mul_le_mul_of_nonneg_left (by omega) a1
     omega
    rw [wrapc (by omega) (by omega)]
    exact a3
   subst e1
   have kfin : Ev (fun k => (spec_PlanCost.f k f (n : Int) l).bind fun t337 => ((laws_cpPlan.f k f (n : Int) l).bind fun bt338 => ((impl_Makespan.f k bt338.1 bt338.2.1 bt338.2.2 (m : Int)).bind fun t343 => ((laws_cpPlan.f k f (n : Int) l).bind fun bt344 => ((impl_Makespan.f k bt344.1 bt344.2.1 bt344.2.2 1).bind fun t349 => (if t349 = t337 then (if t343 ≤ t337 then (some (decide ((wrap64 (t343 * (m : Int))) ≥ t337))) else (some false)) else (some false))))))) true := by
    refine Ev.bind hC ?_
    refine Ev.bind (cpPlan_ev f (n : Int) l (by omega)) ?_
    refine Ev.bind hM ?_
    refine Ev.bind (cpPlan_ev f (n : Int) l (by omega)) ?_
    refine Ev.bind hM1 ?_
    simp only [if_true, if_pos a2, decide_eq_true e2]
    exact Ev.now _
   have k1 := lawDealt_l1 hl6 m (by omega) true (fun M hM => lawDealt_l3 hl6 m M hM.1 (fun i hi => by
    rw [hM.2 i hi, if_pos (Nat.mod_lt _ (by omega))]; simp) true kfin l.length 0 (by omega) (by omega)) m 0 (by omega) (by omega) (List.replicate l.length 0) ⟨by simp, fun i hi => by rw [rd_eq (by simpa using hi)]; simp⟩
   have k0 := lawDealt_l0 hl6 (m : Int) (rowsL m (fun w => mineL l m w l.length)) true k1 l.length 0 (by omega) (by omega)
   have hlen := rowsL_len m (fun w => mineL l m w l.length)
   refine Ev.step (fun k => ?_) k0
   simp only [laws_FnDealt.j0, hlen, bne_self_eq_false, Bool.false_eq_true, if_false]
   rfl
 · rw [show dealR f K l a = ([], false) from if_neg h]
   simp only [Bool.false_eq_true, if_false]
   exact Ev.now _

end Go.Proofs.Ytogdhclomgafdaa.Pure

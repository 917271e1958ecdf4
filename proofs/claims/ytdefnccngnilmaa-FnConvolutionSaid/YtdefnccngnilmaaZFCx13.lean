/- The pure statement of FnConvolution, with no condition beyond the law's own. -/
import Derived.Test.YtdefnccngnilmaaZFCx10
import Derived.Test.YtdefnccngnilmaaZFCx12
namespace Go.Proofs.Ytdefnccngnilmaa.Pure
open Go.RowKit Go.Proofs.Ytdefnccngnilmaa.QFnConvolution Go.Proofs.Ytdefnccngnilmaa.PFnConvolution Go.Proofs.YtdefnccngnilmaaW.PrintWords Go.Proofs.YtdefnccngnilmaaW.PrintLast Go.Proofs.Ytdefnccngnilmaa.Math
set_option linter.unusedVariables false
set_option linter.unusedSimpArgs false

theorem FnConvolution : laws_FnConvolution.Pure := by
  intro code _ hl _
  by_cases hbig : (code.length : Int) > 1048576
  · exact ⟨0, by simp only [laws_FnConvolution.f, laws_big.f, decide_eq_true hbig, Option.bind_some, if_true]⟩
  have hb : laws_big.f code = some false := by simp only [laws_big.f, decide_eq_false hbig]
  obtain ⟨f, a, b, e0, hla, hlb⟩ := drawTwo code (by omega)
  by_cases hA : vecP f a
  · by_cases hB : vecP f b
    · by_cases hAB : (a.length : Int) = (b.length : Int)
      · obtain ⟨K, hK9, hlog, hna, hKT⟩ := vec_log hA
        have h9 := pow2_9 hK9
        have hm := mdP_range hA.1
        have hnb : b.length = 2 ^ K := by omega
        have hlogB : logB (b.length : Int) = K := by rw [← hAB]; exact hlog
        have r : ∀ x : Int, 0 ≤ x % mdP f ∧ x % mdP f < mdP f := fun x => ⟨Int.emod_nonneg _ (by omega), Int.emod_lt_of_pos _ (by omega)⟩
        have vX : vecP f (tab (2 ^ K) (fwd f K a)) := vecP_tabC hA hna.symm fun i _ => r _
        have vY : vecP f (tab (2 ^ K) (fwd f K b)) := vecP_tabC hA hna.symm fun i _ => r _
        have cy := iCyclic_ev hA hB hK9 hlog hna hnb hKT
        have pw := iPointwise_ev vX vY hK9 (tab_len ..) (tab_len ..)
        generalize hP : tab (2 ^ K) (fun j => rd (tab (2 ^ K) (fwd f K a)) (j : Int) * rd (tab (2 ^ K) (fwd f K b)) (j : Int) % mdP f) = P at cy pw
        have lP : P.length = 2 ^ K := by rw [← hP, tab_len]
        have vP : vecP f P := by rw [← hP]; exact vecP_tabC hA hna.symm fun i _ => r _
        have vC : vecP f (tab (2 ^ K) (bwd f K P)) := vecP_tabC hA hna.symm fun i _ => r _
        have hback : tab (2 ^ K) (fwd f K (tab (2 ^ K) (bwd f K P))) = P := by
          refine Eq.trans ?_ (tab_of P).symm
          rw [lP]
          exact tab_congr fun i hi => fwd_bwd hA.1 K hKT P (fun i hi => vec_el vP i (by omega)) i hi
        have fc := iForwardV_ev vC hK9 (by rw [tab_len, ← hna]; exact hlog) (tab_len ..) hKT
        rw [hback] at fc
        obtain ⟨n1, k0, k1, k2, k3, k4, k5, k6⟩ := evs7 e0 (sVec_ev f a (by omega)) (sVec_ev f b (by omega)) (lawsCp_ev a (by omega)) (lawsCp_ev b (by omega)) cy fc
        obtain ⟨n2, g0, g1, g2, g3, g4, g5, g6⟩ := evs7 (iForwardV_ev hA hK9 hlog hna hKT) (iForwardV_ev hB hK9 hlogB hnb hKT) pw (lawsSame_ev P (by omega)) (sRingOne_ev hA.1 hK9 hlogB hnb hKT) (iCorrOne_ev hB rfl (by omega) (by omega)) (lawsSame_ev b (by omega))
        have q0 := fun j => k0 (n2 + j)
        have q1 := fun j => k1 (n2 + j)
        have q2 := fun j => k2 (n2 + j)
        have q3 := fun j => k3 (n2 + j)
        have q4 := fun j => k4 (n2 + j)
        have q5 := fun j => k5 (n2 + j)
        have q6 := fun j => k6 (n2 + j)
        simp only [← Nat.add_assoc] at q0 q1 q2 q3 q4 q5 q6
        have s0 := fun j => g0 (n1 + j)
        have s1 := fun j => g1 (n1 + j)
        have s2 := fun j => g2 (n1 + j)
        have s3 := fun j => g3 (n1 + j)
        have s4 := fun j => g4 (n1 + j)
        have s5 := fun j => g5 (n1 + j)
        have s6 := fun j => g6 (n1 + j)
        simp only [← Nat.add_assoc, Nat.add_comm n2 n1] at s0 s1 s2 s3 s4 s5 s6
        have hne : ((a.length : Int) != (b.length : Int)) = false := by rw [hAB]; exact bne_self_eq_false _
        have t1 : ((P.length : Nat) : Int) = (a.length : Int) := by omega
        refine ⟨n1 + n2 + 1, ?_⟩
        simp only [laws_FnConvolution.f, hb, spec_DrawCyclic.f, q0 1, q1 1, q2 1, decide_eq_true hA, decide_eq_true hB, hne, Option.bind_some, Bool.false_eq_true, if_false, if_true]
        have q3' := q3 0
        have q4' := q4 0
        have q5' := q5 0
        have q6' := q6 0
        have s0' := s0 0
        have s1' := s1 0
        have s2' := s2 0
        have s3' := s3 0
        have s4' := s4 0
        have s5' := s5 0
        have s6' := s6 0
        simp only [Nat.add_zero] at q3' q4' q5' q6' s0' s1' s2' s3' s4' s5' s6'
        simp only [laws_FnConvolution.j0, q3', q4', q5', q6', s0', s1', s2', s3', s4', s5', s6', t1, Option.bind_some, Bool.false_eq_true, if_false, if_true]
      · have hne : ((a.length : Int) != (b.length : Int)) = true := by rw [bne_iff_ne]; exact hAB
        obtain ⟨n, k0, k1, k2⟩ := evs3 e0 (sVec_ev f a (by omega)) (sVec_ev f b (by omega))
        refine ⟨n + 1, ?_⟩
        simp only [laws_FnConvolution.f, hb, spec_DrawCyclic.f, k0 1, k1 1, k2 1, decide_eq_true hA, decide_eq_true hB, hne, laws_FnConvolution.j0, Option.bind_some, Bool.false_eq_true, if_false, if_true]
    · obtain ⟨n, k0, k1, k2⟩ := evs3 e0 (sVec_ev f a (by omega)) (sVec_ev f b (by omega))
      refine ⟨n + 1, ?_⟩
      simp only [laws_FnConvolution.f, hb, spec_DrawCyclic.f, k0 1, k1 1, k2 1, decide_eq_true hA, decide_eq_false hB, laws_FnConvolution.j0, Option.bind_some, Bool.false_eq_true, if_false, if_true]
  · obtain ⟨n, k0, k1⟩ := evs2 e0 (sVec_ev f a (by omega))
    refine ⟨n + 1, ?_⟩
    simp only [laws_FnConvolution.f, hb, spec_DrawCyclic.f, k0 1, k1 1, decide_eq_false hA, laws_FnConvolution.j0, Option.bind_some, Bool.false_eq_true, if_false, if_true]

end Go.Proofs.Ytdefnccngnilmaa.Pure

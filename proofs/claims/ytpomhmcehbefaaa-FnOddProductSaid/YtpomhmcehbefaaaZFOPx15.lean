/- The pure statement of FnOddProduct, with no condition beyond the law's own. -/
import Derived.Test.YtpomhmcehbefaaaZFOPx12
import Derived.Test.YtpomhmcehbefaaaZFOPx14
namespace Go.Proofs.Ytpomhmcehbefaaa.Pure
open Go.RowKit Go.Proofs.Ytpomhmcehbefaaa.QFnOddProduct Go.Proofs.Ytpomhmcehbefaaa.PFnOddProduct Go.Proofs.YtpomhmcehbefaaaW.PrintWords Go.Proofs.YtpomhmcehbefaaaW.PrintLast Go.Proofs.Ytpomhmcehbefaaa.Math
set_option linter.unusedVariables false
set_option linter.unusedSimpArgs false

theorem FnOddProduct : laws_FnOddProduct.Pure := by
  intro code _ hl _
  by_cases hbig : (code.length : Int) > 1048576
  · exact ⟨0, by simp only [laws_FnOddProduct.f, laws_big.f, decide_eq_true hbig, Option.bind_some, if_true]⟩
  have hb : laws_big.f code = some false := by simp only [laws_big.f, decide_eq_false hbig]
  obtain ⟨f, a, b, e0, hla, hlb⟩ := drawTwo code (by omega)
  by_cases hA : vecP f a
  · by_cases hB : vecP f b
    · by_cases hAB : (a.length : Int) = (b.length : Int)
      · obtain ⟨K, hK9, hlog, hna, hKT⟩ := vec_log hA
        have h9 := pow2_9 hK9
        have hnb : b.length = 2 ^ K := by omega
        have ht : two f = rd fT f := by unfold two; rw [if_pos hA.1]
        have hlogB : logB (b.length : Int) = K := by rw [← hAB]; exact hlog
        by_cases hS : (K : Int) + 1 > rd fT f
        · obtain ⟨n, k0, k1, k2, k3, k4⟩ := evs5 e0 (sVec_ev f a (by omega)) (sVec_ev f b (by omega)) (sLogOf_ev (b.length : Int)) (sTwo_ev f)
          have hd : decide (wrap64 (logB (b.length : Int) + 1) > two f) = true := by rw [hlogB, ht, w64 (by omega) (by omega)]; exact decide_eq_true hS
          refine ⟨n + 1, ?_⟩
          simp only [laws_FnOddProduct.f, hb, spec_DrawTwisted.f, k0 1, k1 1, k2 1, k3 1, k4 1, decide_eq_true hA, decide_eq_true hB, hd, hAB, laws_FnOddProduct.j0, Option.bind_some, Bool.false_eq_true, if_false, if_true]
        · have sA : splitV f a := ⟨hA, by rw [hlog]; omega⟩
          have sB : splitV f b := ⟨hB, by rw [← hAB, hlog]; omega⟩
          have hm := mdP_range hA.1
          have hKT1 : (K : Int) + 1 ≤ rd fT f := by omega
          have vM : vecP f (tab (2 ^ K) (twV f K a b)) := vecP_tab hA hna.symm fun i _ => twV_range hA.1 K a b i
          have sM : splitV f (tab (2 ^ K) (twV f K a b)) := ⟨vM, by rw [tab_len, ← hna, hlog]; omega⟩
          have vX : vecP f (tab (2 ^ K) (oddV f K a)) := vecP_tab hA hna.symm fun i _ => oddV_range hA.1 K a i
          have vY : vecP f (tab (2 ^ K) (oddV f K b)) := vecP_tab hA hna.symm fun i _ => oddV_range hA.1 K b i
          have sX : splitV f (tab (2 ^ K) (oddV f K a)) := ⟨vX, by rw [tab_len, ← hna, hlog]; omega⟩
          have lM : logB ((tab (2 ^ K) (twV f K a b)).length : Int) = K := by rw [tab_len, ← hna]; exact hlog
          have lX : logB ((tab (2 ^ K) (oddV f K a)).length : Int) = K := by rw [tab_len, ← hna]; exact hlog
          have hback : oddB f (tab (2 ^ K) (oddV f K a)) = a := by
            rw [oddB_some sX lX, tab_len]
            refine Eq.trans ?_ (tab_of a).symm
            rw [hna]
            exact tab_congr fun j hj => back_of_odd hA.1 K hKT1 a hna (vec_el hA) j hj
          have hpt : tab (2 ^ K) (fun j => rd (tab (2 ^ K) (oddV f K a)) (j : Int) * rd (tab (2 ^ K) (oddV f K b)) (j : Int) % mdP f) = tab (2 ^ K) (oddV f K (tab (2 ^ K) (twV f K a b))) := by
            refine tab_congr fun j hj => ?_
            rw [tab_rd hj, tab_rd hj, odd_tw hA.1 K hKT1 a b j]
          have hnorm : pr (2 ^ K) (oddV f K (tab (2 ^ K) (twV f K a b))) % mdP f = pr (2 ^ K) (oddV f K a) % mdP f * (pr (2 ^ K) (oddV f K b) % mdP f) % md f := by
            rw [← md_eq hA.1]
            refine ((pr_mul (p := mdP f) (2 ^ K) fun i _ => ?_).trans ((Md.mod _ _).symm.mul (Md.mod _ _).symm)).emod
            rw [odd_tw hA.1 K hKT1 a b i]
            exact Md.mod _ _
          have hbk := iOddBack_ev f (tab (2 ^ K) (oddV f K a)) (by rw [tab_len]; omega)
          rw [hback] at hbk
          have hpw := iPointwise_ev vX vY hK9 (tab_len ..) (tab_len ..)
          rw [hpt] at hpw
          obtain ⟨n1, k0, k1, k2, k3, k4, k5, k6, k7⟩ := evs8 e0 (sVec_ev f a (by omega)) (sVec_ev f b (by omega)) (sLogOf_ev (b.length : Int)) (sTwo_ev f) (lawsCp_ev a (by omega)) (lawsCp_ev b (by omega)) (iOddValues_ev sA hK9 hlog hna hKT1)
          obtain ⟨n2, g0, g1, g2, g3, g4, g5⟩ := evs6 (iOddValues_ev sB hK9 hlogB hnb hKT1) (iTwisted_ev hA hB hK9 hna hnb) (lawsCp_ev (tab (2 ^ K) (twV f K a b)) (by rw [tab_len]; omega)) (iOddValues_ev sM hK9 lM (tab_len ..) hKT1) (lawsCp_ev (tab (2 ^ K) (oddV f K a)) (by rw [tab_len]; omega)) hbk
          obtain ⟨n3, c0, c1, c2, c3, c4, c5⟩ := evs6 (lawsSame_ev a (by omega)) hpw (lawsSame_ev (tab (2 ^ K) (oddV f K (tab (2 ^ K) (twV f K a b)))) (by rw [tab_len]; omega)) (iNorm_ev sM hK9 lM (tab_len ..) hKT1) (iNorm_ev sA hK9 hlog hna hKT1) (iNorm_ev sB hK9 hlogB hnb hKT1)
          refine ⟨n1 + n2 + n3 + 2, ?_⟩
          have q0 := k0 (n2 + n3 + 2)
          have q1 := k1 (n2 + n3 + 2)
          have q2 := k2 (n2 + n3 + 2)
          have q3 := k3 (n2 + n3 + 2)
          have q4 := k4 (n2 + n3 + 2)
          have q5 := k5 (n2 + n3 + 1)
          have q6 := k6 (n2 + n3 + 1)
          have q5b := k5 (n2 + n3)
          have q6b := k6 (n2 + n3)
          have q7 := k7 (n2 + n3 + 1)
          have r0 := g0 (n1 + n3 + 1)
          have r1 := g1 (n1 + n3 + 1)
          have r2 := g2 (n1 + n3 + 1)
          have r3 := g3 (n1 + n3 + 1)
          have r4 := g4 (n1 + n3 + 1)
          have r5 := g5 (n1 + n3 + 1)
          have s0 := c0 (n1 + n2 + 1)
          have s1 := c1 (n1 + n2 + 1)
          have s2 := c2 (n1 + n2 + 1)
          have s3 := c3 (n1 + n2)
          have s4 := c4 (n1 + n2)
          have s5 := c5 (n1 + n2)
          rw [show n1 + (n2 + n3 + 2) = n1 + n2 + n3 + 2 by omega] at q0 q1 q2 q3 q4
          rw [show n1 + (n2 + n3 + 1) = n1 + n2 + n3 + 1 by omega] at q5 q6 q7
          rw [show n1 + (n2 + n3) = n1 + n2 + n3 by omega] at q5b q6b
          rw [show n2 + (n1 + n3 + 1) = n1 + n2 + n3 + 1 by omega] at r0 r1 r2 r3 r4 r5
          rw [show n3 + (n1 + n2 + 1) = n1 + n2 + n3 + 1 by omega] at s0 s1 s2
          rw [show n3 + (n1 + n2) = n1 + n2 + n3 by omega] at s3 s4 s5
          have t1 : ((tab (2 ^ K) (oddV f K (tab (2 ^ K) (twV f K a b)))).length : Int) = (a.length : Int) := by rw [tab_len]; omega
          have hd : decide (wrap64 (logB (b.length : Int) + 1) > two f) = false := by rw [hlogB, ht, w64 (by omega) (by omega)]; exact decide_eq_false hS
          simp only [laws_FnOddProduct.f, hb, spec_DrawTwisted.f, q0, q1, q2, q3, q4, decide_eq_true hA, decide_eq_true hB, hd, hAB, Option.bind_some, Bool.false_eq_true, if_false, if_true]
          rw [show n1 + n2 + n3 + 2 = n1 + n2 + n3 + 1 + 1 from rfl]
          simp only [laws_FnOddProduct.j0, q5, q6, q7, r0, r1, r2, r3, r4, r5, s0, s1, s2, Option.bind_some, Bool.false_eq_true, if_false, if_true, Bool.not_true]
          rw [if_pos t1]
          simp only [laws_FnOddProduct.j1, q5b, q6b, s3, s4, s5, sMul, if_pos hA.1, hnorm, Option.bind_some, Bool.false_eq_true, if_false, beq_self_eq_true]
      · obtain ⟨n, k0, k1, k2⟩ := evs3 e0 (sVec_ev f a (by omega)) (sVec_ev f b (by omega))
        refine ⟨n + 1, ?_⟩
        simp only [laws_FnOddProduct.f, hb, spec_DrawTwisted.f, k0 1, k1 1, k2 1, decide_eq_true hA, decide_eq_true hB, hAB, laws_FnOddProduct.j0, Option.bind_some, Bool.false_eq_true, if_false, if_true]
    · obtain ⟨n, k0, k1, k2⟩ := evs3 e0 (sVec_ev f a (by omega)) (sVec_ev f b (by omega))
      refine ⟨n + 1, ?_⟩
      simp only [laws_FnOddProduct.f, hb, spec_DrawTwisted.f, k0 1, k1 1, k2 1, decide_eq_true hA, decide_eq_false hB, laws_FnOddProduct.j0, Option.bind_some, Bool.false_eq_true, if_false, if_true]
  · obtain ⟨n, k0, k1⟩ := evs2 e0 (sVec_ev f a (by omega))
    refine ⟨n + 1, ?_⟩
    simp only [laws_FnOddProduct.f, hb, spec_DrawTwisted.f, k0 1, k1 1, decide_eq_false hA, laws_FnOddProduct.j0, Option.bind_some, Bool.false_eq_true, if_false, if_true]

end Go.Proofs.Ytpomhmcehbefaaa.Pure

/- The pure statement of FnRingInverse, with no condition beyond the law's own. -/
import Derived.Test.YtdefnccngnilmaaZFRIx14
import Derived.Test.YtdefnccngnilmaaZFRIx16
namespace Go.Proofs.Ytdefnccngnilmaa.Pure
open Go.RowKit Go.Proofs.Ytdefnccngnilmaa.QFnRingInverse Go.Proofs.Ytdefnccngnilmaa.PFnRingInverse Go.Proofs.YtdefnccngnilmaaW.PrintWords Go.Proofs.YtdefnccngnilmaaW.PrintLast Go.Proofs.Ytdefnccngnilmaa.Math
set_option linter.unusedVariables false
set_option linter.unusedSimpArgs false

theorem FnRingInverse : laws_FnRingInverse.Pure := by
  intro code _ hl _
  by_cases hbig : (code.length : Int) > 1048576
  · exact ⟨0, by simp only [laws_FnRingInverse.f, laws_big.f, decide_eq_true hbig, Option.bind_some, if_true]⟩
  have hb : laws_big.f code = some false := by simp only [laws_big.f, decide_eq_false hbig]
  obtain ⟨f, v, e0, hlv⟩ := drawRing code (by omega)
  by_cases hV : vecP f v
  · by_cases hS : splitV f v
    · obtain ⟨K, hK9, hlog, hn, hKT⟩ := split_log hS
      have h9 := pow2_9 hK9
      have hN := sNorm_ev hS hK9 hlog hn hKT
      have hm := mdP_range hV.1
      by_cases hG : ringG f v
      · have hne := (ring_norm hS hlog hn).1 hG
        have hpos : ¬ (pr (2 ^ K) (oddV f K v) % mdP f < 1) := by
          have := Int.emod_nonneg (pr (2 ^ K) (oddV f K v)) (show mdP f ≠ 0 by omega)
          omega
        obtain ⟨hW, lW, okW, hU⟩ := ring_unit hS hK9 hlog hn hKT hG
        have hI := iRingI_ev f v (by omega)
        rw [show ringI f v = ((ringI f v).1, true) from Prod.ext rfl okW] at hI
        generalize (ringI f v).1 = W at *
        have hT := iTwisted_ev hV hW hK9 hn lW
        rw [hU] at hT
        have v2 : vecP f (tab (2 ^ K) (twV f K v v)) := vecP_tab hV hn.symm fun i _ => twV_range hV.1 K v v i
        have hC := iRingPow3_ev hV hK9 hn
        have hC2 : tab (2 ^ K) (twV f K v (tab (2 ^ K) (twV f K v v))) = tab (2 ^ K) (twV f K (tab (2 ^ K) (twV f K v v)) v) := tab_congr fun k _ => tw_comm f K _ _ k
        rw [hC2] at hC
        have hO := sRingOne_ev hV.1 hK9 hlog hn (show (K : Int) ≤ rd fT f by omega)
        rw [show tab v.length oneF = tab (2 ^ K) oneF by rw [hn]] at hO
        have s1 := sTwisted_ev hV hV hK9 hn hn
        have s2 := sTwisted_ev v2 hV hK9 (tab_len ..) hn
        obtain ⟨n1, k0, k1, k2, k3, k4, k5⟩ := evs6 e0 (sVec_ev f v (by omega)) hN (lawsCp_ev v (by omega)) hI hO
        obtain ⟨n2, g0, g1, g2, g3, g4, g5⟩ := evs6 hC hT (lawsSame_ev (tab (2 ^ K) oneF) (by rw [tab_len]; omega)) s1 s2 (lawsSame_ev (tab (2 ^ K) (twV f K (tab (2 ^ K) (twV f K v v)) v)) (by rw [tab_len]; omega))
        have q0 := fun j => k0 (n2 + j)
        have q1 := fun j => k1 (n2 + j)
        have q2 := fun j => k2 (n2 + j)
        have q3 := fun j => k3 (n2 + j)
        have q4 := fun j => k4 (n2 + j)
        have q5 := fun j => k5 (n2 + j)
        simp only [← Nat.add_assoc] at q0 q1 q2 q3 q4 q5
        have r0 := fun j => g0 (n1 + j)
        have r1 := fun j => g1 (n1 + j)
        have r2 := fun j => g2 (n1 + j)
        have r3 := fun j => g3 (n1 + j)
        have r4 := fun j => g4 (n1 + j)
        have r5 := fun j => g5 (n1 + j)
        simp only [← Nat.add_assoc, Nat.add_comm n2 n1] at r0 r1 r2 r3 r4 r5
        have q3' := q3 0
        have q4' := q4 0
        have q5' := q5 0
        have r0' := r0 0
        have r1' := r1 0
        have r2' := r2 0
        have r3' := r3 0
        have r4' := r4 0
        have r5' := r5 0
        simp only [Nat.add_zero] at q3' q4' q5' r0' r1' r2' r3' r4' r5'
        refine ⟨n1 + n2 + 1, ?_⟩
        simp only [laws_FnRingInverse.f, hb, q0 1, q1 1, q2 1, decide_eq_true hV, decide_eq_false hpos, Option.bind_some, Bool.false_eq_true, if_false, if_true]
        simp only [laws_FnRingInverse.j0, q3', q4', q5', r0', r1', r2', r3', r4', r5', Option.bind_some, Bool.false_eq_true, if_false, if_true]
      · have hz : pr (2 ^ K) (oddV f K v) % mdP f < 1 := by
          by_cases c : pr (2 ^ K) (oddV f K v) % mdP f = 0
          · omega
          · exact absurd ((ring_norm hS hlog hn).2 c) hG
        obtain ⟨n, k0, k1, k2⟩ := evs3 e0 (sVec_ev f v (by omega)) hN
        refine ⟨n + 1, ?_⟩
        simp only [laws_FnRingInverse.f, hb, k0 1, k1 1, k2 1, decide_eq_true hV, decide_eq_true hz, laws_FnRingInverse.j0, Option.bind_some, Bool.false_eq_true, if_false, if_true]
    · obtain ⟨n, k0, k1, k2⟩ := evs3 e0 (sVec_ev f v (by omega)) (sNormNo_ev hS (by omega))
      refine ⟨n + 1, ?_⟩
      simp only [laws_FnRingInverse.f, hb, k0 1, k1 1, k2 1, decide_eq_true hV, show decide ((-1 : Int) < 1) = true from rfl, laws_FnRingInverse.j0, Option.bind_some, Bool.false_eq_true, if_false, if_true]
  · obtain ⟨n, k0, k1⟩ := evs2 e0 (sVec_ev f v (by omega))
    refine ⟨n + 1, ?_⟩
    simp only [laws_FnRingInverse.f, hb, k0 1, k1 1, decide_eq_false hV, laws_FnRingInverse.j0, Option.bind_some, Bool.false_eq_true, if_false, if_true]

end Go.Proofs.Ytdefnccngnilmaa.Pure

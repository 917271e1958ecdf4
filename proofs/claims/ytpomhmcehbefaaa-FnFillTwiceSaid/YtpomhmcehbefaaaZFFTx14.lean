/- The pure statement of FnFillTwice, with no condition beyond the law's own. -/
import Derived.Test.YtpomhmcehbefaaaZFFTx11
import Derived.Test.YtpomhmcehbefaaaZFFTx13
namespace Go.Proofs.Ytpomhmcehbefaaa.Pure
open Go.RowKit Go.Proofs.Ytpomhmcehbefaaa.QFnFillTwice Go.Proofs.Ytpomhmcehbefaaa.PFnFillTwice Go.Proofs.YtpomhmcehbefaaaW.PrintWords Go.Proofs.YtpomhmcehbefaaaW.PrintLast Go.Proofs.Ytpomhmcehbefaaa.Math
set_option linter.unusedVariables false
set_option linter.unusedSimpArgs false

theorem FnFillTwice : laws_FnFillTwice.Pure := by
  intro code _ hl hw
  by_cases hbig : (code.length : Int) > 1048576
  · exact ⟨0, by simp only [laws_FnFillTwice.f, laws_big.f, decide_eq_true hbig, Option.bind_some, if_true]⟩
  · obtain ⟨a, b, c, d, n, e0, hn⟩ := drawReady code (by omega)
    have hb : laws_big.f code = some false := by simp only [laws_big.f, decide_eq_false hbig]
    by_cases hok : bOk a b c d
    · have hok' := hok
      unfold bOk at hok'
      have hnr := hn hok'.1 hok'.2.1
      obtain ⟨v0, g0, r0, s0⟩ := lawsAtB code (isB_of hw) (by omega) 0 (by omega)
      obtain ⟨v1, g1, r1, s1⟩ := lawsAtB code (isB_of hw) (by omega) 1 (by omega)
      have g0 : laws_at.f code 0 = some v0 := g0
      have g1 : laws_at.f code 1 = some v1 := g1
      have hmid : wrap64 (d + v0) = d + v0 := w64 (by omega) (by omega)
      have hend : wrap64 (d + v0 + v1) = d + v0 + v1 := w64 (by omega) (by omega)
      by_cases hbigE : d + v0 + v1 > 1000000000
      · obtain ⟨m, k0⟩ := evs1 e0
        refine ⟨m, ?_⟩
        have k0' := k0 0
        rw [Nat.add_zero] at k0'
        simp only [laws_FnFillTwice.f, hb, Option.bind_some, Bool.false_eq_true, if_false, k0', sBucket, decide_eq_true hok, if_true, g0, g1, hmid, hend, hbigE]
      · have f1 : fillOk a b c d (d + v0) := ⟨hok, by omega, by omega⟩
        have f3 : fillOk a b c d (d + v0 + v1) := ⟨hok, by omega, by omega⟩
        have f2 : fillOk a b (lvl a b c d (d + v0)) (d + v0) (d + v0 + v1) := ⟨(lvl_ok f1).1, by omega, by omega⟩
        have hll := lvl_lvl f1 (e := d + v0 + v1) (by omega) (by omega)
        obtain ⟨m, k0, k1⟩ := evs2 e0 (sReady_ev a b c d n)
        have hnw := i64_wf hnr.1 hnr.2
        refine ⟨m + 2, ?_⟩
        have k0' := k0 2
        have k1' := k1 1
        have hI := iReady m a b c d n hnw
        have hT : ∀ t, impl_TakeUnits.f (m + 1) a b c d t n = some (takeP a b c d t n) := fun t => iTakeUnits m a b c d t n
        simp only [laws_FnFillTwice.f, hb, Option.bind_some, Bool.false_eq_true, if_false, k0', sBucket, decide_eq_true hok, if_true, g0, g1, hmid, hend, hbigE, iFillBucket, fillP, if_pos f1, if_pos f2, if_pos f3, hll, beq_self_eq_true, Bool.not_true, Bool.or_self]
        rw [show m + 2 = m + 1 + 1 from rfl]
        simp only [laws_FnFillTwice.j0, Bool.false_eq_true, if_false, hI, Option.bind_some, k1', hT]
        by_cases ht : readyP a b c d n < 0
        · rw [if_pos ht, decide_eq_true ht]
        · have hc := ready_codes hok ht
          have hw1 : wrap64 (readyP a b c d n - 1) = readyP a b c d n - 1 := w64 (by omega) (by omega)
          rw [if_neg ht, hw1, if_pos hc.1]
          rcases hc.2.1 with h1 | h1
          · rw [if_pos h1]
          · by_cases h2 : readyP a b c d n = d
            · rw [if_pos h2]
            · rw [if_neg h2, h1]; rfl
    · obtain ⟨m, k0⟩ := evs1 e0
      refine ⟨m, ?_⟩
      have k0' := k0 0
      rw [Nat.add_zero] at k0'
      simp only [laws_FnFillTwice.f, hb, Option.bind_some, Bool.false_eq_true, if_false, k0', sBucket, decide_eq_false hok]

end Go.Proofs.Ytpomhmcehbefaaa.Pure

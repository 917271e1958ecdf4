/- The pure statement of FnCeiling, with no condition beyond the law's own. -/
import Derived.Test.YtpomhmcehbefaaaZFCx11
import Derived.Test.YtpomhmcehbefaaaZFCx13
namespace Go.Proofs.Ytpomhmcehbefaaa.Pure
open Go.RowKit Go.Proofs.Ytpomhmcehbefaaa.QFnCeiling Go.Proofs.Ytpomhmcehbefaaa.PFnCeiling Go.Proofs.YtpomhmcehbefaaaW.PrintWords Go.Proofs.YtpomhmcehbefaaaW.PrintLast Go.Proofs.Ytpomhmcehbefaaa.Math
set_option linter.unusedVariables false
set_option linter.unusedSimpArgs false

theorem FnCeiling : laws_FnCeiling.Pure := by
  intro code _ hl _
  by_cases hbig : (code.length : Int) > 1048576
  · exact ⟨0, by simp only [laws_FnCeiling.f, laws_big.f, decide_eq_true hbig, Option.bind_some, if_true]⟩
  · obtain ⟨a, b, c, d, out, e0, hout⟩ := drawPlay code (by omega)
    have hB : ∀ x : Bool, laws_big.f code = some x → x = false := fun x hx => by
      simp only [laws_big.f, decide_eq_false hbig, Option.some.injEq] at hx
      exact hx.symm
    by_cases hok : bOk a b c d
    · by_cases hlen : out.length ≤ 400
      · have hp := iPlay_ev a b c d out hout
        have hpl := play_len out (a, b, c, d)
        have hplay : playP a b c d out = ((playS (a, b, c, d) out).1.1, (playS (a, b, c, d) out).1.2.1, (playS (a, b, c, d) out).1.2.2.1, (playS (a, b, c, d) out).1.2.2.2, (playS (a, b, c, d) out).2) := if_pos ⟨hok, hlen⟩
        rw [hplay] at hp
        have hle := taken_le out (a, b, c, d) hok
        have hlaw := lawCeil_l out (playS (a, b, c, d) out).2 hout hpl a b c d out.length 0 d (by omega) (by omega)
        rw [List.drop_zero, List.drop_zero] at hlaw
        have hfin : decide (takenP a b c d out ≤ ceilP a b c d (nowC out (playS (a, b, c, d) out).2 d)) = true := by
          refine decide_eq_true ?_
          unfold takenP ceilP
          rw [if_pos ⟨hok, hlen⟩, if_pos ⟨hok, hle.1, hle.2.1⟩]
          exact hle.2.2
        rw [hfin] at hlaw
        obtain ⟨n, k0, k1, k2⟩ := evs3 e0 hp hlaw
        refine ⟨n + 1, ?_⟩
        have k0' := k0 1
        have k1' := k1 0
        have k2' := k2 0
        rw [Nat.add_zero] at k1' k2'
        have hb : laws_big.f code = some false := by simp only [laws_big.f, decide_eq_false hbig]
        simp only [laws_FnCeiling.f, hb, Option.bind_some, Bool.false_eq_true, if_false, k0', sBucket, decide_eq_true hok, if_true, decide_eq_false (show ¬ ((out.length : Int) > 400) by omega), laws_FnCeiling.j0, k1', hpl]
        exact k2'
      · obtain ⟨n, k0⟩ := evs1 e0
        refine ⟨n + 1, ?_⟩
        have k0' := k0 1
        have hb : laws_big.f code = some false := by simp only [laws_big.f, decide_eq_false hbig]
        simp only [laws_FnCeiling.f, hb, Option.bind_some, Bool.false_eq_true, if_false, k0', sBucket, decide_eq_true hok, if_true, decide_eq_true (show ((out.length : Int) > 400) by omega), laws_FnCeiling.j0]
    · obtain ⟨n, k0⟩ := evs1 e0
      refine ⟨n + 1, ?_⟩
      have k0' := k0 1
      have hb : laws_big.f code = some false := by simp only [laws_big.f, decide_eq_false hbig]
      simp only [laws_FnCeiling.f, hb, Option.bind_some, Bool.false_eq_true, if_false, k0', sBucket, decide_eq_false hok, laws_FnCeiling.j0, if_true]

end Go.Proofs.Ytpomhmcehbefaaa.Pure

/- Lemmas on the printed functions of FnExactMerge: what each comes to. -/
import Derived.Test.YtpomhmcehbefaaaPFnExactMergex
import Derived.Test.YtpomhmcehbefaaaNtt
namespace Go.Proofs.Ytpomhmcehbefaaa.QFnExactMerge
open Go.RowKit Go.Proofs.Ytpomhmcehbefaaa.PFnExactMerge Go.Proofs.YtpomhmcehbefaaaW.PrintWords Go.Proofs.YtpomhmcehbefaaaW.PrintLast Go.Proofs.Ytpomhmcehbefaaa.Math
set_option linter.unusedVariables false
set_option linter.unusedSimpArgs false

-- block l01In
theorem in_eq (a b c : Int) : spec_l01In.f a b c = some (decide (b ≤ a ∧ a ≤ c)) := by
  simp only [spec_l01In.f, if_dec]

-- block bOk
def bOk (a b c d : Int) : Prop := 0 ≤ a ∧ a ≤ 1000000000 ∧ 0 ≤ b ∧ b ≤ 1000000 ∧ 0 ≤ c ∧ c ≤ a ∧ 0 ≤ d ∧ d ≤ 1000000000
instance bOk_dec (a b c d : Int) : Decidable (bOk a b c d) := by unfold bOk; infer_instance

-- block sBucket
theorem sBucket (a b c d : Int) : spec_BucketOk.f a b c d = some (decide (bOk a b c d)) := by
  simp only [spec_BucketOk.f, in_eq, Option.bind_some, decide_eq_true_eq, if_dec]
  exact congrArg some (decide_eq_decide.2 (by unfold bOk; omega))

-- block iBucket
theorem iBucket (a b c d : Int) : impl_isBucket.f a b c d = some (decide (bOk a b c d)) := by
  simp only [impl_isBucket.f, if_dec]
  exact congrArg some (decide_eq_decide.2 (by unfold bOk; omega))

-- block fillP
/-- A bucket at a tick: its level there, and whether it can be. -/
def fillOk (a b c d n : Int) : Prop := bOk a b c d ∧ d ≤ n ∧ n ≤ 1000000000
instance fillOk_dec (a b c d n : Int) : Decidable (fillOk a b c d n) := by unfold fillOk; infer_instance
def lvl (a b c d n : Int) : Int := if a < c + b * (n - d) then a else c + b * (n - d)
def fillP (a b c d n : Int) : Int × Int × Int × Int × Bool := if fillOk a b c d n then (a, b, lvl a b c d n, n, true) else (a, b, c, d, false)
theorem fill_range {a b c d n : Int} (h : fillOk a b c d n) : 0 ≤ b * (n - d) ∧ b * (n - d) ≤ 1000000000000000 := by
  unfold fillOk bOk at h
  constructor
  · exact Int.mul_nonneg (by omega) (by omega)
  · have h1 : b * (n - d) ≤ 1000000 * (n - d) := Int.mul_le_mul_of_nonneg_right (by omega) (by omega)
    omega
theorem fill_words {a b c d n : Int} (h : fillOk a b c d n) : wrap64 (c + wrap64 (b * wrap64 (n - d))) = c + b * (n - d) := by
  have hr := fill_range h
  unfold fillOk bOk at h
  rw [w64 (x := n - d) (by omega) (by omega), w64 (x := b * (n - d)) (by omega) (by omega), w64 (by omega) (by omega)]
theorem lvl_ok {a b c d n : Int} (h : fillOk a b c d n) : bOk a b (lvl a b c d n) n ∧ c ≤ lvl a b c d n := by
  have hr := fill_range h
  unfold fillOk bOk at h
  unfold bOk lvl
  split <;> omega

-- block iFill
theorem iFill (a b c d n : Int) : impl_fillBucket.f a b c d n = some (fillP a b c d n) := by
  simp only [impl_fillBucket.f, iBucket, Option.bind_some, decide_eq_true_eq, fillP]
  by_cases h : bOk a b c d
  · rw [if_pos h]
    by_cases h1 : n < d
    · have hf : ¬ fillOk a b c d n := fun hf => by have := hf.2.1; omega
      rw [if_pos h1, if_neg hf]
    · rw [if_neg h1]
      by_cases h2 : n > 1000000000
      · have hf : ¬ fillOk a b c d n := fun hf => by have := hf.2.2; omega
        rw [if_pos h2, if_neg hf]
      · rw [if_neg h2]
        have hf : fillOk a b c d n := ⟨h, by omega, by omega⟩
        rw [if_pos hf, fill_words hf, mn_eq]
        rfl
  · have hf : ¬ fillOk a b c d n := fun hf => h hf.1
    rw [if_neg h, if_neg hf]

-- block sFill
theorem sFill (k : Nat) (a b c d n : Int) : spec_FillBucket.f (k + 1) a b c d n = some (fillP a b c d n) := by
  simp only [spec_FillBucket.f, sBucket, in_eq, Option.bind_some, decide_eq_true_eq, fillP, spec_FillBucket.j0]
  by_cases h : bOk a b c d
  · rw [if_pos h]
    by_cases h1 : d ≤ n ∧ n ≤ 1000000000
    · have hf : fillOk a b c d n := ⟨h, h1.1, h1.2⟩
      simp only [if_pos hf, h1, decide_true, Bool.not_true, Bool.false_eq_true, if_false, fill_words hf, and_self]
      unfold lvl
      by_cases h3 : a < c + b * (n - d)
      · rw [if_pos h3, if_pos h3]
      · rw [if_neg h3, if_neg h3]
    · have hf : ¬ fillOk a b c d n := fun hf => h1 ⟨hf.2.1, hf.2.2⟩
      simp only [if_neg hf, h1, decide_false, Bool.not_false, if_true]
  · have hf : ¬ fillOk a b c d n := fun hf => h hf.1
    simp only [if_neg h, if_neg hf, if_true]

-- block eqBucket
theorem eqBucket_self (a b c d : Int) : laws_eqBucket.f a b c d a b c d = some true := by
  simp [laws_eqBucket.f]

-- block mrgP
def mrgP (a0 a1 a2 a3 b0 b1 b2 b3 n : Int) : Int × Int × Int × Int × Bool :=
  if fillOk a0 a1 a2 a3 n ∧ fillOk b0 b1 b2 b3 n then (if bOk (wrap64 (a0 + b0)) (wrap64 (a1 + b1)) (wrap64 (lvl a0 a1 a2 a3 n + lvl b0 b1 b2 b3 n)) n then (wrap64 (a0 + b0), wrap64 (a1 + b1), wrap64 (lvl a0 a1 a2 a3 n + lvl b0 b1 b2 b3 n), n, true) else (0, 0, 0, 0, false)) else (0, 0, 0, 0, false)
def mrgN (a3 b3 : Int) : Int := if a3 < b3 then b3 else a3

-- block iMerge
theorem iMerge (a0 a1 a2 a3 b0 b1 b2 b3 : Int) : impl_Merge.f a0 a1 a2 a3 b0 b1 b2 b3 = some (mrgP a0 a1 a2 a3 b0 b1 b2 b3 (mrgN a3 b3)) := by
  have hn : mx a3 b3 = mrgN a3 b3 := mx_eq a3 b3
  simp only [impl_Merge.f, iFill, iBucket, hn, Option.bind_some]
  generalize mrgN a3 b3 = n
  unfold mrgP fillP
  by_cases h1 : fillOk a0 a1 a2 a3 n
  · by_cases h2 : fillOk b0 b1 b2 b3 n
    · simp only [if_pos h1, if_pos h2, if_true, h1, h2, and_self]
      by_cases h3 : bOk (wrap64 (a0 + b0)) (wrap64 (a1 + b1)) (wrap64 (lvl a0 a1 a2 a3 n + lvl b0 b1 b2 b3 n)) n
      · simp only [decide_eq_true h3, if_true, if_pos h3]
      · simp only [decide_eq_false h3, Bool.false_eq_true, if_false, if_neg h3]
    · simp only [if_pos h1, if_neg h2, if_true, Bool.false_eq_true, if_false, h2, and_false]
  · simp only [if_neg h1, Bool.false_eq_true, if_false, h1, false_and]

-- block sMerge
theorem sMerge (a0 a1 a2 a3 b0 b1 b2 b3 : Int) (k : Nat) : spec_Merge.f (k + 3) a0 a1 a2 a3 b0 b1 b2 b3 = some (mrgP a0 a1 a2 a3 b0 b1 b2 b3 (mrgN a3 b3)) := by
  have key : ∀ n, spec_Merge.j0 (k + 3) n a0 a1 a2 a3 b0 b1 b2 b3 = some (mrgP a0 a1 a2 a3 b0 b1 b2 b3 n) := by
    intro n
    have f1 := sFill (k + 1) a0 a1 a2 a3 n
    have f2 := sFill (k + 1) b0 b1 b2 b3 n
    rw [show k + 1 + 1 = k + 2 from rfl] at f1 f2
    rw [show k + 3 = k + 2 + 1 from rfl]
    simp only [spec_Merge.j0, f1, f2, Option.bind_some]
    rw [show k + 2 = k + 1 + 1 from rfl]
    simp only [spec_Merge.j1, sBucket, Option.bind_some]
    unfold mrgP fillP
    by_cases h1 : fillOk a0 a1 a2 a3 n
    · by_cases h2 : fillOk b0 b1 b2 b3 n
      · simp only [if_pos h1, if_pos h2, if_true, h1, h2, and_self, Bool.not_true, Bool.false_eq_true, if_false]
        by_cases h3 : bOk (wrap64 (a0 + b0)) (wrap64 (a1 + b1)) (wrap64 (lvl a0 a1 a2 a3 n + lvl b0 b1 b2 b3 n)) n
        · simp only [decide_eq_true h3, if_true, if_pos h3]
        · simp only [decide_eq_false h3, Bool.false_eq_true, if_false, if_neg h3]
      · simp only [if_pos h1, if_neg h2, if_true, Bool.not_false, h2, and_false, if_false]
    · simp only [if_neg h1, Bool.false_eq_true, if_true, if_false, h1, false_and]
  unfold mrgN
  by_cases h : a3 < b3
  · simp only [spec_Merge.f]
    rw [if_pos (show b3 > a3 from h), if_pos h]
    exact key b3
  · simp only [spec_Merge.f]
    rw [if_neg (show ¬ b3 > a3 from h), if_neg h]
    exact key a3

end Go.Proofs.Ytpomhmcehbefaaa.QFnExactMerge

/- Lemmas on the printed functions of FnExactTakeUnits: what each comes to. -/
import Derived.Test.YtjgggiophbnghaaPFnExactTakeUnitsx
import Derived.Test.YtjgggiophbnghaaMath
namespace Go.Proofs.Ytjgggiophbnghaa.QFnExactTakeUnits
open Go.RowKit Go.Proofs.Ytjgggiophbnghaa.PFnExactTakeUnits Go.Proofs.YtjgggiophbnghaaW.PrintWords Go.Proofs.YtjgggiophbnghaaW.PrintLast Go.Proofs.Ytjgggiophbnghaa.Math
set_option linter.unusedVariables false
set_option linter.unusedSimpArgs false

-- block l01In
theorem in_eq (a b c : Int) : spec_l01In.f a b c = some (decide (b ≤ a ∧ a ≤ c)) := by
  simp only [spec_l01In.f, if_dec]

-- block bOk
def bOk (a b c d : Int) : Prop := 0 ≤ a ∧ a ≤ 1000000000 ∧ 0 ≤ b ∧ b ≤ 1000000 ∧ 0 ≤ c ∧ c ≤ a ∧ 0 ≤ d ∧ d ≤ 1000000000
instance bOk_dec (a b c d : Int) : Decidable (bOk a b c d) := by unfold bOk; infer_instance

-- block sBucket
theorem sBucket (a b c d : Int) : spec_BucketOk.f a b c d = some (decide (bOk a b c d)) := by
  simp only [spec_BucketOk.f, in_eq, Option.bind_some, decide_eq_true_eq, if_dec]
  exact congrArg some (decide_eq_decide.2 (by unfold bOk; omega))

-- block iBucket
theorem iBucket (a b c d : Int) : impl_isBucket.f a b c d = some (decide (bOk a b c d)) := by
  simp only [impl_isBucket.f, if_dec]
  exact congrArg some (decide_eq_decide.2 (by unfold bOk; omega))

-- block fillP
/-- A bucket at a tick: its level there, and whether it can be. -/
def fillOk (a b c d n : Int) : Prop := bOk a b c d ∧ d ≤ n ∧ n ≤ 1000000000
instance fillOk_dec (a b c d n : Int) : Decidable (fillOk a b c d n) := by unfold fillOk; infer_instance
def lvl (a b c d n : Int) : Int := if a < c + b * (n - d) then a else c + b * (n - d)
def fillP (a b c d n : Int) : Int × Int × Int × Int × Bool := if fillOk a b c d n then (a, b, lvl a b c d n, n, true) else (a, b, c, d, false)
theorem fill_range {a b c d n : Int} (h : fillOk a b c d n) : 0 ≤ b * (n - d) ∧ b * (n - d) ≤ 1000000000000000 := by
  unfold fillOk bOk at h
  constructor
  · exact Int.mul_nonneg (by omega) (by omega)
  · have h1 : b * (n - d) ≤ 1000000 * (n - d) := Int.mul_le_mul_of_nonneg_right (by omega) (by omega)
    omega
theorem fill_words {a b c d n : Int} (h : fillOk a b c d n) : wrap64 (c + wrap64 (b * wrap64 (n - d))) = c + b * (n - d) := by
  have hr := fill_range h
  unfold fillOk bOk at h
  rw [w64 (x := n - d) (by omega) (by omega), w64 (x := b * (n - d)) (by omega) (by omega), w64 (by omega) (by omega)]
theorem lvl_ok {a b c d n : Int} (h : fillOk a b c d n) : bOk a b (lvl a b c d n) n ∧ c ≤ lvl a b c d n := by
  have hr := fill_range h
  unfold fillOk bOk at h
  unfold bOk lvl
  split <;> omega

-- block iFill
theorem iFill (a b c d n : Int) : impl_fillBucket.f a b c d n = some (fillP a b c d n) := by
  simp only [impl_fillBucket.f, iBucket, Option.bind_some, decide_eq_true_eq, fillP]
  by_cases h : bOk a b c d
  · rw [if_pos h]
    by_cases h1 : n < d
    · have hf : ¬ fillOk a b c d n := fun hf => by have := hf.2.1; omega
      rw [if_pos h1, if_neg hf]
    · rw [if_neg h1]
      by_cases h2 : n > 1000000000
      · have hf : ¬ fillOk a b c d n := fun hf => by have := hf.2.2; omega
        rw [if_pos h2, if_neg hf]
      · rw [if_neg h2]
        have hf : fillOk a b c d n := ⟨h, by omega, by omega⟩
        rw [if_pos hf, fill_words hf, mn_eq]
        rfl
  · have hf : ¬ fillOk a b c d n := fun hf => h hf.1
    rw [if_neg h, if_neg hf]

-- block sFill
theorem sFill (k : Nat) (a b c d n : Int) : spec_FillBucket.f (k + 1) a b c d n = some (fillP a b c d n) := by
  simp only [spec_FillBucket.f, sBucket, in_eq, Option.bind_some, decide_eq_true_eq, fillP, spec_FillBucket.j0]
  by_cases h : bOk a b c d
  · rw [if_pos h]
    by_cases h1 : d ≤ n ∧ n ≤ 1000000000
    · have hf : fillOk a b c d n := ⟨h, h1.1, h1.2⟩
      simp only [if_pos hf, h1, decide_true, Bool.not_true, Bool.false_eq_true, if_false, fill_words hf, and_self]
      unfold lvl
      by_cases h3 : a < c + b * (n - d)
      · rw [if_pos h3, if_pos h3]
      · rw [if_neg h3, if_neg h3]
    · have hf : ¬ fillOk a b c d n := fun hf => h1 ⟨hf.2.1, hf.2.2⟩
      simp only [if_neg hf, h1, decide_false, Bool.not_false, if_true]
  · have hf : ¬ fillOk a b c d n := fun hf => h hf.1
    simp only [if_neg h, if_neg hf, if_true]

-- block eqBucket
theorem eqBucket_self (a b c d : Int) : laws_eqBucket.f a b c d a b c d = some true := by
  simp [laws_eqBucket.f]

-- block takeP
/-- A bucket with units taken from it, and the code. -/
def takeP (a b c d now u : Int) : Int × Int × Int × Int × Int :=
  if ¬ fillOk a b c d now ∨ u < 0 then (a, b, c, d, 1) else if u > a then (a, b, c, d, 2) else if lvl a b c d now < u then (a, b, c, d, 3) else (a, b, lvl a b c d now - u, now, 0)
theorem take_bOk {a b c d now u : Int} (h : bOk a b c d) : bOk (takeP a b c d now u).1 (takeP a b c d now u).2.1 (takeP a b c d now u).2.2.1 (takeP a b c d now u).2.2.2.1 := by
  unfold takeP
  by_cases h1 : ¬ fillOk a b c d now ∨ u < 0
  · rw [if_pos h1]; exact h
  · rw [if_neg h1]
    have hf : fillOk a b c d now := Classical.not_not.1 fun h2 => h1 (Or.inl h2)
    have hu : ¬ u < 0 := fun h2 => h1 (Or.inr h2)
    have hl := (lvl_ok hf).1
    by_cases h2 : u > a
    · rw [if_pos h2]; exact h
    · rw [if_neg h2]
      by_cases h3 : lvl a b c d now < u
      · rw [if_pos h3]; exact h
      · rw [if_neg h3]
        unfold bOk at hl ⊢
        simp only
        omega

-- block sTake
theorem sTake (k : Nat) (a b c d now u : Int) : spec_TakeUnits.f (k + 1) a b c d now u = some (takeP a b c d now u) := by
  simp only [spec_TakeUnits.f, sFill, Option.bind_some, fillP, takeP, spec_TakeUnits.j0]
  by_cases hf : fillOk a b c d now
  · have hl := (lvl_ok hf).1
    simp only [if_pos hf, hf, not_true_eq_false, false_or, if_true, decide_eq_true_eq]
    by_cases h1 : u < 0
    · rw [if_pos h1, if_pos h1]
    · rw [if_neg h1, if_neg h1]
      by_cases h2 : u > a
      · rw [if_pos h2, if_pos h2]
      · rw [if_neg h2, if_neg h2]
        by_cases h3 : lvl a b c d now < u
        · rw [if_pos h3, if_pos h3]
        · unfold bOk at hl
          rw [if_neg h3, if_neg h3, w64 (by omega) (by omega)]
  · simp only [if_neg hf, hf, not_false_eq_true, true_or, if_true, Bool.false_eq_true, if_false]

-- block iTake
theorem iTake (k : Nat) (a b c d now u : Int) : impl_takeUnits.f (k + 1) a b c d now u = some (takeP a b c d now u) := by
  simp only [impl_takeUnits.f, iFill, Option.bind_some, fillP, takeP, impl_takeUnits.j0]
  by_cases hf : fillOk a b c d now
  · have hl := (lvl_ok hf).1
    simp only [if_pos hf, hf, not_true_eq_false, false_or, if_true, decide_eq_true_eq]
    by_cases h1 : u < 0
    · rw [if_pos h1, if_pos h1]
    · rw [if_neg h1, if_neg h1]
      by_cases h2 : u > a
      · rw [if_pos h2, if_pos h2]
      · rw [if_neg h2, if_neg h2]
        by_cases h3 : lvl a b c d now < u
        · rw [if_pos h3, if_pos h3]
        · unfold bOk at hl
          rw [if_neg h3, if_neg h3, w64 (by omega) (by omega)]
  · simp only [if_neg hf, hf, not_false_eq_true, true_or, if_true, Bool.false_eq_true, if_false]

-- block iTakeUnits
theorem iTakeUnits (k : Nat) (a b c d now u : Int) : impl_TakeUnits.f (k + 1) a b c d now u = some (takeP a b c d now u) := by
  simp only [impl_TakeUnits.f, iTake, Option.bind_some]

end Go.Proofs.Ytjgggiophbnghaa.QFnExactTakeUnits

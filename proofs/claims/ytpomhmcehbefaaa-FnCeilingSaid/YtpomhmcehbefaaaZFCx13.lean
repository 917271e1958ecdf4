/- Lemmas on the printed functions of FnCeiling: what each comes to. -/
import Derived.Test.YtpomhmcehbefaaaZFCx12
import Derived.Test.YtpomhmcehbefaaaZFCV
namespace Go.Proofs.Ytpomhmcehbefaaa.QFnCeiling
open Go.RowKit Go.Proofs.Ytpomhmcehbefaaa.PFnCeiling Go.Proofs.YtpomhmcehbefaaaW.PrintWords Go.Proofs.YtpomhmcehbefaaaW.PrintLast Go.Proofs.Ytpomhmcehbefaaa.Math
set_option linter.unusedVariables false
set_option linter.unusedSimpArgs false

-- block l01In
theorem in_eq (a b c : Int) : spec_l01In.f a b c = some (decide (b ≤ a ∧ a ≤ c)) := by
  simp only [spec_l01In.f, if_dec]

-- block bOk
def bOk (a b c d : Int) : Prop := 0 ≤ a ∧ a ≤ 1000000000 ∧ 0 ≤ b ∧ b ≤ 1000000 ∧ 0 ≤ c ∧ c ≤ a ∧ 0 ≤ d ∧ d ≤ 1000000000
instance bOk_dec (a b c d : Int) : Decidable (bOk a b c d) := by unfold bOk; infer_instance

-- block sBucket
theorem sBucket (a b c d : Int) : spec_BucketOk.f a b c d = some (decide (bOk a b c d)) := by
  simp only [spec_BucketOk.f, in_eq, Option.bind_some, decide_eq_true_eq, if_dec]
  exact congrArg some (decide_eq_decide.2 (by unfold bOk; omega))

-- block iBucket
theorem iBucket (a b c d : Int) : impl_isBucket.f a b c d = some (decide (bOk a b c d)) := by
  simp only [impl_isBucket.f, if_dec]
  exact congrArg some (decide_eq_decide.2 (by unfold bOk; omega))

-- block fillP
/-- A bucket at a tick: its level there, and whether it can be. -/
def fillOk (a b c d n : Int) : Prop := bOk a b c d ∧ d ≤ n ∧ n ≤ 1000000000
instance fillOk_dec (a b c d n : Int) : Decidable (fillOk a b c d n) := by unfold fillOk; infer_instance
def lvl (a b c d n : Int) : Int := if a < c + b * (n - d) then a else c + b * (n - d)
def fillP (a b c d n : Int) : Int × Int × Int × Int × Bool := if fillOk a b c d n then (a, b, lvl a b c d n, n, true) else (a, b, c, d, false)
theorem fill_range {a b c d n : Int} (h : fillOk a b c d n) : 0 ≤ b * (n - d) ∧ b * (n - d) ≤ 1000000000000000 := by
  unfold fillOk bOk at h
  constructor
  · exact Int.mul_nonneg (by omega) (by omega)
  · have h1 : b * (n - d) ≤ 1000000 * (n - d) := Int.mul_le_mul_of_nonneg_right (by omega) (by omega)
    omega
theorem fill_words {a b c d n : Int} (h : fillOk a b c d n) : wrap64 (c + wrap64 (b * wrap64 (n - d))) = c + b * (n - d) := by
  have hr := fill_range h
  unfold fillOk bOk at h
  rw [w64 (x := n - d) (by omega) (by omega), w64 (x := b * (n - d)) (by omega) (by omega), w64 (by omega) (by omega)]
theorem lvl_ok {a b c d n : Int} (h : fillOk a b c d n) : bOk a b (lvl a b c d n) n ∧ c ≤ lvl a b c d n := by
  have hr := fill_range h
  unfold fillOk bOk at h
  unfold bOk lvl
  split <;> omega

-- block iFill
theorem iFill (a b c d n : Int) : impl_fillBucket.f a b c d n = some (fillP a b c d n) := by
  simp only [impl_fillBucket.f, iBucket, Option.bind_some, decide_eq_true_eq, fillP]
  by_cases h : bOk a b c d
  · rw [if_pos h]
    by_cases h1 : n < d
    · have hf : ¬ fillOk a b c d n := fun hf => by have := hf.2.1; omega
      rw [if_pos h1, if_neg hf]
    · rw [if_neg h1]
      by_cases h2 : n > 1000000000
      · have hf : ¬ fillOk a b c d n := fun hf => by have := hf.2.2; omega
        rw [if_pos h2, if_neg hf]
      · rw [if_neg h2]
        have hf : fillOk a b c d n := ⟨h, by omega, by omega⟩
        rw [if_pos hf, fill_words hf, mn_eq]
        rfl
  · have hf : ¬ fillOk a b c d n := fun hf => h hf.1
    rw [if_neg h, if_neg hf]

-- block sFill
theorem sFill (k : Nat) (a b c d n : Int) : spec_FillBucket.f (k + 1) a b c d n = some (fillP a b c d n) := by
  simp only [spec_FillBucket.f, sBucket, in_eq, Option.bind_some, decide_eq_true_eq, fillP, spec_FillBucket.j0]
  by_cases h : bOk a b c d
  · rw [if_pos h]
    by_cases h1 : d ≤ n ∧ n ≤ 1000000000
    · have hf : fillOk a b c d n := ⟨h, h1.1, h1.2⟩
      simp only [if_pos hf, h1, decide_true, Bool.not_true, Bool.false_eq_true, if_false, fill_words hf, and_self]
      unfold lvl
      by_cases h3 : a < c + b * (n - d)
      · rw [if_pos h3, if_pos h3]
      · rw [if_neg h3, if_neg h3]
    · have hf : ¬ fillOk a b c d n := fun hf => h1 ⟨hf.2.1, hf.2.2⟩
      simp only [if_neg hf, h1, decide_false, Bool.not_false, if_true]
  · have hf : ¬ fillOk a b c d n := fun hf => h hf.1
    simp only [if_neg h, if_neg hf, if_true]

-- block ceilP
def ceilP (a b c d n : Int) : Int := if fillOk a b c d n then c + b * (n - d) else -1

-- block iCeiling
theorem iCeiling (a b c d n : Int) : impl_Ceiling.f a b c d n = some (ceilP a b c d n) := by
  simp only [impl_Ceiling.f, iFill, Option.bind_some, fillP, ceilP]
  by_cases hf : fillOk a b c d n
  · rw [if_pos hf, if_pos hf]
    simp only [if_true]
    rw [fill_words hf]
  · rw [if_neg hf, if_neg hf]
    simp

-- block takeP
/-- A bucket with units taken from it, and the code. -/
def takeP (a b c d now u : Int) : Int × Int × Int × Int × Int :=
  if ¬ fillOk a b c d now ∨ u < 0 then (a, b, c, d, 1) else if u > a then (a, b, c, d, 2) else if lvl a b c d now < u then (a, b, c, d, 3) else (a, b, lvl a b c d now - u, now, 0)
theorem take_bOk {a b c d now u : Int} (h : bOk a b c d) : bOk (takeP a b c d now u).1 (takeP a b c d now u).2.1 (takeP a b c d now u).2.2.1 (takeP a b c d now u).2.2.2.1 := by
  unfold takeP
  by_cases h1 : ¬ fillOk a b c d now ∨ u < 0
  · rw [if_pos h1]; exact h
  · rw [if_neg h1]
    have hf : fillOk a b c d now := Classical.not_not.1 fun h2 => h1 (Or.inl h2)
    have hu : ¬ u < 0 := fun h2 => h1 (Or.inr h2)
    have hl := (lvl_ok hf).1
    by_cases h2 : u > a
    · rw [if_pos h2]; exact h
    · rw [if_neg h2]
      by_cases h3 : lvl a b c d now < u
      · rw [if_pos h3]; exact h
      · rw [if_neg h3]
        unfold bOk at hl ⊢
        simp only
        omega

-- block sTake
theorem sTake (k : Nat) (a b c d now u : Int) : spec_TakeUnits.f (k + 1) a b c d now u = some (takeP a b c d now u) := by
  simp only [spec_TakeUnits.f, sFill, Option.bind_some, fillP, takeP, spec_TakeUnits.j0]
  by_cases hf : fillOk a b c d now
  · have hl := (lvl_ok hf).1
    simp only [if_pos hf, hf, not_true_eq_false, false_or, if_true, decide_eq_true_eq]
    by_cases h1 : u < 0
    · rw [if_pos h1, if_pos h1]
    · rw [if_neg h1, if_neg h1]
      by_cases h2 : u > a
      · rw [if_pos h2, if_pos h2]
      · rw [if_neg h2, if_neg h2]
        by_cases h3 : lvl a b c d now < u
        · rw [if_pos h3, if_pos h3]
        · unfold bOk at hl
          rw [if_neg h3, if_neg h3, w64 (by omega) (by omega)]
  · simp only [if_neg hf, hf, not_false_eq_true, true_or, if_true, Bool.false_eq_true, if_false]

-- block iTake
theorem iTake (k : Nat) (a b c d now u : Int) : impl_takeUnits.f (k + 1) a b c d now u = some (takeP a b c d now u) := by
  simp only [impl_takeUnits.f, iFill, Option.bind_some, fillP, takeP, impl_takeUnits.j0]
  by_cases hf : fillOk a b c d now
  · have hl := (lvl_ok hf).1
    simp only [if_pos hf, hf, not_true_eq_false, false_or, if_true, decide_eq_true_eq]
    by_cases h1 : u < 0
    · rw [if_pos h1, if_pos h1]
    · rw [if_neg h1, if_neg h1]
      by_cases h2 : u > a
      · rw [if_pos h2, if_pos h2]
      · rw [if_neg h2, if_neg h2]
        by_cases h3 : lvl a b c d now < u
        · rw [if_pos h3, if_pos h3]
        · unfold bOk at hl
          rw [if_neg h3, if_neg h3, w64 (by omega) (by omega)]
  · simp only [if_neg hf, hf, not_false_eq_true, true_or, if_true, Bool.false_eq_true, if_false]

-- block rdAsk
theorem rdAsk {xs : List S66} {i : Nat} (h : i < xs.length) : rd_T66 xs (i : Int) = xs[i] := by
  simp [rd_T66, List.getD_eq_getElem?_getD, List.getElem?_eq_getElem h]

-- block fldOk
def fldOk (f : Int) : Prop := 0 ≤ f ∧ f < 9
instance fldOk_dec (f : Int) : Decidable (fldOk f) := by unfold fldOk; infer_instance
def fP : List Int := [17, 97, 193, 257, 7681, 12289, 998244353, 469762049, 1004535809]
def fG : List Int := [3, 5, 5, 3, 17, 11, 3, 3, 3]
def fT : List Int := [4, 5, 6, 8, 9, 12, 23, 26, 21]
theorem fld_cases {f : Int} (h : fldOk f) {Q : Int → Prop} (h0 : Q 0) (h1 : Q 1) (h2 : Q 2) (h3 : Q 3) (h4 : Q 4) (h5 : Q 5) (h6 : Q 6) (h7 : Q 7) (h8 : Q 8) : Q f := by
  unfold fldOk at h
  have : f = 0 ∨ f = 1 ∨ f = 2 ∨ f = 3 ∨ f = 4 ∨ f = 5 ∨ f = 6 ∨ f = 7 ∨ f = 8 := by omega
  rcases this with rfl | rfl | rfl | rfl | rfl | rfl | rfl | rfl | rfl <;> assumption

-- block elemB
def elemB (p : Int) (l : List Int) : Bool := allF l.length 0 (fun j => decide (0 ≤ rd l (j : Int) ∧ rd l (j : Int) < p))
theorem elemB_iff (p : Int) (l : List Int) : elemB p l = true ↔ ∀ x ∈ l, 0 ≤ x ∧ x < p := by
  unfold elemB
  rw [allF_iff]
  constructor
  · intro h x hx
    obtain ⟨j, hj, rfl⟩ := List.getElem_of_mem hx
    have := h j (by omega) (by omega)
    rw [decide_eq_true_eq, rd_eq hj] at this
    exact this
  · intro h j _ hj
    rw [decide_eq_true_eq, rd_eq (by omega)]
    exact h _ (List.getElem_mem _)

-- block two
def two (f : Int) : Int := if fldOk f then rd fT f else -1

-- block halfK
def halfK (k : Int) : Int := 2 ^ (k.toNat - 1)
theorem shl_half {k : Int} (h1 : 1 ≤ k) (h9 : k ≤ 9) : shl .i64 1 (wrap64 (k - 1)) = halfK k ∧ wrap64 (Int.tdiv (shl .i64 1 (IntKind.u64.wrap k)) 2) = halfK k ∧ 1 ≤ halfK k ∧ halfK k ≤ 256 := by
  have : k = 1 ∨ k = 2 ∨ k = 3 ∨ k = 4 ∨ k = 5 ∨ k = 6 ∨ k = 7 ∨ k = 8 ∨ k = 9 := by omega
  rcases this with rfl | rfl | rfl | rfl | rfl | rfl | rfl | rfl | rfl <;> decide +kernel

-- block drawByte
/-- A place of a row to draw from, or its end. -/
def dAt (l : List Int) (i : Int) : Prop := 0 ≤ i ∧ i ≤ l.length
theorem drawByte (l : List Int) (hn : l.length ≤ 140737488355328) (i h : Int) (hi : dAt l i) : ∃ b i' h', spec_l01Byte.f l i h = some (b, i', h') ∧ (0 ≤ b ∧ b ≤ 255) ∧ dAt l i' := by
  unfold dAt at hi ⊢
  simp only [spec_l01Byte.f]
  by_cases hl : i < (l.length : Int)
  · rw [if_pos hl, if_pos hi.1]
    exact ⟨_, _, _, rfl, bits_and _ 255 (by decide), by rw [w64 (by omega) (by omega)]; omega⟩
  · rw [if_neg hl]
    exact ⟨_, _, _, rfl, bits_and _ 255 (by decide), hi⟩

-- block drawBelow
theorem drawBelow (l : List Int) (hn : l.length ≤ 140737488355328) (i h : Int) (hi : dAt l i) (m : Int) : ∃ b i' h', spec_l01Below.f l i h m = some (b, i', h') ∧ (0 ≤ b ∧ (b < m ∨ b = 0)) ∧ dAt l i' := by
  simp only [spec_l01Below.f]
  by_cases h0 : m ≤ 0
  · rw [if_pos h0]
    exact ⟨_, _, _, rfl, by omega, hi⟩
  · rw [if_neg h0]
    obtain ⟨b1, i1, h1, e1, r1, d1⟩ := drawByte l hn i h hi
    rw [e1]
    by_cases hm : m ≤ 256
    · rw [if_pos hm, Option.bind_some, if_neg (by omega)]
      refine ⟨_, _, _, rfl, ?_, d1⟩
      simp only
      rw [Int.tmod_eq_emod_of_nonneg (by omega)]
      exact ⟨Int.emod_nonneg _ (by omega), Or.inl (Int.emod_lt_of_pos _ (by omega))⟩
    · rw [if_neg hm, Option.bind_some]
      obtain ⟨b2, i2, h2, e2, r2, d2⟩ := drawByte l hn i1 h1 d1
      rw [e2, Option.bind_some]
      obtain ⟨b3, i3, h3, e3, r3, d3⟩ := drawByte l hn i2 h2 d2
      rw [e3, Option.bind_some, if_neg (by omega)]
      refine ⟨_, _, _, rfl, ?_, d3⟩
      simp only
      rw [w64 (x := b1 * 65536) (by omega) (by omega), w64 (x := b2 * 256) (by omega) (by omega), w64 (x := b1 * 65536 + b2 * 256) (by omega) (by omega), w64 (by omega) (by omega), Int.tmod_eq_emod_of_nonneg (by omega)]
      exact ⟨Int.emod_nonneg _ (by omega), Or.inl (Int.emod_lt_of_pos _ (by omega))⟩

-- block drawPickInt
theorem drawPickInt (l : List Int) (hn : l.length ≤ 140737488355328) (i h : Int) (hi : dAt l i) (xs : List Int) (hx : 0 < xs.length) : ∃ b i' h', spec_l01PickInt.f l i h xs = some (b, i', h') ∧ b ∈ xs ∧ dAt l i' := by
  simp only [spec_l01PickInt.f]
  obtain ⟨b1, i1, h1, e1, r1, d1⟩ := drawBelow l hn i h hi (xs.length : Int)
  rw [e1, Option.bind_some, if_pos r1.1, if_pos (by simp only; omega)]
  refine ⟨_, _, _, rfl, ?_, d1⟩
  simp only
  rw [show b1 = ((b1.toNat : Nat) : Int) by omega]
  exact rd_mem (by omega)

-- block drawNew
theorem drawNew_l (l : List Int) (hn : l.length ≤ 140737488355328) : ∀ (d i : Nat) (h : Int), 4000 - i = d → ∃ h', Ev (fun k => spec_l01New.l0 k l h (i : Int)) (l, 0, h') := by
  intro d
  induction d with
  | zero =>
    intro i h hd
    refine ⟨h, ev_now fun k => ?_⟩
    simp only [spec_l01New.l0]
    split
    · rw [if_neg (by omega)]
    · rfl
  | succ d ih =>
    intro i h hd
    by_cases hl : (i : Int) < (l.length : Int)
    · obtain ⟨h', e⟩ := ih (i + 1) (Go.bits .and .i64 (wrap64 ((wrap64 ((wrap64 (h * 149)) + (wrap64 (rd l i)))) + 11)) 1073741823) (by omega)
      refine ⟨h', Ev.step (fun k => ?_) e⟩
      simp only [spec_l01New.l0]
      rw [if_pos hl, if_pos (by omega), if_pos (by omega), wsucc (by omega)]
    · refine ⟨h, ev_now fun k => ?_⟩
      simp only [spec_l01New.l0]
      rw [if_neg hl]
theorem drawNew (l : List Int) (hn : l.length ≤ 140737488355328) : ∃ h', Ev (fun k => spec_l01New.f k l) (l, 0, h') := by
  obtain ⟨h', e⟩ := drawNew_l l hn 4000 0 (wrap64 (710710 + (l.length : Int))) (by omega)
  exact ⟨h', Ev.congr (fun k => rfl) e⟩
theorem dAt0 (l : List Int) : dAt l 0 := by unfold dAt; omega

-- block drawSize
theorem drawSize (l : List Int) (hn : l.length ≤ 140737488355328) (m : Int) : ∃ n, spec_l01Size.f l m = some n ∧ n ≤ m := by
  simp only [spec_l01Size.f]
  rw [w64 (x := (l.length : Int) / 16) (by omega) (by omega), w64 (by omega) (by omega)]
  split
  · exact ⟨_, rfl, by omega⟩
  · exact ⟨_, rfl, by omega⟩

-- block vecP
def mdP (f : Int) : Int := rd fP f
def vecP (f : Int) (v : List Int) : Prop := fldOk f ∧ 0 ≤ logB (v.length : Int) ∧ logB (v.length : Int) ≤ rd fT f ∧ elemB (mdP f) v = true
instance vecP_dec (f : Int) (v : List Int) : Decidable (vecP f v) := by unfold vecP; infer_instance
theorem vec_el {f : Int} {v : List Int} (h : vecP f v) : ∀ i, i < v.length → 0 ≤ rd v (i : Int) ∧ rd v (i : Int) < mdP f := fun i hi => (elemB_iff _ _).1 h.2.2.2 _ (rd_mem hi)
theorem vec_log {f : Int} {v : List Int} (h : vecP f v) : ∃ K : Nat, K ≤ 9 ∧ logB (v.length : Int) = K ∧ v.length = 2 ^ K ∧ (K : Int) ≤ rd fT f := by
  obtain ⟨K, h1, h2, h3⟩ := logB_len h.2.1
  exact ⟨K, h1, h2, h3, by have := h.2.2.1; omega⟩

-- block rt
def rt (f : Int) (s : Nat) : Int := rd fG f ^ ((mdP f - 1) / 2 ^ s).toNat % mdP f
theorem fG_range {f : Int} (h : fldOk f) : 3 ≤ rd fG f ∧ rd fG f < mdP f ∧ rd fG f ≤ 17 := fld_cases (Q := fun f => 3 ≤ rd fG f ∧ rd fG f < mdP f ∧ rd fG f ≤ 17) h (by decide) (by decide) (by decide) (by decide) (by decide) (by decide) (by decide) (by decide) (by decide)
theorem mdP_range {f : Int} (h : fldOk f) : 17 ≤ mdP f ∧ mdP f ≤ 1004535809 := fld_cases (Q := fun f => 17 ≤ mdP f ∧ mdP f ≤ 1004535809) h (by decide) (by decide) (by decide) (by decide) (by decide) (by decide) (by decide) (by decide) (by decide)
theorem fT_range {f : Int} (h : fldOk f) : 4 ≤ rd fT f ∧ rd fT f ≤ 26 := fld_cases (Q := fun f => 4 ≤ rd fT f ∧ rd fT f ≤ 26) h (by decide) (by decide) (by decide) (by decide) (by decide) (by decide) (by decide) (by decide) (by decide)
theorem rt_range {f : Int} (h : fldOk f) (s : Nat) : 0 ≤ rt f s ∧ rt f s < mdP f := by
  have hm := mdP_range h
  exact ⟨Int.emod_nonneg _ (by omega), Int.emod_lt_of_pos _ (by omega)⟩
theorem half_lt {p : Int} (hp : 17 ≤ p) (hp2 : p ≤ 1004535809) (s : Nat) : 0 ≤ (p - 1) / 2 ^ s ∧ (p - 1) / 2 ^ s ≤ p - 1 ∧ (1 ≤ s → (p - 1) / 2 ^ s < p - 1) := by
  have h2 : (0 : Int) < 2 ^ s := Int.pow_pos (by omega)
  refine ⟨Int.ediv_nonneg (by omega) (by omega), Int.ediv_le_self _ (by omega), fun h => ?_⟩
  apply Int.ediv_lt_of_lt_mul h2
  have : (2 : Int) ≤ 2 ^ s := by
    obtain ⟨q, rfl⟩ : ∃ q, s = q + 1 := ⟨s - 1, by omega⟩
    have h3 : (0 : Int) < 2 ^ q := Int.pow_pos (by omega)
    rw [Int.pow_succ]; omega
  have h4 : (p - 1) * 2 ≤ (p - 1) * 2 ^ s := Int.mul_le_mul_of_nonneg_left this (by omega)
  omega
theorem rt_pm {f : Int} (h : fldOk f) (s : Nat) : rt f s = (pm (mdP f).toNat 40 (rd fG f).toNat ((mdP f - 1) / 2 ^ s).toNat : Int) := by
  have hm := mdP_range h
  have hg := fG_range h
  have hh := half_lt hm.1 hm.2 s
  unfold rt
  rw [← pm_int _ 40 _ _ (by omega)]
  rw [show (((rd fG f).toNat : Nat) : Int) = rd fG f by omega, show (((mdP f).toNat : Nat) : Int) = mdP f by omega]
theorem rt_zero {f : Int} (h : fldOk f) : rt f 0 = 1 := by
  rw [rt_pm h]
  exact fld_cases (Q := fun f => (pm (mdP f).toNat 40 (rd fG f).toNat ((mdP f - 1) / 2 ^ 0).toNat : Int) = 1) h (by decide +kernel) (by decide +kernel) (by decide +kernel) (by decide +kernel) (by decide +kernel) (by decide +kernel) (by decide +kernel) (by decide +kernel) (by decide +kernel)
theorem rt_one {f : Int} (h : fldOk f) : rt f 1 = mdP f - 1 := by
  rw [rt_pm h]
  exact fld_cases (Q := fun f => (pm (mdP f).toNat 40 (rd fG f).toNat ((mdP f - 1) / 2 ^ 1).toNat : Int) = mdP f - 1) h (by decide +kernel) (by decide +kernel) (by decide +kernel) (by decide +kernel) (by decide +kernel) (by decide +kernel) (by decide +kernel) (by decide +kernel) (by decide +kernel)
theorem two_div {f : Int} (h : fldOk f) : (2 : Int) ^ (rd fT f).toNat ∣ mdP f - 1 :=
  fld_cases (Q := fun f => (2 : Int) ^ (rd fT f).toNat ∣ mdP f - 1) h (by decide +kernel) (by decide +kernel) (by decide +kernel) (by decide +kernel) (by decide +kernel) (by decide +kernel) (by decide +kernel) (by decide +kernel) (by decide +kernel)
theorem half_two {f : Int} (h : fldOk f) (s d : Nat) (hs : s + d ≤ (rd fT f).toNat) : ((mdP f - 1) / 2 ^ s).toNat = 2 ^ d * ((mdP f - 1) / 2 ^ (s + d)).toNat := by
  have hm := mdP_range h
  obtain ⟨c0, hc⟩ := two_div h
  obtain ⟨r, hr⟩ : ∃ r, (rd fT f).toNat = s + d + r := ⟨(rd fT f).toNat - (s + d), by omega⟩
  have h2 : (0 : Int) < 2 ^ s := Int.pow_pos (by omega)
  have h3 : (0 : Int) < 2 ^ d := Int.pow_pos (by omega)
  rw [hr, Int.pow_add, Int.pow_add, Int.mul_assoc, Int.mul_assoc] at hc
  obtain ⟨c, hcc⟩ : ∃ c, c = 2 ^ r * c0 := ⟨_, rfl⟩
  rw [← hcc] at hc
  have hc0 : 0 ≤ c := by
    rcases Int.lt_or_le c 0 with hx | hx
    · have := Int.mul_neg_of_pos_of_neg h2 (Int.mul_neg_of_pos_of_neg h3 hx)
      omega
    · exact hx
  rw [hc, Int.mul_ediv_cancel_left _ (Int.ne_of_gt h2), Int.pow_add, Int.mul_ediv_mul_of_pos _ _ h2, Int.mul_ediv_cancel_left _ (Int.ne_of_gt h3)]
  obtain ⟨n, rfl⟩ : ∃ n : Nat, c = (n : Int) := ⟨c.toNat, by omega⟩
  rw [Int.toNat_natCast, show ((2 : Int) ^ d * (n : Int)) = ((2 ^ d * n : Nat) : Int) by simp, Int.toNat_natCast]
/-- A root's power is the root of a lower level. -/
theorem rt_pow {f : Int} (h : fldOk f) (s d : Nat) (hs : s + d ≤ (rd fT f).toNat) (j : Nat) : Md (mdP f) (rt f (s + d) ^ (2 ^ d * j)) (rt f s ^ j) := by
  have e1 : Md (mdP f) (rt f (s + d)) (rd fG f ^ ((mdP f - 1) / 2 ^ (s + d)).toNat) := Md.mod _ _
  have e2 : Md (mdP f) (rt f s) (rd fG f ^ ((mdP f - 1) / 2 ^ s).toNat) := Md.mod _ _
  refine (e1.pow _).trans (Md.trans (Md.of_eq ?_) (e2.pow _).symm)
  rw [half_two h s d hs, ← Int.pow_mul, ← Int.pow_mul]
  congr 1
  rw [Nat.mul_left_comm, Nat.mul_assoc]
theorem roots {f : Int} (h : fldOk f) : Roots (mdP f) (rt f) (rd fT f).toNat where
  one := Md.of_eq (rt_zero h)
  half := fun _ => by rw [rt_one h]; exact ⟨1, by omega⟩
  sq := fun s hs => by
    have := rt_pow h s 1 hs 1
    simpa [Int.pow_succ] using this

-- block stP
/-- A level of the transform over a field's own root, at a place of a row. -/
def stP (f : Int) (lv : Nat) (v : List Int) (x : Nat) : Int := stg (mdP f) (rt f (lv + 1)) lv (fun i => rd v (i : Int)) x
theorem stP_lo (f : Int) (lv : Nat) (v : List Int) (q j : Nat) (hj : j < 2 ^ lv) : stP f lv v (2 ^ lv * (2 * q) + j) = (rd v ((2 ^ lv * (2 * q) + j : Nat) : Int) + rd v ((2 ^ lv * (2 * q) + j + 2 ^ lv : Nat) : Int) * rt f (lv + 1) ^ j) % mdP f := by
  have e1 : (2 ^ lv * (2 * q) + j) % 2 ^ lv = j := by rw [Nat.mul_add_mod, Nat.mod_eq_of_lt hj]
  have e2 : (2 ^ lv * (2 * q) + j) / 2 ^ lv = 2 * q := by rw [Nat.mul_add_div (Nat.pow_pos (by omega)), Nat.div_eq_of_lt hj, Nat.add_zero]
  unfold stP stg
  rw [e1, e2, if_pos (by omega)]
theorem stP_hi (f : Int) (lv : Nat) (v : List Int) (q j : Nat) (hj : j < 2 ^ lv) : stP f lv v (2 ^ lv * (2 * q) + j + 2 ^ lv) = (rd v ((2 ^ lv * (2 * q) + j : Nat) : Int) - rd v ((2 ^ lv * (2 * q) + j + 2 ^ lv : Nat) : Int) * rt f (lv + 1) ^ j) % mdP f := by
  have e : 2 ^ lv * (2 * q) + j + 2 ^ lv = 2 ^ lv * (2 * q + 1) + j := by rw [Nat.mul_add]; omega
  have e1 : (2 ^ lv * (2 * q) + j + 2 ^ lv) % 2 ^ lv = j := by rw [e, Nat.mul_add_mod, Nat.mod_eq_of_lt hj]
  have e2 : (2 ^ lv * (2 * q) + j + 2 ^ lv) / 2 ^ lv = 2 * q + 1 := by rw [e, Nat.mul_add_div (Nat.pow_pos (by omega)), Nat.div_eq_of_lt hj, Nat.add_zero]
  unfold stP stg
  rw [e1, e2, if_neg (by omega), Nat.add_sub_cancel]
theorem two_le {f : Int} (h : fldOk f) {K : Nat} (hK : (K : Int) ≤ rd fT f) : (2 : Int) ^ K ≤ mdP f - 1 := by
  have hm := mdP_range h
  have hT := fT_range h
  have h1 := Int.le_of_dvd (by omega) (two_div h)
  have h2 : (2 ^ K : Nat) ≤ 2 ^ (rd fT f).toNat := Nat.pow_le_pow_right (by omega) (by omega)
  have h3 : ((2 ^ K : Nat) : Int) ≤ ((2 ^ (rd fT f).toNat : Nat) : Int) := by omega
  simp at h3
  omega
theorem rt_ne {f : Int} (h : fldOk f) {s : Nat} (hs : (s : Int) ≤ rd fT f) : rt f s ≠ 0 := by
  intro e
  have hm := mdP_range h
  have h1 := (roots h).full_pow s (by omega)
  rw [e, Int.zero_pow (Nat.pos_iff_ne_zero.1 (Nat.pow_pos (by omega)))] at h1
  have h2 := h1.emod
  rw [Int.emod_eq_of_lt (by omega) (by omega), Int.emod_eq_of_lt (by omega) (by omega)] at h2
  omega

-- block stepP
def stepP (K lv fr en : Int) : Prop := 0 ≤ lv ∧ lv < K ∧ 0 ≤ fr ∧ fr < en ∧ en ≤ halfK K
instance stepP_dec (K lv fr en : Int) : Decidable (stepP K lv fr en) := by unfold stepP; infer_instance

-- block runL
/-- The first place of a level's block with this number. -/
def posB (lv b : Nat) : Nat := 2 ^ lv * (2 * (b / 2 ^ lv)) + b % 2 ^ lv
/-- A row in which the blocks from b on, d of them, have been turned. -/
def runL (f : Int) (lv : Nat) (v : List Int) : Nat → Nat → List Int → List Int
  | 0, _, out => out
  | d + 1, b, out => runL f lv v d (b + 1) ((out.set (posB lv b) (stP f lv v (posB lv b))).set (posB lv b + 2 ^ lv) (stP f lv v (posB lv b + 2 ^ lv)))
theorem runL_len (f : Int) (lv : Nat) (v : List Int) : ∀ d b out, (runL f lv v d b out).length = out.length := by
  intro d
  induction d with
  | zero => intro b out; rfl
  | succ d ih => intro b out; rw [runL, ih]; simp
/-- What a step makes of a row. -/
def runP (f : Int) (v : List Int) (lv fr en : Int) : List Int × Bool :=
  if vecP f v ∧ stepP (logB (v.length : Int)) lv fr en then (runL f lv.toNat v (en - fr).toNat fr.toNat v, true) else ([], false)
theorem runP_len (f : Int) (v : List Int) (lv fr en : Int) : (runP f v lv fr en).1.length ≤ v.length := by
  unfold runP
  split
  · rw [runL_len]; omega
  · simp
/-- Where a block's two places lie, told in numbers below a row's length. -/
theorem pos_facts (lv m b H n : Nat) (hH : H = 2 ^ lv) (hn : n = 2 ^ lv * (2 * 2 ^ m)) (hb : b < H * 2 ^ m) : ∃ q j P : Nat, b / H = q ∧ b % H = j ∧ j < H ∧ P = posB lv b ∧ P = 2 ^ lv * (2 * q) + j ∧ q * 2 * H + j = P ∧ P + H < n ∧ q * 2 * H ≤ P := by
  subst hH
  have h0 : 0 < 2 ^ lv := Nat.pow_pos (by omega)
  have hq : b / 2 ^ lv < 2 ^ m := Nat.div_lt_of_lt_mul hb
  have hj : b % 2 ^ lv < 2 ^ lv := Nat.mod_lt _ h0
  have e : b / 2 ^ lv * 2 * 2 ^ lv = 2 ^ lv * (2 * (b / 2 ^ lv)) := by rw [Nat.mul_comm (2 ^ lv), Nat.mul_comm 2]
  refine ⟨b / 2 ^ lv, b % 2 ^ lv, posB lv b, rfl, rfl, hj, rfl, rfl, by rw [e]; rfl, ?_, by rw [e]; exact Nat.le_add_right _ _⟩
  unfold posB
  have h2 : 2 ^ lv * (2 * (b / 2 ^ lv + 1)) ≤ n := by rw [hn]; exact Nat.mul_le_mul (Nat.le_refl _) (by omega)
  rw [Nat.mul_add, Nat.mul_add] at h2
  generalize 2 ^ lv * (2 * (b / 2 ^ lv)) = X at h2 ⊢
  generalize b % 2 ^ lv = Y at hj ⊢
  generalize 2 ^ lv = Z at h2 hj ⊢
  omega
theorem halfK_pow (lv m : Nat) : halfK ((lv + 1 + m : Nat) : Int) = ((2 ^ lv * 2 ^ m : Nat) : Int) := by
  unfold halfK
  rw [show (((lv + 1 + m : Nat) : Int).toNat - 1) = lv + m by omega, ← Nat.pow_add]
  simp

-- block bnoP
/-- The number of the block at this level that a place belongs to. -/
def bno (t x : Nat) : Nat := x / 2 ^ t / 2 * 2 ^ t + x % 2 ^ t
theorem bno_div (t x : Nat) : bno t x / 2 ^ t = x / 2 ^ t / 2 ∧ bno t x % 2 ^ t = x % 2 ^ t := by
  have h0 : 0 < 2 ^ t := Nat.pow_pos (by omega)
  have hr := Nat.mod_lt x h0
  unfold bno
  rw [Nat.mul_comm, Nat.mul_add_div h0, Nat.div_eq_of_lt hr, Nat.mul_add_mod, Nat.mod_mod]
  omega
theorem bno_iff (t x b : Nat) : bno t x = b ↔ (x = posB t b ∨ x = posB t b + 2 ^ t) := by
  have h0 : 0 < 2 ^ t := Nat.pow_pos (by omega)
  have hd := Nat.div_add_mod x (2 ^ t)
  constructor
  · rintro rfl
    obtain ⟨e1, e2⟩ := bno_div t x
    unfold posB
    rw [e1, e2]
    rcases Nat.mod_two_eq_zero_or_one (x / 2 ^ t) with h | h
    · left
      rw [show 2 * (x / 2 ^ t / 2) = x / 2 ^ t by omega]; omega
    · right
      have : 2 ^ t * (x / 2 ^ t) = 2 ^ t * (2 * (x / 2 ^ t / 2)) + 2 ^ t := by
        rw [show x / 2 ^ t = 2 * (x / 2 ^ t / 2) + 1 by omega, Nat.mul_add, Nat.mul_one]
        rw [show 2 * ((2 * (x / 2 ^ t / 2) + 1) / 2) = 2 * (x / 2 ^ t / 2) by omega]
      omega
  · have hr := Nat.mod_lt b h0
    have hb := Nat.div_add_mod b (2 ^ t)
    rintro (rfl | rfl)
    · unfold bno posB
      rw [Nat.mul_add_div h0, Nat.div_eq_of_lt hr, Nat.mul_add_mod, Nat.mod_mod, Nat.add_zero, show 2 * (b / 2 ^ t) / 2 = b / 2 ^ t by omega, Nat.mul_comm]; omega
    · unfold bno posB
      rw [show 2 ^ t * (2 * (b / 2 ^ t)) + b % 2 ^ t + 2 ^ t = 2 ^ t * (2 * (b / 2 ^ t) + 1) + b % 2 ^ t by rw [Nat.mul_add]; omega, Nat.mul_add_div h0, Nat.div_eq_of_lt hr, Nat.mul_add_mod, Nat.mod_mod, Nat.add_zero, show (2 * (b / 2 ^ t) + 1) / 2 = b / 2 ^ t by omega, Nat.mul_comm]; omega
theorem bno_lt {K t x : Nat} (ht : t < K) (hx : x < 2 ^ K) : bno t x < 2 ^ (K - 1) := by
  have h0 : 0 < 2 ^ t := Nat.pow_pos (by omega)
  obtain ⟨m, rfl⟩ : ∃ m, K = t + 1 + m := ⟨K - (t + 1), by omega⟩
  have e2 : 2 ^ (t + 1 + m) = 2 ^ t * (2 * 2 ^ m) := by rw [Nat.pow_add, Nat.pow_succ, Nat.mul_assoc]
  have hq : x / 2 ^ t < 2 * 2 ^ m := Nat.div_lt_of_lt_mul (by rw [← e2]; exact hx)
  have hr := Nat.mod_lt x h0
  unfold bno
  rw [show t + 1 + m - 1 = t + m by omega, Nat.pow_add]
  have h1 : (x / 2 ^ t / 2 + 1) * 2 ^ t ≤ 2 ^ m * 2 ^ t := Nat.mul_le_mul (by omega) (Nat.le_refl _)
  rw [Nat.add_mul, Nat.one_mul] at h1
  rw [Nat.mul_comm (2 ^ t) (2 ^ m)]
  omega
theorem runL_tab (f : Int) (lv : Nat) (v : List Int) (n : Nat) : ∀ (d b : Nat) (g : Nat → Int), runL f lv v d b (tab n g) = tab n (fun x => if b ≤ bno lv x ∧ bno lv x < b + d then stP f lv v x else g x) := by
  intro d
  induction d with
  | zero =>
    intro b g
    rw [runL]
    refine tab_congr fun x _ => ?_
    rw [if_neg (by omega)]
  | succ d ih =>
    intro b g
    rw [runL, tab_set, tab_set, ih]
    refine tab_congr fun x _ => ?_
    have h0 : 0 < 2 ^ lv := Nat.pow_pos (by omega)
    by_cases hb : bno lv x = b
    · have c1 : ¬ (b + 1 ≤ bno lv x ∧ bno lv x < b + 1 + d) := by omega
      have c2 : b ≤ bno lv x ∧ bno lv x < b + (d + 1) := by omega
      rw [if_neg c1, if_pos c2]
      rcases (bno_iff lv x b).1 hb with h | h
      · have c3 : ¬ x = posB lv b + 2 ^ lv := by omega
        rw [if_neg c3, if_pos h, h]
      · rw [if_pos h, h]
    · have hne : ¬ (x = posB lv b ∨ x = posB lv b + 2 ^ lv) := fun h => hb ((bno_iff lv x b).2 h)
      by_cases hc : b + 1 ≤ bno lv x ∧ bno lv x < b + 1 + d
      · have c2 : b ≤ bno lv x ∧ bno lv x < b + (d + 1) := by omega
        rw [if_pos hc, if_pos c2]
      · have c2 : ¬ (b ≤ bno lv x ∧ bno lv x < b + (d + 1)) := by omega
        rw [if_neg hc, if_neg c2, if_neg (fun h => hne (Or.inr h)), if_neg (fun h => hne (Or.inl h))]
theorem stg_two {p W : Int} {s : Nat} {a b : Nat → Int} {x : Nat} (h1 : a x = b x) (h2 : x / 2 ^ s % 2 = 0 → a (x + 2 ^ s) = b (x + 2 ^ s)) (h3 : x / 2 ^ s % 2 ≠ 0 → a (x - 2 ^ s) = b (x - 2 ^ s)) : stg p W s a x = stg p W s b x := by
  unfold stg
  by_cases c : x / 2 ^ s % 2 = 0
  · rw [if_pos c, if_pos c, h1, h2 c]
  · rw [if_neg c, if_neg c, h1, h3 c]
theorem bno_up {t x : Nat} (h : x / 2 ^ t % 2 = 0) : bno t (x + 2 ^ t) = bno t x := by
  have h0 : 0 < 2 ^ t := Nat.pow_pos (by omega)
  unfold bno
  rw [Nat.add_div_right _ h0, Nat.add_mod_right, show (x / 2 ^ t).succ / 2 = x / 2 ^ t / 2 by omega]
theorem bno_down {t x : Nat} (h : x / 2 ^ t % 2 ≠ 0) : bno t (x - 2 ^ t) = bno t x := by
  have h0 : 0 < 2 ^ t := Nat.pow_pos (by omega)
  have h1 : 2 ^ t ≤ x := by
    have hd := Nat.div_add_mod x (2 ^ t)
    have hq1 : 1 ≤ x / 2 ^ t := by
      generalize x / 2 ^ t = q at h
      omega
    have h2 : 2 ^ t * 1 ≤ 2 ^ t * (x / 2 ^ t) := Nat.mul_le_mul (Nat.le_refl _) hq1
    omega
  obtain ⟨y, rfl⟩ : ∃ y, x = y + 2 ^ t := ⟨x - 2 ^ t, by omega⟩
  rw [Nat.add_sub_cancel]
  refine (bno_up ?_).symm
  rw [Nat.add_div_right _ h0] at h
  generalize y / 2 ^ t = q at h ⊢
  omega
/-- How many levels have been run at a place. -/
def hgt (P : List Nat) : Nat → Nat → Nat
  | 0, _ => 0
  | t + 1, x => hgt P t x + if t * 512 + bno t x ∈ P then 1 else 0
theorem hgt_eq {P : List Nat} {x lv : Nat} : ∀ K, lv ≤ K → (∀ t, t < lv → t * 512 + bno t x ∈ P) → (∀ t, lv ≤ t → t < K → t * 512 + bno t x ∉ P) → hgt P K x = lv := by
  intro K
  induction K with
  | zero => intro h _ _; simp [hgt]; omega
  | succ K ih =>
    intro h h1 h2
    rw [hgt]
    by_cases hk : lv ≤ K
    · rw [ih hk h1 (fun t a b => h2 t a (by omega)), if_neg (h2 K hk (by omega))]; rfl
    · have e : lv = K + 1 := by omega
      have hall : ∀ n, n ≤ K → hgt P n x = n := by
        intro n
        induction n with
        | zero => intro _; rfl
        | succ n ihn => intro hn; rw [hgt, ihn (by omega), if_pos (h1 n (by omega))]
      rw [hall K (Nat.le_refl _), if_pos (h1 K (by omega)), e]
theorem hgt_congr {P Q : List Nat} {x : Nat} : ∀ K, (∀ t, t < K → (t * 512 + bno t x ∈ P ↔ t * 512 + bno t x ∈ Q)) → hgt P K x = hgt Q K x := by
  intro K
  induction K with
  | zero => intro _; rfl
  | succ K ih =>
    intro h
    rw [hgt, hgt, ih (fun t ht => h t (by omega))]
    by_cases hp : K * 512 + bno K x ∈ P
    · rw [if_pos hp, if_pos ((h K (by omega)).1 hp)]
    · rw [if_neg hp, if_neg (fun hq => hp ((h K (by omega)).2 hq))]
/-- The row as it stands when these places have been turned. -/
def curP (f : Int) (K : Nat) (a : Nat → Int) (P : List Nat) (x : Nat) : Int := lev (mdP f) (rt f) a (hgt P K x) x

-- block drawOnce
theorem drawOnce (l : List Int) (hn : l.length ≤ 140737488355328) (i h : Int) (hi : dAt l i) (m : Int) : ∃ b i' h', spec_l01Once.f l i h m = some (b, i', h') ∧ dAt l i' := by
  obtain ⟨b1, i1, h1, e1, r1, d1⟩ := drawBelow l hn i h hi m
  exact ⟨(b1 == 0), i1, h1, by simp only [spec_l01Once.f, e1, Option.bind_some], d1⟩

-- block drawUnits
theorem drawUnits (l : List Int) (hn : l.length ≤ 140737488355328) (i h : Int) (hi : dAt l i) (m : Int) : ∃ b i' h', spec_l12DrawUnits.f l i h m = some (b, i', h') ∧ dAt l i' := by
  obtain ⟨b1, i1, h1, e1, r1, d1⟩ := drawBelow l hn i h hi (wrap64 (m + 1))
  obtain ⟨b2, i2, h2, e2, r2, d2⟩ := drawBelow l hn i1 h1 d1 30
  obtain ⟨b3, i3, h3, e3, r3, d3⟩ := drawBelow l hn i2 h2 d2 30
  obtain ⟨b4, i4, h4, e4, r4, d4⟩ := drawBelow l hn i3 h3 d3 30
  obtain ⟨b5, i5, h5, e5, r5, d5⟩ := drawPickInt l hn i4 h4 d4 [0, m, wrap64 (m + 1), (-1), b1, b2, b3, b4] (by simp)
  exact ⟨b5, i5, h5, by simp only [spec_l12DrawUnits.f, e1, e2, e3, e4, e5, Option.bind_some], d5⟩

-- block drawNow
theorem drawNow (l : List Int) (hn : l.length ≤ 140737488355328) (i h : Int) (hi : dAt l i) (m : Int) : ∃ b i' h', spec_l12DrawNow.f l i h m = some (b, i', h') ∧ dAt l i' := by
  obtain ⟨b1, i1, h1, e1, d1⟩ := drawOnce l hn i h hi 12
  obtain ⟨b2, i2, h2, e2, r2, d2⟩ := drawPickInt l hn i1 h1 d1 [wrap64 (m - 1), 1000000000, 1000000001, (-1), (-9223372036854775808), 9223372036854775807] (by simp)
  obtain ⟨b3, i3, h3, e3, r3, d3⟩ := drawBelow l hn i1 h1 d1 30
  cases b1 with
  | true => exact ⟨b2, i2, h2, by simp only [spec_l12DrawNow.f, e1, e2, Option.bind_some, if_true], d2⟩
  | false => exact ⟨wrap64 (m + b3), i3, h3, by simp only [spec_l12DrawNow.f, e1, e3, Option.bind_some, Bool.false_eq_true, if_false], d3⟩

-- block drawBucket
theorem drawBucket (l : List Int) (hn : l.length ≤ 140737488355328) (i h : Int) (hi : dAt l i) : ∃ a b c d i' h', spec_l12DrawBucket.f l i h = some (a, b, c, d, i', h') ∧ dAt l i' := by
  obtain ⟨b1, i1, h1, e1, r1, d1⟩ := drawBelow l hn i h hi 500
  obtain ⟨b2, i2, h2, e2, r2, d2⟩ := drawBelow l hn i1 h1 d1 500
  obtain ⟨b3, i3, h3, e3, r3, d3⟩ := drawPickInt l hn i2 h2 d2 [0, 10, 100, 1000, 1000000000, b1, b2] (by simp)
  obtain ⟨b4, i4, h4, e4, r4, d4⟩ := drawBelow l hn i3 h3 d3 40
  obtain ⟨b5, i5, h5, e5, r5, d5⟩ := drawPickInt l hn i4 h4 d4 [0, 1, 3, 7, b4, 1000000] (by simp)
  obtain ⟨b6, i6, h6, e6, r6, d6⟩ := drawBelow l hn i5 h5 d5 (wrap64 (b3 + 1))
  obtain ⟨b7, i7, h7, e7, r7, d7⟩ := drawBelow l hn i6 h6 d6 100
  obtain ⟨b8, i8, h8, e8, r8, d8⟩ := drawBelow l hn i7 h7 d7 100
  obtain ⟨b9, i9, h9, e9, r9, d9⟩ := drawBelow l hn i8 h8 d8 50
  obtain ⟨c1, j1, g1, f1, s1, t1⟩ := drawPickInt l hn i9 h9 d9 [0, b7, b8, wrap64 (1000000000 - b9)] (by simp)
  obtain ⟨c2, j2, g2, f2, t2⟩ := drawOnce l hn j1 g1 t1 20
  obtain ⟨c3, j3, g3, f3, s3, t3⟩ := drawBelow l hn j2 g2 t2 4
  obtain ⟨u1, k1, q1, v1, w1, x1⟩ := drawPickInt l hn j3 g3 t3 [wrap64 (b3 + 1), (-1)] (by simp)
  obtain ⟨u2, k2, q2, v2, w2, x2⟩ := drawPickInt l hn j3 g3 t3 [(-1), 1000001] (by simp)
  obtain ⟨u3, k3, q3, v3, w3, x3⟩ := drawPickInt l hn j3 g3 t3 [(-1), 1000000001] (by simp)
  cases c2 with
  | false => exact ⟨b3, b5, b6, c1, j2, g2, by (simp only [spec_l12DrawBucket.f, e1, e2, e3, e4, e5, e6, e7, e8, e9, f1, f2, Option.bind_some, Bool.false_eq_true, if_false]), t2⟩
  | true =>
    by_cases h0 : c3 = 0
    · exact ⟨b3, b5, u1, c1, k1, q1, by (simp only [spec_l12DrawBucket.f, e1, e2, e3, e4, e5, e6, e7, e8, e9, f1, f2, f3, Option.bind_some, if_true]; rw [if_pos h0, v1]; rfl), x1⟩
    · by_cases h1 : c3 = 1
      · exact ⟨b3, u2, b6, c1, k2, q2, by (simp only [spec_l12DrawBucket.f, e1, e2, e3, e4, e5, e6, e7, e8, e9, f1, f2, f3, Option.bind_some, if_true]; rw [if_neg h0, if_pos h1, v2]; rfl), x2⟩
      · by_cases h2 : c3 = 2
        · exact ⟨b3, b5, b6, u3, k3, q3, by (simp only [spec_l12DrawBucket.f, e1, e2, e3, e4, e5, e6, e7, e8, e9, f1, f2, f3, Option.bind_some, if_true]; rw [if_neg h0, if_neg h1, if_pos h2, v3]; rfl), x3⟩
        · by_cases h3 : c3 = 3
          · exact ⟨u3, b5, b6, c1, k3, q3, by (simp only [spec_l12DrawBucket.f, e1, e2, e3, e4, e5, e6, e7, e8, e9, f1, f2, f3, Option.bind_some, if_true]; rw [if_neg h0, if_neg h1, if_neg h2, if_pos h3, v3]; rfl), x3⟩
          · exact ⟨b3, b5, b6, c1, j3, g3, by (simp only [spec_l12DrawBucket.f, e1, e2, e3, e4, e5, e6, e7, e8, e9, f1, f2, f3, Option.bind_some, if_true]; rw [if_neg h0, if_neg h1, if_neg h2, if_neg h3]), t3⟩

-- block drawAsks
theorem drawAsks_l (l : List Int) (hn : l.length ≤ 140737488355328) (n a b c e : Int) (hn6 : n ≤ 1048576) : ∀ (d j : Nat) (acc : List S66) (m i h : Int), (n - j).toNat = d → j ≤ 1048576 → acc.length ≤ j → dAt l i →
    ∃ out i' h', Ev (fun k => spec_l12DrawAsks.l0 k n acc m (j : Int) l i h a b c e) (out, i', h') ∧ out.length ≤ 1048576 ∧ dAt l i' := by
  intro d
  induction d with
  | zero =>
    intro j acc m i h hd hj ha hi
    refine ⟨acc, i, h, ev_now fun k => ?_, by omega, hi⟩
    simp only [spec_l12DrawAsks.l0]
    rw [if_neg (by omega)]
  | succ d ih =>
    intro j acc m i h hd hj ha hi
    obtain ⟨b1, i1, h1, e1, r1, d1⟩ := drawBelow l hn i h hi 8
    obtain ⟨b2, i2, h2, e2, d2⟩ := drawUnits l hn i1 h1 d1 a
    obtain ⟨b3, i3, h3, e3, d3⟩ := drawOnce l hn i2 h2 d2 15
    obtain ⟨b4, i4, h4, e4, d4⟩ := drawNow l hn i3 h3 d3 (wrap64 (m + b1))
    cases b3 with
    | true =>
      obtain ⟨out, i', h', k1, k2, k3⟩ := ih (j + 1) (acc ++ [⟨b4, b2⟩]) (wrap64 (m + b1)) i4 h4 (by omega) (by omega) (by simp; omega) d4
      refine ⟨out, i', h', Ev.step (fun k => ?_) k1, k2, k3⟩
      simp only [spec_l12DrawAsks.l0, e1, e2, e3, e4, Option.bind_some, if_true]
      rw [if_pos (by omega), if_pos (by omega), wsucc (by omega)]
    | false =>
      obtain ⟨out, i', h', k1, k2, k3⟩ := ih (j + 1) (acc ++ [⟨wrap64 (m + b1), b2⟩]) (wrap64 (m + b1)) i3 h3 (by omega) (by omega) (by simp; omega) d3
      refine ⟨out, i', h', Ev.step (fun k => ?_) k1, k2, k3⟩
      simp only [spec_l12DrawAsks.l0, e1, e2, e3, Option.bind_some, Bool.false_eq_true, if_false]
      rw [if_pos (by omega), if_pos (by omega), wsucc (by omega)]
theorem drawAsks (l : List Int) (hn : l.length ≤ 140737488355328) (i h a b c e n : Int) (hi : dAt l i) (hn6 : n ≤ 1048576) : ∃ out i' h', Ev (fun k => spec_l12DrawAsks.f k l i h a b c e n) (out, i', h') ∧ out.length ≤ 1048576 ∧ dAt l i' := by
  obtain ⟨out, i', h', k1, k2, k3⟩ := drawAsks_l l hn n a b c e hn6 _ 0 [] e i h rfl (by omega) (by simp) hi
  exact ⟨out, i', h', Ev.congr (fun k => rfl) k1, k2, k3⟩

-- block drawPlay
theorem drawPlay (l : List Int) (hn : l.length ≤ 140737488355328) : ∃ a b c d out, Ev (fun k => spec_DrawPlayBucket.f k l) (a, b, c, d, out) ∧ out.length ≤ 1048576 := by
  obtain ⟨h0, e0⟩ := drawNew l hn
  obtain ⟨a, b, c, d, i1, h1, e1, d1⟩ := drawBucket l hn 0 h0 (dAt0 l)
  obtain ⟨n, e2, r2⟩ := drawSize l hn 40
  obtain ⟨b3, i3, h3, e3, r3, d3⟩ := drawBelow l hn i1 h1 d1 n
  obtain ⟨b4, i4, h4, e4, d4⟩ := drawOnce l hn i3 h3 d3 30
  cases b4 with
  | false =>
    obtain ⟨out, i5, h5, e5, l5, d5⟩ := drawAsks l hn i4 h4 a b c d b3 d4 (by omega)
    obtain ⟨m, k0, k5⟩ := evs2 e0 e5
    refine ⟨a, b, c, d, out, ⟨m, fun k hk => ?_⟩, l5⟩
    obtain ⟨j, rfl⟩ : ∃ j, k = m + j := ⟨k - m, by omega⟩
    simp only [spec_DrawPlayBucket.f, k0 j, e1, e2, e3, e4, k5 j, Option.bind_some, Bool.false_eq_true, if_false]
  | true =>
    obtain ⟨b5, i5, h5, e5, r5, d5⟩ := drawBelow l hn i4 h4 d4 2
    obtain ⟨out, i6, h6, e6, l6, d6⟩ := drawAsks l hn i5 h5 a b c d (wrap64 (400 + b5)) d5 (by rw [w64 (by omega) (by omega)]; omega)
    obtain ⟨m, k0, k6⟩ := evs2 e0 e6
    refine ⟨a, b, c, d, out, ⟨m, fun k hk => ?_⟩, l6⟩
    obtain ⟨j, rfl⟩ : ∃ j, k = m + j := ⟨k - m, by omega⟩
    simp only [spec_DrawPlayBucket.f, k0 j, e1, e2, e3, e4, e5, k6 j, Option.bind_some, if_true]

-- block playS
/-- Requests, one after another: the bucket behind them, and their codes. -/
def playS : Int × Int × Int × Int → List S66 → (Int × Int × Int × Int) × List Int
  | x, [] => (x, [])
  | x, q :: l =>
    let t := takeP x.1 x.2.1 x.2.2.1 x.2.2.2 q.f0 q.f1
    let r := playS (t.1, t.2.1, t.2.2.1, t.2.2.2.1) l
    (r.1, t.2.2.2.2 :: r.2)
def takenS : Int × Int × Int × Int → List S66 → Int
  | _, [] => 0
  | x, q :: l =>
    let t := takeP x.1 x.2.1 x.2.2.1 x.2.2.2 q.f0 q.f1
    (if t.2.2.2.2 = 0 then q.f1 else 0) + takenS (t.1, t.2.1, t.2.2.1, t.2.2.2.1) l
def sumC : List S66 → List Int → Int
  | q :: l, c :: cs => (if c = 0 then q.f1 else 0) + sumC l cs
  | _, _ => 0
theorem play_len (l : List S66) : ∀ x, (playS x l).2.length = l.length := by
  induction l with
  | nil => intro x; rfl
  | cons q l ih => intro x; simp [playS, ih]
theorem taken_sum (l : List S66) : ∀ x, takenS x l = sumC l (playS x l).2 := by
  induction l with
  | nil => intro x; rfl
  | cons q l ih => intro x; simp [playS, takenS, sumC, ih]
def bOk4 (x : Int × Int × Int × Int) : Prop := bOk x.1 x.2.1 x.2.2.1 x.2.2.2
theorem take_zero {a b c d now u : Int} (h : bOk a b c d) (hz : (takeP a b c d now u).2.2.2.2 = 0) : 0 ≤ u ∧ u ≤ 1000000000 := by
  unfold takeP at hz
  by_cases h1 : ¬ fillOk a b c d now ∨ u < 0
  · rw [if_pos h1] at hz; simp at hz
  · rw [if_neg h1] at hz
    have hu : ¬ u < 0 := fun h2 => h1 (Or.inr h2)
    by_cases h2 : u > a
    · rw [if_pos h2] at hz; simp at hz
    · unfold bOk at h; omega
theorem take_bOk4 {x : Int × Int × Int × Int} (hx : bOk4 x) (now u : Int) : bOk4 ((takeP x.1 x.2.1 x.2.2.1 x.2.2.2 now u).1, (takeP x.1 x.2.1 x.2.2.1 x.2.2.2 now u).2.1, (takeP x.1 x.2.1 x.2.2.1 x.2.2.2 now u).2.2.1, (takeP x.1 x.2.1 x.2.2.1 x.2.2.2 now u).2.2.2.1) := take_bOk hx
theorem taken_range (l : List S66) : ∀ x, bOk4 x → 0 ≤ takenS x l ∧ takenS x l ≤ 1000000000 * l.length := by
  induction l with
  | nil => intro x _; simp [takenS]
  | cons q l ih =>
    intro x hx
    have h1 := ih _ (take_bOk4 hx q.f0 q.f1)
    simp only [takenS, List.length_cons]
    by_cases hz : (takeP x.1 x.2.1 x.2.2.1 x.2.2.2 q.f0 q.f1).2.2.2.2 = 0
    · have := take_zero hx hz
      rw [if_pos hz]
      omega
    · rw [if_neg hz]
      omega
theorem askDrop {l : List S66} {i : Nat} (h : i < l.length) : l.drop i = rd_T66 l (i : Int) :: l.drop (i + 1) := by
  rw [rdAsk h, List.drop_eq_getElem_cons h]

-- block sPlay
theorem sPlay_l (l : List S66) (hn : l.length ≤ 1048576) : ∀ (d i : Nat) (acc : List Int) (a b c e : Int), l.length - i = d → i ≤ l.length → acc.length = i →
    Ev (fun k => spec_PlayBucket.l0 k l acc (i : Int) a b c e) ((playS (a, b, c, e) (l.drop i)).1.1, (playS (a, b, c, e) (l.drop i)).1.2.1, (playS (a, b, c, e) (l.drop i)).1.2.2.1, (playS (a, b, c, e) (l.drop i)).1.2.2.2, acc ++ (playS (a, b, c, e) (l.drop i)).2) := by
  intro d
  induction d with
  | zero =>
    intro i acc a b c e h hi ha
    refine ev_now fun k => ?_
    simp only [spec_PlayBucket.l0]
    rw [if_neg (by omega), List.drop_eq_nil_of_le (by omega)]
    simp [playS]
  | succ d ih =>
    intro i acc a b c e h hi ha
    have hT : Ev (fun k => spec_TakeUnits.f k a b c e (rd_T66 l (i : Int)).f0 (rd_T66 l (i : Int)).f1) (takeP a b c e (rd_T66 l (i : Int)).f0 (rd_T66 l (i : Int)).f1) := Ev.step (fun k => sTake k a b c e _ _) (Ev.now _)
    rw [askDrop (by omega)]
    refine Ev.step (fun k => ?_) (Ev.bind hT (f := fun k t => spec_PlayBucket.l0 k l (acc ++ [t.2.2.2.2]) ((i + 1 : Nat) : Int) t.1 t.2.1 t.2.2.1 t.2.2.2.1) ?_)
    · simp only [spec_PlayBucket.l0]
      rw [if_pos (by omega), if_pos (by omega), wsucc (by omega)]
      simp only [show acc.length < 17592186044416 by omega, if_true]
    · have := ih (i + 1) (acc ++ [(takeP a b c e (rd_T66 l (i : Int)).f0 (rd_T66 l (i : Int)).f1).2.2.2.2]) (takeP a b c e (rd_T66 l (i : Int)).f0 (rd_T66 l (i : Int)).f1).1 (takeP a b c e (rd_T66 l (i : Int)).f0 (rd_T66 l (i : Int)).f1).2.1 (takeP a b c e (rd_T66 l (i : Int)).f0 (rd_T66 l (i : Int)).f1).2.2.1 (takeP a b c e (rd_T66 l (i : Int)).f0 (rd_T66 l (i : Int)).f1).2.2.2.1 (by omega) (by omega) (by simp; omega)
      simpa [playS] using this
def playP (a b c d : Int) (l : List S66) : Int × Int × Int × Int × List Int :=
  if bOk a b c d ∧ l.length ≤ 400 then ((playS (a, b, c, d) l).1.1, (playS (a, b, c, d) l).1.2.1, (playS (a, b, c, d) l).1.2.2.1, (playS (a, b, c, d) l).1.2.2.2, (playS (a, b, c, d) l).2) else (0, 0, 0, 0, [])
theorem sPlay_ev (a b c d : Int) (l : List S66) (hn : l.length ≤ 1048576) : Ev (fun k => spec_PlayBucket.f k a b c d l) (playP a b c d l) := by
  unfold playP
  by_cases h : bOk a b c d
  · by_cases hl : l.length ≤ 400
    · rw [if_pos ⟨h, hl⟩]
      refine Ev.congr (fun k => ?_) (Ev.step (g := fun k => spec_PlayBucket.j0 k l false a b c d) (fun k => ?_) (sPlay_l l hn l.length 0 [] a b c d (by omega) (by omega) rfl))
      · simp only [spec_PlayBucket.f, sBucket, Option.bind_some, decide_eq_true_eq]
        rw [if_pos h, decide_eq_false (by omega)]
      · simp [spec_PlayBucket.j0]
    · rw [if_neg (fun hh => hl hh.2)]
      refine Ev.congr (fun k => ?_) (ev_now (g := fun k => spec_PlayBucket.j0 k l true a b c d) (fun k => by simp [spec_PlayBucket.j0]))
      simp only [spec_PlayBucket.f, sBucket, Option.bind_some, decide_eq_true_eq]
      rw [if_pos h, decide_eq_true (by omega)]
  · rw [if_neg (fun hh => h hh.1)]
    refine Ev.congr (fun k => ?_) (ev_now (g := fun k => spec_PlayBucket.j0 k l true a b c d) (fun k => by simp [spec_PlayBucket.j0]))
    simp only [spec_PlayBucket.f, sBucket, Option.bind_some, decide_eq_true_eq]
    rw [if_neg h]

-- block iPlay
theorem iPlay_l (l : List S66) (hn : l.length ≤ 1048576) : ∀ (d i : Nat) (acc : List Int) (a b c e : Int), l.length - i = d → i ≤ l.length → acc.length = i →
    Ev (fun k => impl_PlayBucket.l0 k acc l (l.length : Int) (i : Int) a b c e) ((playS (a, b, c, e) (l.drop i)).1.1, (playS (a, b, c, e) (l.drop i)).1.2.1, (playS (a, b, c, e) (l.drop i)).1.2.2.1, (playS (a, b, c, e) (l.drop i)).1.2.2.2, acc ++ (playS (a, b, c, e) (l.drop i)).2) := by
  intro d
  induction d with
  | zero =>
    intro i acc a b c e h hi ha
    refine ev_now fun k => ?_
    simp only [impl_PlayBucket.l0]
    rw [if_neg (by omega), List.drop_eq_nil_of_le (by omega)]
    simp [playS]
  | succ d ih =>
    intro i acc a b c e h hi ha
    have hT : Ev (fun k => impl_takeUnits.f k a b c e (rd_T66 l (i : Int)).f0 (rd_T66 l (i : Int)).f1) (takeP a b c e (rd_T66 l (i : Int)).f0 (rd_T66 l (i : Int)).f1) := Ev.step (fun k => iTake k a b c e _ _) (Ev.now _)
    rw [askDrop (by omega)]
    refine Ev.step (fun k => ?_) (Ev.bind hT (f := fun k t => impl_PlayBucket.l0 k (acc ++ [t.2.2.2.2]) l (l.length : Int) ((i + 1 : Nat) : Int) t.1 t.2.1 t.2.2.1 t.2.2.2.1) ?_)
    · simp only [impl_PlayBucket.l0]
      rw [if_pos (by omega), if_pos (by omega), if_pos (by omega), wsucc (by omega)]
      simp only [show acc.length < 17592186044416 by omega, if_true]
    · have := ih (i + 1) (acc ++ [(takeP a b c e (rd_T66 l (i : Int)).f0 (rd_T66 l (i : Int)).f1).2.2.2.2]) (takeP a b c e (rd_T66 l (i : Int)).f0 (rd_T66 l (i : Int)).f1).1 (takeP a b c e (rd_T66 l (i : Int)).f0 (rd_T66 l (i : Int)).f1).2.1 (takeP a b c e (rd_T66 l (i : Int)).f0 (rd_T66 l (i : Int)).f1).2.2.1 (takeP a b c e (rd_T66 l (i : Int)).f0 (rd_T66 l (i : Int)).f1).2.2.2.1 (by omega) (by omega) (by simp; omega)
      simpa [playS] using this
theorem iPlay_ev (a b c d : Int) (l : List S66) (hn : l.length ≤ 1048576) : Ev (fun k => impl_PlayBucket.f k a b c d l) (playP a b c d l) := by
  unfold playP
  by_cases h : bOk a b c d
  · by_cases hl : l.length ≤ 400
    · rw [if_pos ⟨h, hl⟩]
      refine Ev.congr (fun k => ?_) (Ev.step (g := fun k => impl_PlayBucket.j0 k l false a b c d) (fun k => ?_) (iPlay_l l hn l.length 0 [] a b c d (by omega) (by omega) rfl))
      · simp only [impl_PlayBucket.f, iBucket, Option.bind_some, decide_eq_true_eq]
        rw [if_pos h, decide_eq_false (by omega)]
      · simp [impl_PlayBucket.j0]
    · rw [if_neg (fun hh => hl hh.2)]
      refine Ev.congr (fun k => ?_) (ev_now (g := fun k => impl_PlayBucket.j0 k l true a b c d) (fun k => by simp [impl_PlayBucket.j0]))
      simp only [impl_PlayBucket.f, iBucket, Option.bind_some, decide_eq_true_eq]
      rw [if_pos h, decide_eq_true (by omega)]
  · rw [if_neg (fun hh => h hh.1)]
    refine Ev.congr (fun k => ?_) (ev_now (g := fun k => impl_PlayBucket.j0 k l true a b c d) (fun k => by simp [impl_PlayBucket.j0]))
    simp only [impl_PlayBucket.f, iBucket, Option.bind_some, decide_eq_true_eq]
    rw [if_neg h]

-- block sTaken
def takenP (a b c d : Int) (l : List S66) : Int := if bOk a b c d ∧ l.length ≤ 400 then takenS (a, b, c, d) l else -1
theorem sumC_at {l : List S66} {cs : List Int} {i : Nat} (h : i < l.length) (hc : i < cs.length) : sumC (l.drop i) (cs.drop i) = (if rd cs (i : Int) = 0 then (rd_T66 l (i : Int)).f1 else 0) + sumC (l.drop (i + 1)) (cs.drop (i + 1)) := by
  rw [askDrop h, List.drop_eq_getElem_cons hc, sumC, rd_eq hc]
theorem sTaken_l (l : List S66) (cs : List Int) (hn : l.length ≤ 400) (hc : cs.length = l.length) (hz : ∀ i, i < l.length → rd cs (i : Int) = 0 → 0 ≤ (rd_T66 l (i : Int)).f1 ∧ (rd_T66 l (i : Int)).f1 ≤ 1000000000) :
    ∀ (d i : Nat) (s : Int), l.length - i = d → i ≤ l.length → 0 ≤ s → s ≤ 1000000000 * i → Ev (fun k => spec_Taken.l0 k l cs s (i : Int)) (s + sumC (l.drop i) (cs.drop i)) := by
  intro d
  induction d with
  | zero =>
    intro i s h hi h0 h1
    refine ev_now fun k => ?_
    simp only [spec_Taken.l0]
    rw [if_neg (by omega), List.drop_eq_nil_of_le (by omega), List.drop_eq_nil_of_le (by omega), sumC]
    · simp
    · intro _ _ _ _ hh; simp at hh
  | succ d ih =>
    intro i s h hi h0 h1
    rw [sumC_at (by omega) (by omega)]
    by_cases hq : rd cs (i : Int) = 0
    · have hb := hz i (by omega) hq
      rw [if_pos hq, ← Int.add_assoc]
      refine Ev.step (fun k => ?_) (ih (i + 1) _ (by omega) (by omega) (by omega) (by omega))
      simp only [spec_Taken.l0]
      rw [if_pos (by omega), if_pos (by omega), if_pos hq, if_pos (by omega), wsucc (by omega), w64 (by omega) (by omega)]
    · rw [if_neg hq, Int.zero_add]
      refine Ev.step (fun k => ?_) (ih (i + 1) s (by omega) (by omega) h0 (by omega))
      simp only [spec_Taken.l0]
      rw [if_pos (by omega), if_pos (by omega), if_neg hq, wsucc (by omega)]
theorem play_zero (l : List S66) : ∀ x, bOk4 x → ∀ i, i < l.length → rd (playS x l).2 (i : Int) = 0 → 0 ≤ (rd_T66 l (i : Int)).f1 ∧ (rd_T66 l (i : Int)).f1 ≤ 1000000000 := by
  induction l with
  | nil => intro x _ i hi; simp at hi
  | cons q l ih =>
    intro x hx i hi hr
    have hl := play_len (q :: l) x
    rw [rd_eq (by omega)] at hr
    rw [rdAsk hi]
    cases i with
    | zero => simp [playS] at hr; exact take_zero hx hr
    | succ i =>
      simp at hi
      have := ih _ (take_bOk4 hx q.f0 q.f1) i hi (by rw [rd_eq (by rw [play_len]; exact hi)]; simpa [playS] using hr)
      rw [rdAsk hi] at this
      simpa using this
theorem sTaken_ev (a b c d : Int) (l : List S66) (hn : l.length ≤ 1048576) : Ev (fun k => spec_Taken.f k a b c d l) (takenP a b c d l) := by
  unfold takenP
  by_cases h : bOk a b c d
  · by_cases hl : l.length ≤ 400
    · rw [if_pos ⟨h, hl⟩, taken_sum]
      have hp := sPlay_ev a b c d l hn
      unfold playP at hp
      rw [if_pos ⟨h, hl⟩] at hp
      have key := sTaken_l l (playS (a, b, c, d) l).2 hl (play_len _ _) (play_zero l _ h) l.length 0 0 (by omega) (by omega) (by omega) (by omega)
      refine Ev.congr (fun k => ?_) (Ev.step (g := fun k => spec_Taken.j0 k l false a b c d) (fun k => ?_) (Ev.bind hp (f := fun k t => spec_Taken.l0 k l t.2.2.2.2 0 0) (by simpa using key)))
      · simp only [spec_Taken.f, sBucket, Option.bind_some, decide_eq_true_eq]
        rw [if_pos h, decide_eq_false (by omega)]
      · simp [spec_Taken.j0]
    · rw [if_neg (fun hh => hl hh.2)]
      refine Ev.congr (fun k => ?_) (ev_now (g := fun k => spec_Taken.j0 k l true a b c d) (fun k => by simp [spec_Taken.j0]))
      simp only [spec_Taken.f, sBucket, Option.bind_some, decide_eq_true_eq]
      rw [if_pos h, decide_eq_true (by omega)]
  · rw [if_neg (fun hh => h hh.1)]
    refine Ev.congr (fun k => ?_) (ev_now (g := fun k => spec_Taken.j0 k l true a b c d) (fun k => by simp [spec_Taken.j0]))
    simp only [spec_Taken.f, sBucket, Option.bind_some, decide_eq_true_eq]
    rw [if_neg h]

-- block iTaken
theorem iTaken_l (l : List S66) (hn : l.length ≤ 400) : ∀ (d i : Nat) (s a b c e : Int), bOk a b c e → l.length - i = d → i ≤ l.length → 0 ≤ s → s ≤ 1000000000 * i →
    Ev (fun k => impl_Taken.l0 k s l (l.length : Int) (i : Int) a b c e) (s + takenS (a, b, c, e) (l.drop i)) := by
  intro d
  induction d with
  | zero =>
    intro i s a b c e hb h hi h0 h1
    refine ev_now fun k => ?_
    simp only [impl_Taken.l0]
    rw [if_neg (by omega), List.drop_eq_nil_of_le (by omega)]
    simp [takenS]
  | succ d ih =>
    intro i s a b c e hb h hi h0 h1
    generalize hq : rd_T66 l (i : Int) = q
    have hT : Ev (fun k => impl_takeUnits.f k a b c e q.f0 q.f1) (takeP a b c e q.f0 q.f1) := Ev.step (fun k => iTake k a b c e _ _) (Ev.now _)
    have hb2 := take_bOk (now := q.f0) (u := q.f1) hb
    have hz := take_zero (now := q.f0) (u := q.f1) hb
    rw [askDrop (by omega), hq, takenS]
    refine Ev.step (fun k => ?_) (Ev.bind hT (f := fun k t => if t.2.2.2.2 = 0 then impl_Taken.l0 k (wrap64 (s + q.f1)) l (l.length : Int) ((i + 1 : Nat) : Int) t.1 t.2.1 t.2.2.1 t.2.2.2.1 else impl_Taken.l0 k s l (l.length : Int) ((i + 1 : Nat) : Int) t.1 t.2.1 t.2.2.1 t.2.2.2.1) ?_)
    · simp only [impl_Taken.l0, hq]
      rw [if_pos (by omega), if_pos (by omega), if_pos (by omega), wsucc (by omega)]
    · by_cases h2 : (takeP a b c e q.f0 q.f1).2.2.2.2 = 0
      · have hz := hz h2
        rw [if_pos h2, ← Int.add_assoc]
        refine Ev.congr (fun k => by rw [if_pos h2, w64 (by omega) (by omega)]) (ih (i + 1) (s + q.f1) _ _ _ _ hb2 (by omega) (by omega) (by omega) (by omega))
      · rw [if_neg h2, Int.zero_add]
        refine Ev.congr (fun k => by rw [if_neg h2]) (ih (i + 1) s _ _ _ _ hb2 (by omega) (by omega) h0 (by omega))
theorem iTaken_ev (a b c d : Int) (l : List S66) : Ev (fun k => impl_Taken.f k a b c d l) (takenP a b c d l) := by
  unfold takenP
  by_cases h : bOk a b c d
  · by_cases hl : l.length ≤ 400
    · rw [if_pos ⟨h, hl⟩]
      have key := iTaken_l l hl l.length 0 0 a b c d h (by omega) (by omega) (by omega) (by omega)
      refine Ev.congr (fun k => ?_) (Ev.step (g := fun k => impl_Taken.j0 k l false a b c d) (fun k => ?_) (by simpa using key))
      · simp only [impl_Taken.f, iBucket, Option.bind_some, decide_eq_true_eq]
        rw [if_pos h, decide_eq_false (by omega)]
      · simp [impl_Taken.j0]
    · rw [if_neg (fun hh => hl hh.2)]
      refine Ev.congr (fun k => ?_) (ev_now (g := fun k => impl_Taken.j0 k l true a b c d) (fun k => by simp [impl_Taken.j0]))
      simp only [impl_Taken.f, iBucket, Option.bind_some, decide_eq_true_eq]
      rw [if_pos h, decide_eq_true (by omega)]
  · rw [if_neg (fun hh => h hh.1)]
    refine Ev.congr (fun k => ?_) (ev_now (g := fun k => impl_Taken.j0 k l true a b c d) (fun k => by simp [impl_Taken.j0]))
    simp only [impl_Taken.f, iBucket, Option.bind_some, decide_eq_true_eq]
    rw [if_neg h]

-- block nowC
/-- The greatest tick that was answered with units. -/
def nowC : List S66 → List Int → Int → Int
  | q :: l, c :: cs, m => nowC l cs (if c = 0 ∧ q.f0 > m then q.f0 else m)
  | _, _, m => m
theorem taken_le (l : List S66) : ∀ x, bOk4 x → x.2.2.2 ≤ nowC l (playS x l).2 x.2.2.2 ∧ nowC l (playS x l).2 x.2.2.2 ≤ 1000000000 ∧ takenS x l ≤ x.2.2.1 + x.2.1 * (nowC l (playS x l).2 x.2.2.2 - x.2.2.2) := by
  induction l with
  | nil =>
    intro x hx
    unfold bOk4 bOk at hx
    simp [nowC, takenS, playS]
    omega
  | cons q l ih =>
    rintro ⟨a, b, c, d⟩ hx
    have hx' := hx
    unfold bOk4 bOk at hx'
    simp only at hx'
    have hnext := take_bOk4 hx q.f0 q.f1
    simp only [playS, takenS, nowC]
    by_cases h1 : ¬ fillOk a b c d q.f0 ∨ q.f1 < 0
    · have ht : takeP a b c d q.f0 q.f1 = (a, b, c, d, 1) := by unfold takeP; rw [if_pos h1]
      simp only [ht]
      have := ih (a, b, c, d) hx
      simpa using this
    · have hf : fillOk a b c d q.f0 := Classical.not_not.1 fun h2 => h1 (Or.inl h2)
      by_cases h2 : q.f1 > a
      · have ht : takeP a b c d q.f0 q.f1 = (a, b, c, d, 2) := by unfold takeP; rw [if_neg h1, if_pos h2]
        simp only [ht]
        have := ih (a, b, c, d) hx
        simpa using this
      · by_cases h3 : lvl a b c d q.f0 < q.f1
        · have ht : takeP a b c d q.f0 q.f1 = (a, b, c, d, 3) := by unfold takeP; rw [if_neg h1, if_neg h2, if_pos h3]
          simp only [ht]
          have := ih (a, b, c, d) hx
          simpa using this
        · have ht : takeP a b c d q.f0 q.f1 = (a, b, lvl a b c d q.f0 - q.f1, q.f0, 0) := by unfold takeP; rw [if_neg h1, if_neg h2, if_neg h3]
          simp only [ht] at hnext ⊢
          have hI := ih (a, b, lvl a b c d q.f0 - q.f1, q.f0) hnext
          simp only at hI
          have hdn := hf.2.1
          have hm : (if True ∧ q.f0 > d then q.f0 else d) = q.f0 := by
            by_cases hgt : q.f0 > d
            · rw [if_pos ⟨trivial, hgt⟩]
            · rw [if_neg (fun hh => hgt hh.2)]; omega
          rw [hm, if_pos trivial]
          obtain ⟨i1, i2, i3⟩ := hI
          generalize nowC l (playS (a, b, lvl a b c d q.f0 - q.f1, q.f0) l).2 q.f0 = N at i1 i2 i3 ⊢
          have hl : lvl a b c d q.f0 ≤ c + b * (q.f0 - d) := by unfold lvl; split <;> omega
          have hs : b * (N - d) = b * (q.f0 - d) + b * (N - q.f0) := by rw [← Int.mul_add]; congr 1; omega
          refine ⟨by omega, i2, ?_⟩
          rw [hs]
          omega
theorem nowC_at {l : List S66} {cs : List Int} {i : Nat} (h : i < l.length) (hc : i < cs.length) (m : Int) : nowC (l.drop i) (cs.drop i) m = nowC (l.drop (i + 1)) (cs.drop (i + 1)) (if rd cs (i : Int) = 0 ∧ (rd_T66 l (i : Int)).f0 > m then (rd_T66 l (i : Int)).f0 else m) := by
  rw [askDrop h, List.drop_eq_getElem_cons hc, nowC, rd_eq hc]

-- block lawCeil
theorem lawCeil_l (l : List S66) (cs : List Int) (hl : l.length ≤ 1048576) (hcs : cs.length = l.length) (a b c d : Int) : ∀ (q i : Nat) (m : Int), l.length - i = q → i ≤ l.length →
    Ev (fun k => laws_FnCeiling.l0 k l cs m (i : Int) a b c d) (decide (takenP a b c d l ≤ ceilP a b c d (nowC (l.drop i) (cs.drop i) m))) := by
  intro q
  induction q with
  | zero =>
    intro i m hq hi
    obtain ⟨n, e1, e2⟩ := evs2 (iTaken_ev a b c d l) (sTaken_ev a b c d l hl)
    refine ⟨n + 1, fun k hk => ?_⟩
    obtain ⟨j, rfl⟩ : ∃ j, k = n + j + 1 := ⟨k - n - 1, by omega⟩
    simp only [laws_FnCeiling.l0, e1 j, e2 j, iCeiling, Option.bind_some, if_true]
    rw [if_neg (by omega), List.drop_of_length_le (by omega)]
    have hz : nowC [] (List.drop i cs) m = m := by simp [nowC]
    rw [hz]
  | succ q ih =>
    intro i m hq hi
    rw [nowC_at (by omega) (by omega)]
    refine Ev.step (fun k => ?_) (ih (i + 1) _ (by omega) (by omega))
    simp only [laws_FnCeiling.l0]
    rw [if_pos (by omega), if_pos (by omega), if_pos (by omega), wsucc (by omega)]
    by_cases h0 : rd cs (i : Int) = 0
    · by_cases h1 : (rd_T66 l (i : Int)).f0 > m
      · rw [if_pos h0, if_pos h1, if_pos ⟨h0, h1⟩]
      · rw [if_pos h0, if_neg h1, if_neg (fun hh => h1 hh.2)]
    · rw [if_neg h0, if_neg (fun hh => h0 hh.1)]

end Go.Proofs.Ytpomhmcehbefaaa.QFnCeiling

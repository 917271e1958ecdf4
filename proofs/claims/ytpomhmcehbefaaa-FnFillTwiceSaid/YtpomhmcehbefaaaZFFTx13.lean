/- Lemmas on the printed functions of FnFillTwice: what each comes to. -/
import Derived.Test.YtpomhmcehbefaaaZFFTx12
import Derived.Test.YtpomhmcehbefaaaZFFTV
namespace Go.Proofs.Ytpomhmcehbefaaa.QFnFillTwice
open Go.RowKit Go.Proofs.Ytpomhmcehbefaaa.PFnFillTwice Go.Proofs.YtpomhmcehbefaaaW.PrintWords Go.Proofs.YtpomhmcehbefaaaW.PrintLast Go.Proofs.Ytpomhmcehbefaaa.Math
set_option linter.unusedVariables false
set_option linter.unusedSimpArgs false

-- block l01In
theorem in_eq (a b c : Int) : spec_l01In.f a b c = some (decide (b ≤ a ∧ a ≤ c)) := by
  simp only [spec_l01In.f, if_dec]

-- block bOk
def bOk (a b c d : Int) : Prop := 0 ≤ a ∧ a ≤ 1000000000 ∧ 0 ≤ b ∧ b ≤ 1000000 ∧ 0 ≤ c ∧ c ≤ a ∧ 0 ≤ d ∧ d ≤ 1000000000
instance bOk_dec (a b c d : Int) : Decidable (bOk a b c d) := by unfold bOk; infer_instance

-- block sBucket
theorem sBucket (a b c d : Int) : spec_BucketOk.f a b c d = some (decide (bOk a b c d)) := by
  simp only [spec_BucketOk.f, in_eq, Option.bind_some, decide_eq_true_eq, if_dec]
  exact congrArg some (decide_eq_decide.2 (by unfold bOk; omega))

-- block iBucket
theorem iBucket (a b c d : Int) : impl_isBucket.f a b c d = some (decide (bOk a b c d)) := by
  simp only [impl_isBucket.f, if_dec]
  exact congrArg some (decide_eq_decide.2 (by unfold bOk; omega))

-- block fillP
/-- A bucket at a tick: its level there, and whether it can be. -/
def fillOk (a b c d n : Int) : Prop := bOk a b c d ∧ d ≤ n ∧ n ≤ 1000000000
instance fillOk_dec (a b c d n : Int) : Decidable (fillOk a b c d n) := by unfold fillOk; infer_instance
def lvl (a b c d n : Int) : Int := if a < c + b * (n - d) then a else c + b * (n - d)
def fillP (a b c d n : Int) : Int × Int × Int × Int × Bool := if fillOk a b c d n then (a, b, lvl a b c d n, n, true) else (a, b, c, d, false)
theorem fill_range {a b c d n : Int} (h : fillOk a b c d n) : 0 ≤ b * (n - d) ∧ b * (n - d) ≤ 1000000000000000 := by
  unfold fillOk bOk at h
  constructor
  · exact Int.mul_nonneg (by omega) (by omega)
  · have h1 : b * (n - d) ≤ 1000000 * (n - d) := Int.mul_le_mul_of_nonneg_right (by omega) (by omega)
    omega
theorem fill_words {a b c d n : Int} (h : fillOk a b c d n) : wrap64 (c + wrap64 (b * wrap64 (n - d))) = c + b * (n - d) := by
  have hr := fill_range h
  unfold fillOk bOk at h
  rw [w64 (x := n - d) (by omega) (by omega), w64 (x := b * (n - d)) (by omega) (by omega), w64 (by omega) (by omega)]
theorem lvl_ok {a b c d n : Int} (h : fillOk a b c d n) : bOk a b (lvl a b c d n) n ∧ c ≤ lvl a b c d n := by
  have hr := fill_range h
  unfold fillOk bOk at h
  unfold bOk lvl
  split <;> omega

-- block iFill
theorem iFill (a b c d n : Int) : impl_fillBucket.f a b c d n = some (fillP a b c d n) := by
  simp only [impl_fillBucket.f, iBucket, Option.bind_some, decide_eq_true_eq, fillP]
  by_cases h : bOk a b c d
  · rw [if_pos h]
    by_cases h1 : n < d
    · have hf : ¬ fillOk a b c d n := fun hf => by have := hf.2.1; omega
      rw [if_pos h1, if_neg hf]
    · rw [if_neg h1]
      by_cases h2 : n > 1000000000
      · have hf : ¬ fillOk a b c d n := fun hf => by have := hf.2.2; omega
        rw [if_pos h2, if_neg hf]
      · rw [if_neg h2]
        have hf : fillOk a b c d n := ⟨h, by omega, by omega⟩
        rw [if_pos hf, fill_words hf, mn_eq]
        rfl
  · have hf : ¬ fillOk a b c d n := fun hf => h hf.1
    rw [if_neg h, if_neg hf]

-- block iFillBucket
theorem iFillBucket (a b c d n : Int) : impl_FillBucket.f a b c d n = some (fillP a b c d n) := by
  simp only [impl_FillBucket.f, iFill, Option.bind_some]

-- block sFill
theorem sFill (k : Nat) (a b c d n : Int) : spec_FillBucket.f (k + 1) a b c d n = some (fillP a b c d n) := by
  simp only [spec_FillBucket.f, sBucket, in_eq, Option.bind_some, decide_eq_true_eq, fillP, spec_FillBucket.j0]
  by_cases h : bOk a b c d
  · rw [if_pos h]
    by_cases h1 : d ≤ n ∧ n ≤ 1000000000
    · have hf : fillOk a b c d n := ⟨h, h1.1, h1.2⟩
      simp only [if_pos hf, h1, decide_true, Bool.not_true, Bool.false_eq_true, if_false, fill_words hf, and_self]
      unfold lvl
      by_cases h3 : a < c + b * (n - d)
      · rw [if_pos h3, if_pos h3]
      · rw [if_neg h3, if_neg h3]
    · have hf : ¬ fillOk a b c d n := fun hf => h1 ⟨hf.2.1, hf.2.2⟩
      simp only [if_neg hf, h1, decide_false, Bool.not_false, if_true]
  · have hf : ¬ fillOk a b c d n := fun hf => h hf.1
    simp only [if_neg h, if_neg hf, if_true]

-- block takeP
/-- A bucket with units taken from it, and the code. -/
def takeP (a b c d now u : Int) : Int × Int × Int × Int × Int :=
  if ¬ fillOk a b c d now ∨ u < 0 then (a, b, c, d, 1) else if u > a then (a, b, c, d, 2) else if lvl a b c d now < u then (a, b, c, d, 3) else (a, b, lvl a b c d now - u, now, 0)
theorem take_bOk {a b c d now u : Int} (h : bOk a b c d) : bOk (takeP a b c d now u).1 (takeP a b c d now u).2.1 (takeP a b c d now u).2.2.1 (takeP a b c d now u).2.2.2.1 := by
  unfold takeP
  by_cases h1 : ¬ fillOk a b c d now ∨ u < 0
  · rw [if_pos h1]; exact h
  · rw [if_neg h1]
    have hf : fillOk a b c d now := Classical.not_not.1 fun h2 => h1 (Or.inl h2)
    have hu : ¬ u < 0 := fun h2 => h1 (Or.inr h2)
    have hl := (lvl_ok hf).1
    by_cases h2 : u > a
    · rw [if_pos h2]; exact h
    · rw [if_neg h2]
      by_cases h3 : lvl a b c d now < u
      · rw [if_pos h3]; exact h
      · rw [if_neg h3]
        unfold bOk at hl ⊢
        simp only
        omega

-- block sTake
theorem sTake (k : Nat) (a b c d now u : Int) : spec_TakeUnits.f (k + 1) a b c d now u = some (takeP a b c d now u) := by
  simp only [spec_TakeUnits.f, sFill, Option.bind_some, fillP, takeP, spec_TakeUnits.j0]
  by_cases hf : fillOk a b c d now
  · have hl := (lvl_ok hf).1
    simp only [if_pos hf, hf, not_true_eq_false, false_or, if_true, decide_eq_true_eq]
    by_cases h1 : u < 0
    · rw [if_pos h1, if_pos h1]
    · rw [if_neg h1, if_neg h1]
      by_cases h2 : u > a
      · rw [if_pos h2, if_pos h2]
      · rw [if_neg h2, if_neg h2]
        by_cases h3 : lvl a b c d now < u
        · rw [if_pos h3, if_pos h3]
        · unfold bOk at hl
          rw [if_neg h3, if_neg h3, w64 (by omega) (by omega)]
  · simp only [if_neg hf, hf, not_false_eq_true, true_or, if_true, Bool.false_eq_true, if_false]

-- block iTake
theorem iTake (k : Nat) (a b c d now u : Int) : impl_takeUnits.f (k + 1) a b c d now u = some (takeP a b c d now u) := by
  simp only [impl_takeUnits.f, iFill, Option.bind_some, fillP, takeP, impl_takeUnits.j0]
  by_cases hf : fillOk a b c d now
  · have hl := (lvl_ok hf).1
    simp only [if_pos hf, hf, not_true_eq_false, false_or, if_true, decide_eq_true_eq]
    by_cases h1 : u < 0
    · rw [if_pos h1, if_pos h1]
    · rw [if_neg h1, if_neg h1]
      by_cases h2 : u > a
      · rw [if_pos h2, if_pos h2]
      · rw [if_neg h2, if_neg h2]
        by_cases h3 : lvl a b c d now < u
        · rw [if_pos h3, if_pos h3]
        · unfold bOk at hl
          rw [if_neg h3, if_neg h3, w64 (by omega) (by omega)]
  · simp only [if_neg hf, hf, not_false_eq_true, true_or, if_true, Bool.false_eq_true, if_false]

-- block iTakeUnits
theorem iTakeUnits (k : Nat) (a b c d now u : Int) : impl_TakeUnits.f (k + 1) a b c d now u = some (takeP a b c d now u) := by
  simp only [impl_TakeUnits.f, iTake, Option.bind_some]

-- block readyP
/-- The first tick at which units can be taken. -/
def readyP (a b c d n : Int) : Int :=
  if ¬ bOk a b c d ∨ n < 0 ∨ n > a then -1 else if n ≤ c then d else if b = 0 then -1 else if d + (n - c + b - 1) / b > 1000000000 then -1 else d + (n - c + b - 1) / b
theorem ceil_le {m b s : Int} (hb : 0 < b) : (m + b - 1) / b ≤ s ↔ m ≤ b * s := by
  have h1 : (m + b - 1) / b ≤ s ↔ (m + b - 1) / b < s + 1 := by omega
  rw [h1, Int.ediv_lt_iff_lt_mul hb, Int.add_mul, Int.mul_comm s b]
  omega
/-- Units can be taken at a tick just where it is no earlier than the first. -/
theorem ready_iff {a b c d n t : Int} (h : fillOk a b c d t) (h0 : 0 ≤ n) (ha : n ≤ a) : n ≤ lvl a b c d t ↔ (n ≤ c ∨ (b ≠ 0 ∧ d + (n - c + b - 1) / b ≤ t)) := by
  have hr := fill_range h
  have h' := h
  unfold fillOk bOk at h'
  have hl : n ≤ lvl a b c d t ↔ n ≤ c + b * (t - d) := by unfold lvl; split <;> omega
  rw [hl]
  by_cases hb : b = 0
  · subst hb; simp
  · have := ceil_le (m := n - c) (b := b) (s := t - d) (by omega)
    omega
theorem take_code {a b c d now u : Int} (h : fillOk a b c d now) (h0 : 0 ≤ u) (ha : u ≤ a) : (takeP a b c d now u).2.2.2.2 = 0 ↔ u ≤ lvl a b c d now := by
  unfold takeP
  have h1 : ¬ (¬ fillOk a b c d now ∨ u < 0) := fun hh => hh.elim (fun k => k h) (fun k => by omega)
  rw [if_neg h1, if_neg (by omega)]
  by_cases h3 : lvl a b c d now < u
  · rw [if_pos h3]; simp; omega
  · rw [if_neg h3]; simp; omega

-- block iReady
theorem iReady (k : Nat) (a b c d n : Int) (hn : (Lit.int .i64 n).wf = true) : impl_WhenReady.f (k + 1) a b c d n = some (readyP a b c d n) := by
  have hw := wf_i64 hn
  simp only [impl_WhenReady.f, iBucket, Option.bind_some, decide_eq_true_eq, readyP, impl_WhenReady.j0]
  by_cases h : bOk a b c d
  · have hb := h
    unfold bOk at hb
    simp only [if_pos h, h, not_true_eq_false, false_or]
    by_cases h1 : n < 0
    · simp only [h1, if_true, true_or]
    · simp only [h1, if_false, false_or]
      by_cases h2 : n > a
      · simp only [h2, if_true]
      · simp only [h2, if_false]
        by_cases h3 : n ≤ c
        · simp only [h3, if_true]
        · simp only [h3, if_false]
          by_cases h4 : b = 0
          · simp [h4]
          · have q0 : 0 ≤ (n - c + b - 1) / b := Int.ediv_nonneg (by omega) (by omega)
            have q1 : (n - c + b - 1) / b ≤ n - c + b - 1 := Int.ediv_le_self _ (by omega)
            rw [if_neg h4, if_neg h4, w64 (x := n - c) (by omega) (by omega), w64 (x := n - c + b) (by omega) (by omega), w64 (x := n - c + b - 1) (by omega) (by omega), Int.tdiv_eq_ediv_of_nonneg (by omega), w64 (x := (n - c + b - 1) / b) (by omega) (by omega), w64 (by omega) (by omega)]
            by_cases h5 : d + (n - c + b - 1) / b > 1000000000
            · simp [h5]
            · simp [h5]
  · simp [h]

-- block sReady
theorem sReady_l (a b c d n r : Int) (h : bOk a b c d) (h0 : 0 ≤ n) (ha : n ≤ a) (hr : ∀ t, d ≤ t → t ≤ 1000000000 → (n ≤ lvl a b c d t ↔ r ≤ t)) :
    ∀ (m : Nat) (lo hi : Int), (hi - lo).toNat ≤ m → d ≤ lo → lo ≤ r → r ≤ hi → hi ≤ 1000000000 → Ev (fun k => spec_WhenReady.l0 k n lo hi a b c d) r := by
  have hb := h
  unfold bOk at hb
  intro m
  induction m with
  | zero =>
    intro lo hi hm h1 h2 h3 h4
    refine ev_now fun k => ?_
    simp only [spec_WhenReady.l0]
    rw [if_neg (by omega), show lo = r by omega]
  | succ m ih =>
    intro lo hi hm h1 h2 h3 h4
    by_cases hlt : lo < hi
    · have hw : wrap64 (lo + wrap64 (Int.tdiv (wrap64 (hi - lo)) 2)) = lo + (hi - lo) / 2 := by
        rw [w64 (x := hi - lo) (by omega) (by omega), Int.tdiv_eq_ediv_of_nonneg (by omega), w64 (x := (hi - lo) / 2) (by omega) (by omega), w64 (by omega) (by omega)]
      have hf : fillOk a b c d (lo + (hi - lo) / 2) := ⟨h, by omega, by omega⟩
      have hc := (take_code hf h0 ha).trans (hr _ (by omega) (by omega))
      have hT : Ev (fun k => spec_TakeUnits.f k a b c d (lo + (hi - lo) / 2) n) (takeP a b c d (lo + (hi - lo) / 2) n) := Ev.step (fun k => sTake k a b c d _ n) (Ev.now _)
      refine Ev.step (fun k => ?_) (Ev.bind hT (f := fun k bt => if bt.2.2.2.2 = 0 then spec_WhenReady.l0 k n lo (lo + (hi - lo) / 2) a b c d else spec_WhenReady.l0 k n (lo + (hi - lo) / 2 + 1) hi a b c d) ?_)
      · simp only [spec_WhenReady.l0]
        rw [if_pos hlt, hw, w64 (x := lo + (hi - lo) / 2 + 1) (by omega) (by omega)]
      · by_cases hq : r ≤ lo + (hi - lo) / 2
        · refine Ev.congr (fun k => if_pos (hc.2 hq)) (ih lo _ (by omega) h1 h2 hq (by omega))
        · refine Ev.congr (fun k => if_neg (fun hz => hq (hc.1 hz))) (ih _ hi (by omega) (by omega) (by omega) h3 h4)
    · refine ev_now fun k => ?_
      simp only [spec_WhenReady.l0]
      rw [if_neg hlt, show lo = r by omega]
theorem sReady_ev (a b c d n : Int) : Ev (fun k => spec_WhenReady.f k a b c d n) (readyP a b c d n) := by
  by_cases h : bOk a b c d
  · have hT : Ev (fun k => spec_TakeUnits.f k a b c d 1000000000 n) (takeP a b c d 1000000000 n) := Ev.step (fun k => sTake k a b c d _ n) (Ev.now _)
    have hb := h
    unfold bOk at hb
    have hf : fillOk a b c d 1000000000 := ⟨h, by omega, by omega⟩
    refine Ev.congr (fun k => ?_) (Ev.bind hT (f := fun k bt => if bt.2.2.2.2 = 0 then spec_WhenReady.l0 k n d 1000000000 a b c d else some (-1)) ?_)
    · simp only [spec_WhenReady.f, sBucket, Option.bind_some, decide_eq_true_eq]
      rw [if_pos h]
    · by_cases h0 : 0 ≤ n ∧ n ≤ a
      · have hc := take_code hf h0.1 h0.2
        have hi := ready_iff hf h0.1 h0.2
        by_cases hr : n ≤ lvl a b c d 1000000000
        · refine Ev.congr (fun k => if_pos (hc.2 hr)) ?_
          have key : readyP a b c d n = if n ≤ c then d else d + (n - c + b - 1) / b := by
            unfold readyP
            rw [if_neg (by intro hh; rcases hh with hh | hh | hh; exact hh h; omega; omega)]
            by_cases h3 : n ≤ c
            · rw [if_pos h3, if_pos h3]
            · have hi2 := (hi.1 hr).resolve_left h3
              rw [if_neg h3, if_neg h3, if_neg hi2.1, if_neg (by omega)]
          have hge : ¬ n ≤ c → 0 ≤ (n - c + b - 1) / b := fun _ => Int.ediv_nonneg (by omega) (by omega)
          refine sReady_l a b c d n _ h h0.1 h0.2 ?_ (1000000000 - d).toNat d 1000000000 (Nat.le_refl _) (Int.le_refl _) ?_ ?_ (Int.le_refl _)
          · intro t ht1 ht2
            rw [ready_iff ⟨h, ht1, ht2⟩ h0.1 h0.2, key]
            by_cases h3 : n ≤ c
            · simp [h3]; exact ht1
            · have hi2 := (hi.1 hr).resolve_left h3
              simp [h3, hi2.1]
          · rw [key]
            by_cases h3 : n ≤ c
            · rw [if_pos h3]; omega
            · rw [if_neg h3]; have := hge h3; omega
          · rw [key]
            by_cases h3 : n ≤ c
            · rw [if_pos h3]; omega
            · have hi2 := (hi.1 hr).resolve_left h3
              rw [if_neg h3]; exact hi2.2
        · refine Ev.congr (fun k => if_neg (fun hz => hr (hc.1 hz))) ?_
          have key : readyP a b c d n = -1 := by
            unfold readyP
            rw [if_neg (by intro hh; rcases hh with hh | hh | hh; exact hh h; omega; omega)]
            have hi2 : ¬ (n ≤ c ∨ b ≠ 0 ∧ d + (n - c + b - 1) / b ≤ 1000000000) := fun hh => hr (hi.2 hh)
            have h3 : ¬ n ≤ c := fun h3 => hi2 (Or.inl h3)
            rw [if_neg h3]
            by_cases h4 : b = 0
            · rw [if_pos h4]
            · have h5 : ¬ d + (n - c + b - 1) / b ≤ 1000000000 := fun h5 => hi2 (Or.inr ⟨h4, h5⟩)
              rw [if_neg h4, if_pos (by omega)]
          rw [key]
          exact Ev.now _
      · have h1 : ¬ (takeP a b c d 1000000000 n).2.2.2.2 = 0 := by
          unfold takeP
          by_cases hn : n < 0
          · rw [if_pos (Or.inr hn)]; simp
          · rw [if_neg (fun hh => hh.elim (fun k => k hf) (fun k => by omega)), if_pos (by omega)]; simp
        refine Ev.congr (fun k => if_neg h1) ?_
        have key : readyP a b c d n = -1 := by
          unfold readyP
          rw [if_pos (by omega)]
        rw [key]
        exact Ev.now _
  · have key : readyP a b c d n = -1 := by
      unfold readyP
      rw [if_pos (Or.inl h)]
    rw [key]
    refine ev_some fun k => ?_
    simp only [spec_WhenReady.f, sBucket, Option.bind_some, decide_eq_true_eq]
    rw [if_neg h]

-- block drawByte
/-- A place of a row to draw from, or its end. -/
def dAt (l : List Int) (i : Int) : Prop := 0 ≤ i ∧ i ≤ l.length
theorem drawByte (l : List Int) (hn : l.length ≤ 140737488355328) (i h : Int) (hi : dAt l i) : ∃ b i' h', spec_l01Byte.f l i h = some (b, i', h') ∧ (0 ≤ b ∧ b ≤ 255) ∧ dAt l i' := by
  unfold dAt at hi ⊢
  simp only [spec_l01Byte.f]
  by_cases hl : i < (l.length : Int)
  · rw [if_pos hl, if_pos hi.1]
    exact ⟨_, _, _, rfl, bits_and _ 255 (by decide), by rw [w64 (by omega) (by omega)]; omega⟩
  · rw [if_neg hl]
    exact ⟨_, _, _, rfl, bits_and _ 255 (by decide), hi⟩

-- block drawBelow
theorem drawBelow (l : List Int) (hn : l.length ≤ 140737488355328) (i h : Int) (hi : dAt l i) (m : Int) : ∃ b i' h', spec_l01Below.f l i h m = some (b, i', h') ∧ (0 ≤ b ∧ (b < m ∨ b = 0)) ∧ dAt l i' := by
  simp only [spec_l01Below.f]
  by_cases h0 : m ≤ 0
  · rw [if_pos h0]
    exact ⟨_, _, _, rfl, by omega, hi⟩
  · rw [if_neg h0]
    obtain ⟨b1, i1, h1, e1, r1, d1⟩ := drawByte l hn i h hi
    rw [e1]
    by_cases hm : m ≤ 256
    · rw [if_pos hm, Option.bind_some, if_neg (by omega)]
      refine ⟨_, _, _, rfl, ?_, d1⟩
      simp only
      rw [Int.tmod_eq_emod_of_nonneg (by omega)]
      exact ⟨Int.emod_nonneg _ (by omega), Or.inl (Int.emod_lt_of_pos _ (by omega))⟩
    · rw [if_neg hm, Option.bind_some]
      obtain ⟨b2, i2, h2, e2, r2, d2⟩ := drawByte l hn i1 h1 d1
      rw [e2, Option.bind_some]
      obtain ⟨b3, i3, h3, e3, r3, d3⟩ := drawByte l hn i2 h2 d2
      rw [e3, Option.bind_some, if_neg (by omega)]
      refine ⟨_, _, _, rfl, ?_, d3⟩
      simp only
      rw [w64 (x := b1 * 65536) (by omega) (by omega), w64 (x := b2 * 256) (by omega) (by omega), w64 (x := b1 * 65536 + b2 * 256) (by omega) (by omega), w64 (by omega) (by omega), Int.tmod_eq_emod_of_nonneg (by omega)]
      exact ⟨Int.emod_nonneg _ (by omega), Or.inl (Int.emod_lt_of_pos _ (by omega))⟩

-- block drawPickInt
theorem drawPickInt (l : List Int) (hn : l.length ≤ 140737488355328) (i h : Int) (hi : dAt l i) (xs : List Int) (hx : 0 < xs.length) : ∃ b i' h', spec_l01PickInt.f l i h xs = some (b, i', h') ∧ b ∈ xs ∧ dAt l i' := by
  simp only [spec_l01PickInt.f]
  obtain ⟨b1, i1, h1, e1, r1, d1⟩ := drawBelow l hn i h hi (xs.length : Int)
  rw [e1, Option.bind_some, if_pos r1.1, if_pos (by simp only; omega)]
  refine ⟨_, _, _, rfl, ?_, d1⟩
  simp only
  rw [show b1 = ((b1.toNat : Nat) : Int) by omega]
  exact rd_mem (by omega)

-- block drawNew
theorem drawNew_l (l : List Int) (hn : l.length ≤ 140737488355328) : ∀ (d i : Nat) (h : Int), 4000 - i = d → ∃ h', Ev (fun k => spec_l01New.l0 k l h (i : Int)) (l, 0, h') := by
  intro d
  induction d with
  | zero =>
    intro i h hd
    refine ⟨h, ev_now fun k => ?_⟩
    simp only [spec_l01New.l0]
    split
    · rw [if_neg (by omega)]
    · rfl
  | succ d ih =>
    intro i h hd
    by_cases hl : (i : Int) < (l.length : Int)
    · obtain ⟨h', e⟩ := ih (i + 1) (Go.bits .and .i64 (wrap64 ((wrap64 ((wrap64 (h * 149)) + (wrap64 (rd l i)))) + 11)) 1073741823) (by omega)
      refine ⟨h', Ev.step (fun k => ?_) e⟩
      simp only [spec_l01New.l0]
      rw [if_pos hl, if_pos (by omega), if_pos (by omega), wsucc (by omega)]
    · refine ⟨h, ev_now fun k => ?_⟩
      simp only [spec_l01New.l0]
      rw [if_neg hl]
theorem drawNew (l : List Int) (hn : l.length ≤ 140737488355328) : ∃ h', Ev (fun k => spec_l01New.f k l) (l, 0, h') := by
  obtain ⟨h', e⟩ := drawNew_l l hn 4000 0 (wrap64 (710710 + (l.length : Int))) (by omega)
  exact ⟨h', Ev.congr (fun k => rfl) e⟩
theorem dAt0 (l : List Int) : dAt l 0 := by unfold dAt; omega

-- block lawsAt
theorem lawsAtB (l : List Int) (hb : isB l) (hn : l.length ≤ 1048576) (n : Nat) (h : n ≤ 1000) : ∃ v, laws_at.f l (n : Int) = some v ∧ 0 ≤ v ∧ v ≤ 255 := by
  simp only [laws_at.f]
  by_cases hl : (n : Int) < (l.length : Int)
  · have hc := isB_at hb (show n < l.length by omega)
    rw [if_pos hl, if_pos (by omega), rd_eq (by omega), w64 (by omega) (by omega)]
    exact ⟨_, rfl, hc⟩
  · rw [if_neg hl, w64 (x := (n : Int) * 13) (by omega) (by omega), w64 (x := (l.length : Int) * 5) (by omega) (by omega), w64 (by omega) (by omega), Int.tmod_eq_emod_of_nonneg (by omega)]
    exact ⟨_, rfl, by omega, by omega⟩
theorem lawsAt (l : List Int) (n : Nat) : ∃ v, laws_at.f l (n : Int) = some v := by
  simp only [laws_at.f]
  split
  · rw [if_pos (by omega)]; exact ⟨_, rfl⟩
  · exact ⟨_, rfl⟩

-- block drawOnce
theorem drawOnce (l : List Int) (hn : l.length ≤ 140737488355328) (i h : Int) (hi : dAt l i) (m : Int) : ∃ b i' h', spec_l01Once.f l i h m = some (b, i', h') ∧ dAt l i' := by
  obtain ⟨b1, i1, h1, e1, r1, d1⟩ := drawBelow l hn i h hi m
  exact ⟨(b1 == 0), i1, h1, by simp only [spec_l01Once.f, e1, Option.bind_some], d1⟩

-- block drawBucket
theorem drawBucket (l : List Int) (hn : l.length ≤ 140737488355328) (i h : Int) (hi : dAt l i) : ∃ a b c d i' h', spec_l12DrawBucket.f l i h = some (a, b, c, d, i', h') ∧ dAt l i' := by
  obtain ⟨b1, i1, h1, e1, r1, d1⟩ := drawBelow l hn i h hi 500
  obtain ⟨b2, i2, h2, e2, r2, d2⟩ := drawBelow l hn i1 h1 d1 500
  obtain ⟨b3, i3, h3, e3, r3, d3⟩ := drawPickInt l hn i2 h2 d2 [0, 10, 100, 1000, 1000000000, b1, b2] (by simp)
  obtain ⟨b4, i4, h4, e4, r4, d4⟩ := drawBelow l hn i3 h3 d3 40
  obtain ⟨b5, i5, h5, e5, r5, d5⟩ := drawPickInt l hn i4 h4 d4 [0, 1, 3, 7, b4, 1000000] (by simp)
  obtain ⟨b6, i6, h6, e6, r6, d6⟩ := drawBelow l hn i5 h5 d5 (wrap64 (b3 + 1))
  obtain ⟨b7, i7, h7, e7, r7, d7⟩ := drawBelow l hn i6 h6 d6 100
  obtain ⟨b8, i8, h8, e8, r8, d8⟩ := drawBelow l hn i7 h7 d7 100
  obtain ⟨b9, i9, h9, e9, r9, d9⟩ := drawBelow l hn i8 h8 d8 50
  obtain ⟨c1, j1, g1, f1, s1, t1⟩ := drawPickInt l hn i9 h9 d9 [0, b7, b8, wrap64 (1000000000 - b9)] (by simp)
  obtain ⟨c2, j2, g2, f2, t2⟩ := drawOnce l hn j1 g1 t1 20
  obtain ⟨c3, j3, g3, f3, s3, t3⟩ := drawBelow l hn j2 g2 t2 4
  obtain ⟨u1, k1, q1, v1, w1, x1⟩ := drawPickInt l hn j3 g3 t3 [wrap64 (b3 + 1), (-1)] (by simp)
  obtain ⟨u2, k2, q2, v2, w2, x2⟩ := drawPickInt l hn j3 g3 t3 [(-1), 1000001] (by simp)
  obtain ⟨u3, k3, q3, v3, w3, x3⟩ := drawPickInt l hn j3 g3 t3 [(-1), 1000000001] (by simp)
  cases c2 with
  | false => exact ⟨b3, b5, b6, c1, j2, g2, by (simp only [spec_l12DrawBucket.f, e1, e2, e3, e4, e5, e6, e7, e8, e9, f1, f2, Option.bind_some, Bool.false_eq_true, if_false]), t2⟩
  | true =>
    by_cases h0 : c3 = 0
    · exact ⟨b3, b5, u1, c1, k1, q1, by (simp only [spec_l12DrawBucket.f, e1, e2, e3, e4, e5, e6, e7, e8, e9, f1, f2, f3, Option.bind_some, if_true]; rw [if_pos h0, v1]; rfl), x1⟩
    · by_cases h1 : c3 = 1
      · exact ⟨b3, u2, b6, c1, k2, q2, by (simp only [spec_l12DrawBucket.f, e1, e2, e3, e4, e5, e6, e7, e8, e9, f1, f2, f3, Option.bind_some, if_true]; rw [if_neg h0, if_pos h1, v2]; rfl), x2⟩
      · by_cases h2 : c3 = 2
        · exact ⟨b3, b5, b6, u3, k3, q3, by (simp only [spec_l12DrawBucket.f, e1, e2, e3, e4, e5, e6, e7, e8, e9, f1, f2, f3, Option.bind_some, if_true]; rw [if_neg h0, if_neg h1, if_pos h2, v3]; rfl), x3⟩
        · by_cases h3 : c3 = 3
          · exact ⟨u3, b5, b6, c1, k3, q3, by (simp only [spec_l12DrawBucket.f, e1, e2, e3, e4, e5, e6, e7, e8, e9, f1, f2, f3, Option.bind_some, if_true]; rw [if_neg h0, if_neg h1, if_neg h2, if_pos h3, v3]; rfl), x3⟩
          · exact ⟨b3, b5, b6, c1, j3, g3, by (simp only [spec_l12DrawBucket.f, e1, e2, e3, e4, e5, e6, e7, e8, e9, f1, f2, f3, Option.bind_some, if_true]; rw [if_neg h0, if_neg h1, if_neg h2, if_neg h3]), t3⟩

-- block drawUnitsR
theorem wrap_range (x : Int) : -9223372036854775808 ≤ wrap64 x ∧ wrap64 x ≤ 9223372036854775807 := by unfold wrap64; omega
theorem drawUnitsR (l : List Int) (hn : l.length ≤ 140737488355328) (i h : Int) (hi : dAt l i) (m : Int) : ∃ b i' h', spec_l12DrawUnits.f l i h m = some (b, i', h') ∧ (0 ≤ m → m ≤ 1000000000 → -9223372036854775808 ≤ b ∧ b ≤ 9223372036854775807) := by
  obtain ⟨b1, i1, h1, e1, r1, d1⟩ := drawBelow l hn i h hi (wrap64 (m + 1))
  obtain ⟨b2, i2, h2, e2, r2, d2⟩ := drawBelow l hn i1 h1 d1 30
  obtain ⟨b3, i3, h3, e3, r3, d3⟩ := drawBelow l hn i2 h2 d2 30
  obtain ⟨b4, i4, h4, e4, r4, d4⟩ := drawBelow l hn i3 h3 d3 30
  obtain ⟨b5, i5, h5, e5, r5, d5⟩ := drawPickInt l hn i4 h4 d4 [0, m, wrap64 (m + 1), (-1), b1, b2, b3, b4] (by simp)
  refine ⟨b5, i5, h5, by simp only [spec_l12DrawUnits.f, e1, e2, e3, e4, e5, Option.bind_some], fun hm0 hm1 => ?_⟩
  have hw := wrap_range (m + 1)
  generalize wrap64 (m + 1) = W at *
  simp only [List.mem_cons, List.not_mem_nil, or_false] at r5
  omega

-- block drawReady
theorem drawReady (l : List Int) (hn : l.length ≤ 140737488355328) : ∃ a b c d n, Ev (fun k => spec_DrawWhenReady.f k l) (a, b, c, d, n) ∧ (0 ≤ a → a ≤ 1000000000 → -9223372036854775808 ≤ n ∧ n ≤ 9223372036854775807) := by
  obtain ⟨h0, e0⟩ := drawNew l hn
  obtain ⟨a, b, c, d, i1, h1, e1, d1⟩ := drawBucket l hn 0 h0 (dAt0 l)
  obtain ⟨n, i2, h2, e2, r2⟩ := drawUnitsR l hn i1 h1 d1 a
  obtain ⟨m, k0⟩ := evs1 e0
  refine ⟨a, b, c, d, n, ⟨m, fun k hk => ?_⟩, r2⟩
  obtain ⟨j, rfl⟩ : ∃ j, k = m + j := ⟨k - m, by omega⟩
  simp only [spec_DrawWhenReady.f, k0 j, e1, e2, Option.bind_some]

-- block fillTwice
theorem lvl_lvl {a b c d m e : Int} (h : fillOk a b c d m) (hme : m ≤ e) (he : e ≤ 1000000000) : lvl a b (lvl a b c d m) m e = lvl a b c d e := by
  have h2 : fillOk a b c d e := ⟨h.1, by have := h.2.1; omega, he⟩
  have hok := lvl_ok h
  have h3 : fillOk a b (lvl a b c d m) m e := ⟨hok.1, hme, he⟩
  have r1 := fill_range h
  have r3 := fill_range h3
  have hs : b * (e - d) = b * (m - d) + b * (e - m) := by rw [← Int.mul_add]; congr 1; omega
  unfold lvl
  rw [hs]
  generalize b * (m - d) = P at *
  generalize b * (e - m) = Q at *
  by_cases h4 : a < c + P
  · rw [if_pos h4]
    by_cases h5 : a < a + Q
    · rw [if_pos h5, if_pos (by omega)]
    · rw [if_neg h5, if_pos (by omega)]; omega
  · rw [if_neg h4]
    by_cases h5 : a < c + P + Q
    · rw [if_pos h5, if_pos (by omega)]
    · rw [if_neg h5, if_neg (by omega)]; omega
theorem ready_codes {a b c d n : Int} (h : bOk a b c d) (ht : ¬ readyP a b c d n < 0) : (takeP a b c d (readyP a b c d n) n).2.2.2.2 = 0 ∧ (readyP a b c d n = d ∨ (takeP a b c d (readyP a b c d n - 1) n).2.2.2.2 = 3) ∧ d ≤ readyP a b c d n ∧ readyP a b c d n ≤ 1000000000 := by
  have hb := h
  unfold bOk at hb
  unfold readyP at ht ⊢
  by_cases h1 : ¬ bOk a b c d ∨ n < 0 ∨ n > a
  · rw [if_pos h1] at ht; omega
  · rw [if_neg h1] at ht ⊢
    have hn0 : 0 ≤ n := by omega
    have hna : n ≤ a := by omega
    by_cases h2 : n ≤ c
    · rw [if_pos h2] at ht ⊢
      have hf : fillOk a b c d d := ⟨h, by omega, by omega⟩
      refine ⟨(take_code hf hn0 hna).2 ((ready_iff hf hn0 hna).2 (Or.inl h2)), Or.inl rfl, by omega, by omega⟩
    · rw [if_neg h2] at ht ⊢
      by_cases h3 : b = 0
      · rw [if_pos h3] at ht; omega
      · rw [if_neg h3] at ht ⊢
        by_cases h4 : d + (n - c + b - 1) / b > 1000000000
        · rw [if_pos h4] at ht; omega
        · rw [if_neg h4] at ht ⊢
          have q0 : 0 ≤ (n - c + b - 1) / b := Int.ediv_nonneg (by omega) (by omega)
          obtain ⟨T, hT⟩ : ∃ T, T = d + (n - c + b - 1) / b := ⟨_, rfl⟩
          have hf : fillOk a b c d T := ⟨h, by omega, by omega⟩
          rw [← hT]
          refine ⟨(take_code hf hn0 hna).2 ((ready_iff hf hn0 hna).2 (Or.inr ⟨h3, by omega⟩)), ?_, by omega, by omega⟩
          by_cases h5 : T = d
          · exact Or.inl h5
          · right
            have hf2 : fillOk a b c d (T - 1) := ⟨h, by omega, by omega⟩
            have hno : ¬ n ≤ lvl a b c d (T - 1) := fun hh => by
              rcases (ready_iff hf2 hn0 hna).1 hh with h6 | h6
              · exact h2 h6
              · omega
            unfold takeP
            rw [if_neg (fun hh => hh.elim (fun k => k hf2) (fun k => by omega)), if_neg (by omega), if_pos (by omega)]

end Go.Proofs.Ytpomhmcehbefaaa.QFnFillTwice

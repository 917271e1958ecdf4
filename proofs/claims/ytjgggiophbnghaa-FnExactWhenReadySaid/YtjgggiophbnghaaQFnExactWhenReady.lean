/- Lemmas on the printed functions of FnExactWhenReady: what each comes to. -/
import Derived.Test.YtjgggiophbnghaaPFnExactWhenReadyx
import Derived.Test.YtjgggiophbnghaaMath
namespace Go.Proofs.Ytjgggiophbnghaa.QFnExactWhenReady
open Go.RowKit Go.Proofs.Ytjgggiophbnghaa.PFnExactWhenReady Go.Proofs.YtjgggiophbnghaaW.PrintWords Go.Proofs.YtjgggiophbnghaaW.PrintLast Go.Proofs.Ytjgggiophbnghaa.Math
set_option linter.unusedVariables false
set_option linter.unusedSimpArgs false

-- block l01In
theorem in_eq (a b c : Int) : spec_l01In.f a b c = some (decide (b ≤ a ∧ a ≤ c)) := by
  simp only [spec_l01In.f, if_dec]

-- block bOk
def bOk (a b c d : Int) : Prop := 0 ≤ a ∧ a ≤ 1000000000 ∧ 0 ≤ b ∧ b ≤ 1000000 ∧ 0 ≤ c ∧ c ≤ a ∧ 0 ≤ d ∧ d ≤ 1000000000
instance bOk_dec (a b c d : Int) : Decidable (bOk a b c d) := by unfold bOk; infer_instance

-- block sBucket
theorem sBucket (a b c d : Int) : spec_BucketOk.f a b c d = some (decide (bOk a b c d)) := by
  simp only [spec_BucketOk.f, in_eq, Option.bind_some, decide_eq_true_eq, if_dec]
  exact congrArg some (decide_eq_decide.2 (by unfold bOk; omega))

-- block iBucket
theorem iBucket (a b c d : Int) : impl_isBucket.f a b c d = some (decide (bOk a b c d)) := by
  simp only [impl_isBucket.f, if_dec]
  exact congrArg some (decide_eq_decide.2 (by unfold bOk; omega))

-- block fillP
/-- A bucket at a tick: its level there, and whether it can be. -/
def fillOk (a b c d n : Int) : Prop := bOk a b c d ∧ d ≤ n ∧ n ≤ 1000000000
instance fillOk_dec (a b c d n : Int) : Decidable (fillOk a b c d n) := by unfold fillOk; infer_instance
def lvl (a b c d n : Int) : Int := if a < c + b * (n - d) then a else c + b * (n - d)
def fillP (a b c d n : Int) : Int × Int × Int × Int × Bool := if fillOk a b c d n then (a, b, lvl a b c d n, n, true) else (a, b, c, d, false)
theorem fill_range {a b c d n : Int} (h : fillOk a b c d n) : 0 ≤ b * (n - d) ∧ b * (n - d) ≤ 1000000000000000 := by
  unfold fillOk bOk at h
  constructor
  · exact Int.mul_nonneg (by omega) (by omega)
  · have h1 : b * (n - d) ≤ 1000000 * (n - d) := Int.mul_le_mul_of_nonneg_right (by omega) (by omega)
    omega
theorem fill_words {a b c d n : Int} (h : fillOk a b c d n) : wrap64 (c + wrap64 (b * wrap64 (n - d))) = c + b * (n - d) := by
  have hr := fill_range h
  unfold fillOk bOk at h
  rw [w64 (x := n - d) (by omega) (by omega), w64 (x := b * (n - d)) (by omega) (by omega), w64 (by omega) (by omega)]
theorem lvl_ok {a b c d n : Int} (h : fillOk a b c d n) : bOk a b (lvl a b c d n) n ∧ c ≤ lvl a b c d n := by
  have hr := fill_range h
  unfold fillOk bOk at h
  unfold bOk lvl
  split <;> omega

-- block sFill
theorem sFill (k : Nat) (a b c d n : Int) : spec_FillBucket.f (k + 1) a b c d n = some (fillP a b c d n) := by
  simp only [spec_FillBucket.f, sBucket, in_eq, Option.bind_some, decide_eq_true_eq, fillP, spec_FillBucket.j0]
  by_cases h : bOk a b c d
  · rw [if_pos h]
    by_cases h1 : d ≤ n ∧ n ≤ 1000000000
    · have hf : fillOk a b c d n := ⟨h, h1.1, h1.2⟩
      simp only [if_pos hf, h1, decide_true, Bool.not_true, Bool.false_eq_true, if_false, fill_words hf, and_self]
      unfold lvl
      by_cases h3 : a < c + b * (n - d)
      · rw [if_pos h3, if_pos h3]
      · rw [if_neg h3, if_neg h3]
    · have hf : ¬ fillOk a b c d n := fun hf => h1 ⟨hf.2.1, hf.2.2⟩
      simp only [if_neg hf, h1, decide_false, Bool.not_false, if_true]
  · have hf : ¬ fillOk a b c d n := fun hf => h hf.1
    simp only [if_neg h, if_neg hf, if_true]

-- block takeP
/-- A bucket with units taken from it, and the code. -/
def takeP (a b c d now u : Int) : Int × Int × Int × Int × Int :=
  if ¬ fillOk a b c d now ∨ u < 0 then (a, b, c, d, 1) else if u > a then (a, b, c, d, 2) else if lvl a b c d now < u then (a, b, c, d, 3) else (a, b, lvl a b c d now - u, now, 0)
theorem take_bOk {a b c d now u : Int} (h : bOk a b c d) : bOk (takeP a b c d now u).1 (takeP a b c d now u).2.1 (takeP a b c d now u).2.2.1 (takeP a b c d now u).2.2.2.1 := by
  unfold takeP
  by_cases h1 : ¬ fillOk a b c d now ∨ u < 0
  · rw [if_pos h1]; exact h
  · rw [if_neg h1]
    have hf : fillOk a b c d now := Classical.not_not.1 fun h2 => h1 (Or.inl h2)
    have hu : ¬ u < 0 := fun h2 => h1 (Or.inr h2)
    have hl := (lvl_ok hf).1
    by_cases h2 : u > a
    · rw [if_pos h2]; exact h
    · rw [if_neg h2]
      by_cases h3 : lvl a b c d now < u
      · rw [if_pos h3]; exact h
      · rw [if_neg h3]
        unfold bOk at hl ⊢
        simp only
        omega

-- block sTake
theorem sTake (k : Nat) (a b c d now u : Int) : spec_TakeUnits.f (k + 1) a b c d now u = some (takeP a b c d now u) := by
  simp only [spec_TakeUnits.f, sFill, Option.bind_some, fillP, takeP, spec_TakeUnits.j0]
  by_cases hf : fillOk a b c d now
  · have hl := (lvl_ok hf).1
    simp only [if_pos hf, hf, not_true_eq_false, false_or, if_true, decide_eq_true_eq]
    by_cases h1 : u < 0
    · rw [if_pos h1, if_pos h1]
    · rw [if_neg h1, if_neg h1]
      by_cases h2 : u > a
      · rw [if_pos h2, if_pos h2]
      · rw [if_neg h2, if_neg h2]
        by_cases h3 : lvl a b c d now < u
        · rw [if_pos h3, if_pos h3]
        · unfold bOk at hl
          rw [if_neg h3, if_neg h3, w64 (by omega) (by omega)]
  · simp only [if_neg hf, hf, not_false_eq_true, true_or, if_true, Bool.false_eq_true, if_false]

-- block readyP
/-- The first tick at which units can be taken. -/
def readyP (a b c d n : Int) : Int :=
  if ¬ bOk a b c d ∨ n < 0 ∨ n > a then -1 else if n ≤ c then d else if b = 0 then -1 else if d + (n - c + b - 1) / b > 1000000000 then -1 else d + (n - c + b - 1) / b
theorem ceil_le {m b s : Int} (hb : 0 < b) : (m + b - 1) / b ≤ s ↔ m ≤ b * s := by
  have h1 : (m + b - 1) / b ≤ s ↔ (m + b - 1) / b < s + 1 := by omega
  rw [h1, Int.ediv_lt_iff_lt_mul hb, Int.add_mul, Int.mul_comm s b]
  omega
/-- Units can be taken at a tick just where it is no earlier than the first. -/
theorem ready_iff {a b c d n t : Int} (h : fillOk a b c d t) (h0 : 0 ≤ n) (ha : n ≤ a) : n ≤ lvl a b c d t ↔ (n ≤ c ∨ (b ≠ 0 ∧ d + (n - c + b - 1) / b ≤ t)) := by
  have hr := fill_range h
  have h' := h
  unfold fillOk bOk at h'
  have hl : n ≤ lvl a b c d t ↔ n ≤ c + b * (t - d) := by unfold lvl; split <;> omega
  rw [hl]
  by_cases hb : b = 0
  · subst hb; simp
  · have := ceil_le (m := n - c) (b := b) (s := t - d) (by omega)
    omega
theorem take_code {a b c d now u : Int} (h : fillOk a b c d now) (h0 : 0 ≤ u) (ha : u ≤ a) : (takeP a b c d now u).2.2.2.2 = 0 ↔ u ≤ lvl a b c d now := by
  unfold takeP
  have h1 : ¬ (¬ fillOk a b c d now ∨ u < 0) := fun hh => hh.elim (fun k => k h) (fun k => by omega)
  rw [if_neg h1, if_neg (by omega)]
  by_cases h3 : lvl a b c d now < u
  · rw [if_pos h3]; simp; omega
  · rw [if_neg h3]; simp; omega

-- block iReady
theorem iReady (k : Nat) (a b c d n : Int) (hn : (Lit.int .i64 n).wf = true) : impl_WhenReady.f (k + 1) a b c d n = some (readyP a b c d n) := by
  have hw := wf_i64 hn
  simp only [impl_WhenReady.f, iBucket, Option.bind_some, decide_eq_true_eq, readyP, impl_WhenReady.j0]
  by_cases h : bOk a b c d
  · have hb := h
    unfold bOk at hb
    simp only [if_pos h, h, not_true_eq_false, false_or]
    by_cases h1 : n < 0
    · simp only [h1, if_true, true_or]
    · simp only [h1, if_false, false_or]
      by_cases h2 : n > a
      · simp only [h2, if_true]
      · simp only [h2, if_false]
        by_cases h3 : n ≤ c
        · simp only [h3, if_true]
        · simp only [h3, if_false]
          by_cases h4 : b = 0
          · simp [h4]
          · have q0 : 0 ≤ (n - c + b - 1) / b := Int.ediv_nonneg (by omega) (by omega)
            have q1 : (n - c + b - 1) / b ≤ n - c + b - 1 := Int.ediv_le_self _ (by omega)
            rw [if_neg h4, if_neg h4, w64 (x := n - c) (by omega) (by omega), w64 (x := n - c + b) (by omega) (by omega), w64 (x := n - c + b - 1) (by omega) (by omega), Int.tdiv_eq_ediv_of_nonneg (by omega), w64 (x := (n - c + b - 1) / b) (by omega) (by omega), w64 (by omega) (by omega)]
            by_cases h5 : d + (n - c + b - 1) / b > 1000000000
            · simp [h5]
            · simp [h5]
  · simp [h]

-- block sReady
theorem sReady_l (a b c d n r : Int) (h : bOk a b c d) (h0 : 0 ≤ n) (ha : n ≤ a) (hr : ∀ t, d ≤ t → t ≤ 1000000000 → (n ≤ lvl a b c d t ↔ r ≤ t)) :
    ∀ (m : Nat) (lo hi : Int), (hi - lo).toNat ≤ m → d ≤ lo → lo ≤ r → r ≤ hi → hi ≤ 1000000000 → Ev (fun k => spec_WhenReady.l0 k n lo hi a b c d) r := by
  have hb := h
  unfold bOk at hb
  intro m
  induction m with
  | zero =>
    intro lo hi hm h1 h2 h3 h4
    refine ev_now fun k => ?_
    simp only [spec_WhenReady.l0]
    rw [if_neg (by omega), show lo = r by omega]
  | succ m ih =>
    intro lo hi hm h1 h2 h3 h4
    by_cases hlt : lo < hi
    · have hw : wrap64 (lo + wrap64 (Int.tdiv (wrap64 (hi - lo)) 2)) = lo + (hi - lo) / 2 := by
        rw [w64 (x := hi - lo) (by omega) (by omega), Int.tdiv_eq_ediv_of_nonneg (by omega), w64 (x := (hi - lo) / 2) (by omega) (by omega), w64 (by omega) (by omega)]
      have hf : fillOk a b c d (lo + (hi - lo) / 2) := ⟨h, by omega, by omega⟩
      have hc := (take_code hf h0 ha).trans (hr _ (by omega) (by omega))
      have hT : Ev (fun k => spec_TakeUnits.f k a b c d (lo + (hi - lo) / 2) n) (takeP a b c d (lo + (hi - lo) / 2) n) := Ev.step (fun k => sTake k a b c d _ n) (Ev.now _)
      refine Ev.step (fun k => ?_) (Ev.bind hT (f := fun k bt => if bt.2.2.2.2 = 0 then spec_WhenReady.l0 k n lo (lo + (hi - lo) / 2) a b c d else spec_WhenReady.l0 k n (lo + (hi - lo) / 2 + 1) hi a b c d) ?_)
      · simp only [spec_WhenReady.l0]
        rw [if_pos hlt, hw, w64 (x := lo + (hi - lo) / 2 + 1) (by omega) (by omega)]
      · by_cases hq : r ≤ lo + (hi - lo) / 2
        · refine Ev.congr (fun k => if_pos (hc.2 hq)) (ih lo _ (by omega) h1 h2 hq (by omega))
        · refine Ev.congr (fun k => if_neg (fun hz => hq (hc.1 hz))) (ih _ hi (by omega) (by omega) (by omega) h3 h4)
    · refine ev_now fun k => ?_
      simp only [spec_WhenReady.l0]
      rw [if_neg hlt, show lo = r by omega]
theorem sReady_ev (a b c d n : Int) : Ev (fun k => spec_WhenReady.f k a b c d n) (readyP a b c d n) := by
  by_cases h : bOk a b c d
  · have hT : Ev (fun k => spec_TakeUnits.f k a b c d 1000000000 n) (takeP a b c d 1000000000 n) := Ev.step (fun k => sTake k a b c d _ n) (Ev.now _)
    have hb := h
    unfold bOk at hb
    have hf : fillOk a b c d 1000000000 := ⟨h, by omega, by omega⟩
    refine Ev.congr (fun k => ?_) (Ev.bind hT (f := fun k bt => if bt.2.2.2.2 = 0 then spec_WhenReady.l0 k n d 1000000000 a b c d else some (-1)) ?_)
    · simp only [spec_WhenReady.f, sBucket, Option.bind_some, decide_eq_true_eq]
      rw [if_pos h]
    · by_cases h0 : 0 ≤ n ∧ n ≤ a
      · have hc := take_code hf h0.1 h0.2
        have hi := ready_iff hf h0.1 h0.2
        by_cases hr : n ≤ lvl a b c d 1000000000
        · refine Ev.congr (fun k => if_pos (hc.2 hr)) ?_
          have key : readyP a b c d n = if n ≤ c then d else d + (n - c + b - 1) / b := by
            unfold readyP
            rw [if_neg (by intro hh; rcases hh with hh | hh | hh; exact hh h; omega; omega)]
            by_cases h3 : n ≤ c
            · rw [if_pos h3, if_pos h3]
            · have hi2 := (hi.1 hr).resolve_left h3
              rw [if_neg h3, if_neg h3, if_neg hi2.1, if_neg (by omega)]
          have hge : ¬ n ≤ c → 0 ≤ (n - c + b - 1) / b := fun _ => Int.ediv_nonneg (by omega) (by omega)
          refine sReady_l a b c d n _ h h0.1 h0.2 ?_ (1000000000 - d).toNat d 1000000000 (Nat.le_refl _) (Int.le_refl _) ?_ ?_ (Int.le_refl _)
          · intro t ht1 ht2
            rw [ready_iff ⟨h, ht1, ht2⟩ h0.1 h0.2, key]
            by_cases h3 : n ≤ c
            · simp [h3]; exact ht1
            · have hi2 := (hi.1 hr).resolve_left h3
              simp [h3, hi2.1]
          · rw [key]
            by_cases h3 : n ≤ c
            · rw [if_pos h3]; omega
            · rw [if_neg h3]; have := hge h3; omega
          · rw [key]
            by_cases h3 : n ≤ c
            · rw [if_pos h3]; omega
            · have hi2 := (hi.1 hr).resolve_left h3
              rw [if_neg h3]; exact hi2.2
        · refine Ev.congr (fun k => if_neg (fun hz => hr (hc.1 hz))) ?_
          have key : readyP a b c d n = -1 := by
            unfold readyP
            rw [if_neg (by intro hh; rcases hh with hh | hh | hh; exact hh h; omega; omega)]
            have hi2 : ¬ (n ≤ c ∨ b ≠ 0 ∧ d + (n - c + b - 1) / b ≤ 1000000000) := fun hh => hr (hi.2 hh)
            have h3 : ¬ n ≤ c := fun h3 => hi2 (Or.inl h3)
            rw [if_neg h3]
            by_cases h4 : b = 0
            · rw [if_pos h4]
            · have h5 : ¬ d + (n - c + b - 1) / b ≤ 1000000000 := fun h5 => hi2 (Or.inr ⟨h4, h5⟩)
              rw [if_neg h4, if_pos (by omega)]
          rw [key]
          exact Ev.now _
      · have h1 : ¬ (takeP a b c d 1000000000 n).2.2.2.2 = 0 := by
          unfold takeP
          by_cases hn : n < 0
          · rw [if_pos (Or.inr hn)]; simp
          · rw [if_neg (fun hh => hh.elim (fun k => k hf) (fun k => by omega)), if_pos (by omega)]; simp
        refine Ev.congr (fun k => if_neg h1) ?_
        have key : readyP a b c d n = -1 := by
          unfold readyP
          rw [if_pos (by omega)]
        rw [key]
        exact Ev.now _
  · have key : readyP a b c d n = -1 := by
      unfold readyP
      rw [if_pos (Or.inl h)]
    rw [key]
    refine ev_some fun k => ?_
    simp only [spec_WhenReady.f, sBucket, Option.bind_some, decide_eq_true_eq]
    rw [if_neg h]

end Go.Proofs.Ytjgggiophbnghaa.QFnExactWhenReady

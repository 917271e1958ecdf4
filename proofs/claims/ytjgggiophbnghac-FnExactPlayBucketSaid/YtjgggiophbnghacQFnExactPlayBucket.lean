/- Lemmas on the printed functions of FnExactPlayBucket: what each comes to. -/
import Derived.Test.YtjgggiophbnghacPFnExactPlayBucketx
import Derived.Test.YtjgggiophbnghacMath
namespace Go.Proofs.Ytjgggiophbnghac.QFnExactPlayBucket
open Go.RowKit Go.Proofs.Ytjgggiophbnghac.PFnExactPlayBucket Go.Proofs.YtjgggiophbnghacW.PrintWords Go.Proofs.YtjgggiophbnghacW.PrintLast Go.Proofs.Ytjgggiophbnghac.Math
set_option linter.unusedVariables false
set_option linter.unusedSimpArgs false

-- block eqIntS
theorem eqIntS_l (l : List Int) (hn : l.length ≤ 140737488355328) : ∀ (d i : Nat), l.length - i = d → i ≤ l.length → Ev (fun k => laws_eqIntS.l0 k l l (i : Int)) true := by
  intro d
  induction d with
  | zero =>
    intro i h hi
    refine ev_now fun k => ?_
    simp only [laws_eqIntS.l0]
    rw [if_neg (by omega)]
  | succ d ih =>
    intro i h hi
    refine Ev.step (fun k => ?_) (ih (i + 1) (by omega) (by omega))
    simp only [laws_eqIntS.l0]
    rw [if_pos (by omega), if_pos (by omega), if_pos (by omega), if_pos trivial, wsucc (by omega)]
theorem eqIntS_ev (l : List Int) (hn : l.length ≤ 140737488355328) : Ev (fun k => laws_eqIntS.f k l l) true := by
  refine Ev.congr (fun k => ?_) (eqIntS_l l hn l.length 0 (by omega) (by omega))
  simp only [laws_eqIntS.f]
  rw [if_pos trivial]
  rfl

-- block markIntS
theorem markIntS_l (l : List Int) (m : Int) (h0 : 0 ≤ m) (hn : m + l.length ≤ 4611686018427387904) : ∀ (d i : Nat), l.length - i = d → i ≤ l.length →
    Ev (fun k => laws_markIntS.l0 k ((marksI l.length m).take i ++ l.drop i) (m + i) (i : Int)) (m + l.length, marksI l.length m) := by
  have hlen := marksI_len l.length m
  intro d
  induction d with
  | zero =>
    intro i h hi
    refine ev_now fun k => ?_
    simp only [laws_markIntS.l0]
    rw [if_neg (by simp; omega), List.take_of_length_le (by omega), List.drop_eq_nil_of_le (by omega), List.append_nil, show i = l.length by omega]
  | succ d ih =>
    intro i h hi
    refine Ev.step (fun k => ?_) (ih (i + 1) (by omega) (by omega))
    simp only [laws_markIntS.l0]
    rw [if_pos (by simp; omega), if_pos (by omega), wsucc (by omega), Int.toNat_natCast, set_mark hlen (by omega) (by simp [marksI]), w64 (by omega) (by omega)]
    simp only [Int.natCast_add, Int.natCast_one, Int.add_assoc]
theorem markIntS_ev (l : List Int) (m : Int) (h0 : 0 ≤ m) (hn : m + l.length ≤ 4611686018427387904) : Ev (fun k => laws_markIntS.f k l m) (m + l.length, marksI l.length m) := by
  refine Ev.congr (fun k => ?_) (markIntS_l l m h0 hn l.length 0 (by omega) (by omega))
  simp [laws_markIntS.f]

-- block heldIntS
theorem heldIntS_l (n : Nat) (m : Int) (h0 : 0 ≤ m) (hn : m + n ≤ 4611686018427387904) : ∀ (d i : Nat), n - i = d → i ≤ n →
    Ev (fun k => laws_heldIntS.l0 k (marksI n m) (m + i) (i : Int)) (m + n) := by
  have hlen := marksI_len n m
  intro d
  induction d with
  | zero =>
    intro i h hi
    refine ev_now fun k => ?_
    simp only [laws_heldIntS.l0]
    rw [if_neg (by omega), show i = n by omega]
  | succ d ih =>
    intro i h hi
    refine Ev.step (fun k => ?_) (ih (i + 1) (by omega) (by omega))
    simp only [laws_heldIntS.l0]
    rw [if_pos (by omega), if_pos (by omega), if_pos (by rw [rd_eq (by omega)]; simp [marksI]), wsucc (by omega), w64 (by omega) (by omega)]
    simp only [Int.natCast_add, Int.natCast_one, Int.add_assoc]
theorem heldIntS_ev (n : Nat) (m : Int) (h0 : 0 ≤ m) (hn : m + n ≤ 4611686018427387904) : Ev (fun k => laws_heldIntS.f k (marksI n m) m) (m + n) := by
  refine Ev.congr (fun k => ?_) (heldIntS_l n m h0 hn n 0 (by omega) (by omega))
  simp [laws_heldIntS.f]

-- block l01In
theorem in_eq (a b c : Int) : spec_l01In.f a b c = some (decide (b ≤ a ∧ a ≤ c)) := by
  simp only [spec_l01In.f, if_dec]

-- block bOk
def bOk (a b c d : Int) : Prop := 0 ≤ a ∧ a ≤ 1000000000 ∧ 0 ≤ b ∧ b ≤ 1000000 ∧ 0 ≤ c ∧ c ≤ a ∧ 0 ≤ d ∧ d ≤ 1000000000
instance bOk_dec (a b c d : Int) : Decidable (bOk a b c d) := by unfold bOk; infer_instance

-- block sBucket
theorem sBucket (a b c d : Int) : spec_BucketOk.f a b c d = some (decide (bOk a b c d)) := by
  simp only [spec_BucketOk.f, in_eq, Option.bind_some, decide_eq_true_eq, if_dec]
  exact congrArg some (decide_eq_decide.2 (by unfold bOk; omega))

-- block iBucket
theorem iBucket (a b c d : Int) : impl_isBucket.f a b c d = some (decide (bOk a b c d)) := by
  simp only [impl_isBucket.f, if_dec]
  exact congrArg some (decide_eq_decide.2 (by unfold bOk; omega))

-- block fillP
/-- A bucket at a tick: its level there, and whether it can be. -/
def fillOk (a b c d n : Int) : Prop := bOk a b c d ∧ d ≤ n ∧ n ≤ 1000000000
instance fillOk_dec (a b c d n : Int) : Decidable (fillOk a b c d n) := by unfold fillOk; infer_instance
def lvl (a b c d n : Int) : Int := if a < c + b * (n - d) then a else c + b * (n - d)
def fillP (a b c d n : Int) : Int × Int × Int × Int × Bool := if fillOk a b c d n then (a, b, lvl a b c d n, n, true) else (a, b, c, d, false)
theorem fill_range {a b c d n : Int} (h : fillOk a b c d n) : 0 ≤ b * (n - d) ∧ b * (n - d) ≤ 1000000000000000 := by
  unfold fillOk bOk at h
  constructor
  · exact Int.mul_nonneg (by omega) (by omega)
  · have h1 : b * (n - d) ≤ 1000000 * (n - d) := Int.mul_le_mul_of_nonneg_right (by omega) (by omega)
    omega
theorem fill_words {a b c d n : Int} (h : fillOk a b c d n) : wrap64 (c + wrap64 (b * wrap64 (n - d))) = c + b * (n - d) := by
  have hr := fill_range h
  unfold fillOk bOk at h
  rw [w64 (x := n - d) (by omega) (by omega), w64 (x := b * (n - d)) (by omega) (by omega), w64 (by omega) (by omega)]
theorem lvl_ok {a b c d n : Int} (h : fillOk a b c d n) : bOk a b (lvl a b c d n) n ∧ c ≤ lvl a b c d n := by
  have hr := fill_range h
  unfold fillOk bOk at h
  unfold bOk lvl
  split <;> omega

-- block iFill
theorem iFill (a b c d n : Int) : impl_fillBucket.f a b c d n = some (fillP a b c d n) := by
  simp only [impl_fillBucket.f, iBucket, Option.bind_some, decide_eq_true_eq, fillP]
  by_cases h : bOk a b c d
  · rw [if_pos h]
    by_cases h1 : n < d
    · have hf : ¬ fillOk a b c d n := fun hf => by have := hf.2.1; omega
      rw [if_pos h1, if_neg hf]
    · rw [if_neg h1]
      by_cases h2 : n > 1000000000
      · have hf : ¬ fillOk a b c d n := fun hf => by have := hf.2.2; omega
        rw [if_pos h2, if_neg hf]
      · rw [if_neg h2]
        have hf : fillOk a b c d n := ⟨h, by omega, by omega⟩
        rw [if_pos hf, fill_words hf, mn_eq]
        rfl
  · have hf : ¬ fillOk a b c d n := fun hf => h hf.1
    rw [if_neg h, if_neg hf]

-- block sFill
theorem sFill (k : Nat) (a b c d n : Int) : spec_FillBucket.f (k + 1) a b c d n = some (fillP a b c d n) := by
  simp only [spec_FillBucket.f, sBucket, in_eq, Option.bind_some, decide_eq_true_eq, fillP, spec_FillBucket.j0]
  by_cases h : bOk a b c d
  · rw [if_pos h]
    by_cases h1 : d ≤ n ∧ n ≤ 1000000000
    · have hf : fillOk a b c d n := ⟨h, h1.1, h1.2⟩
      simp only [if_pos hf, h1, decide_true, Bool.not_true, Bool.false_eq_true, if_false, fill_words hf, and_self]
      unfold lvl
      by_cases h3 : a < c + b * (n - d)
      · rw [if_pos h3, if_pos h3]
      · rw [if_neg h3, if_neg h3]
    · have hf : ¬ fillOk a b c d n := fun hf => h1 ⟨hf.2.1, hf.2.2⟩
      simp only [if_neg hf, h1, decide_false, Bool.not_false, if_true]
  · have hf : ¬ fillOk a b c d n := fun hf => h hf.1
    simp only [if_neg h, if_neg hf, if_true]

-- block eqBucket
theorem eqBucket_self (a b c d : Int) : laws_eqBucket.f a b c d a b c d = some true := by
  simp [laws_eqBucket.f]

-- block takeP
/-- A bucket with units taken from it, and the code. -/
def takeP (a b c d now u : Int) : Int × Int × Int × Int × Int :=
  if ¬ fillOk a b c d now ∨ u < 0 then (a, b, c, d, 1) else if u > a then (a, b, c, d, 2) else if lvl a b c d now < u then (a, b, c, d, 3) else (a, b, lvl a b c d now - u, now, 0)
theorem take_bOk {a b c d now u : Int} (h : bOk a b c d) : bOk (takeP a b c d now u).1 (takeP a b c d now u).2.1 (takeP a b c d now u).2.2.1 (takeP a b c d now u).2.2.2.1 := by
  unfold takeP
  by_cases h1 : ¬ fillOk a b c d now ∨ u < 0
  · rw [if_pos h1]; exact h
  · rw [if_neg h1]
    have hf : fillOk a b c d now := Classical.not_not.1 fun h2 => h1 (Or.inl h2)
    have hu : ¬ u < 0 := fun h2 => h1 (Or.inr h2)
    have hl := (lvl_ok hf).1
    by_cases h2 : u > a
    · rw [if_pos h2]; exact h
    · rw [if_neg h2]
      by_cases h3 : lvl a b c d now < u
      · rw [if_pos h3]; exact h
      · rw [if_neg h3]
        unfold bOk at hl ⊢
        simp only
        omega

-- block sTake
theorem sTake (k : Nat) (a b c d now u : Int) : spec_TakeUnits.f (k + 1) a b c d now u = some (takeP a b c d now u) := by
  simp only [spec_TakeUnits.f, sFill, Option.bind_some, fillP, takeP, spec_TakeUnits.j0]
  by_cases hf : fillOk a b c d now
  · have hl := (lvl_ok hf).1
    simp only [if_pos hf, hf, not_true_eq_false, false_or, if_true, decide_eq_true_eq]
    by_cases h1 : u < 0
    · rw [if_pos h1, if_pos h1]
    · rw [if_neg h1, if_neg h1]
      by_cases h2 : u > a
      · rw [if_pos h2, if_pos h2]
      · rw [if_neg h2, if_neg h2]
        by_cases h3 : lvl a b c d now < u
        · rw [if_pos h3, if_pos h3]
        · unfold bOk at hl
          rw [if_neg h3, if_neg h3, w64 (by omega) (by omega)]
  · simp only [if_neg hf, hf, not_false_eq_true, true_or, if_true, Bool.false_eq_true, if_false]

-- block iTake
theorem iTake (k : Nat) (a b c d now u : Int) : impl_takeUnits.f (k + 1) a b c d now u = some (takeP a b c d now u) := by
  simp only [impl_takeUnits.f, iFill, Option.bind_some, fillP, takeP, impl_takeUnits.j0]
  by_cases hf : fillOk a b c d now
  · have hl := (lvl_ok hf).1
    simp only [if_pos hf, hf, not_true_eq_false, false_or, if_true, decide_eq_true_eq]
    by_cases h1 : u < 0
    · rw [if_pos h1, if_pos h1]
    · rw [if_neg h1, if_neg h1]
      by_cases h2 : u > a
      · rw [if_pos h2, if_pos h2]
      · rw [if_neg h2, if_neg h2]
        by_cases h3 : lvl a b c d now < u
        · rw [if_pos h3, if_pos h3]
        · unfold bOk at hl
          rw [if_neg h3, if_neg h3, w64 (by omega) (by omega)]
  · simp only [if_neg hf, hf, not_false_eq_true, true_or, if_true, Bool.false_eq_true, if_false]

-- block toAsk_c
def toAsk_c (x : S96) : S94 := ⟨x.f0, x.f1⟩
theorem rdAskL {xs : List S96} {i : Nat} (h : i < xs.length) : rd_T96 xs (i : Int) = xs[i] := by
  simp [rd_T96, List.getD_eq_getElem?_getD, List.getElem?_eq_getElem h]

-- block rdAsk
theorem rdAsk {xs : List S94} {i : Nat} (h : i < xs.length) : rd_T94 xs (i : Int) = xs[i] := by
  simp [rd_T94, List.getD_eq_getElem?_getD, List.getElem?_eq_getElem h]

-- block toAskS
theorem toAskS_l (l : List S96) (hn : l.length ≤ 1048576) : ∀ (d i : Nat), l.length - i = d → i ≤ l.length →
    Ev (fun k => laws_toAskS.l0 k l ((l.map toAsk_c).take i ++ List.replicate ((l.map toAsk_c).length - i) z94) (i : Int)) (l.map toAsk_c) := by
  intro d
  induction d with
  | zero =>
    intro i h hi
    refine ev_now fun k => ?_
    simp only [laws_toAskS.l0]
    rw [if_neg (by omega), fill_all (l.map toAsk_c) z94 i (by simp; omega)]
  | succ d ih =>
    intro i h hi
    refine Ev.step (fun k => ?_) (ih (i + 1) (by omega) (by omega))
    simp only [laws_toAskS.l0, laws_toAsk.f, Option.bind_some]
    rw [if_pos (by omega), if_pos (by omega), if_pos (by simp; omega), wsucc (by omega), Int.toNat_natCast, rdAskL (by omega), set_fill (l.map toAsk_c) z94 _ i (by simp; omega) (by simp [toAsk_c])]
theorem toAskS_ev (l : List S96) (hn : l.length ≤ 1048576) : Ev (fun k => laws_toAskS.f k l) (l.map toAsk_c) := by
  refine Ev.congr (fun k => ?_) (toAskS_l l hn l.length 0 (by omega) (by omega))
  simp only [laws_toAskS.f]
  rw [if_pos (by omega), if_pos (by rw [Int.toNat_natCast]; omega), Int.toNat_natCast, show l.length = (l.map toAsk_c).length by simp, fill_zero (l.map toAsk_c) z94]
  all_goals rfl

-- block eqAskS
theorem eqAskS_l (l : List S94) (hn : l.length ≤ 1048576) : ∀ (d i : Nat), l.length - i = d → i ≤ l.length → Ev (fun k => laws_eqAskS.l0 k l l (i : Int)) true := by
  intro d
  induction d with
  | zero =>
    intro i h hi
    refine ev_now fun k => ?_
    simp only [laws_eqAskS.l0]
    rw [if_neg (by omega)]
  | succ d ih =>
    intro i h hi
    refine Ev.step (fun k => ?_) (ih (i + 1) (by omega) (by omega))
    simp only [laws_eqAskS.l0, laws_eqAsk.f, if_true, Option.bind_some]
    rw [if_pos (by omega), if_pos (by omega), if_pos (by omega), wsucc (by omega)]
theorem eqAskS_ev (l : List S94) (hn : l.length ≤ 1048576) : Ev (fun k => laws_eqAskS.f k l l) true := by
  refine Ev.congr (fun k => ?_) (eqAskS_l l hn l.length 0 (by omega) (by omega))
  simp only [laws_eqAskS.f]
  rw [if_pos trivial]
  all_goals rfl

-- block szAskS
theorem szAskS_eq (l : List S96) (m : Int) (h0 : 0 ≤ m) (h1 : m ≤ 1048576) (hl : l.length ≤ maxLen) : laws_szAskS.f l m = some (if m < l.length then -1 else m - l.length) := by
  have hm : maxLen = 9223372036854775807 := rfl
  simp only [laws_szAskS.f]
  rw [w64 (by omega) (by omega)]
  by_cases h : m < l.length
  · rw [if_pos h, if_pos (by omega)]
  · rw [if_neg h, if_neg (by omega)]

-- block marksAsk
def marksAsk (n : Nat) (m : Int) : List S94 := (List.range n).map fun j : Nat => ⟨m + 2 * (j : Int), m + 2 * (j : Int) + 1⟩
theorem marksAsk_len (n : Nat) (m : Int) : (marksAsk n m).length = n := by simp [marksAsk]

-- block markAskS
theorem rdAsk_set {xs : List S94} {i : Nat} {v : S94} (h : i < xs.length) : rd_T94 (xs.set i v) (i : Int) = v := by
  rw [rdAsk (by simpa using h)]; simp
theorem set_markAsk {l w : List S94} {x : S94} {i : Nat} (hl : w.length = l.length) (h : i < l.length) (hx : x = w[i]'(by omega)) :
    (w.take i ++ l.drop i).set i x = w.take (i + 1) ++ l.drop (i + 1) := set_mark hl h hx
theorem markAskS_l (l : List S94) (m : Int) (h0 : 0 ≤ m) (hn : m + 2 * l.length ≤ 4611686018427387904) : ∀ (d i : Nat), l.length - i = d → i ≤ l.length →
    Ev (fun k => laws_markAskS.l0 k ((marksAsk l.length m).take i ++ l.drop i) (m + 2 * i) (i : Int)) (m + 2 * l.length, marksAsk l.length m) := by
  have hlen := marksAsk_len l.length m
  intro d
  induction d with
  | zero =>
    intro i h hi
    refine ev_now fun k => ?_
    simp only [laws_markAskS.l0]
    rw [if_neg (by simp; omega), List.take_of_length_le (by omega), List.drop_eq_nil_of_le (by omega), List.append_nil, show i = l.length by omega]
  | succ d ih =>
    intro i h hi
    refine Ev.step (fun k => ?_) (ih (i + 1) (by omega) (by omega))
    have hll : i < ((marksAsk l.length m).take i ++ l.drop i).length := by simp; omega
    simp only [laws_markAskS.l0, Option.bind_some, Int.toNat_natCast]
    rw [if_pos (by simp; omega), if_pos (by omega)]
    simp only [rdAsk_set, hll, List.length_set, List.set_set, wsucc (show i < 9223372036854775807 by omega)]
    rw [w64 (x := m + 2 * (i : Int) + 1) (by omega) (by omega), w64 (x := m + 2 * (i : Int) + 1 + 1) (by omega) (by omega)]
    rw [set_markAsk hlen (by omega) (by simp [marksAsk])]
    simp only [Int.natCast_add, Int.natCast_one, Int.mul_add, Int.mul_one, Int.add_assoc]
    congr 1
theorem markAskS_ev (l : List S94) (m : Int) (h0 : 0 ≤ m) (hn : m + 2 * l.length ≤ 4611686018427387904) : Ev (fun k => laws_markAskS.f k l m) (m + 2 * l.length, marksAsk l.length m) := by
  refine Ev.congr (fun k => ?_) (markAskS_l l m h0 hn l.length 0 (by omega) (by omega))
  simp [laws_markAskS.f]

-- block playS
/-- Requests, one after another: the bucket behind them, and their codes. -/
def playS : Int × Int × Int × Int → List S94 → (Int × Int × Int × Int) × List Int
  | x, [] => (x, [])
  | x, q :: l =>
    let t := takeP x.1 x.2.1 x.2.2.1 x.2.2.2 q.f0 q.f1
    let r := playS (t.1, t.2.1, t.2.2.1, t.2.2.2.1) l
    (r.1, t.2.2.2.2 :: r.2)
def takenS : Int × Int × Int × Int → List S94 → Int
  | _, [] => 0
  | x, q :: l =>
    let t := takeP x.1 x.2.1 x.2.2.1 x.2.2.2 q.f0 q.f1
    (if t.2.2.2.2 = 0 then q.f1 else 0) + takenS (t.1, t.2.1, t.2.2.1, t.2.2.2.1) l
def sumC : List S94 → List Int → Int
  | q :: l, c :: cs => (if c = 0 then q.f1 else 0) + sumC l cs
  | _, _ => 0
theorem play_len (l : List S94) : ∀ x, (playS x l).2.length = l.length := by
  induction l with
  | nil => intro x; rfl
  | cons q l ih => intro x; simp [playS, ih]
theorem taken_sum (l : List S94) : ∀ x, takenS x l = sumC l (playS x l).2 := by
  induction l with
  | nil => intro x; rfl
  | cons q l ih => intro x; simp [playS, takenS, sumC, ih]
def bOk4 (x : Int × Int × Int × Int) : Prop := bOk x.1 x.2.1 x.2.2.1 x.2.2.2
theorem take_zero {a b c d now u : Int} (h : bOk a b c d) (hz : (takeP a b c d now u).2.2.2.2 = 0) : 0 ≤ u ∧ u ≤ 1000000000 := by
  unfold takeP at hz
  by_cases h1 : ¬ fillOk a b c d now ∨ u < 0
  · rw [if_pos h1] at hz; simp at hz
  · rw [if_neg h1] at hz
    have hu : ¬ u < 0 := fun h2 => h1 (Or.inr h2)
    by_cases h2 : u > a
    · rw [if_pos h2] at hz; simp at hz
    · unfold bOk at h; omega
theorem take_bOk4 {x : Int × Int × Int × Int} (hx : bOk4 x) (now u : Int) : bOk4 ((takeP x.1 x.2.1 x.2.2.1 x.2.2.2 now u).1, (takeP x.1 x.2.1 x.2.2.1 x.2.2.2 now u).2.1, (takeP x.1 x.2.1 x.2.2.1 x.2.2.2 now u).2.2.1, (takeP x.1 x.2.1 x.2.2.1 x.2.2.2 now u).2.2.2.1) := take_bOk hx
theorem taken_range (l : List S94) : ∀ x, bOk4 x → 0 ≤ takenS x l ∧ takenS x l ≤ 1000000000 * l.length := by
  induction l with
  | nil => intro x _; simp [takenS]
  | cons q l ih =>
    intro x hx
    have h1 := ih _ (take_bOk4 hx q.f0 q.f1)
    simp only [takenS, List.length_cons]
    by_cases hz : (takeP x.1 x.2.1 x.2.2.1 x.2.2.2 q.f0 q.f1).2.2.2.2 = 0
    · have := take_zero hx hz
      rw [if_pos hz]
      omega
    · rw [if_neg hz]
      omega
theorem askDrop {l : List S94} {i : Nat} (h : i < l.length) : l.drop i = rd_T94 l (i : Int) :: l.drop (i + 1) := by
  rw [rdAsk h, List.drop_eq_getElem_cons h]

-- block sPlay
theorem sPlay_l (l : List S94) (hn : l.length ≤ 1048576) : ∀ (d i : Nat) (acc : List Int) (a b c e : Int), l.length - i = d → i ≤ l.length → acc.length = i →
    Ev (fun k => spec_PlayBucket.l0 k l acc (i : Int) a b c e) ((playS (a, b, c, e) (l.drop i)).1.1, (playS (a, b, c, e) (l.drop i)).1.2.1, (playS (a, b, c, e) (l.drop i)).1.2.2.1, (playS (a, b, c, e) (l.drop i)).1.2.2.2, acc ++ (playS (a, b, c, e) (l.drop i)).2) := by
  intro d
  induction d with
  | zero =>
    intro i acc a b c e h hi ha
    refine ev_now fun k => ?_
    simp only [spec_PlayBucket.l0]
    rw [if_neg (by omega), List.drop_eq_nil_of_le (by omega)]
    simp [playS]
  | succ d ih =>
    intro i acc a b c e h hi ha
    have hT : Ev (fun k => spec_TakeUnits.f k a b c e (rd_T94 l (i : Int)).f0 (rd_T94 l (i : Int)).f1) (takeP a b c e (rd_T94 l (i : Int)).f0 (rd_T94 l (i : Int)).f1) := Ev.step (fun k => sTake k a b c e _ _) (Ev.now _)
    rw [askDrop (by omega)]
    refine Ev.step (fun k => ?_) (Ev.bind hT (f := fun k t => spec_PlayBucket.l0 k l (acc ++ [t.2.2.2.2]) ((i + 1 : Nat) : Int) t.1 t.2.1 t.2.2.1 t.2.2.2.1) ?_)
    · simp only [spec_PlayBucket.l0]
      rw [if_pos (by omega), if_pos (by omega), wsucc (by omega)]
      simp only [show acc.length < 17592186044416 by omega, if_true]
    · have := ih (i + 1) (acc ++ [(takeP a b c e (rd_T94 l (i : Int)).f0 (rd_T94 l (i : Int)).f1).2.2.2.2]) (takeP a b c e (rd_T94 l (i : Int)).f0 (rd_T94 l (i : Int)).f1).1 (takeP a b c e (rd_T94 l (i : Int)).f0 (rd_T94 l (i : Int)).f1).2.1 (takeP a b c e (rd_T94 l (i : Int)).f0 (rd_T94 l (i : Int)).f1).2.2.1 (takeP a b c e (rd_T94 l (i : Int)).f0 (rd_T94 l (i : Int)).f1).2.2.2.1 (by omega) (by omega) (by simp; omega)
      simpa [playS] using this
def playP (a b c d : Int) (l : List S94) : Int × Int × Int × Int × List Int :=
  if bOk a b c d ∧ l.length ≤ 400 then ((playS (a, b, c, d) l).1.1, (playS (a, b, c, d) l).1.2.1, (playS (a, b, c, d) l).1.2.2.1, (playS (a, b, c, d) l).1.2.2.2, (playS (a, b, c, d) l).2) else (0, 0, 0, 0, [])
theorem sPlay_ev (a b c d : Int) (l : List S94) (hn : l.length ≤ 1048576) : Ev (fun k => spec_PlayBucket.f k a b c d l) (playP a b c d l) := by
  unfold playP
  by_cases h : bOk a b c d
  · by_cases hl : l.length ≤ 400
    · rw [if_pos ⟨h, hl⟩]
      refine Ev.congr (fun k => ?_) (Ev.step (g := fun k => spec_PlayBucket.j0 k l false a b c d) (fun k => ?_) (sPlay_l l hn l.length 0 [] a b c d (by omega) (by omega) rfl))
      · simp only [spec_PlayBucket.f, sBucket, Option.bind_some, decide_eq_true_eq]
        rw [if_pos h, decide_eq_false (by omega)]
      · simp [spec_PlayBucket.j0]
    · rw [if_neg (fun hh => hl hh.2)]
      refine Ev.congr (fun k => ?_) (ev_now (g := fun k => spec_PlayBucket.j0 k l true a b c d) (fun k => by simp [spec_PlayBucket.j0]))
      simp only [spec_PlayBucket.f, sBucket, Option.bind_some, decide_eq_true_eq]
      rw [if_pos h, decide_eq_true (by omega)]
  · rw [if_neg (fun hh => h hh.1)]
    refine Ev.congr (fun k => ?_) (ev_now (g := fun k => spec_PlayBucket.j0 k l true a b c d) (fun k => by simp [spec_PlayBucket.j0]))
    simp only [spec_PlayBucket.f, sBucket, Option.bind_some, decide_eq_true_eq]
    rw [if_neg h]

-- block iPlay
theorem iPlay_l (l : List S94) (hn : l.length ≤ 1048576) : ∀ (d i : Nat) (acc : List Int) (a b c e : Int), l.length - i = d → i ≤ l.length → acc.length = i →
    Ev (fun k => impl_PlayBucket.l0 k acc l (l.length : Int) (i : Int) a b c e) ((playS (a, b, c, e) (l.drop i)).1.1, (playS (a, b, c, e) (l.drop i)).1.2.1, (playS (a, b, c, e) (l.drop i)).1.2.2.1, (playS (a, b, c, e) (l.drop i)).1.2.2.2, acc ++ (playS (a, b, c, e) (l.drop i)).2) := by
  intro d
  induction d with
  | zero =>
    intro i acc a b c e h hi ha
    refine ev_now fun k => ?_
    simp only [impl_PlayBucket.l0]
    rw [if_neg (by omega), List.drop_eq_nil_of_le (by omega)]
    simp [playS]
  | succ d ih =>
    intro i acc a b c e h hi ha
    have hT : Ev (fun k => impl_takeUnits.f k a b c e (rd_T94 l (i : Int)).f0 (rd_T94 l (i : Int)).f1) (takeP a b c e (rd_T94 l (i : Int)).f0 (rd_T94 l (i : Int)).f1) := Ev.step (fun k => iTake k a b c e _ _) (Ev.now _)
    rw [askDrop (by omega)]
    refine Ev.step (fun k => ?_) (Ev.bind hT (f := fun k t => impl_PlayBucket.l0 k (acc ++ [t.2.2.2.2]) l (l.length : Int) ((i + 1 : Nat) : Int) t.1 t.2.1 t.2.2.1 t.2.2.2.1) ?_)
    · simp only [impl_PlayBucket.l0]
      rw [if_pos (by omega), if_pos (by omega), if_pos (by omega), wsucc (by omega)]
      simp only [show acc.length < 17592186044416 by omega, if_true]
    · have := ih (i + 1) (acc ++ [(takeP a b c e (rd_T94 l (i : Int)).f0 (rd_T94 l (i : Int)).f1).2.2.2.2]) (takeP a b c e (rd_T94 l (i : Int)).f0 (rd_T94 l (i : Int)).f1).1 (takeP a b c e (rd_T94 l (i : Int)).f0 (rd_T94 l (i : Int)).f1).2.1 (takeP a b c e (rd_T94 l (i : Int)).f0 (rd_T94 l (i : Int)).f1).2.2.1 (takeP a b c e (rd_T94 l (i : Int)).f0 (rd_T94 l (i : Int)).f1).2.2.2.1 (by omega) (by omega) (by simp; omega)
      simpa [playS] using this
theorem iPlay_ev (a b c d : Int) (l : List S94) (hn : l.length ≤ 1048576) : Ev (fun k => impl_PlayBucket.f k a b c d l) (playP a b c d l) := by
  unfold playP
  by_cases h : bOk a b c d
  · by_cases hl : l.length ≤ 400
    · rw [if_pos ⟨h, hl⟩]
      refine Ev.congr (fun k => ?_) (Ev.step (g := fun k => impl_PlayBucket.j0 k l false a b c d) (fun k => ?_) (iPlay_l l hn l.length 0 [] a b c d (by omega) (by omega) rfl))
      · simp only [impl_PlayBucket.f, iBucket, Option.bind_some, decide_eq_true_eq]
        rw [if_pos h, decide_eq_false (by omega)]
      · simp [impl_PlayBucket.j0]
    · rw [if_neg (fun hh => hl hh.2)]
      refine Ev.congr (fun k => ?_) (ev_now (g := fun k => impl_PlayBucket.j0 k l true a b c d) (fun k => by simp [impl_PlayBucket.j0]))
      simp only [impl_PlayBucket.f, iBucket, Option.bind_some, decide_eq_true_eq]
      rw [if_pos h, decide_eq_true (by omega)]
  · rw [if_neg (fun hh => h hh.1)]
    refine Ev.congr (fun k => ?_) (ev_now (g := fun k => impl_PlayBucket.j0 k l true a b c d) (fun k => by simp [impl_PlayBucket.j0]))
    simp only [impl_PlayBucket.f, iBucket, Option.bind_some, decide_eq_true_eq]
    rw [if_neg h]

end Go.Proofs.Ytjgggiophbnghac.QFnExactPlayBucket

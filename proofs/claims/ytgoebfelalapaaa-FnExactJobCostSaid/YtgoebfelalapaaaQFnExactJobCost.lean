/- Lemmas on the printed functions of FnExactJobCost: what each comes to. -/
import Derived.Test.YtgoebfelalapaaaPFnExactJobCostx
import Derived.Test.YtgoebfelalapaaaNtt
namespace Go.Proofs.Ytgoebfelalapaaa.QFnExactJobCost
open Go.RowKit Go.Proofs.Ytgoebfelalapaaa.PFnExactJobCost Go.Proofs.YtgoebfelalapaaaW.PrintWords Go.Proofs.YtgoebfelalapaaaW.PrintLast Go.Proofs.Ytgoebfelalapaaa.Math
set_option linter.unusedVariables false
set_option linter.unusedSimpArgs false

-- block toIntS
theorem toIntS_l (l : List Int) (hn : l.length ≤ 35184372088832) : ∀ (d i : Nat), l.length - i = d → i ≤ l.length →
    Ev (fun k => laws_toIntS.l0 k l (l.take i ++ List.replicate (l.length - i) 0) (i : Int)) l := by
  intro d
  induction d with
  | zero =>
    intro i h hi
    refine ev_now fun k => ?_
    simp only [laws_toIntS.l0]
    rw [if_neg (by omega), fill_all l 0 i (by omega)]
  | succ d ih =>
    intro i h hi
    refine Ev.step (fun k => ?_) (ih (i + 1) (by omega) (by omega))
    simp only [laws_toIntS.l0]
    rw [if_pos (by omega), if_pos (by omega), if_pos (by simp; omega), wsucc (by omega), Int.toNat_natCast, set_fill l 0 _ i (by omega) (rd_eq (by omega))]
theorem toIntS_ev (l : List Int) (hn : l.length ≤ 35184372088832) : Ev (fun k => laws_toIntS.f k l) l := by
  refine Ev.congr (fun k => ?_) (toIntS_l l hn l.length 0 (by omega) (by omega))
  simp only [laws_toIntS.f]
  rw [if_pos (by omega), if_pos (by rw [Int.toNat_natCast]; omega), Int.toNat_natCast, fill_zero l 0]
  rfl

-- block eqIntS
theorem eqIntS_l (l : List Int) (hn : l.length ≤ 140737488355328) : ∀ (d i : Nat), l.length - i = d → i ≤ l.length → Ev (fun k => laws_eqIntS.l0 k l l (i : Int)) true := by
  intro d
  induction d with
  | zero =>
    intro i h hi
    refine ev_now fun k => ?_
    simp only [laws_eqIntS.l0]
    rw [if_neg (by omega)]
  | succ d ih =>
    intro i h hi
    refine Ev.step (fun k => ?_) (ih (i + 1) (by omega) (by omega))
    simp only [laws_eqIntS.l0]
    rw [if_pos (by omega), if_pos (by omega), if_pos (by omega), if_pos trivial, wsucc (by omega)]
theorem eqIntS_ev (l : List Int) (hn : l.length ≤ 140737488355328) : Ev (fun k => laws_eqIntS.f k l l) true := by
  refine Ev.congr (fun k => ?_) (eqIntS_l l hn l.length 0 (by omega) (by omega))
  simp only [laws_eqIntS.f]
  rw [if_pos trivial]
  rfl

-- block l01In
theorem in_eq (a b c : Int) : spec_l01In.f a b c = some (decide (b ≤ a ∧ a ≤ c)) := by
  simp only [spec_l01In.f, if_dec]

-- block fldOk
def fldOk (f : Int) : Prop := 0 ≤ f ∧ f < 9
instance fldOk_dec (f : Int) : Decidable (fldOk f) := by unfold fldOk; infer_instance
def fP : List Int := [17, 97, 193, 257, 7681, 12289, 998244353, 469762049, 1004535809]
def fG : List Int := [3, 5, 5, 3, 17, 11, 3, 3, 3]
def fT : List Int := [4, 5, 6, 8, 9, 12, 23, 26, 21]
theorem fld_cases {f : Int} (h : fldOk f) {Q : Int → Prop} (h0 : Q 0) (h1 : Q 1) (h2 : Q 2) (h3 : Q 3) (h4 : Q 4) (h5 : Q 5) (h6 : Q 6) (h7 : Q 7) (h8 : Q 8) : Q f := by
  unfold fldOk at h
  have : f = 0 ∨ f = 1 ∨ f = 2 ∨ f = 3 ∨ f = 4 ∨ f = 5 ∨ f = 6 ∨ f = 7 ∨ f = 8 := by omega
  rcases this with rfl | rfl | rfl | rfl | rfl | rfl | rfl | rfl | rfl <;> assumption

-- block sMod
def md (f : Int) : Int := if fldOk f then rd fP f else 0
theorem sMod (f : Int) : spec_Modulus.f f = some (md f) := by
  by_cases h : fldOk f
  · exact fld_cases (Q := fun f => spec_Modulus.f f = some (md f)) h rfl rfl rfl rfl rfl rfl rfl rfl rfl
  · unfold md
    rw [if_neg h]
    unfold fldOk at h
    simp only [spec_Modulus.f]
    rw [if_neg (by omega), if_neg (by omega), if_neg (by omega), if_neg (by omega), if_neg (by omega), if_neg (by omega), if_neg (by omega), if_neg (by omega), if_neg (by omega)]
theorem md_pos {f : Int} (h : fldOk f) : 17 ≤ md f ∧ md f ≤ 1004535809 := fld_cases (Q := fun f => 17 ≤ md f ∧ md f ≤ 1004535809) h (by decide) (by decide) (by decide) (by decide) (by decide) (by decide) (by decide) (by decide) (by decide)
theorem md_zero {f : Int} : md f = 0 ↔ ¬ fldOk f := by
  by_cases h : fldOk f
  · have := md_pos h
    simp [h]; omega
  · simp [md, h]

-- block iFld
theorem iFld (f : Int) : impl_fieldOf.f f = some (if fldOk f then (rd fP f, rd fG f, rd fT f, true) else (0, 0, 0, false)) := by
  by_cases h : fldOk f
  · exact fld_cases (Q := fun f => impl_fieldOf.f f = some (if fldOk f then (rd fP f, rd fG f, rd fT f, true) else (0, 0, 0, false))) h rfl rfl rfl rfl rfl rfl rfl rfl rfl
  · rw [if_neg h]
    unfold fldOk at h
    show Go.Proofs.Ytgoebfelalapaaa.Fld.impl_fieldOf.f f = _
    unfold Go.Proofs.Ytgoebfelalapaaa.Fld.impl_fieldOf.f
    by_cases h1 : f < 0
    · rw [if_pos h1]
    · rw [if_neg h1, if_pos (by omega)]

-- block wordsB
def wordsB (l : List Int) : Bool := decide (l.length ≤ 400) && allF l.length 0 (fun j => decide (isWord (rd l (j : Int))))
theorem wordsB_iff (l : List Int) : wordsB l = true ↔ l.length ≤ 400 ∧ ∀ x ∈ l, isWord x := by
  unfold wordsB
  rw [Bool.and_eq_true, decide_eq_true_eq, allF_iff]
  constructor
  · rintro ⟨h1, h2⟩
    refine ⟨h1, fun x hx => ?_⟩
    obtain ⟨j, hj, rfl⟩ := List.getElem_of_mem hx
    have := h2 j (by omega) (by omega)
    rw [decide_eq_true_eq, rd_eq hj] at this
    exact this
  · rintro ⟨h1, h2⟩
    refine ⟨h1, fun j _ hj => ?_⟩
    rw [decide_eq_true_eq, rd_eq (by omega)]
    exact h2 _ (List.getElem_mem _)

-- block sWords
theorem sWords_l (l : List Int) (hn : l.length ≤ 1048576) : ∀ (d i : Nat), l.length - i = d → i ≤ l.length → Ev (fun k => spec_l10Words.l0 k l (i : Int)) (allF d i (fun j => decide (isWord (rd l (j : Int))))) := by
  intro d
  induction d with
  | zero =>
    intro i h hi
    refine ev_now fun k => ?_
    simp only [spec_l10Words.l0]
    rw [if_neg (by omega)]; rfl
  | succ d ih =>
    intro i h hi
    rw [allF]
    by_cases hq : isWord (rd l (i : Int))
    · rw [decide_eq_true hq, Bool.true_and]
      refine Ev.step (fun k => ?_) (ih (i + 1) (by omega) (by omega))
      unfold isWord at hq
      simp only [spec_l10Words.l0, in_eq, Option.bind_some, decide_eq_true_eq]
      rw [if_pos (by omega), if_pos (by omega), if_pos hq, wsucc (by omega)]
    · rw [decide_eq_false hq, Bool.false_and]
      refine ev_now fun k => ?_
      unfold isWord at hq
      simp only [spec_l10Words.l0, in_eq, Option.bind_some, decide_eq_true_eq]
      rw [if_pos (by omega), if_pos (by omega), if_neg hq]
theorem sWords_ev (l : List Int) (hn : l.length ≤ 1048576) : Ev (fun k => spec_l10Words.f k l) (wordsB l) := by
  unfold wordsB
  by_cases h : l.length ≤ 400
  · rw [decide_eq_true h, Bool.true_and]
    refine Ev.congr (fun k => ?_) (sWords_l l hn l.length 0 (by omega) (by omega))
    simp only [spec_l10Words.f]
    rw [if_neg (by omega)]; rfl
  · rw [decide_eq_false h, Bool.false_and]
    refine ev_some fun k => ?_
    simp only [spec_l10Words.f]
    rw [if_pos (by omega)]

-- block iWords
theorem iWords_l (l : List Int) (hn : l.length ≤ 1048576) : ∀ (d i : Nat), l.length - i = d → i ≤ l.length → Ev (fun k => impl_areWords.l0 k l l (l.length : Int) (i : Int)) (decide (l.length ≤ 400) && allF d i (fun j => decide (isWord (rd l (j : Int))))) := by
  intro d
  induction d with
  | zero =>
    intro i h hi
    refine ev_now fun k => ?_
    simp only [impl_areWords.l0]
    rw [if_neg (by omega), allF, Bool.and_true]
    exact congrArg some (decide_eq_decide.2 (by omega))
  | succ d ih =>
    intro i h hi
    rw [allF]
    by_cases hq : isWord (rd l (i : Int))
    · rw [decide_eq_true hq, Bool.true_and]
      refine Ev.step (fun k => ?_) (ih (i + 1) (by omega) (by omega))
      unfold isWord at hq
      simp only [impl_areWords.l0]
      rw [if_pos (by omega), if_pos (by omega), if_pos (by omega), if_neg (by omega), if_neg (by omega), wsucc (by omega)]
    · rw [decide_eq_false hq, Bool.false_and, Bool.and_false]
      refine ev_now fun k => ?_
      unfold isWord at hq
      simp only [impl_areWords.l0]
      rw [if_pos (by omega), if_pos (by omega), if_pos (by omega)]
      by_cases h1 : rd l (i : Int) < -1099511627776
      · rw [if_pos h1]
      · rw [if_neg h1, if_pos (by omega)]
theorem iWords_ev (l : List Int) (hn : l.length ≤ 1048576) : Ev (fun k => impl_areWords.f k l) (wordsB l) := by
  refine Ev.congr (fun k => ?_) (iWords_l l hn l.length 0 (by omega) (by omega))
  simp [impl_areWords.f]

-- block sHas
theorem sHas_l (l : List Int) (x : Int) (hn : l.length ≤ 1048576) : ∀ (d i : Nat), l.length - i = d → i ≤ l.length → Ev (fun k => spec_l01Has.l0 k l x (i : Int)) (decide (x ∈ l.drop i)) := by
  intro d
  induction d with
  | zero =>
    intro i h hi
    refine ev_now fun k => ?_
    simp only [spec_l01Has.l0]
    rw [if_neg (by omega), List.drop_eq_nil_of_le (by omega)]
    simp
  | succ d ih =>
    intro i h hi
    rw [List.drop_eq_getElem_cons (show i < l.length by omega)]
    by_cases hq : rd l (i : Int) = x
    · refine ev_now fun k => ?_
      simp only [spec_l01Has.l0]
      rw [if_pos (by omega), if_pos (by omega), if_pos hq]
      rw [rd_eq (by omega)] at hq
      simp [hq]
    · have hne : ¬ x = l[i]'(by omega) := fun e => hq (by rw [rd_eq (by omega)]; exact e.symm)
      have := ih (i + 1) (by omega) (by omega)
      simp only [List.mem_cons, hne, false_or]
      refine Ev.step (fun k => ?_) this
      simp only [spec_l01Has.l0]
      rw [if_pos (by omega), if_pos (by omega), if_neg hq, wsucc (by omega)]
theorem sHas_ev (l : List Int) (x : Int) (hn : l.length ≤ 1048576) : Ev (fun k => spec_l01Has.f k l x) (decide (x ∈ l)) := by
  refine Ev.congr (fun k => ?_) (by simpa using sHas_l l x hn l.length 0 (by omega) (by omega))
  simp [spec_l01Has.f]

-- block jobB
def jobHead (kind f : Int) : Prop := 1 ≤ kind ∧ kind ≤ 11 ∧ fldOk f ∧ (kind = 6 → f = 0)
instance jobHead_dec (kind f : Int) : Decidable (jobHead kind f) := by unfold jobHead; infer_instance
def jobTail (kind : Int) (B : List Int) (n : Int) : Prop := 0 ≤ n ∧ n ≤ 400 ∧ ((kind = 1 ∨ kind = 2 ∨ kind = 7) → B.length = 0) ∧ (kind ≠ 11 → n = 0)
instance jobTail_dec (kind : Int) (B : List Int) (n : Int) : Decidable (jobTail kind B n) := by unfold jobTail; infer_instance
def jobB (kind f : Int) (A B : List Int) (n : Int) : Bool := decide (jobHead kind f) && (wordsB A && (wordsB B && decide (jobTail kind B n)))

-- block sJob
theorem sJob_t (kind f : Int) (A B : List Int) (n : Int) (hA : A.length ≤ 1048576) (hB : B.length ≤ 1048576) (h0 : jobHead kind f) : Ev (fun k => spec_JobOk.j0 k false kind f A B n) (wordsB A && (wordsB B && decide (jobTail kind B n))) := by
  obtain ⟨m, h1, h2, h3⟩ := evs3 (sWords_ev A hA) (sWords_ev B hB) (sHas_ev [3, 4, 5, 6, 8, 9, 10, 11] kind (by simp))
  refine ⟨m + 1, fun k hk => ?_⟩
  obtain ⟨j, rfl⟩ : ∃ j, k = m + j + 1 := ⟨k - m - 1, by omega⟩
  simp only [spec_JobOk.j0, spec_l10UsesB.f, h1, h2, h3, in_eq, Option.bind_some, Bool.false_eq_true, if_false, decide_eq_true_eq]
  cases hwA : wordsB A with
  | false => simp
  | true =>
    cases hwB : wordsB B with
    | false => simp
    | true =>
      simp only [if_true, Bool.true_and, List.mem_cons, List.not_mem_nil, or_false]
      unfold jobHead at h0
      by_cases hn : 0 ≤ n ∧ n ≤ 400
      · rw [if_pos hn]
        by_cases hu : kind = 1 ∨ kind = 2 ∨ kind = 7
        · rw [if_neg (by omega)]
          by_cases hl : B.length = 0
          · rw [if_pos (by omega), if_neg (by omega)]
            exact congrArg some (by rw [Bool.eq_iff_iff, beq_iff_eq, decide_eq_true_eq]; unfold jobTail; omega)
          · rw [if_neg (by omega), decide_eq_false (by unfold jobTail; omega)]
        · rw [if_pos (by omega)]
          by_cases he : kind = 11
          · rw [if_pos he, decide_eq_true (by unfold jobTail; omega)]
          · rw [if_neg he]
            exact congrArg some (by rw [Bool.eq_iff_iff, beq_iff_eq, decide_eq_true_eq]; unfold jobTail; omega)
      · rw [if_neg hn, decide_eq_false (by unfold jobTail; omega)]
theorem sJob_ev (kind f : Int) (A B : List Int) (n : Int) (hA : A.length ≤ 1048576) (hB : B.length ≤ 1048576) : Ev (fun k => spec_JobOk.f k kind f A B n) (jobB kind f A B n) := by
  unfold jobB
  by_cases h0 : jobHead kind f
  · rw [decide_eq_true h0, Bool.true_and]
    refine Ev.congr (fun k => ?_) (sJob_t kind f A B n hA hB h0)
    have h1 := h0
    unfold jobHead at h1
    simp only [spec_JobOk.f, in_eq, sMod, Option.bind_some, decide_eq_true_eq, md_zero]
    rw [if_pos (by omega), if_neg (fun hh => hh h1.2.2.1)]
    by_cases h6 : kind = 6
    · rw [if_pos h6, h1.2.2.2 h6]; rfl
    · rw [if_neg h6]
  · rw [decide_eq_false h0, Bool.false_and]
    have key : Ev (fun k => spec_JobOk.j0 k true kind f A B n) false := ev_now fun k => by simp [spec_JobOk.j0]
    refine Ev.congr (fun k => ?_) key
    simp only [spec_JobOk.f, in_eq, sMod, Option.bind_some, decide_eq_true_eq, md_zero]
    by_cases h1 : 1 ≤ kind ∧ kind ≤ 11
    · rw [if_pos h1]
      by_cases h2 : fldOk f
      · rw [if_neg (fun hh => hh h2)]
        have h6 : kind = 6 ∧ f ≠ 0 := Classical.byContradiction fun hh => h0 ⟨h1.1, h1.2, h2, fun e => Classical.byContradiction fun hf => hh ⟨e, hf⟩⟩
        rw [if_pos h6.1, bne_iff_ne.2 h6.2]
      · rw [if_pos h2]
    · rw [if_neg h1]

-- block iJob
theorem iJob_t (kind f : Int) (A B : List Int) (n : Int) (hA : A.length ≤ 1048576) (hB : B.length ≤ 1048576) (h0 : jobHead kind f) : Ev (fun k => impl_isJob.j0 k false kind f A B n) (wordsB A && (wordsB B && decide (jobTail kind B n))) := by
  obtain ⟨m, h1, h2⟩ := evs2 (iWords_ev A hA) (iWords_ev B hB)
  refine ⟨m + 1, fun k hk => ?_⟩
  obtain ⟨j, rfl⟩ : ∃ j, k = m + j + 1 := ⟨k - m - 1, by omega⟩
  have hu : impl_usesB.f kind = some (decide (¬ (kind = 1 ∨ kind = 2 ∨ kind = 7))) := by
    simp only [impl_usesB.f]
    by_cases k1 : kind = 1
    · rw [if_pos k1, decide_eq_false (by omega)]
    · rw [if_neg k1]
      by_cases k2 : kind = 2
      · rw [if_pos k2, decide_eq_false (by omega)]
      · rw [if_neg k2]
        exact congrArg some (by rw [Bool.eq_iff_iff, bne_iff_ne, decide_eq_true_eq]; omega)
  simp only [impl_isJob.j0, h1, h2, hu, Option.bind_some, Bool.false_eq_true, if_false, decide_eq_true_eq]
  cases hwA : wordsB A with
  | false => simp
  | true =>
    cases hwB : wordsB B with
    | false => simp
    | true =>
      simp only [if_true, Bool.true_and]
      unfold jobHead at h0
      by_cases hn : n < 0
      · rw [if_pos hn, decide_eq_false (by unfold jobTail; omega)]
      · rw [if_neg hn]
        by_cases hn2 : n > 400
        · rw [if_pos hn2, decide_eq_false (by unfold jobTail; omega)]
        · rw [if_neg hn2]
          by_cases hu : kind = 1 ∨ kind = 2 ∨ kind = 7
          · rw [if_neg (by omega)]
            by_cases hl : B.length = 0
            · rw [if_pos (by omega), if_neg (by omega)]
              exact congrArg some (by rw [Bool.eq_iff_iff, beq_iff_eq, decide_eq_true_eq]; unfold jobTail; omega)
            · rw [if_neg (by omega), decide_eq_false (by unfold jobTail; omega)]
          · rw [if_pos (by omega)]
            by_cases he : kind = 11
            · rw [if_pos he, decide_eq_true (by unfold jobTail; omega)]
            · rw [if_neg he]
              exact congrArg some (by rw [Bool.eq_iff_iff, beq_iff_eq, decide_eq_true_eq]; unfold jobTail; omega)
theorem iJob_ev (kind f : Int) (A B : List Int) (n : Int) (hA : A.length ≤ 1048576) (hB : B.length ≤ 1048576) : Ev (fun k => impl_isJob.f k kind f A B n) (jobB kind f A B n) := by
  unfold jobB
  by_cases h0 : jobHead kind f
  · rw [decide_eq_true h0, Bool.true_and]
    refine Ev.congr (fun k => ?_) (iJob_t kind f A B n hA hB h0)
    have h1 := h0
    unfold jobHead at h1
    simp only [impl_isJob.f, iFld, if_pos h1.2.2.1, Option.bind_some, if_true]
    rw [if_neg (by omega), if_neg (by omega)]
    by_cases h6 : kind = 6
    · rw [if_pos h6, h1.2.2.2 h6]; rfl
    · rw [if_neg h6]
  · rw [decide_eq_false h0, Bool.false_and]
    have key : Ev (fun k => impl_isJob.j0 k true kind f A B n) false := ev_now fun k => by simp [impl_isJob.j0]
    refine Ev.congr (fun k => ?_) key
    simp only [impl_isJob.f, iFld, Option.bind_some]
    by_cases h2 : fldOk f
    · simp only [if_pos h2, if_true]
      by_cases h1 : kind < 1
      · rw [if_pos h1]
      · rw [if_neg h1]
        by_cases h3 : kind > 11
        · rw [if_pos h3]
        · have h6 : kind = 6 ∧ f ≠ 0 := Classical.byContradiction fun hh => h0 ⟨by omega, by omega, h2, fun e => Classical.byContradiction fun hf => hh ⟨e, hf⟩⟩
          rw [if_neg h3, if_pos h6.1, bne_iff_ne.2 h6.2]
    · simp only [if_neg h2, Bool.false_eq_true, if_false]

-- block szIntS
theorem szIntS_eq (l : List Int) (m : Int) (h0 : 0 ≤ m) (h1 : m ≤ 1048576) (hl : l.length ≤ maxLen) : laws_szIntS.f l m = some (if m < l.length then -1 else m - l.length) := by
  have hm : maxLen = 9223372036854775807 := rfl
  simp only [laws_szIntS.f]
  rw [w64 (by omega) (by omega)]
  by_cases h : m < l.length
  · rw [if_pos h, if_pos (by omega)]
  · rw [if_neg h, if_neg (by omega)]

-- block szJob
theorem szJob_eq (a b c : Int) (A B : List Int) (m : Int) (h0 : 0 ≤ m) (h1 : m ≤ 1048576) (hA : A.length ≤ maxLen) (hB : B.length ≤ maxLen) : laws_szJob.f a b A B c m = some (if m < A.length + B.length then -1 else m - (A.length + B.length)) := by
  have hs := szIntS_eq A m h0 h1 hA
  simp only [laws_szJob.f, hs, Option.bind_some]
  by_cases h : m < A.length
  · simp only [if_pos h]
    rw [if_pos (by omega), if_pos (by omega)]
  · simp only [if_neg h]
    rw [if_neg (by omega), szIntS_eq B (m - A.length) (by omega) (by omega) hB]
    simp only [Option.bind_some]
    by_cases h2 : m - A.length < B.length
    · rw [if_pos h2, if_pos (by omega), if_pos (by omega)]
    · rw [if_neg h2, if_neg (by omega), if_neg (by omega)]
      exact congrArg some (by omega)

-- block toJob
theorem toJob_ev (a b c : Int) (A B : List Int) (hA : A.length ≤ 1048576) (hB : B.length ≤ 1048576) : Ev (fun k => laws_toJob.f k a b A B c) (a, b, A, B, c) := by
  obtain ⟨m, h1, h2⟩ := evs2 (toIntS_ev A (by omega)) (toIntS_ev B (by omega))
  refine ⟨m, fun k hk => ?_⟩
  obtain ⟨j, rfl⟩ : ∃ j, k = m + j := ⟨k - m, by omega⟩
  simp only [laws_toJob.f, h1, h2, Option.bind_some]

-- block eqJob
theorem eqJob_ev (a b c : Int) (A B : List Int) (hA : A.length ≤ 1048576) (hB : B.length ≤ 1048576) : Ev (fun k => laws_eqJob.f k a b A B c a b A B c) true := by
  obtain ⟨m, h1, h2⟩ := evs2 (eqIntS_ev A (by omega)) (eqIntS_ev B (by omega))
  refine ⟨m, fun k hk => ?_⟩
  obtain ⟨j, rfl⟩ : ∃ j, k = m + j := ⟨k - m, by omega⟩
  simp only [laws_eqJob.f, h1, h2, Option.bind_some, if_true]

-- block bitP
def bitF : Nat → Nat → Nat
  | 0, _ => 0
  | d + 1, x => if x = 0 then 0 else 1 + bitF d (x / 2)
/-- How many bits a number has. -/
def bitB (x : Nat) : Nat := bitF 21 x
theorem u64_nat {n : Nat} (h : n < 9223372036854775808) : IntKind.u64.wrap (n : Int) = (n : Int) := by
  unfold IntKind.wrap
  have e : (n : Int) % 2 ^ IntKind.u64.bits = n := by show (n : Int) % 2 ^ 64 = n; omega
  rw [e]
  refine if_neg ?_
  show ¬ ((false && _) = true)
  simp

-- block sBits
theorem sBits_l : ∀ (d x c : Nat), x < 2 ^ d → c + d ≤ 1000 → x ≤ 1048576 → Ev (fun k => spec_l10Bits.l0 k (x : Int) (c : Int)) ((c + bitF d x : Nat) : Int) := by
  intro d
  induction d with
  | zero =>
    intro x c hx hc hx2
    have : x = 0 := by simpa using hx
    subst this
    refine ev_now fun k => ?_
    simp only [spec_l10Bits.l0, bitF]
    rw [if_neg (by omega)]; rfl
  | succ d ih =>
    intro x c hx hc hx2
    rw [Nat.pow_succ] at hx
    rw [bitF]
    by_cases h0 : x = 0
    · subst h0
      refine ev_now fun k => ?_
      simp only [spec_l10Bits.l0]
      rw [if_neg (by omega)]; simp
    · rw [if_neg h0, ← Nat.add_assoc]
      have w1 : wrap64 (Int.tdiv (x : Int) 2) = ((x / 2 : Nat) : Int) := by rw [Int.tdiv_eq_ediv_of_nonneg (by omega)]; exact w64n (by omega) (by omega)
      refine Ev.step (fun k => ?_) (ih (x / 2) (c + 1) (by clear w1; omega) (by clear w1; omega) (by clear w1; omega))
      simp only [spec_l10Bits.l0, w1]
      rw [if_pos (by clear w1; omega), wsucc (by clear w1; omega)]
theorem sBits_ev (x : Nat) (hx : x ≤ 1048576) : Ev (fun k => spec_l10Bits.f k (x : Int)) ((bitB x : Nat) : Int) := by
  have := sBits_l 21 x 0 (by omega) (by omega) hx
  rw [Nat.zero_add] at this
  exact Ev.congr (fun k => rfl) this

-- block iBits
theorem iBits_all : ∀ x : Nat, x < 1025 → bits_Len.f 2 (x : Int) = some ((bitB x : Nat) : Int) := by decide +kernel
theorem iBits_ev (x : Nat) (hx : x < 1025) : Ev (fun k => bits_Len.f k (x : Int)) ((bitB x : Nat) : Int) := Ev.of (fun k => bits_Len.mono _ k) (k := 2) (iBits_all x hx)

-- block jobV
def jobV (kind l v s w : Int) : Int := if kind = 1 ∨ kind = 2 then wrap64 (1 + wrap64 (l * v)) else if kind = 3 ∨ kind = 4 then wrap64 (1 + wrap64 (wrap64 (3 * l) * v)) else if kind = 5 then wrap64 (1 + wrap64 (s * w)) else if kind = 6 then wrap64 (1 + wrap64 (wrap64 (2 * s) * w)) else if kind = 7 then wrap64 (1 + wrap64 (wrap64 (2 * l) * v)) else if kind = 8 ∨ kind = 9 then wrap64 (1 + wrap64 (wrap64 (s * w) * w)) else if kind = 10 then wrap64 (1 + wrap64 (wrap64 (3 * s) * w)) else wrap64 (1 + wrap64 (l * l))
theorem job_kind {kind f n : Int} {A B : List Int} (h : jobB kind f A B n = true) : 1 ≤ kind ∧ kind ≤ 11 := by
  unfold jobB at h
  rw [Bool.and_eq_true] at h
  have h1 := of_decide_eq_true h.1
  unfold jobHead at h1
  omega
theorem job_len {kind f n : Int} {A B : List Int} (h : jobB kind f A B n = true) : A.length ≤ 512 ∧ B.length ≤ 512 := by
  unfold jobB wordsB at h
  simp only [Bool.and_eq_true, decide_eq_true_eq] at h
  omega
def jobCostV (kind f : Int) (A B : List Int) (n : Int) : Int := if jobB kind f A B n = true then jobV kind A.length (bitB A.length) ((A.length + B.length : Nat) : Int) (bitB (A.length + B.length)) else -1

-- block sJobCost
theorem sJobCost_ev (kind f : Int) (A B : List Int) (n : Int) (hA : A.length ≤ 1048576) (hB : B.length ≤ 1048576) : Ev (fun k => spec_JobCost.f k kind f A B n) (jobCostV kind f A B n) := by
  unfold jobCostV
  by_cases h : jobB kind f A B n = true
  · have hk := job_kind h
    have hl := job_len h
    obtain ⟨m, e1, e2, e3⟩ := evs3 (sJob_ev kind f A B n hA hB) (sBits_ev A.length (by omega)) (sBits_ev (A.length + B.length) (by omega))
    refine ⟨m + 3, fun k hk => ?_⟩
    obtain ⟨j, rfl⟩ : ∃ j, k = m + j + 3 := ⟨k - m - 3, by omega⟩
    have e1' := e1 (j + 3)
    have e2' := e2 (j + 3)
    have e3' := e3 (j + 3)
    rw [← Nat.add_assoc] at e1' e2' e3'
    rw [h] at e1'
    have w1 : wrap64 ((A.length : Int) + (B.length : Int)) = ((A.length + B.length : Nat) : Int) := w64n (by omega) (by omega)
    rw [if_pos h]
    simp only [spec_JobCost.f, e1', e2', w1, e3', Option.bind_some, if_true]
    clear w1 e1 e2 e3 e1' e2' e3'
    have hc : kind = 1 ∨ kind = 2 ∨ kind = 3 ∨ kind = 4 ∨ kind = 5 ∨ kind = 6 ∨ kind = 7 ∨ kind = 8 ∨ kind = 9 ∨ kind = 10 ∨ kind = 11 := by omega
    clear hk h
    rcases hc with rfl | rfl | rfl | rfl | rfl | rfl | rfl | rfl | rfl | rfl | rfl <;> simp [spec_JobCost.j0, spec_JobCost.j1, spec_JobCost.j2, jobV]
  · rw [if_neg h]
    rw [Bool.not_eq_true] at h
    obtain ⟨m, e1⟩ := evs1 (sJob_ev kind f A B n hA hB)
    refine ⟨m, fun k hk => ?_⟩
    obtain ⟨j, rfl⟩ : ∃ j, k = m + j := ⟨k - m, by omega⟩
    simp only [spec_JobCost.f, e1, h, Option.bind_some, Bool.false_eq_true, if_false]

-- block iJobCost
theorem iJobCost_ev (kind f : Int) (A B : List Int) (n : Int) (hA : A.length ≤ 1048576) (hB : B.length ≤ 1048576) : Ev (fun k => impl_JobCost.f k kind f A B n) (jobCostV kind f A B n) := by
  unfold jobCostV
  by_cases h : jobB kind f A B n = true
  · have hk := job_kind h
    have hl := job_len h
    obtain ⟨m, e1, e2, e3⟩ := evs3 (iJob_ev kind f A B n hA hB) (iBits_ev A.length (by omega)) (iBits_ev (A.length + B.length) (by omega))
    refine ⟨m + 3, fun k hk => ?_⟩
    obtain ⟨j, rfl⟩ : ∃ j, k = m + j + 3 := ⟨k - m - 3, by omega⟩
    have e1' := e1 (j + 3)
    have e2' := e2 (j + 3)
    have e3' := e3 (j + 3)
    rw [← Nat.add_assoc] at e1' e2' e3'
    rw [h] at e1'
    have w1 : wrap64 ((A.length : Int) + (B.length : Int)) = ((A.length + B.length : Nat) : Int) := w64n (by omega) (by omega)
    have u1 : IntKind.u64.wrap (A.length : Int) = (A.length : Int) := u64_nat (by clear w1; omega)
    have u2 : IntKind.u64.wrap ((A.length + B.length : Nat) : Int) = ((A.length + B.length : Nat) : Int) := u64_nat (by clear w1; omega)
    rw [if_pos h]
    simp only [impl_JobCost.f, impl_jobCost.f, e1', u1, e2', w1, u2, e3', Option.bind_some, if_true]
    have hc : kind = 1 ∨ kind = 2 ∨ kind = 3 ∨ kind = 4 ∨ kind = 5 ∨ kind = 6 ∨ kind = 7 ∨ kind = 8 ∨ kind = 9 ∨ kind = 10 ∨ kind = 11 := by clear w1 u1 u2; omega
    clear hk h u1 u2 e1 e2 e3 e1' e2' e3'
    rcases hc with rfl | rfl | rfl | rfl | rfl | rfl | rfl | rfl | rfl | rfl | rfl <;> simp [impl_jobCost.j0, impl_jobCost.j1, impl_jobCost.j2, jobV, w1]
  · rw [if_neg h]
    rw [Bool.not_eq_true] at h
    obtain ⟨m, e1⟩ := evs1 (iJob_ev kind f A B n hA hB)
    refine ⟨m, fun k hk => ?_⟩
    obtain ⟨j, rfl⟩ : ∃ j, k = m + j := ⟨k - m, by omega⟩
    simp only [impl_JobCost.f, e1, h, Option.bind_some, Bool.false_eq_true, if_false]

end Go.Proofs.Ytgoebfelalapaaa.QFnExactJobCost

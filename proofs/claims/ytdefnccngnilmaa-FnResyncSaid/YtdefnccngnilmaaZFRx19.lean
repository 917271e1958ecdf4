/- Lemmas on the printed functions of FnResync: what each comes to. -/
import Derived.Test.YtdefnccngnilmaaZFRx18
namespace Go.Proofs.Ytdefnccngnilmaa.QFnResync
open Go.RowKit Go.Proofs.Ytdefnccngnilmaa.PFnResync Go.Proofs.YtdefnccngnilmaaW.PrintWords Go.Proofs.YtdefnccngnilmaaW.PrintLast Go.Proofs.Ytdefnccngnilmaa.Math
set_option linter.unusedVariables false
set_option linter.unusedSimpArgs false

-- block l01In
theorem in_eq (a b c : Int) : spec_l01In.f a b c = some (decide (b ≤ a ∧ a ≤ c)) := by
  simp only [spec_l01In.f, if_dec]

-- block sPut
theorem sPut_l (u : Nat) : ∀ (acc : List Int), u < 4611686018427387904 → acc.length + (put u).length ≤ 1000000 → Ev (fun k => spec_PutNumber.l0 k acc (u : Int)) (acc ++ put u) := by
  induction u using Nat.strongRecOn with
  | _ u ih =>
    intro acc hu ha
    by_cases h : u < 128
    · refine ev_now fun k => ?_
      simp only [spec_PutNumber.l0]
      rw [if_neg (by omega), if_pos (by omega), put_small h, show ((u : Int)) % 256 = u by omega]
    · rw [put_big (by omega)] at ha ⊢
      refine Ev.step (fun k => ?_) (Ev.congr (fun k => rfl) (ih (u / 128) (by omega) (acc ++ [((u % 128 + 128 : Nat) : Int)]) (by omega) (by simp at ha ⊢; omega))) |> fun h => by simpa using h
      simp only [spec_PutNumber.l0]
      rw [if_pos (by omega), if_pos (by omega), Int.tmod_eq_emod_of_nonneg (by omega), Int.tdiv_eq_ediv_of_nonneg (by omega), w64 (by omega) (by omega), w64 (by omega) (by omega)]
      rw [show (128 + (u : Int) % 128) % 256 = ((u % 128 + 128 : Nat) : Int) by omega, show (u : Int) / 128 = ((u / 128 : Nat) : Int) by omega]
theorem sPut_ev (x : Int) (hx : (Lit.int .i64 x).wf = true) : Ev (fun k => spec_PutNumber.f k x) (putOf x) := by
  unfold putOf
  by_cases h : isWord x
  · have hz := zz_lt h
    have hl := put_len (zz x) 5 (by omega)
    rw [if_pos h]
    have key := sPut_l (zz x) [] (by omega) (by simp; omega)
    unfold isWord at h
    refine Ev.congr (fun k => ?_) (Ev.step (g := fun k => spec_PutNumber.j0 k [] (zz x : Int)) (fun k => rfl) key)
    simp only [spec_PutNumber.f, in_eq, Option.bind_some, decide_eq_true_eq]
    rw [if_pos h]
    by_cases hn : x < 0
    · rw [if_pos hn, w64 (x := -2 * x) (by omega) (by omega), w64 (by omega) (by omega), show -2 * x - 1 = (zz x : Int) by unfold zz; omega]
    · rw [if_neg hn, w64 (by omega) (by omega), show 2 * x = (zz x : Int) by unfold zz; omega]
  · rw [if_neg h]
    refine ev_some fun k => ?_
    unfold isWord at h
    simp only [spec_PutNumber.f, in_eq, Option.bind_some, decide_eq_true_eq]
    rw [if_neg h]

-- block iCks
theorem iCks_l (l : List Int) (hn : l.length ≤ 140737488355328) (hb : isB l) : ∀ (d i : Nat) (x y : Int), l.length - i = d → 0 ≤ x → x ≤ 65520 → 0 ≤ y → y ≤ 65520 →
    Ev (fun k => impl_checkSum.l0 k x y l (l.length : Int) (i : Int)) (cks (l.drop i) x y) := by
  intro d
  induction d with
  | zero =>
    intro i x y h h1 h2 h3 h4
    refine ev_now fun k => ?_
    simp only [impl_checkSum.l0]
    rw [if_neg (by omega), List.drop_eq_nil_of_le (by omega), w64 (x := 65536 * y) (by omega) (by omega), w64 (by omega) (by omega), cks]
  | succ d ih =>
    intro i x y h h1 h2 h3 h4
    have hc := isB_at hb (show i < l.length by omega)
    rw [cks_at (by omega)]
    refine Ev.step (fun k => ?_) (ih (i + 1) _ _ (by omega) (by omega) (by omega) (by omega) (by omega))
    simp only [impl_checkSum.l0]
    rw [if_pos (by omega), if_pos (by omega), if_pos (by omega), rd_eq (by omega), w64 (x := l[i]) (by omega) (by omega), w64 (x := x + l[i]) (by omega) (by omega), Int.tmod_eq_emod_of_nonneg (a := x + l[i]) (by omega), w64 (x := y + _) (by omega) (by omega), Int.tmod_eq_emod_of_nonneg (by omega), wsucc (by omega)]
theorem iCks_ev (l : List Int) (hn : l.length ≤ 140737488355328) (hb : isB l) : Ev (fun k => impl_checkSum.f k l) (cks l 1 0) := by
  refine Ev.congr (fun k => ?_) (iCks_l l hn hb l.length 0 1 0 (by omega) (by omega) (by omega) (by omega) (by omega))
  simp [impl_checkSum.f]

-- block frOk
def frOk (a b : Int) (l : List Int) : Prop := 0 ≤ a ∧ a ≤ 99 ∧ 0 ≤ b ∧ b ≤ 2147483647 ∧ l.length ≤ 5000
instance frOk_dec (a b : Int) (l : List Int) : Decidable (frOk a b l) := by unfold frOk; infer_instance

-- block sFrameOk
theorem sFrameOk (a b : Int) (l : List Int) : spec_FrameOk.f a b l = some (decide (frOk a b l)) := by
  simp only [spec_FrameOk.f, in_eq, Option.bind_some, decide_eq_true_eq, if_dec]
  exact congrArg some (decide_eq_decide.2 (by unfold frOk; omega))

-- block iFrame
theorem iFrame (a b : Int) (l : List Int) : impl_isFrame.f a b l = some (decide (frOk a b l)) := by
  simp only [impl_isFrame.f, if_dec]
  exact congrArg some (decide_eq_decide.2 (by unfold frOk; omega))

-- block fldOk
def fldOk (f : Int) : Prop := 0 ≤ f ∧ f < 9
instance fldOk_dec (f : Int) : Decidable (fldOk f) := by unfold fldOk; infer_instance
def fP : List Int := [17, 97, 193, 257, 7681, 12289, 998244353, 469762049, 1004535809]
def fG : List Int := [3, 5, 5, 3, 17, 11, 3, 3, 3]
def fT : List Int := [4, 5, 6, 8, 9, 12, 23, 26, 21]
theorem fld_cases {f : Int} (h : fldOk f) {Q : Int → Prop} (h0 : Q 0) (h1 : Q 1) (h2 : Q 2) (h3 : Q 3) (h4 : Q 4) (h5 : Q 5) (h6 : Q 6) (h7 : Q 7) (h8 : Q 8) : Q f := by
  unfold fldOk at h
  have : f = 0 ∨ f = 1 ∨ f = 2 ∨ f = 3 ∨ f = 4 ∨ f = 5 ∨ f = 6 ∨ f = 7 ∨ f = 8 := by omega
  rcases this with rfl | rfl | rfl | rfl | rfl | rfl | rfl | rfl | rfl <;> assumption

-- block sMod
def md (f : Int) : Int := if fldOk f then rd fP f else 0
theorem sMod (f : Int) : spec_Modulus.f f = some (md f) := by
  by_cases h : fldOk f
  · exact fld_cases (Q := fun f => spec_Modulus.f f = some (md f)) h rfl rfl rfl rfl rfl rfl rfl rfl rfl
  · unfold md
    rw [if_neg h]
    unfold fldOk at h
    simp only [spec_Modulus.f]
    rw [if_neg (by omega), if_neg (by omega), if_neg (by omega), if_neg (by omega), if_neg (by omega), if_neg (by omega), if_neg (by omega), if_neg (by omega), if_neg (by omega)]
theorem md_pos {f : Int} (h : fldOk f) : 17 ≤ md f ∧ md f ≤ 1004535809 := fld_cases (Q := fun f => 17 ≤ md f ∧ md f ≤ 1004535809) h (by decide) (by decide) (by decide) (by decide) (by decide) (by decide) (by decide) (by decide) (by decide)
theorem md_zero {f : Int} : md f = 0 ↔ ¬ fldOk f := by
  by_cases h : fldOk f
  · have := md_pos h
    simp [h]; omega
  · simp [md, h]

-- block wordsB
def wordsB (l : List Int) : Bool := decide (l.length ≤ 400) && allF l.length 0 (fun j => decide (isWord (rd l (j : Int))))
theorem wordsB_iff (l : List Int) : wordsB l = true ↔ l.length ≤ 400 ∧ ∀ x ∈ l, isWord x := by
  unfold wordsB
  rw [Bool.and_eq_true, decide_eq_true_eq, allF_iff]
  constructor
  · rintro ⟨h1, h2⟩
    refine ⟨h1, fun x hx => ?_⟩
    obtain ⟨j, hj, rfl⟩ := List.getElem_of_mem hx
    have := h2 j (by omega) (by omega)
    rw [decide_eq_true_eq, rd_eq hj] at this
    exact this
  · rintro ⟨h1, h2⟩
    refine ⟨h1, fun j _ hj => ?_⟩
    rw [decide_eq_true_eq, rd_eq (by omega)]
    exact h2 _ (List.getElem_mem _)

-- block sWords
theorem sWords_l (l : List Int) (hn : l.length ≤ 1048576) : ∀ (d i : Nat), l.length - i = d → i ≤ l.length → Ev (fun k => spec_l10Words.l0 k l (i : Int)) (allF d i (fun j => decide (isWord (rd l (j : Int))))) := by
  intro d
  induction d with
  | zero =>
    intro i h hi
    refine ev_now fun k => ?_
    simp only [spec_l10Words.l0]
    rw [if_neg (by omega)]; rfl
  | succ d ih =>
    intro i h hi
    rw [allF]
    by_cases hq : isWord (rd l (i : Int))
    · rw [decide_eq_true hq, Bool.true_and]
      refine Ev.step (fun k => ?_) (ih (i + 1) (by omega) (by omega))
      unfold isWord at hq
      simp only [spec_l10Words.l0, in_eq, Option.bind_some, decide_eq_true_eq]
      rw [if_pos (by omega), if_pos (by omega), if_pos hq, wsucc (by omega)]
    · rw [decide_eq_false hq, Bool.false_and]
      refine ev_now fun k => ?_
      unfold isWord at hq
      simp only [spec_l10Words.l0, in_eq, Option.bind_some, decide_eq_true_eq]
      rw [if_pos (by omega), if_pos (by omega), if_neg hq]
theorem sWords_ev (l : List Int) (hn : l.length ≤ 1048576) : Ev (fun k => spec_l10Words.f k l) (wordsB l) := by
  unfold wordsB
  by_cases h : l.length ≤ 400
  · rw [decide_eq_true h, Bool.true_and]
    refine Ev.congr (fun k => ?_) (sWords_l l hn l.length 0 (by omega) (by omega))
    simp only [spec_l10Words.f]
    rw [if_neg (by omega)]; rfl
  · rw [decide_eq_false h, Bool.false_and]
    refine ev_some fun k => ?_
    simp only [spec_l10Words.f]
    rw [if_pos (by omega)]

-- block sHas
theorem sHas_l (l : List Int) (x : Int) (hn : l.length ≤ 1048576) : ∀ (d i : Nat), l.length - i = d → i ≤ l.length → Ev (fun k => spec_l01Has.l0 k l x (i : Int)) (decide (x ∈ l.drop i)) := by
  intro d
  induction d with
  | zero =>
    intro i h hi
    refine ev_now fun k => ?_
    simp only [spec_l01Has.l0]
    rw [if_neg (by omega), List.drop_eq_nil_of_le (by omega)]
    simp
  | succ d ih =>
    intro i h hi
    rw [List.drop_eq_getElem_cons (show i < l.length by omega)]
    by_cases hq : rd l (i : Int) = x
    · refine ev_now fun k => ?_
      simp only [spec_l01Has.l0]
      rw [if_pos (by omega), if_pos (by omega), if_pos hq]
      rw [rd_eq (by omega)] at hq
      simp [hq]
    · have hne : ¬ x = l[i]'(by omega) := fun e => hq (by rw [rd_eq (by omega)]; exact e.symm)
      have := ih (i + 1) (by omega) (by omega)
      simp only [List.mem_cons, hne, false_or]
      refine Ev.step (fun k => ?_) this
      simp only [spec_l01Has.l0]
      rw [if_pos (by omega), if_pos (by omega), if_neg hq, wsucc (by omega)]
theorem sHas_ev (l : List Int) (x : Int) (hn : l.length ≤ 1048576) : Ev (fun k => spec_l01Has.f k l x) (decide (x ∈ l)) := by
  refine Ev.congr (fun k => ?_) (by simpa using sHas_l l x hn l.length 0 (by omega) (by omega))
  simp [spec_l01Has.f]

-- block jobB
def jobHead (kind f : Int) : Prop := 1 ≤ kind ∧ kind ≤ 11 ∧ fldOk f ∧ (kind = 6 → f = 0)
instance jobHead_dec (kind f : Int) : Decidable (jobHead kind f) := by unfold jobHead; infer_instance
def jobTail (kind : Int) (B : List Int) (n : Int) : Prop := 0 ≤ n ∧ n ≤ 400 ∧ ((kind = 1 ∨ kind = 2 ∨ kind = 7) → B.length = 0) ∧ (kind ≠ 11 → n = 0)
instance jobTail_dec (kind : Int) (B : List Int) (n : Int) : Decidable (jobTail kind B n) := by unfold jobTail; infer_instance
def jobB (kind f : Int) (A B : List Int) (n : Int) : Bool := decide (jobHead kind f) && (wordsB A && (wordsB B && decide (jobTail kind B n)))

-- block sJob
theorem sJob_t (kind f : Int) (A B : List Int) (n : Int) (hA : A.length ≤ 1048576) (hB : B.length ≤ 1048576) (h0 : jobHead kind f) : Ev (fun k => spec_JobOk.j0 k false kind f A B n) (wordsB A && (wordsB B && decide (jobTail kind B n))) := by
  obtain ⟨m, h1, h2, h3⟩ := evs3 (sWords_ev A hA) (sWords_ev B hB) (sHas_ev [3, 4, 5, 6, 8, 9, 10, 11] kind (by simp))
  refine ⟨m + 1, fun k hk => ?_⟩
  obtain ⟨j, rfl⟩ : ∃ j, k = m + j + 1 := ⟨k - m - 1, by omega⟩
  simp only [spec_JobOk.j0, spec_l10UsesB.f, h1, h2, h3, in_eq, Option.bind_some, Bool.false_eq_true, if_false, decide_eq_true_eq]
  cases hwA : wordsB A with
  | false => simp
  | true =>
    cases hwB : wordsB B with
    | false => simp
    | true =>
      simp only [if_true, Bool.true_and, List.mem_cons, List.not_mem_nil, or_false]
      unfold jobHead at h0
      by_cases hn : 0 ≤ n ∧ n ≤ 400
      · rw [if_pos hn]
        by_cases hu : kind = 1 ∨ kind = 2 ∨ kind = 7
        · rw [if_neg (by omega)]
          by_cases hl : B.length = 0
          · rw [if_pos (by omega), if_neg (by omega)]
            exact congrArg some (by rw [Bool.eq_iff_iff, beq_iff_eq, decide_eq_true_eq]; unfold jobTail; omega)
          · rw [if_neg (by omega), decide_eq_false (by unfold jobTail; omega)]
        · rw [if_pos (by omega)]
          by_cases he : kind = 11
          · rw [if_pos he, decide_eq_true (by unfold jobTail; omega)]
          · rw [if_neg he]
            exact congrArg some (by rw [Bool.eq_iff_iff, beq_iff_eq, decide_eq_true_eq]; unfold jobTail; omega)
      · rw [if_neg hn, decide_eq_false (by unfold jobTail; omega)]
theorem sJob_ev (kind f : Int) (A B : List Int) (n : Int) (hA : A.length ≤ 1048576) (hB : B.length ≤ 1048576) : Ev (fun k => spec_JobOk.f k kind f A B n) (jobB kind f A B n) := by
  unfold jobB
  by_cases h0 : jobHead kind f
  · rw [decide_eq_true h0, Bool.true_and]
    refine Ev.congr (fun k => ?_) (sJob_t kind f A B n hA hB h0)
    have h1 := h0
    unfold jobHead at h1
    simp only [spec_JobOk.f, in_eq, sMod, Option.bind_some, decide_eq_true_eq, md_zero]
    rw [if_pos (by omega), if_neg (fun hh => hh h1.2.2.1)]
    by_cases h6 : kind = 6
    · rw [if_pos h6, h1.2.2.2 h6]; rfl
    · rw [if_neg h6]
  · rw [decide_eq_false h0, Bool.false_and]
    have key : Ev (fun k => spec_JobOk.j0 k true kind f A B n) false := ev_now fun k => by simp [spec_JobOk.j0]
    refine Ev.congr (fun k => ?_) key
    simp only [spec_JobOk.f, in_eq, sMod, Option.bind_some, decide_eq_true_eq, md_zero]
    by_cases h1 : 1 ≤ kind ∧ kind ≤ 11
    · rw [if_pos h1]
      by_cases h2 : fldOk f
      · rw [if_neg (fun hh => hh h2)]
        have h6 : kind = 6 ∧ f ≠ 0 := Classical.byContradiction fun hh => h0 ⟨h1.1, h1.2, h2, fun e => Classical.byContradiction fun hf => hh ⟨e, hf⟩⟩
        rw [if_pos h6.1, bne_iff_ne.2 h6.2]
      · rw [if_pos h2]
    · rw [if_neg h1]

-- block mdRange
theorem md_range {f : Int} (h : fldOk f) (x : Int) : 0 ≤ x % md f ∧ x % md f < md f := by
  have hm := md_pos h
  exact ⟨Int.emod_nonneg _ (by omega), Int.emod_lt_of_pos _ (by omega)⟩

-- block sReduce
theorem sReduce (f x : Int) : spec_Reduce.f f x = some (if fldOk f then x % md f else -1) := by
  simp only [spec_Reduce.f, sMod, Option.bind_some, md_zero]
  by_cases h : fldOk f
  · have hm := md_pos h
    have hb := tmod_bounds (x := x) (p := md f) (by omega)
    rw [if_neg (fun hh => hh h), if_pos h]
    by_cases hn : Int.tmod x (md f) < 0
    · rw [if_pos hn, w64 (by omega) (by omega), red_lt (by omega) hn]
    · rw [if_neg hn, red_ge (by omega) hn]
  · rw [if_pos h, if_neg h]

-- block sMul
theorem sMul (f a b : Int) : spec_Mul.f f a b = some (if fldOk f then a * b % md f else -1) := by
  simp only [spec_Mul.f, sMod, sReduce, Option.bind_some, md_zero]
  by_cases h : fldOk f
  · have hm := md_pos h
    have ha := md_range h a
    have hb := md_range h b
    have h0 : 0 ≤ (a % md f) * (b % md f) := Int.mul_nonneg ha.1 hb.1
    have h1 : (a % md f) * (b % md f) ≤ 2147483648 * 2147483648 := Int.mul_le_mul (by omega) (by omega) hb.1 (by omega)
    simp only [h, not_true_eq_false, if_true, if_false]
    rw [w64 (by omega) (by omega), ← Int.mul_emod]
  · simp only [h, not_false_eq_true, if_true, if_false]

-- block sPow
theorem sPow_l {p : Int} (hp : 2 ≤ p) (hp2 : p ≤ 2147483648) (e : Nat) : ∀ (a out : Int), e < 4611686018427387904 → 0 ≤ a → a < p → 0 ≤ out → out < p →
    Ev (fun k => spec_Power.l0 k p a (e : Int) out) (out * a ^ e % p) := by
  induction e using Nat.strongRecOn with
  | _ e ih =>
    intro a out he ha ha' ho ho'
    by_cases h0 : e = 0
    · subst h0
      refine ev_now fun k => ?_
      simp only [spec_Power.l0]
      rw [if_neg (by omega), show a ^ 0 = 1 by grind, Int.mul_one, Int.emod_eq_of_lt ho ho']
    · have m0 : ∀ z : Int, 0 ≤ z % p := fun z => Int.emod_nonneg _ (by omega)
      have m1 : ∀ z : Int, z % p < p := fun z => Int.emod_lt_of_pos _ (by omega)
      have ht : Int.tmod (e : Int) 2 = ((e % 2 : Nat) : Int) := by rw [Int.tmod_eq_emod_of_nonneg (by omega)]; omega
      have hd : wrap64 (Int.tdiv (e : Int) 2) = ((e / 2 : Nat) : Int) := by rw [Int.tdiv_eq_ediv_of_nonneg (by omega), w64 (by omega) (by omega)]; omega
      have q0 : ∀ x y : Int, 0 ≤ x → x < p → 0 ≤ y → y < p → Int.tmod (wrap64 (x * y)) p = x * y % p := fun x y hx hx' hy hy' => by
        have h0 : 0 ≤ x * y := Int.mul_nonneg hx hy
        have h1 : x * y ≤ 2147483648 * 2147483648 := Int.mul_le_mul (by omega) (by omega) hy (by omega)
        rw [w64 (by omega) (by omega), Int.tmod_eq_emod_of_nonneg h0]
      by_cases h1 : e % 2 = 1
      · rw [← pw_odd h1]
        refine Ev.step (fun k => ?_) (ih (e / 2) (by omega) (a * a % p) (out * a % p) (by omega) (m0 _) (m1 _) (m0 _) (m1 _))
        simp only [spec_Power.l0, ht, hd, q0 out a ho ho' ha ha', q0 a a ha ha' ha ha']
        rw [if_pos (by omega), if_pos (by omega), if_neg (by omega)]
      · rw [← pw_even h1]
        refine Ev.step (fun k => ?_) (ih (e / 2) (by omega) (a * a % p) out (by omega) (m0 _) (m1 _) ho ho')
        simp only [spec_Power.l0, ht, hd, q0 a a ha ha' ha ha']
        rw [if_pos (by omega), if_neg (by omega), if_neg (by omega)]
/-- Powers with an exponent that is not below 0 and below the modulus less one, or is -1. -/
def expOf (p e : Int) : Nat := (e % (p - 1)).toNat
theorem sPow_ev {f : Int} (h : fldOk f) (a e : Int) (hx : a % md f ≠ 0) : Ev (fun k => spec_Power.f k f a e) ((a % md f) ^ expOf (md f) e % md f) := by
  have hm := md_pos h
  have ha := md_range h a
  have hb := tmod_bounds (x := e) (p := md f - 1) (by omega)
  have he : 0 ≤ e % (md f - 1) ∧ e % (md f - 1) < md f - 1 := ⟨Int.emod_nonneg _ (by omega), Int.emod_lt_of_pos _ (by omega)⟩
  have key := sPow_l (p := md f) (by omega) (by omega) (expOf (md f) e) (a % md f) 1 (by unfold expOf; omega) ha.1 ha.2 (by omega) (by omega)
  rw [Int.one_mul, show ((expOf (md f) e : Nat) : Int) = e % (md f - 1) by unfold expOf; omega] at key
  refine Ev.congr (fun k => ?_) (Ev.step (g := fun k => spec_Power.j0 k (md f) (a % md f) (e % (md f - 1))) (fun k => rfl) key)
  simp only [spec_Power.f, sMod, sReduce, Option.bind_some, md_zero]
  rw [if_neg (fun hh => hh h), if_pos h, if_neg hx, w64 (x := md f - 1) (by omega) (by omega), if_neg (by omega)]
  by_cases hn : Int.tmod e (md f - 1) < 0
  · rw [if_pos hn, w64 (x := Int.tmod e (md f - 1) + md f) (by omega) (by omega), w64 (by omega) (by omega), ← red_lt (by omega) hn, show Int.tmod e (md f - 1) + md f - 1 = Int.tmod e (md f - 1) + (md f - 1) by omega]
  · rw [if_neg hn, red_ge (by omega) hn]

-- block elemB
def elemB (p : Int) (l : List Int) : Bool := allF l.length 0 (fun j => decide (0 ≤ rd l (j : Int) ∧ rd l (j : Int) < p))
theorem elemB_iff (p : Int) (l : List Int) : elemB p l = true ↔ ∀ x ∈ l, 0 ≤ x ∧ x < p := by
  unfold elemB
  rw [allF_iff]
  constructor
  · intro h x hx
    obtain ⟨j, hj, rfl⟩ := List.getElem_of_mem hx
    have := h j (by omega) (by omega)
    rw [decide_eq_true_eq, rd_eq hj] at this
    exact this
  · intro h j _ hj
    rw [decide_eq_true_eq, rd_eq (by omega)]
    exact h _ (List.getElem_mem _)

-- block drawByte
/-- A place of a row to draw from, or its end. -/
def dAt (l : List Int) (i : Int) : Prop := 0 ≤ i ∧ i ≤ l.length
theorem drawByte (l : List Int) (hn : l.length ≤ 140737488355328) (i h : Int) (hi : dAt l i) : ∃ b i' h', spec_l01Byte.f l i h = some (b, i', h') ∧ (0 ≤ b ∧ b ≤ 255) ∧ dAt l i' := by
  unfold dAt at hi ⊢
  simp only [spec_l01Byte.f]
  by_cases hl : i < (l.length : Int)
  · rw [if_pos hl, if_pos hi.1]
    exact ⟨_, _, _, rfl, bits_and _ 255 (by decide), by rw [w64 (by omega) (by omega)]; omega⟩
  · rw [if_neg hl]
    exact ⟨_, _, _, rfl, bits_and _ 255 (by decide), hi⟩

-- block drawBelow
theorem drawBelow (l : List Int) (hn : l.length ≤ 140737488355328) (i h : Int) (hi : dAt l i) (m : Int) : ∃ b i' h', spec_l01Below.f l i h m = some (b, i', h') ∧ (0 ≤ b ∧ (b < m ∨ b = 0)) ∧ dAt l i' := by
  simp only [spec_l01Below.f]
  by_cases h0 : m ≤ 0
  · rw [if_pos h0]
    exact ⟨_, _, _, rfl, by omega, hi⟩
  · rw [if_neg h0]
    obtain ⟨b1, i1, h1, e1, r1, d1⟩ := drawByte l hn i h hi
    rw [e1]
    by_cases hm : m ≤ 256
    · rw [if_pos hm, Option.bind_some, if_neg (by omega)]
      refine ⟨_, _, _, rfl, ?_, d1⟩
      simp only
      rw [Int.tmod_eq_emod_of_nonneg (by omega)]
      exact ⟨Int.emod_nonneg _ (by omega), Or.inl (Int.emod_lt_of_pos _ (by omega))⟩
    · rw [if_neg hm, Option.bind_some]
      obtain ⟨b2, i2, h2, e2, r2, d2⟩ := drawByte l hn i1 h1 d1
      rw [e2, Option.bind_some]
      obtain ⟨b3, i3, h3, e3, r3, d3⟩ := drawByte l hn i2 h2 d2
      rw [e3, Option.bind_some, if_neg (by omega)]
      refine ⟨_, _, _, rfl, ?_, d3⟩
      simp only
      rw [w64 (x := b1 * 65536) (by omega) (by omega), w64 (x := b2 * 256) (by omega) (by omega), w64 (x := b1 * 65536 + b2 * 256) (by omega) (by omega), w64 (by omega) (by omega), Int.tmod_eq_emod_of_nonneg (by omega)]
      exact ⟨Int.emod_nonneg _ (by omega), Or.inl (Int.emod_lt_of_pos _ (by omega))⟩

-- block drawPickInt
theorem drawPickInt (l : List Int) (hn : l.length ≤ 140737488355328) (i h : Int) (hi : dAt l i) (xs : List Int) (hx : 0 < xs.length) : ∃ b i' h', spec_l01PickInt.f l i h xs = some (b, i', h') ∧ b ∈ xs ∧ dAt l i' := by
  simp only [spec_l01PickInt.f]
  obtain ⟨b1, i1, h1, e1, r1, d1⟩ := drawBelow l hn i h hi (xs.length : Int)
  rw [e1, Option.bind_some, if_pos r1.1, if_pos (by simp only; omega)]
  refine ⟨_, _, _, rfl, ?_, d1⟩
  simp only
  rw [show b1 = ((b1.toNat : Nat) : Int) by omega]
  exact rd_mem (by omega)

-- block drawNew
theorem drawNew_l (l : List Int) (hn : l.length ≤ 140737488355328) : ∀ (d i : Nat) (h : Int), 4000 - i = d → ∃ h', Ev (fun k => spec_l01New.l0 k l h (i : Int)) (l, 0, h') := by
  intro d
  induction d with
  | zero =>
    intro i h hd
    refine ⟨h, ev_now fun k => ?_⟩
    simp only [spec_l01New.l0]
    split
    · rw [if_neg (by omega)]
    · rfl
  | succ d ih =>
    intro i h hd
    by_cases hl : (i : Int) < (l.length : Int)
    · obtain ⟨h', e⟩ := ih (i + 1) (Go.bits .and .i64 (wrap64 ((wrap64 ((wrap64 (h * 149)) + (wrap64 (rd l i)))) + 11)) 1073741823) (by omega)
      refine ⟨h', Ev.step (fun k => ?_) e⟩
      simp only [spec_l01New.l0]
      rw [if_pos hl, if_pos (by omega), if_pos (by omega), wsucc (by omega)]
    · refine ⟨h, ev_now fun k => ?_⟩
      simp only [spec_l01New.l0]
      rw [if_neg hl]
theorem drawNew (l : List Int) (hn : l.length ≤ 140737488355328) : ∃ h', Ev (fun k => spec_l01New.f k l) (l, 0, h') := by
  obtain ⟨h', e⟩ := drawNew_l l hn 4000 0 (wrap64 (710710 + (l.length : Int))) (by omega)
  exact ⟨h', Ev.congr (fun k => rfl) e⟩
theorem dAt0 (l : List Int) : dAt l 0 := by unfold dAt; omega

-- block lawsAt
theorem lawsAtB (l : List Int) (hb : isB l) (hn : l.length ≤ 1048576) (n : Nat) (h : n ≤ 1000) : ∃ v, laws_at.f l (n : Int) = some v ∧ 0 ≤ v ∧ v ≤ 255 := by
  simp only [laws_at.f]
  by_cases hl : (n : Int) < (l.length : Int)
  · have hc := isB_at hb (show n < l.length by omega)
    rw [if_pos hl, if_pos (by omega), rd_eq (by omega), w64 (by omega) (by omega)]
    exact ⟨_, rfl, hc⟩
  · rw [if_neg hl, w64 (x := (n : Int) * 13) (by omega) (by omega), w64 (x := (l.length : Int) * 5) (by omega) (by omega), w64 (by omega) (by omega), Int.tmod_eq_emod_of_nonneg (by omega)]
    exact ⟨_, rfl, by omega, by omega⟩
theorem lawsAt (l : List Int) (n : Nat) : ∃ v, laws_at.f l (n : Int) = some v := by
  simp only [laws_at.f]
  split
  · rw [if_pos (by omega)]; exact ⟨_, rfl⟩
  · exact ⟨_, rfl⟩

-- block drawBytes
theorem drawBytes_l (l : List Int) (hn : l.length ≤ 140737488355328) (m : Int) : ∀ (d n : Nat) (acc : List Int) (i h : Int), (m - n).toNat = d → n ≤ 1048576 → m ≤ 1048576 → acc.length ≤ n → isB acc → dAt l i →
    ∃ out i' h', Ev (fun k => spec_l01DrawBytes.l0 k m acc (n : Int) l i h) (out, i', h') ∧ isB out ∧ (out.length : Int) ≤ 1048576 ∧ dAt l i' := by
  intro d
  induction d with
  | zero =>
    intro n acc i h hd hn1 hm ha hb hi
    refine ⟨acc, i, h, ev_now fun k => ?_, hb, by omega, hi⟩
    simp only [spec_l01DrawBytes.l0]
    rw [if_neg (by omega)]
  | succ d ih =>
    intro n acc i h hd hn1 hm ha hb hi
    obtain ⟨b1, i1, h1, e1, r1, d1⟩ := drawBelow l hn i h hi 256
    obtain ⟨b2, i2, h2, e2, r2, d2⟩ := drawBelow l hn i1 h1 d1 256
    obtain ⟨b3, i3, h3, e3, r3, d3⟩ := drawPickInt l hn i2 h2 d2 [0, 1, 255, 128, b1, b2] (by simp)
    obtain ⟨out, i', h', e, hB, hl, hd'⟩ := ih (n + 1) (acc ++ [b3 % 256]) i3 h3 (by omega) (by omega) hm (by simp; omega) (isB_append hb (by intro y hy; simp at hy; omega)) d3
    refine ⟨out, i', h', Ev.step (fun k => ?_) e, hB, hl, hd'⟩
    simp only [spec_l01DrawBytes.l0]
    rw [if_pos (by omega)]
    simp only [e1, e2, e3, Option.bind_some]
    rw [if_pos (by omega), wsucc (by omega)]
theorem drawBytes (l : List Int) (hn : l.length ≤ 140737488355328) (m : Int) (hm : m ≤ 1048576) (i h : Int) (hi : dAt l i) :
    ∃ out i' h', Ev (fun k => spec_l01DrawBytes.f k l i h m) (out, i', h') ∧ isB out ∧ (out.length : Int) ≤ 1048576 ∧ dAt l i' := by
  obtain ⟨out, i', h', e, r⟩ := drawBytes_l l hn m _ 0 [] i h rfl (by omega) hm (by simp) (by intro y hy; simp at hy) hi
  exact ⟨out, i', h', Ev.congr (fun k => rfl) e, r⟩

-- block drawSize
theorem drawSize (l : List Int) (hn : l.length ≤ 140737488355328) (m : Int) : ∃ n, spec_l01Size.f l m = some n ∧ n ≤ m := by
  simp only [spec_l01Size.f]
  rw [w64 (x := (l.length : Int) / 16) (by omega) (by omega), w64 (by omega) (by omega)]
  split
  · exact ⟨_, rfl, by omega⟩
  · exact ⟨_, rfl, by omega⟩

-- block rdN
/-- The number that bytes tell, the greatest first. -/
def rdN (l : List Int) : Int → Int := fun a => l.foldl (fun x c => 256 * x + c) a
theorem rdN_range (l : List Int) (hb : isB l) : ∀ a : Int, 0 ≤ a → 0 ≤ rdN l a ∧ rdN l a < (a + 1) * 256 ^ l.length := by
  induction l with
  | nil => intro a ha; unfold rdN; simp; omega
  | cons c l ih =>
    intro a ha
    have hc := hb c (List.mem_cons_self ..)
    have h := ih (fun x hx => hb x (List.mem_cons_of_mem _ hx)) (256 * a + c) (by omega)
    have e : rdN (c :: l) a = rdN l (256 * a + c) := rfl
    rw [e]
    refine ⟨h.1, Int.lt_of_lt_of_le h.2 ?_⟩
    rw [List.length_cons, Int.pow_succ, Int.mul_comm (256 ^ l.length), ← Int.mul_assoc]
    exact Int.mul_le_mul_of_nonneg_right (by omega) (Int.pow_nonneg (by omega))
theorem rdN_at {l : List Int} {i : Nat} (h : i < l.length) (a : Int) : rdN (l.drop i) a = rdN (l.drop (i + 1)) (256 * a + l[i]) := by
  rw [List.drop_eq_getElem_cons h]; rfl
theorem rdN_nil (a : Int) : rdN [] a = a := rfl

-- block iRead
theorem iRead_l (l : List Int) (hl : l.length ≤ 4) (hb : isB l) : ∀ (d i : Nat) (a : Int), l.length - i = d → 0 ≤ a → a < 256 ^ i → Ev (fun k => impl_numberIn.l0 k a l (l.length : Int) (i : Int)) (rdN (l.drop i) a) := by
  intro d
  induction d with
  | zero =>
    intro i a h h1 h2
    refine ev_now fun k => ?_
    simp only [impl_numberIn.l0]
    rw [if_neg (by omega), List.drop_eq_nil_of_le (by omega), rdN_nil]
  | succ d ih =>
    intro i a h h1 h2
    have hc := isB_at hb (show i < l.length by omega)
    have h3 : (256 : Int) ^ i ≤ 16777216 := p256 (by omega)
    rw [rdN_at (by omega)]
    refine Ev.step (fun k => ?_) (ih (i + 1) _ (by omega) (by omega) (by rw [Int.pow_succ]; omega))
    simp only [impl_numberIn.l0]
    rw [if_pos (by omega), if_pos (by omega), if_pos (by omega), rd_eq (by omega), w64 (x := l[i]) (by omega) (by omega), w64 (x := a * 256) (by omega) (by omega), wsucc (by omega)]
    have e := bits_join8 a.toNat l[i].toNat (by omega) (by omega)
    rw [show ((a.toNat * 256 : Nat) : Int) = a * 256 by omega, show ((l[i].toNat : Nat) : Int) = l[i] by omega] at e
    rw [e, show ((256 * a.toNat + l[i].toNat : Nat) : Int) = 256 * a + l[i] by omega]
theorem iRead_ev (l : List Int) (hl : l.length ≤ 4) (hb : isB l) : Ev (fun k => impl_numberIn.f k l) (rdN l 0) :=
  Ev.congr (fun k => rfl) (iRead_l l hl hb l.length 0 0 (by omega) (by omega) (by decide))

-- block sBytes
theorem sBytes_l (l : List Int) (hn : l.length < 140737488355328) : ∀ (d i : Nat), l.length - i = d → i ≤ l.length →
    Ev (fun k => spec_l01Bytes.l0 k l (l.take i) (i : Int)) l := by
  intro d
  induction d with
  | zero =>
    intro i h hi
    refine ev_now fun k => ?_
    simp only [spec_l01Bytes.l0]
    rw [if_neg (by omega), List.take_of_length_le (by omega)]
  | succ d ih =>
    intro i h hi
    refine Ev.step (fun k => ?_) (ih (i + 1) (by omega) (by omega))
    simp only [spec_l01Bytes.l0]
    rw [if_pos (by omega), if_pos (by omega), if_pos (by simp; omega), wsucc (by omega), rd_eq (by omega), List.take_append_getElem (by omega)]
theorem sBytes_ev (l : List Int) (hn : l.length < 140737488355328) : Ev (fun k => spec_l01Bytes.f k l) l :=
  Ev.congr (fun k => rfl) (sBytes_l l hn l.length 0 (by omega) (by omega))

-- block be4
def be4 (c : Int) : List Int := [c / 16777216 % 256, c / 65536 % 256, c / 256 % 256, c % 256]

-- block iWide
theorem iWide_ev (c : Int) (h0 : 0 ≤ c) (h1 : c ≤ 4294967295) : Ev (fun k => impl_bigEndian.f k c 4) (be4 c) := by
  have v3 : wrap64 (4 - 1) = 3 := by decide +kernel
  have v2 : wrap64 (3 - 1) = 2 := by decide +kernel
  have v1 : wrap64 (2 - 1) = 1 := by decide +kernel
  have v0 : wrap64 (1 - 1) = 0 := by decide +kernel
  have vn : wrap64 (0 - 1) = -1 := by decide +kernel
  have t4 : ((4 : Int)).toNat = 4 := rfl
  have t3 : ((3 : Int)).toNat = 3 := rfl
  have t2 : ((2 : Int)).toNat = 2 := rfl
  have t1 : ((1 : Int)).toNat = 1 := rfl
  have t0 : ((0 : Int)).toNat = 0 := rfl
  have r : List.replicate 4 (0 : Int) = [0, 0, 0, 0] := rfl
  refine ⟨6, fun k hk => ?_⟩
  obtain ⟨j, rfl⟩ : ∃ j, k = j + 1 + 1 + 1 + 1 + 1 := ⟨k - 5, by omega⟩
  simp only [impl_bigEndian.f, impl_bigEndian.l0, v3, v2, v1, v0, vn, t4, t3, t2, t1, t0, r, List.set_cons_zero, List.set_cons_succ, List.length_cons, List.length_nil]
  rw [if_pos (by omega), if_pos (by omega), if_pos (by omega), if_pos (by omega), if_pos (by omega), if_pos (by omega), if_pos (by omega), if_pos (by omega), if_pos (by omega), if_pos (by omega), if_pos (by omega), if_pos (by omega), if_pos (by omega), if_pos (by omega), if_neg (by omega)]
  unfold be4
  rw [show c / 256 / 256 / 256 % 256 = c / 16777216 % 256 by omega, show c / 256 / 256 % 256 = c / 65536 % 256 by omega]

-- block decF
/-- A frame's answer, as the five values that are told. -/
abbrev FrT := Int × Int × List Int × Int × Int
def frMore : FrT := (0, 0, [], 0, 1)
def frBad : FrT := (0, 0, [], 0, 2)
def frDone (l : List Int) (n : Nat) : FrT := (rd l 2, rdN ((l.take 7).drop 3) 0, (l.take (9 + n)).drop 9, ((13 + n : Nat) : Int), 0)
def cmpR (l : List Int) (n : Nat) : List Int → List Int → FrT
  | _, [] => frDone l n
  | [], _ :: _ => frMore
  | a :: t, b :: s => if a = b then cmpR l n t s else frBad
def frN (l : List Int) : Int := rdN ((l.take 9).drop 7) 0
def hAt (l : List Int) (i : Nat) : Prop := (i = 0 → rd l 0 = 199) ∧ (i = 1 → rd l 1 = 77) ∧ (i = 2 → rd l 2 ≤ 99) ∧ (i = 3 → rd l 3 ≤ 127) ∧ (i = 7 → rd l 7 ≤ 19) ∧ (i = 8 → frN l ≤ 5000)
instance hAt_dec (l : List Int) (i : Nat) : Decidable (hAt l i) := by unfold hAt; infer_instance
def headB (l : List Int) : Bool := allF (min 9 l.length) 0 (fun j => decide (hAt l j))
def frSum (l : List Int) : List Int := be4 (cks ((l.take (9 + (frN l).toNat)).drop 2) 1 0)
def decF (l : List Int) : FrT := if headB l = true then (if l.length < 9 then frMore else if (l.length : Int) < 9 + frN l then frMore else cmpR l (frN l).toNat (l.drop (9 + (frN l).toNat)) (frSum l)) else frBad
theorem head_iff (l : List Int) : headB l = true ↔ (0 < l.length → rd l 0 = 199) ∧ (1 < l.length → rd l 1 = 77) ∧ (2 < l.length → rd l 2 ≤ 99) ∧ (3 < l.length → rd l 3 ≤ 127) ∧ (7 < l.length → rd l 7 ≤ 19) ∧ (8 < l.length → frN l ≤ 5000) := by
  unfold headB
  rw [allF_iff]
  constructor
  · intro h
    have g : ∀ j, j < 9 → j < l.length → hAt l j := fun j h1 h2 => of_decide_eq_true (h j (by omega) (by omega))
    exact ⟨fun q => (g 0 (by omega) q).1 rfl, fun q => (g 1 (by omega) q).2.1 rfl, fun q => (g 2 (by omega) q).2.2.1 rfl, fun q => (g 3 (by omega) q).2.2.2.1 rfl, fun q => (g 7 (by omega) q).2.2.2.2.1 rfl, fun q => (g 8 (by omega) q).2.2.2.2.2 rfl⟩
  · rintro ⟨g0, g1, g2, g3, g7, g8⟩ j h1 h2
    apply decide_eq_true
    exact ⟨fun e => g0 (by omega), fun e => g1 (by omega), fun e => g2 (by omega), fun e => g3 (by omega), fun e => g7 (by omega), fun e => g8 (by omega)⟩
theorem rd_B {l : List Int} (hb : isB l) (i : Nat) : 0 ≤ rd l (i : Int) ∧ rd l (i : Int) ≤ 255 := by
  by_cases h : i < l.length
  · exact hb _ (rd_mem h)
  · rw [show rd l (i : Int) = 0 by simp [rd, List.getD_eq_getElem?_getD, List.getElem?_eq_none (by omega : l.length ≤ i)]]; omega
theorem frN_range {l : List Int} (hb : isB l) : 0 ≤ frN l ∧ frN l ≤ 65535 := by
  have h := rdN_range ((l.take 9).drop 7) (isB_drop (isB_take hb _) _) 0 (by omega)
  have h2 : ((l.take 9).drop 7).length ≤ 2 := by simp; omega
  have h3 : (256 : Int) ^ ((l.take 9).drop 7).length ≤ 65536 := p256b h2
  unfold frN
  omega
theorem frSum_range {l : List Int} (hb : isB l) : 0 ≤ cks ((l.take (9 + (frN l).toNat)).drop 2) 1 0 ∧ cks ((l.take (9 + (frN l).toNat)).drop 2) 1 0 ≤ 4294967295 := by
  have := cks_range ((l.take (9 + (frN l).toNat)).drop 2) 1 0 (by omega) (by omega) (by omega) (by omega)
  omega

-- block iDec
theorem iDec_l (l : List Int) (hn : l.length ≤ 140737488355327) (hb : isB l) (n : Nat) (hn5 : n ≤ 65535) (hl : 9 + n ≤ l.length) (s : List Int) (hs : s.length = 4) : ∀ (d i : Nat), 4 - i = d → i ≤ 4 → 9 + n + i ≤ l.length →
    Ev (fun k => impl_decodeFrame.l0 k l (l.length : Int) (n : Int) s (s.length : Int) (i : Int)) (cmpR l n (l.drop (9 + n + i)) (s.drop i)) := by
  intro d
  induction d with
  | zero =>
    intro i h hi hli
    obtain ⟨K, h1⟩ := evs1 (iRead_ev ((l.take 7).drop 3) (by simp; omega) (isB_drop (isB_take hb _) _))
    have hc := rd_B hb 2
    simp only [show ((2 : Nat) : Int) = 2 from rfl] at hc
    have hw : wrap64 (9 + (n : Int)) = ((9 + n : Nat) : Int) := by rw [w64 (by omega) (by omega)]; omega
    refine ⟨K + 1, fun k hk => ?_⟩
    obtain ⟨j, rfl⟩ : ∃ j, k = K + j + 1 := ⟨k - K - 1, by omega⟩
    simp only [impl_decodeFrame.l0, hw, Int.toNat_natCast, h1, Option.bind_some]
    rw [if_neg (by omega), if_pos (by omega), if_pos (by omega), if_pos (by omega), if_pos (by omega), if_pos (by omega), if_pos (by simp; omega), (List.drop_eq_nil_of_le (by omega) : s.drop i = []), w64 (x := rd l 2) (by omega) (by omega), w64 (x := 13 + (n : Int)) (by omega) (by omega)]
    have e : cmpR l n (l.drop (9 + n + i)) [] = frDone l n := by unfold cmpR; rfl
    rw [e, frDone, show 13 + (n : Int) = ((13 + n : Nat) : Int) by omega]
    rfl
  | succ d ih =>
    intro i h hi hli
    have hw : wrap64 (9 + (n : Int)) = ((9 + n : Nat) : Int) := by rw [w64 (by omega) (by omega)]; omega
    have h1 : wrap64 (((9 + n : Nat) : Int) + (i : Int)) = ((9 + n + i : Nat) : Int) := by rw [w64 (by omega) (by omega)]; omega
    rw [List.drop_eq_getElem_cons (show i < s.length by omega)]
    by_cases hend : 9 + n + i = l.length
    · rw [List.drop_eq_nil_of_le (by omega)]
      refine ev_now fun k => ?_
      simp only [impl_decodeFrame.l0, hw, h1]
      rw [if_pos (by omega), if_pos (by omega), if_pos (by omega), if_pos (by omega)]
      rfl
    · rw [List.drop_eq_getElem_cons (show 9 + n + i < l.length by omega)]
      by_cases hq : l[9 + n + i] = s[i]
      · have e : cmpR l n (l[9 + n + i] :: l.drop (9 + n + i + 1)) (s[i] :: s.drop (i + 1)) = cmpR l n (l.drop (9 + n + (i + 1))) (s.drop (i + 1)) := by
          rw [cmpR, if_pos hq]; rfl
        rw [e]
        refine Ev.step (fun k => ?_) (ih (i + 1) (by omega) (by omega) (by omega))
        simp only [impl_decodeFrame.l0, hw, h1]
        rw [if_pos (by omega), if_pos (by omega), if_pos (by omega), if_neg (by omega), if_pos (by omega), if_pos (by omega), rd_eq (by omega), rd_eq (by omega), if_pos hq, wsucc (by omega)]
      · have e : cmpR l n (l[9 + n + i] :: l.drop (9 + n + i + 1)) (s[i] :: s.drop (i + 1)) = frBad := by
          rw [cmpR, if_neg hq]
        rw [e]
        refine ev_now fun k => ?_
        simp only [impl_decodeFrame.l0, hw, h1]
        rw [if_pos (by omega), if_pos (by omega), if_pos (by omega), if_neg (by omega), if_pos (by omega), if_pos (by omega), rd_eq (by omega), rd_eq (by omega), if_neg hq]
        rfl
/-- The head's bytes but the last are as they must be. -/
def head7 (l : List Int) : Prop := (0 < l.length → rd l 0 = 199) ∧ (1 < l.length → rd l 1 = 77) ∧ (2 < l.length → rd l 2 ≤ 99) ∧ (3 < l.length → rd l 3 ≤ 127) ∧ (7 < l.length → rd l 7 ≤ 19)
instance head7_dec (l : List Int) : Decidable (head7 l) := by unfold head7; infer_instance
theorem head7_iff (l : List Int) : headB l = true ↔ head7 l ∧ (8 < l.length → frN l ≤ 5000) := by
  rw [head_iff]; unfold head7
  constructor
  · rintro ⟨a, b, c, d, e, f⟩; exact ⟨⟨a, b, c, d, e⟩, f⟩
  · rintro ⟨⟨a, b, c, d, e⟩, f⟩; exact ⟨a, b, c, d, e, f⟩
theorem iDec_head (l : List Int) (hb : isB l) (r : FrT) (hr : Ev (fun k => impl_decodeFrame.j3 k l (l.length : Int) (decide (¬ head7 l))) r) : Ev (fun k => impl_decodeFrame.f k l) r := by
  have c7 := rd_B hb 7
  simp only [show ((7 : Nat) : Int) = 7 from rfl] at c7
  have w7 : wrap64 (rd l 7) = rd l 7 := w64 (by omega) (by omega)
  by_cases b0 : 0 < l.length ∧ rd l 0 ≠ 199
  · have q : ¬ head7 l := fun x => b0.2 (x.1 b0.1)
    rw [decide_eq_true q] at hr
    refine Ev.congr (fun k => ?_) (Ev.step (g := fun k => impl_decodeFrame.j0 k l (l.length : Int) true) (fun k => ?_) hr)
    · simp only [impl_decodeFrame.f]
      rw [if_pos (by omega), if_pos (by omega), bne_iff_ne.2 b0.2]
    · simp only [impl_decodeFrame.j0, if_true]
  · have e0 : ∀ k, impl_decodeFrame.f k l = impl_decodeFrame.j0 k l (l.length : Int) false := by
      intro k
      simp only [impl_decodeFrame.f]
      split
      · rw [show (rd l 0 != 199) = false by simp only [bne_eq_false_iff_eq]; exact Classical.byContradiction fun x => b0 ⟨by omega, x⟩]
      · rfl
    refine Ev.congr e0 ?_
    by_cases b1 : 1 < l.length ∧ rd l 1 ≠ 77
    · have q : ¬ head7 l := fun x => b1.2 (x.2.1 b1.1)
      rw [decide_eq_true q] at hr
      refine Ev.step (f := fun k => impl_decodeFrame.j1 k l (l.length : Int) true) (fun k => ?_) (Ev.step (fun k => ?_) hr)
      · simp only [impl_decodeFrame.j0]
        rw [if_neg (by decide), if_pos (by omega), if_pos (by omega), bne_iff_ne.2 b1.2]
      · simp only [impl_decodeFrame.j1, if_true]
    · refine Ev.step (f := fun k => impl_decodeFrame.j1 k l (l.length : Int) false) (fun k => ?_) ?_
      · simp only [impl_decodeFrame.j0]
        rw [if_neg (by decide)]
        split
        · rw [show (rd l 1 != 77) = false by simp only [bne_eq_false_iff_eq]; exact Classical.byContradiction fun x => b1 ⟨by omega, x⟩]
        · rfl
      by_cases b2 : 2 < l.length ∧ rd l 2 > 99
      · have q : ¬ head7 l := fun x => by have := x.2.2.1 b2.1; omega
        rw [decide_eq_true q] at hr
        refine Ev.step (f := fun k => impl_decodeFrame.j2 k l (l.length : Int) true) (fun k => ?_) (Ev.step (fun k => ?_) hr)
        · simp only [impl_decodeFrame.j1]
          rw [if_neg (by decide), if_pos (by omega), if_pos (by omega), decide_eq_true b2.2]
        · simp only [impl_decodeFrame.j2, if_true]
      · refine Ev.step (f := fun k => impl_decodeFrame.j2 k l (l.length : Int) false) (fun k => ?_) ?_
        · simp only [impl_decodeFrame.j1]
          rw [if_neg (by decide)]
          split
          · rw [decide_eq_false (by omega)]
          · rfl
        · refine Ev.step (fun k => ?_) hr
          have hq : (¬ head7 l) = ((3 < l.length ∧ rd l 3 > 127) ∨ (7 < l.length ∧ rd l 7 > 19)) := by
            apply propext
            unfold head7
            constructor
            · intro x
              exact Classical.byContradiction fun y => x ⟨by omega, by omega, by omega, by omega, by omega⟩
            · rintro x ⟨_, _, _, x3, x7⟩
              omega
          simp only [hq, impl_decodeFrame.j2, w7]
          rw [if_neg (by decide)]
          by_cases q3 : 3 < l.length
          · rw [if_pos (by omega), if_pos (by omega)]
            by_cases q4 : rd l 3 > 127
            · rw [if_pos q4, decide_eq_true q4, decide_eq_true (by omega)]
            · rw [if_neg q4]
              by_cases q7 : 7 < l.length
              · rw [if_pos (by omega), if_pos (by omega)]
                by_cases q8 : rd l 7 > 19
                · rw [decide_eq_true q8, decide_eq_true (by omega)]
                · rw [decide_eq_false q8, decide_eq_false (by omega)]
              · rw [if_neg (by omega), decide_eq_false (by omega)]
          · rw [if_neg (by omega), if_neg (by omega), decide_eq_false (by omega)]
theorem iDec_ev (l : List Int) (hn : l.length ≤ 140737488355327) (hb : isB l) : Ev (fun k => impl_decodeFrame.f k l) (decF l) := by
  refine iDec_head l hb _ ?_
  have hr := frN_range hb
  obtain ⟨N, hN⟩ : ∃ N : Nat, frN l = (N : Int) := ⟨(frN l).toNat, by omega⟩
  obtain ⟨F, hF⟩ : ∃ F : Int, rdN ((l.take 9).drop 7) 0 = F := ⟨_, rfl⟩
  have hFN : F = (N : Int) := by rw [← hF]; exact hN
  have hh := head7_iff l
  unfold decF
  by_cases h7 : head7 l
  · rw [decide_eq_false (by simp only [h7, not_true, not_false_iff])]
    by_cases h9 : l.length < 9
    · rw [if_pos (hh.2 ⟨h7, by omega⟩), if_pos h9]
      refine ev_now fun k => ?_
      simp only [impl_decodeFrame.j3]
      rw [if_neg (by decide), if_pos (by omega)]; rfl
    · have hE := iRead_ev ((l.take 9).drop 7) (by simp; omega) (isB_drop (isB_take hb _) _)
      rw [hF] at hE
      obtain ⟨K, h2⟩ := evs1 hE
      by_cases h5 : frN l ≤ 5000
      · rw [if_pos (hh.2 ⟨h7, fun _ => h5⟩), if_neg h9]
        have hw : wrap64 (9 + F) = ((9 + N : Nat) : Int) := by rw [w64 (by omega) (by omega)]; omega
        by_cases hlt : (l.length : Int) < 9 + frN l
        · rw [if_pos hlt]
          refine ⟨K + 1, fun k hk => ?_⟩
          obtain ⟨j, rfl⟩ : ∃ j, k = K + j + 1 := ⟨k - K - 1, by omega⟩
          simp only [impl_decodeFrame.j3, h2, hw, Option.bind_some]
          rw [if_neg (by decide), if_neg (by omega), if_pos (by omega), if_pos (by omega), if_neg (by omega), if_pos (by omega)]; rfl
        · rw [if_neg hlt, hN, Int.toNat_natCast]
          have hsr := frSum_range hb
          have hS : frSum l = be4 (cks ((l.take (9 + N)).drop 2) 1 0) := by unfold frSum; rw [hN, Int.toNat_natCast]
          rw [hN, Int.toNat_natCast] at hsr
          obtain ⟨M, g1, g2, g3⟩ := evs3 (iCks_ev ((l.take (9 + N)).drop 2) (by simp; omega) (isB_drop (isB_take hb _) _)) (iWide_ev _ hsr.1 hsr.2) (iDec_l l hn hb N (by omega) (by omega) (be4 (cks ((l.take (9 + N)).drop 2) 1 0)) (by simp [be4]) 4 0 (by omega) (by omega) (by omega))
          rw [hS]
          refine ⟨K + M + 1, fun k hk => ?_⟩
          obtain ⟨k, rfl⟩ : ∃ j, k = j + 1 := ⟨k - 1, by omega⟩
          have h2 := h2 (k - K)
          have g1 := g1 (k - M)
          have g2 := g2 (k - M)
          have g3 := g3 (k - M)
          rw [show K + (k - K) = k by omega] at h2
          rw [show M + (k - M) = k by omega] at g1 g2 g3
          rw [List.drop_zero, Nat.add_zero, show ((0 : Nat) : Int) = 0 from rfl] at g3
          simp only [impl_decodeFrame.j3, h2, hw, g1, g2, Int.toNat_natCast, Option.bind_some]
          rw [if_neg (by decide), if_neg (by omega), if_pos (by omega), if_pos (by omega), if_neg (by omega), if_neg (by omega), if_pos (by omega), if_pos (by omega), hFN]
          exact g3
      · rw [if_neg (fun x => h5 ((hh.1 x).2 (by omega)))]
        refine ⟨K + 1, fun k hk => ?_⟩
        obtain ⟨j, rfl⟩ : ∃ j, k = K + j + 1 := ⟨k - K - 1, by omega⟩
        simp only [impl_decodeFrame.j3, h2, Option.bind_some]
        rw [if_neg (by decide), if_neg (by omega), if_pos (by omega), if_pos (by omega), if_pos (by omega)]; rfl
  · rw [if_neg (fun x => h7 (hh.1 x).1), decide_eq_true h7]
    refine ev_now fun k => ?_
    simp only [impl_decodeFrame.j3, if_true]
    rfl

-- block streamOk
def streamOk (l : List Int) (a : Int) : Prop := 0 ≤ a ∧ a ≤ 2147483647 ∧ (decF l).2.2.2.2 = 1
instance streamOk_dec (l : List Int) (a : Int) : Decidable (streamOk l a) := by unfold streamOk; infer_instance

-- block iStream
theorem iStream_ev (l : List Int) (a : Int) (hn : l.length ≤ 140737488355327) (hb : isB l) : Ev (fun k => impl_isStream.f k l a) (decide (streamOk l a)) := by
  obtain ⟨K, h⟩ := iDec_ev l hn hb
  refine ⟨K, fun k hk => ?_⟩
  simp only [impl_isStream.f, h k hk, Option.bind_some]
  by_cases q2 : (decF l).2.2.2.2 = 1
  · rw [if_pos q2]
    by_cases q : a ≥ 0
    · rw [if_pos q]
      exact congrArg some (decide_eq_decide.2 ⟨fun x => ⟨q, x, q2⟩, fun x => x.2.1⟩)
    · rw [if_neg q, decide_eq_false (show ¬ streamOk l a from fun x => q x.1)]
  · rw [if_neg q2, decide_eq_false (show ¬ streamOk l a from fun x => q2 x.2.2)]

-- block sElem
theorem sElem_l (p : Int) (hp : 2 ≤ p) (hp2 : p ≤ 2147483648) (l : List Int) (hn : l.length ≤ 1048576) : ∀ (d i : Nat), l.length - i = d → i ≤ l.length → Ev (fun k => spec_l03Elements.l0 k l p (i : Int)) (allF d i (fun j => decide (0 ≤ rd l (j : Int) ∧ rd l (j : Int) < p))) := by
  intro d
  induction d with
  | zero =>
    intro i h hi
    refine ev_now fun k => ?_
    simp only [spec_l03Elements.l0]
    rw [if_neg (by omega)]; rfl
  | succ d ih =>
    intro i h hi
    rw [allF]
    have hw : wrap64 (p - 1) = p - 1 := w64 (by omega) (by omega)
    by_cases hq : 0 ≤ rd l (i : Int) ∧ rd l (i : Int) < p
    · rw [decide_eq_true hq, Bool.true_and]
      refine Ev.step (fun k => ?_) (ih (i + 1) (by omega) (by omega))
      simp only [spec_l03Elements.l0, in_eq, hw, Option.bind_some, decide_eq_true_eq]
      rw [if_pos (by omega), if_pos (by omega), if_pos (by omega), wsucc (by omega)]
    · rw [decide_eq_false hq, Bool.false_and]
      refine ev_now fun k => ?_
      simp only [spec_l03Elements.l0, in_eq, hw, Option.bind_some, decide_eq_true_eq]
      rw [if_pos (by omega), if_pos (by omega), if_neg (by omega)]
theorem sElem_ev {f : Int} (h : fldOk f) (l : List Int) (hn : l.length ≤ 1048576) : Ev (fun k => spec_l03Elements.f k f l) (elemB (md f) l) := by
  have hm := md_pos h
  refine Ev.congr (fun k => ?_) (sElem_l (md f) (by omega) (by omega) l hn l.length 0 (by omega) (by omega))
  simp only [spec_l03Elements.f, sMod, Option.bind_some]
  rw [if_neg (by omega)]
  rfl

-- block sAdd
theorem sAdd (f a b : Int) : spec_Add.f f a b = some (if fldOk f then (a + b) % md f else -1) := by
  simp only [spec_Add.f, sMod, sReduce, Option.bind_some, md_zero]
  by_cases h : fldOk f
  · have hm := md_pos h
    have ha := md_range h a
    have hb := md_range h b
    rw [if_neg (fun hh => hh h), if_pos h, if_pos h, if_pos h, if_pos h, w64 (by omega) (by omega)]
    exact congrArg some (Md.emod (Md.add (Md.mod _ _) (Md.mod _ _)))
  · rw [if_pos h, if_neg h]

-- block sCopy
theorem sCopy_l (l : List Int) (hn : l.length < 17592186044416) : ∀ (d i : Nat), l.length - i = d → i ≤ l.length →
    Ev (fun k => spec_l01Copy.l0 k l (l.take i) (i : Int)) l := by
  intro d
  induction d with
  | zero =>
    intro i h hi
    refine ev_now fun k => ?_
    simp only [spec_l01Copy.l0]
    rw [if_neg (by omega), List.take_of_length_le (by omega)]
  | succ d ih =>
    intro i h hi
    refine Ev.step (fun k => ?_) (ih (i + 1) (by omega) (by omega))
    simp only [spec_l01Copy.l0]
    rw [if_pos (by omega), if_pos (by omega), if_pos (by simp; omega), wsucc (by omega), rd_eq (by omega), List.take_append_getElem (by omega)]
theorem sCopy_ev (l : List Int) (hn : l.length < 17592186044416) : Ev (fun k => spec_l01Copy.f k l) l :=
  Ev.congr (fun k => rfl) (sCopy_l l hn l.length 0 (by omega) (by omega))

-- block be2
def be2 (c : Int) : List Int := [c / 256 % 256, c % 256]

-- block iWide2
theorem iWide2_ev (c : Int) (h0 : 0 ≤ c) (h1 : c ≤ 4294967295) : Ev (fun k => impl_bigEndian.f k c 2) (be2 c) := by
  have v1 : wrap64 (2 - 1) = 1 := by decide +kernel
  have v0 : wrap64 (1 - 1) = 0 := by decide +kernel
  have vn : wrap64 (0 - 1) = -1 := by decide +kernel
  have t2 : ((2 : Int)).toNat = 2 := rfl
  have t1 : ((1 : Int)).toNat = 1 := rfl
  have t0 : ((0 : Int)).toNat = 0 := rfl
  have r : List.replicate 2 (0 : Int) = [0, 0] := rfl
  refine ⟨6, fun k hk => ?_⟩
  obtain ⟨j, rfl⟩ : ∃ j, k = j + 1 + 1 + 1 := ⟨k - 3, by omega⟩
  simp only [impl_bigEndian.f, impl_bigEndian.l0, v1, v0, vn, t2, t1, t0, r, List.set_cons_zero, List.set_cons_succ, List.length_cons, List.length_nil]
  rw [if_pos (by omega), if_pos (by omega), if_pos (by omega), if_pos (by omega), if_pos (by omega), if_pos (by omega), if_pos (by omega), if_pos (by omega), if_neg (by omega)]
  rfl

-- block sJoinB
theorem sJoinB_l (b : List Int) (a : List Int) (hn : a.length + b.length < 140737488355328) : ∀ (d i : Nat), b.length - i = d → i ≤ b.length → Ev (fun k => spec_l01Join.l0 k b (a ++ b.take i) (i : Int)) (a ++ b) := by
  intro d
  induction d with
  | zero =>
    intro i h hi
    refine ev_now fun k => ?_
    simp only [spec_l01Join.l0]
    rw [if_neg (by omega), List.take_of_length_le (by omega)]
  | succ d ih =>
    intro i h hi
    have key := ih (i + 1) (by omega) (by omega)
    refine Ev.step (fun k => ?_) key
    simp only [spec_l01Join.l0]
    rw [if_pos (by omega), if_pos (by omega), if_pos (by simp; omega), wsucc (by omega), rd_eq (by omega), List.append_assoc, List.take_append_getElem (by omega)]
theorem sJoinB_ev (a b : List Int) (hn : a.length + b.length < 140737488355328) : Ev (fun k => spec_l01Join.f k a b) (a ++ b) := by
  have key := sJoinB_l b a hn b.length 0 (by omega) (by omega)
  rw [List.take_zero, List.append_nil] at key
  obtain ⟨n, e1, e2⟩ := evs2 (sBytes_ev a (by omega)) key
  refine ⟨n, fun k hk => ?_⟩
  obtain ⟨j, rfl⟩ : ∃ j, k = n + j := ⟨k - n, by omega⟩
  simp only [spec_l01Join.f, e1 j, Option.bind_some]
  exact e2 j

-- block encP
/-- What lies between a frame's mark and its sum. -/
def encMid (a b : Int) (l : List Int) : List Int := (([a % 256] ++ be4 b) ++ be2 (l.length : Int)) ++ l
def encB (a b : Int) (l : List Int) : List Int := if frOk a b l then ([199, 77] ++ encMid a b l) ++ be4 (cks (encMid a b l) 1 0) else []
theorem encMid_len (a b : Int) (l : List Int) : (encMid a b l).length = l.length + 7 := by simp [encMid, be4, be2]
theorem encB_len (a b : Int) (l : List Int) : (encB a b l).length ≤ 5013 := by
  unfold encB
  split
  · rename_i h
    have := h.2.2.2.2
    rw [List.length_append, List.length_append, encMid_len]
    simp [be4]; omega
  · simp
theorem be_isB4 (c : Int) : isB (be4 c) := by
  intro x hx
  simp [be4] at hx
  omega
theorem be_isB2 (c : Int) : isB (be2 c) := by
  intro x hx
  simp [be2] at hx
  omega
theorem encMid_isB (a b : Int) (l : List Int) (hl : isB l) : isB (encMid a b l) := by
  refine isB_append (isB_append (isB_append (fun x hx => ?_) (be_isB4 b)) (be_isB2 _)) hl
  simp at hx
  omega

-- block iEncF
theorem iEnc_ev (a b : Int) (l : List Int) (hb : isB l) (h : frOk a b l) : Ev (fun k => impl_encodeFrame.f k a b l) (([199, 77] ++ encMid a b l) ++ be4 (cks (encMid a b l) 1 0)) := by
  have hl := h.2.2.2.2
  have hmid := encMid_len a b l
  have hc := cks_range (encMid a b l) 1 0 (by omega) (by omega) (by omega) (by omega)
  have h4 : ∀ c : Int, (be4 c).length = 4 := fun c => rfl
  have h2 : ∀ c : Int, (be2 c).length = 2 := fun c => rfl
  obtain ⟨n, e1, e2, e3, e4⟩ := evs4 (iWide_ev b h.2.2.1 (by have := h.2.2.2.1; omega)) (iWide2_ev (l.length : Int) (by omega) (by omega)) (iCks_ev (encMid a b l) (by omega) (encMid_isB a b l hb)) (iWide_ev (cks (encMid a b l) 1 0) hc.1 (by omega))
  refine ⟨n, fun k hk => ?_⟩
  obtain ⟨j, rfl⟩ : ∃ j, k = n + j := ⟨k - n, by omega⟩
  have ey : (([199, 77, a % 256] ++ be4 b) ++ be2 (l.length : Int)) ++ l = [199, 77] ++ encMid a b l := by simp [encMid]
  have ed : ([199, 77] ++ encMid a b l).drop 2 = encMid a b l := rfl
  have c1 : ([199, 77, a % 256] : List Int).length + (be4 b).length < 140737488355328 := by simp [be4]
  have c2 : ([199, 77, a % 256] ++ be4 b).length + (be2 (l.length : Int)).length < 140737488355328 := by simp [be4, be2]
  have c3 : (([199, 77, a % 256] ++ be4 b) ++ be2 (l.length : Int)).length + l.length < 140737488355328 := by simp [be4, be2]; omega
  have c4 : (2 : Int) ≤ (([199, 77] ++ encMid a b l).length : Int) := by rw [List.length_append, hmid]; simp; omega
  have c5 : ([199, 77] ++ encMid a b l).length + (be4 (cks (encMid a b l) 1 0)).length < 140737488355328 := by rw [List.length_append, hmid, h4]; simp; omega
  simp only [impl_encodeFrame.f, Option.bind_some, e1 j, e2 j, c1, c2, c3, if_true]
  simp only [ey, ed, c4, c5, e3 j, e4 j, Option.bind_some, if_true]
theorem iEncF_ev (a b : Int) (l : List Int) (hb : isB l) : Ev (fun k => impl_EncodeFrame.f k a b l) (encB a b l) := by
  unfold encB
  by_cases h : frOk a b l
  · obtain ⟨n, e1⟩ := evs1 (iEnc_ev a b l hb h)
    refine ⟨n, fun k hk => ?_⟩
    obtain ⟨j, rfl⟩ : ∃ j, k = n + j := ⟨k - n, by omega⟩
    rw [if_pos h]
    simp only [impl_EncodeFrame.f, iFrame, decide_eq_true h, e1 j, Option.bind_some, if_true]
  · rw [if_neg h]
    refine ev_some fun k => ?_
    simp only [impl_EncodeFrame.f, iFrame, decide_eq_false h, Option.bind_some, Bool.false_eq_true, if_false]

-- block fin
/-- What ends, with a result of which Q is so. -/
def Fin {α : Type} (g : Nat → Option α) (Q : α → Prop) : Prop := ∃ r, Ev g r ∧ Q r
theorem Fin.bind {α β : Type} {g : Nat → Option α} {f : Nat → α → Option β} {Q : α → Prop} {R : β → Prop} (h : Fin g Q) (k : ∀ r, Q r → Fin (fun n => f n r) R) : Fin (fun n => (g n).bind (f n)) R := by
  obtain ⟨r, e, q⟩ := h
  obtain ⟨s, e2, q2⟩ := k r q
  exact ⟨s, Ev.bind e e2, q2⟩
theorem Fin.step {α : Type} {g f : Nat → Option α} {Q : α → Prop} (h : ∀ k, g (k + 1) = f k) (k : Fin f Q) : Fin g Q := by
  obtain ⟨r, e, q⟩ := k
  exact ⟨r, Ev.step h e, q⟩
theorem Fin.now {α : Type} {Q : α → Prop} (x : α) (h : Q x) : Fin (fun _ => some x) Q := ⟨x, Ev.now x, h⟩
theorem Fin.of {α : Type} {g : Nat → Option α} {Q : α → Prop} {r : α} (h : Ev g r) (q : Q r) : Fin g Q := ⟨r, h, q⟩
theorem Fin.ite {α : Type} {c : Prop} [Decidable c] {g f : Nat → Option α} {Q : α → Prop} (h1 : c → Fin g Q) (h2 : ¬ c → Fin f Q) : Fin (fun n => if c then g n else f n) Q := by
  by_cases h : c
  · simp only [if_pos h]; exact h1 h
  · simp only [if_neg h]; exact h2 h
theorem Fin.mono {α : Type} {g : Nat → Option α} {Q R : α → Prop} (h : Fin g Q) (k : ∀ r, Q r → R r) : Fin g R := by
  obtain ⟨r, e, q⟩ := h
  exact ⟨r, e, k r q⟩
theorem Fin.yes {α : Type} {c : Prop} [Decidable c] {g f : Nat → Option α} {Q : α → Prop} (hc : c) (h1 : Fin g Q) : Fin (fun n => if c then g n else f n) Q := by simp only [if_pos hc]; exact h1
theorem Fin.no {α : Type} {c : Prop} [Decidable c] {g f : Nat → Option α} {Q : α → Prop} (hc : ¬ c) (h1 : Fin f Q) : Fin (fun n => if c then g n else f n) Q := by simp only [if_neg hc]; exact h1

-- block finCut
theorem fCut (v : List Int) (hv : v.length ≤ 1048576) : Fin (fun k => spec_l03Cut.f k v) (fun r => r.length ≤ v.length) := by
  have key : ∀ (d : Nat), d ≤ v.length → Fin (fun k => spec_l03Cut.l0 k v (d : Int)) (fun r => r.length ≤ v.length) := by
    intro d
    have hcp : ∀ d ≤ v.length, Fin (fun k => (spec_l01Copy.f k (v.take d)).bind fun t => some t) (fun r => r.length ≤ v.length) := fun d hd =>
      Fin.bind (Q := fun r => r = v.take d) ⟨_, sCopy_ev (v.take d) (by simp; omega), rfl⟩ fun r q => Fin.now r (by rw [q]; simp <;> omega)
    induction d with
    | zero =>
      intro hd
      refine Fin.step (fun k => ?_) (hcp 0 (by omega))
      simp only [spec_l03Cut.l0]
      rw [if_neg (by omega), if_pos (by omega), if_pos (by omega)]
      rfl
    | succ d ih =>
      intro hd
      obtain ⟨J, hJ⟩ : ∃ J : Int, J = ((d + 1 : Nat) : Int) := ⟨_, rfl⟩
      have hw : wrap64 (J - 1) = (d : Int) := by rw [hJ]; exact w64n (by omega) (by omega)
      rw [← hJ]
      by_cases h0 : rd v (d : Int) = 0
      · refine Fin.step (fun k => ?_) (ih (by omega))
        simp only [spec_l03Cut.l0]
        rw [if_pos (by omega), hw, if_pos (by omega), if_pos (by omega), if_pos h0]
      · refine Fin.step (fun k => ?_) (hcp (d + 1) (by omega))
        simp only [spec_l03Cut.l0]
        rw [if_pos (by omega), hw, if_pos (by omega), if_pos (by omega), if_neg h0, if_pos (by omega), if_pos (by omega), show (J : Int).toNat = d + 1 by omega]
  exact key v.length (Nat.le_refl _)

-- block finOk
theorem fElems (f : Int) (v : List Int) (hv : v.length ≤ 1048576) : Fin (fun k => spec_l03Elements.f k f v) (fun _ => True) := by
  by_cases h : fldOk f
  · exact ⟨_, sElem_ev h v hv, trivial⟩
  · simp only [spec_l03Elements.f, sMod, Option.bind_some]
    exact Fin.yes (by unfold md; rw [if_neg h]) (Fin.now _ trivial)
theorem fPoly (f : Int) (v : List Int) (hv : v.length ≤ 1048576) : Fin (fun k => spec_PolyOk.f k f v) (fun _ => True) := by
  simp only [spec_PolyOk.f]
  refine Fin.ite (fun _ => Fin.now _ trivial) fun c => Fin.bind (fElems f v hv) fun b _ => Fin.ite (fun _ => Fin.ite (fun _ => Fin.now _ trivial) fun c2 => ?_) fun _ => Fin.now _ trivial
  have hw : wrap64 ((v.length : Int) - 1) = ((v.length - 1 : Nat) : Int) := w64n (by omega) (by omega)
  simp only [hw]
  exact Fin.yes (by omega) (Fin.yes (by omega) (Fin.now _ trivial))
theorem fPtsOk (f : Int) (v : List Int) (hv : v.length ≤ 1048576) : Fin (fun k => spec_PointsOk.f k f v) (fun _ => True) := by
  have key : ∀ (d j : Nat), v.length - j = d → j ≤ v.length → Fin (fun k => spec_PointsOk.l0 k v (j : Int)) (fun _ => True) := by
    intro d
    induction d with
    | zero =>
      intro j hd hj
      refine Fin.step (fun k => by rw [spec_PointsOk.l0]) ?_
      exact Fin.no (by omega) (Fin.now _ trivial)
    | succ d ih =>
      intro j hd hj
      refine Fin.step (fun k => by rw [spec_PointsOk.l0]) ?_
      simp only [wsucc (show j < 9223372036854775807 by omega)]
      exact Fin.yes (by omega) (Fin.yes (by omega) (Fin.yes (by omega) (Fin.bind (Q := fun _ => True) ⟨_, sHas_ev _ _ (by simp; omega), trivial⟩ fun b _ => Fin.ite (fun _ => Fin.now _ trivial) fun _ => ih (j + 1) (by omega) (by omega))))
  have hj : ∀ b, Fin (fun k => spec_PointsOk.j0 k v b) (fun _ => True) := fun b => by
    refine Fin.step (fun k => by rw [spec_PointsOk.j0]) ?_
    exact Fin.ite (fun _ => Fin.now _ trivial) fun _ => key v.length 0 (by omega) (by omega)
  simp only [spec_PointsOk.f, in_eq, Option.bind_some]
  exact Fin.ite (fun _ => Fin.bind (fElems f v hv) fun b _ => hj _) fun _ => hj _
theorem fCode (f : Int) (v : List Int) (hv : v.length ≤ 1048576) (n : Int) : Fin (fun k => spec_l07Code.f k f v n) (fun _ => True) := by
  simp only [spec_l07Code.f, in_eq, Option.bind_some]
  exact Fin.ite (fun _ => Fin.bind (fPtsOk f v hv) fun b _ => Fin.ite (fun _ => Fin.now _ trivial) fun _ => Fin.now _ trivial) fun _ => Fin.now _ trivial

-- block finEval
theorem fPow (f a e : Int) : Fin (fun k => spec_Power.f k f a e) (fun _ => True) := by
  by_cases h : fldOk f
  · by_cases hx : a % md f = 0
    · have hm := md_pos h
      simp only [spec_Power.f, sMod, sReduce, Option.bind_some, if_pos h]
      exact Fin.no (by omega) (Fin.yes hx (Fin.ite (fun _ => Fin.now _ trivial) fun _ => Fin.ite (fun _ => Fin.now _ trivial) fun _ => Fin.now _ trivial))
    · exact ⟨_, sPow_ev h a e hx, trivial⟩
  · simp only [spec_Power.f, sMod, Option.bind_some]
    exact Fin.yes (by unfold md; rw [if_neg h]) (Fin.now _ trivial)
theorem fEval (f : Int) (v : List Int) (hv : v.length ≤ 1048576) (x : Int) : Fin (fun k => spec_EvalPoly.f k f v x) (fun _ => True) := by
  have key : ∀ (d j : Nat) (acc : Int), v.length - j = d → j ≤ v.length → Fin (fun k => spec_EvalPoly.l0 k f v x acc (j : Int)) (fun _ => True) := by
    intro d
    induction d with
    | zero =>
      intro j acc hd hj
      refine Fin.step (fun k => by rw [spec_EvalPoly.l0]) ?_
      exact Fin.no (by omega) (Fin.now _ trivial)
    | succ d ih =>
      intro j acc hd hj
      refine Fin.step (fun k => by rw [spec_EvalPoly.l0]) ?_
      simp only [wsucc (show j < 9223372036854775807 by omega), sMul, sAdd, Option.bind_some]
      exact Fin.yes (by omega) (Fin.yes (by omega) (Fin.bind (fPow f x _) fun t _ => ih (j + 1) _ (by omega) (by omega)))
  simp only [spec_EvalPoly.f]
  exact Fin.bind (fPoly f v hv) fun b _ => Fin.ite (fun _ => key v.length 0 0 (by omega) (by omega)) fun _ => Fin.now _ trivial
theorem fEncW (f : Int) (P D : List Int) (hP : P.length ≤ 1048576) (hD : D.length ≤ 1048576) : Fin (fun k => spec_EncodeWord.f k f P D) (fun r => r.length ≤ P.length) := by
  have key : ∀ (d j : Nat) (acc : List Int), P.length - j = d → j ≤ P.length → acc.length = j → Fin (fun k => spec_EncodeWord.l0 k f P D acc (j : Int)) (fun r => r.length ≤ P.length) := by
    intro d
    induction d with
    | zero =>
      intro j acc hd hj ha
      refine Fin.step (fun k => by rw [spec_EncodeWord.l0]) ?_
      exact Fin.no (by omega) (Fin.now _ (by omega))
    | succ d ih =>
      intro j acc hd hj ha
      refine Fin.step (fun k => by rw [spec_EncodeWord.l0]) ?_
      simp only [wsucc (show j < 9223372036854775807 by omega)]
      exact Fin.yes (by omega) (Fin.bind (fCut D hD) fun t ht => Fin.yes (by omega) (Fin.bind (fEval f t (by omega) _) fun y _ => Fin.yes (by omega) (ih (j + 1) _ (by omega) (by omega) (by simp; omega))))
  have hj : ∀ b, Fin (fun k => spec_EncodeWord.j0 k f P D [] b) (fun r => r.length ≤ P.length) := fun b => by
    refine Fin.step (fun k => by rw [spec_EncodeWord.j0]) ?_
    exact Fin.ite (fun _ => Fin.now _ (by simp)) fun _ => key P.length 0 [] (by omega) (by omega) rfl
  simp only [spec_EncodeWord.f, Option.bind_some]
  exact Fin.bind (fCode f P hP _) fun b _ => Fin.ite (fun _ => Fin.bind (fElems f D hD) fun b _ => hj _) fun _ => hj _

-- block putAll
def putAll : List Int → List Int
  | [] => []
  | x :: r => put (zz x) ++ putAll r
def listE (l : List Int) : List Int := put (zz (l.length : Int)) ++ putAll l
def jobE (kind f : Int) (A B : List Int) (n : Int) : List Int := (([kind % 256, f % 256] ++ put (zz n)) ++ listE A) ++ listE B
theorem put6 {x : Int} (h : isWord x) : (put (zz x)).length ≤ 6 := put_len _ 5 (by have := zz_lt h; omega)
theorem putAll_len : ∀ l : List Int, (∀ x ∈ l, isWord x) → (putAll l).length ≤ 6 * l.length := by
  intro l
  induction l with
  | nil => intro _; simp [putAll]
  | cons x r ih =>
    intro h
    have h1 := put6 (h x (List.mem_cons_self ..))
    have h2 := ih (fun y hy => h y (List.mem_cons_of_mem _ hy))
    rw [putAll, List.length_append, List.length_cons]; omega
theorem word_small {n : Nat} (h : n ≤ 1000) : isWord (n : Int) := by unfold isWord; omega
theorem listE_len {l : List Int} (h : ∀ x ∈ l, isWord x) (hl : l.length ≤ 400) : (listE l).length ≤ 2406 := by
  have h1 := put6 (word_small (n := l.length) (by omega))
  have h2 := putAll_len l h
  rw [listE, List.length_append]; omega
theorem putAll_at {l : List Int} {i : Nat} (h : i < l.length) : putAll (l.drop i) = put (zz l[i]) ++ putAll (l.drop (i + 1)) := by
  rw [List.drop_eq_getElem_cons h, putAll]
theorem putAll_drop_len {l : List Int} (h : ∀ x ∈ l, isWord x) (i : Nat) : (putAll (l.drop i)).length ≤ 6 * l.length := by
  have h1 := putAll_len (l.drop i) (fun x hx => h x (List.mem_of_mem_drop hx))
  rw [List.length_drop] at h1
  omega

-- block jobEncP
def jobEncV (kind f : Int) (A B : List Int) (n : Int) : List Int := if jobB kind f A B n = true then jobE kind f A B n else []
theorem job_words {kind f n : Int} {A B : List Int} (h : jobB kind f A B n = true) : (A.length ≤ 400 ∧ ∀ x ∈ A, isWord x) ∧ (B.length ≤ 400 ∧ ∀ x ∈ B, isWord x) ∧ 0 ≤ n ∧ n ≤ 400 := by
  unfold jobB at h
  rw [Bool.and_eq_true, Bool.and_eq_true, Bool.and_eq_true, wordsB_iff, wordsB_iff, decide_eq_true_eq, decide_eq_true_eq] at h
  exact ⟨h.2.1, h.2.2.1, h.2.2.2.1, h.2.2.2.2.1⟩
theorem jobEncV_len (kind f : Int) (A B : List Int) (n : Int) : (jobEncV kind f A B n).length ≤ 5000 := by
  unfold jobEncV
  split
  · rename_i h
    obtain ⟨⟨a1, a2⟩, ⟨b1, b2⟩, n0, n1⟩ := job_words h
    have h1 := listE_len a2 a1
    have h2 := listE_len b2 b1
    have h3 := put6 (x := n) (by unfold isWord; omega)
    rw [jobE, List.length_append, List.length_append, List.length_append]
    simp only [List.length_cons, List.length_nil]; omega
  · simp

-- block sPutList
theorem sPutW_ev {x : Int} (h : isWord x) : Ev (fun k => spec_PutNumber.f k x) (put (zz x)) := by
  have := sPut_ev x (i64_wf (by unfold isWord at h; omega) (by unfold isWord at h; omega))
  unfold putOf at this
  rwa [if_pos h] at this
theorem sPutList_l1 (l : List Int) (j : Nat) (t : List Int) (acc r : List Int) (ha : acc.length + t.length ≤ 1000000) (hr : Ev (fun k => spec_l10PutList.l0 k (acc ++ t) l ((j + 1 : Nat) : Int)) r) (hj : j ≤ 1000000) : ∀ (d i : Nat), t.length - i = d → i ≤ t.length →
    Ev (fun k => spec_l10PutList.l1 k (acc ++ t.take i) l (j : Int) t (t.length : Int) (i : Int)) r := by
  intro d
  induction d with
  | zero =>
    intro i h hi
    refine Ev.step (fun k => ?_) hr
    simp only [spec_l10PutList.l1]
    rw [if_neg (by omega), List.take_of_length_le (by omega), wsucc (by omega)]
  | succ d ih =>
    intro i h hi
    have key := ih (i + 1) (by omega) (by omega)
    refine Ev.step (fun k => ?_) key
    simp only [spec_l10PutList.l1]
    rw [if_pos (by omega), if_pos (by omega), if_pos (by omega), if_pos (by rw [List.length_append, List.length_take]; omega), wsucc (by omega), rd_eq (by omega), List.append_assoc, List.take_append_getElem (by omega)]
theorem sPutList_l0 (l : List Int) (hl : l.length ≤ 400) (hw : ∀ x ∈ l, isWord x) : ∀ (d i : Nat) (acc : List Int), l.length - i = d → i ≤ l.length → acc.length ≤ 10000 + 6 * i →
    Ev (fun k => spec_l10PutList.l0 k acc l (i : Int)) (acc ++ putAll (l.drop i)) := by
  intro d
  induction d with
  | zero =>
    intro i acc h hi ha
    refine ev_now fun k => ?_
    simp only [spec_l10PutList.l0]
    rw [if_neg (by omega), List.drop_of_length_le (by omega), putAll, List.append_nil]
  | succ d ih =>
    intro i acc h hi ha
    have hil : i < l.length := by omega
    have hwi := hw l[i] (List.getElem_mem hil)
    have h6 := put6 hwi
    have key := ih (i + 1) (acc ++ put (zz l[i])) (by omega) (by omega) (by rw [List.length_append]; omega)
    rw [List.append_assoc, ← putAll_at hil] at key
    have k1 := sPutList_l1 l i (put (zz l[i])) acc _ (by omega) key (by omega) (put (zz l[i])).length 0 (by omega) (by omega)
    rw [List.take_zero, List.append_nil] at k1
    obtain ⟨n, e1, e2⟩ := evs2 (sPutW_ev hwi) k1
    refine ⟨n + 1, fun k hk => ?_⟩
    obtain ⟨j, rfl⟩ : ∃ j, k = n + j + 1 := ⟨k - n - 1, by omega⟩
    simp only [spec_l10PutList.l0, rd_eq hil, e1 j, Option.bind_some]
    rw [if_pos (by omega), if_pos (by omega)]
    exact e2 j
theorem sPutList_ev (acc l : List Int) (hl : l.length ≤ 400) (hw : ∀ x ∈ l, isWord x) (ha : acc.length ≤ 5000) : Ev (fun k => spec_l10PutList.f k acc l) (acc ++ listE l) := by
  have hwl := word_small (n := l.length) (by omega)
  have h6 := put6 hwl
  have key := sPutList_l0 l hl hw l.length 0 (acc ++ put (zz (l.length : Int))) (by omega) (by omega) (by rw [List.length_append]; omega)
  rw [List.drop_zero, List.append_assoc] at key
  obtain ⟨n, e1, e2, e3⟩ := evs3 (sPutW_ev hwl) (sJoinB_ev acc (put (zz (l.length : Int))) (by omega)) key
  refine ⟨n, fun k hk => ?_⟩
  obtain ⟨j, rfl⟩ : ∃ j, k = n + j := ⟨k - n, by omega⟩
  simp only [spec_l10PutList.f, e1 j, e2 j, Option.bind_some]
  exact e3 j

-- block sEncJob
theorem sEncJob_ev (kind f : Int) (A B : List Int) (n : Int) (hA : A.length ≤ 1048576) (hB : B.length ≤ 1048576) : Ev (fun k => spec_EncodeJob.f k kind f A B n) (jobEncV kind f A B n) := by
  unfold jobEncV
  by_cases h : jobB kind f A B n = true
  · obtain ⟨⟨a1, a2⟩, ⟨b1, b2⟩, n0, n1⟩ := job_words h
    have hwn : isWord n := by unfold isWord; omega
    have h3 := put6 hwn
    have h4 := listE_len a2 a1
    obtain ⟨m, e1, e2, e3, e4, e5⟩ := evs5 (sJob_ev kind f A B n hA hB) (sPutW_ev hwn) (sJoinB_ev [kind % 256, f % 256] (put (zz n)) (by simp only [List.length_cons, List.length_nil]; omega)) (sPutList_ev ([kind % 256, f % 256] ++ put (zz n)) A a1 a2 (by rw [List.length_append]; simp only [List.length_cons, List.length_nil]; omega)) (sPutList_ev (([kind % 256, f % 256] ++ put (zz n)) ++ listE A) B b1 b2 (by rw [List.length_append, List.length_append]; simp only [List.length_cons, List.length_nil]; omega))
    refine ⟨m, fun k hk => ?_⟩
    obtain ⟨j, rfl⟩ : ∃ j, k = m + j := ⟨k - m, by omega⟩
    rw [if_pos h]
    simp only [spec_EncodeJob.f, e1 j, h, e2 j, e3 j, e4 j, e5 j, Option.bind_some, if_true]
    rfl
  · rw [if_neg h]
    rw [Bool.not_eq_true] at h
    obtain ⟨m, e1⟩ := evs1 (sJob_ev kind f A B n hA hB)
    refine ⟨m, fun k hk => ?_⟩
    obtain ⟨j, rfl⟩ : ∃ j, k = m + j := ⟨k - m, by omega⟩
    simp only [spec_EncodeJob.f, e1, h, Option.bind_some, Bool.false_eq_true, if_false]

-- block decC
theorem cmpR_cases (l : List Int) (n : Nat) : ∀ s t, cmpR l n t s = frMore ∨ cmpR l n t s = frBad ∨ (cmpR l n t s = frDone l n ∧ s.length ≤ t.length) := by
  intro s
  induction s with
  | nil => intro t; right; right; exact ⟨by unfold cmpR; rfl, by simp⟩
  | cons b s ih =>
    intro t
    cases t with
    | nil => left; rfl
    | cons a t =>
      unfold cmpR
      split
      · rcases ih t with h | h | ⟨h, h2⟩
        · exact Or.inl h
        · exact Or.inr (Or.inl h)
        · exact Or.inr (Or.inr ⟨h, by simp only [List.length_cons]; omega⟩)
      · exact Or.inr (Or.inl rfl)
theorem be4_len (x : Int) : (be4 x).length = 4 := by simp [be4]
theorem decF_cases {l : List Int} (hb : isB l) : decF l = frMore ∨ (decF l = frBad ∧ 1 ≤ l.length) ∨ (∃ n : Nat, decF l = frDone l n ∧ 13 + n ≤ l.length) := by
  have hr := frN_range hb
  unfold decF
  by_cases h : headB l = true
  · rw [if_pos h]
    by_cases h9 : l.length < 9
    · rw [if_pos h9]; exact Or.inl rfl
    · rw [if_neg h9]
      by_cases h2 : (l.length : Int) < 9 + frN l
      · rw [if_pos h2]; exact Or.inl rfl
      · rw [if_neg h2]
        rcases cmpR_cases l (frN l).toNat (frSum l) (l.drop (9 + (frN l).toNat)) with c | c | ⟨c, c2⟩
        · exact Or.inl c
        · exact Or.inr (Or.inl ⟨c, by omega⟩)
        · refine Or.inr (Or.inr ⟨_, c, ?_⟩)
          unfold frSum at c2
          rw [be4_len, List.length_drop] at c2
          omega
  · rw [if_neg h]
    refine Or.inr (Or.inl ⟨rfl, ?_⟩)
    by_cases h0 : l.length = 0
    · exfalso
      apply h
      unfold headB
      rw [show min 9 l.length = 0 by omega]
      rfl
    · omega

-- block feedP
/-- The frames that these bytes tell, one behind the other; what is left; what was lost. -/
def fdG : Nat → List Int → List S59 → Int → List Int × Int × List S59
  | 0, l, out, lost => (l, lost, out)
  | d + 1, l, out, lost => if (decF l).2.2.2.2 = 0 then fdG d (l.drop (decF l).2.2.2.1.toNat) (out ++ [⟨(decF l).1, (decF l).2.1, (decF l).2.2.1⟩]) lost else if (decF l).2.2.2.2 = 2 then fdG d (l.drop 1) out (if lost < 2147483647 then lost + 1 else lost) else (l, lost, out)
theorem fdG_more {l : List Int} (d : Nat) (out : List S59) (lost : Int) (h : decF l = frMore) : fdG (d + 1) l out lost = (l, lost, out) := by
  rw [fdG, h, if_neg (by decide), if_neg (by decide)]
theorem fdG_bad {l : List Int} (d : Nat) (out : List S59) (lost : Int) (h : decF l = frBad) : fdG (d + 1) l out lost = fdG d (l.drop 1) out (if lost < 2147483647 then lost + 1 else lost) := by
  rw [fdG, h, if_neg (by decide), if_pos (by decide)]
theorem fdG_done {l : List Int} (d : Nat) (out : List S59) (lost : Int) (n : Nat) (h : decF l = frDone l n) : fdG (d + 1) l out lost = fdG d (l.drop (13 + n)) (out ++ [⟨(frDone l n).1, (frDone l n).2.1, (frDone l n).2.2.1⟩]) lost := by
  rw [fdG, h, if_pos (show (frDone l n).2.2.2.2 = 0 from rfl)]
  rfl
def feedV (buf : List Int) (lost : Int) (chunk : List Int) : List Int × Int × List S59 := if streamOk buf lost ∧ chunk.length ≤ 20000 then fdG ((buf ++ chunk).length + 1) (buf ++ chunk) [] lost else (buf, lost, [])

-- block iFeedL
theorem iFeed_l (b0 : List Int) : ∀ (d : Nat) (l : List Int) (out : List S59) (lost : Int), l.length < d → isB l → l.length + out.length ≤ 2097152 → 0 ≤ lost → lost ≤ 2147483647 → Ev (fun k => impl_feed.l0 k l out b0 lost) (fdG d l out lost) := by
  intro d
  induction d with
  | zero => intro l out lost h; omega
  | succ d ih =>
    intro l out lost h hb hl h0 h1
    have hd := iDec_ev l (by omega) hb
    rcases decF_cases hb with c | ⟨c, c1⟩ | ⟨n, c, c1⟩
    · rw [c] at hd
      rw [fdG_more _ _ _ c]
      obtain ⟨m, e⟩ := evs1 hd
      refine ⟨m + 1, fun k hk => ?_⟩
      obtain ⟨j, rfl⟩ : ∃ j, k = m + j + 1 := ⟨k - m - 1, by omega⟩
      simp only [impl_feed.l0, e j, frMore, Option.bind_some, List.nil_append, List.length_nil]
      rw [if_neg (by decide), if_neg (by decide), if_pos (by omega)]
    · rw [c] at hd
      rw [fdG_bad _ _ _ c]
      have key := ih (l.drop 1) out (if lost < 2147483647 then lost + 1 else lost) (by rw [List.length_drop]; omega) (isB_drop hb _) (by rw [List.length_drop]; omega) (by split <;> omega) (by split <;> omega)
      have em : mn (wrap64 (lost + 1)) 2147483647 = if lost < 2147483647 then lost + 1 else lost := by
        rw [w64 (by omega) (by omega), mn_eq]
        by_cases q : lost < 2147483647
        · rw [if_pos q]; split <;> omega
        · rw [if_neg q]; split <;> omega
      obtain ⟨m, e, e2⟩ := evs2 hd key
      refine ⟨m + 1, fun k hk => ?_⟩
      obtain ⟨j, rfl⟩ : ∃ j, k = m + j + 1 := ⟨k - m - 1, by omega⟩
      simp only [impl_feed.l0, e j, frBad, Option.bind_some, em]
      rw [if_neg (by decide), if_pos trivial, if_pos (by omega)]
      exact e2 j
    · rw [c] at hd
      rw [fdG_done _ _ _ n c]
      have key := ih (l.drop (13 + n)) (out ++ [⟨(frDone l n).1, (frDone l n).2.1, (frDone l n).2.2.1⟩]) lost (by rw [List.length_drop]; omega) (isB_drop hb _) (by rw [List.length_drop, List.length_append]; simp; omega) h0 h1
      obtain ⟨m, e, e2⟩ := evs2 hd key
      refine ⟨m + 1, fun k hk => ?_⟩
      obtain ⟨j, rfl⟩ : ∃ j, k = m + j + 1 := ⟨k - m - 1, by omega⟩
      have en : (frDone l n).2.2.2.1 = ((13 + n : Nat) : Int) := rfl
      have ec : (frDone l n).2.2.2.2 = 0 := rfl
      simp only [impl_feed.l0, e j, Option.bind_some, en, ec, if_true, Int.toNat_natCast]
      rw [if_pos (by omega), if_pos (by omega), if_pos (by omega)]
      exact e2 j

-- block iFeed
theorem iFeed_ev (buf : List Int) (lost : Int) (chunk : List Int) (hb : isB buf) (hc : isB chunk) (hbl : buf.length ≤ 1048576) (hcl : chunk.length ≤ 1048576) : Ev (fun k => impl_Feed.f k buf lost chunk) (feedV buf lost chunk) := by
  have hS := iStream_ev buf lost (by omega) hb
  unfold feedV
  by_cases h : streamOk buf lost
  · by_cases h2 : chunk.length ≤ 20000
    · rw [if_pos ⟨h, h2⟩]
      have key := iFeed_l buf ((buf ++ chunk).length + 1) (buf ++ chunk) [] lost (by omega) (isB_append hb hc) (by rw [List.length_append]; simp; omega) h.1 h.2.1
      obtain ⟨m, e, e2⟩ := evs2 hS key
      refine ⟨m, fun k hk => ?_⟩
      obtain ⟨j, rfl⟩ : ∃ j, k = m + j := ⟨k - m, by omega⟩
      simp only [impl_Feed.f, impl_feed.f, e j, decide_eq_true h, Option.bind_some, if_true, List.nil_append, List.length_nil]
      rw [if_neg (by omega), if_pos (by omega), if_pos (by omega), e2 j, Option.bind_some]
    · rw [if_neg (fun hh => h2 hh.2)]
      obtain ⟨m, e⟩ := evs1 hS
      refine ⟨m, fun k hk => ?_⟩
      obtain ⟨j, rfl⟩ : ∃ j, k = m + j := ⟨k - m, by omega⟩
      simp only [impl_Feed.f, e j, decide_eq_true h, Option.bind_some, if_true, List.nil_append, List.length_nil]
      rw [if_pos (by omega), if_pos (by omega)]
  · rw [if_neg (fun hh => h hh.1)]
    obtain ⟨m, e⟩ := evs1 hS
    refine ⟨m, fun k hk => ?_⟩
    obtain ⟨j, rfl⟩ : ∃ j, k = m + j := ⟨k - m, by omega⟩
    simp only [impl_Feed.f, e j, decide_eq_false h, Option.bind_some, Bool.false_eq_true, if_false, List.nil_append, List.length_nil]
    rw [if_pos (by omega)]

-- block drawOnce1
theorem drawOnce1 (l : List Int) (hn : l.length ≤ 140737488355328) (i h : Int) (hi : dAt l i) (m : Int) : ∃ b i' h', spec_l01Once.f l i h m = some (b, i', h') ∧ dAt l i' := by
  obtain ⟨b1, i1, h1, e1, r1, d1⟩ := drawBelow l hn i h hi m
  exact ⟨(b1 == 0), i1, h1, by simp only [spec_l01Once.f, e1, Option.bind_some], d1⟩

-- block drawField
theorem drawField (l : List Int) (hn : l.length ≤ 140737488355328) (i h : Int) (hi : dAt l i) : ∃ b i' h', spec_l01DrawField.f l i h = some (b, i', h') ∧ dAt l i' := by
  obtain ⟨b1, i1, h1, e1, d1⟩ := drawOnce1 l hn i h hi 20
  obtain ⟨b2, i2, h2, e2, r2, d2⟩ := drawPickInt l hn i1 h1 d1 [(-1), 9, 100] (by simp)
  obtain ⟨b3, i3, h3, e3, r3, d3⟩ := drawBelow l hn i1 h1 d1 9
  cases b1 with
  | true => exact ⟨b2, i2, h2, by simp only [spec_l01DrawField.f, e1, e2, Option.bind_some, if_true], d2⟩
  | false => exact ⟨b3, i3, h3, by simp only [spec_l01DrawField.f, e1, e3, Option.bind_some, Bool.false_eq_true, if_false], d3⟩

-- block drawElem
theorem drawElem (l : List Int) (hn : l.length ≤ 140737488355328) (i h : Int) (hi : dAt l i) (f : Int) : ∃ b i' h', spec_l01DrawElement.f l i h f = some (b, i', h') ∧ dAt l i' := by
  simp only [spec_l01DrawElement.f, sMod, Option.bind_some]
  by_cases h0 : md f = 0
  · obtain ⟨b1, i1, h1, e1, r1, d1⟩ := drawBelow l hn i h hi 50
    rw [if_pos h0, e1]
    exact ⟨_, _, _, rfl, d1⟩
  · obtain ⟨b1, i1, h1, e1, r1, d1⟩ := drawBelow l hn i h hi 6
    rw [if_neg h0, e1, Option.bind_some]
    by_cases c0 : b1 = 0
    · obtain ⟨b2, i2, h2, e2, r2, d2⟩ := drawBelow l hn i1 h1 d1 3
      rw [if_pos c0, e2]
      exact ⟨_, _, _, rfl, d2⟩
    · rw [if_neg c0]
      by_cases c1 : b1 = 1
      · obtain ⟨b2, i2, h2, e2, r2, d2⟩ := drawBelow l hn i1 h1 d1 3
        rw [if_pos c1, e2]
        exact ⟨_, _, _, rfl, d2⟩
      · rw [if_neg c1]
        by_cases c2 : b1 = 2
        · obtain ⟨b2, i2, h2, e2, r2, d2⟩ := drawBelow l hn i1 h1 d1 16777216
          obtain ⟨b3, i3, h3, e3, r3, d3⟩ := drawBelow l hn i2 h2 d2 256
          rw [if_pos c2, e2, Option.bind_some, e3]
          exact ⟨_, _, _, rfl, d3⟩
        · obtain ⟨b2, i2, h2, e2, r2, d2⟩ := drawBelow l hn i1 h1 d1 30
          rw [if_neg c2, e2]
          exact ⟨_, _, _, rfl, d2⟩

-- block drawList
theorem drawList_l (l : List Int) (hn : l.length ≤ 140737488355328) (f : Int) (n : Nat) (hn6 : n ≤ 1048576) : ∀ (d j : Nat) (acc : List Int) (i h : Int), n - j = d → j ≤ n → acc.length = j → dAt l i →
    ∃ out i' h', Ev (fun k => spec_l01DrawList.l0 k f (n : Int) acc (j : Int) l i h) (out, i', h') ∧ out.length = n ∧ dAt l i' := by
  intro d
  induction d with
  | zero =>
    intro j acc i h hd hj ha hi
    refine ⟨acc, i, h, ev_now fun k => ?_, by omega, hi⟩
    simp only [spec_l01DrawList.l0]
    rw [if_neg (by omega)]
  | succ d ih =>
    intro j acc i h hd hj ha hi
    obtain ⟨b1, i1, h1, e1, d1⟩ := drawElem l hn i h hi f
    obtain ⟨out, i', h', k1, k2, k3⟩ := ih (j + 1) (acc ++ [b1]) i1 h1 (by omega) (by omega) (by simp; omega) d1
    refine ⟨out, i', h', Ev.step (fun k => ?_) k1, k2, k3⟩
    simp only [spec_l01DrawList.l0, e1, Option.bind_some]
    rw [if_pos (by omega), if_pos (by omega), wsucc (by omega)]
theorem drawList (l : List Int) (hn : l.length ≤ 140737488355328) (i h : Int) (hi : dAt l i) (f : Int) (n : Nat) (hn6 : n ≤ 1048576) : ∃ out i' h', Ev (fun k => spec_l01DrawList.f k l i h f (n : Int)) (out, i', h') ∧ out.length = n ∧ dAt l i' := by
  obtain ⟨out, i', h', k1, k2, k3⟩ := drawList_l l hn f n hn6 n 0 [] i h rfl (by omega) rfl hi
  exact ⟨out, i', h', Ev.congr (fun k => rfl) k1, k2, k3⟩

-- block finDraw
theorem fBelow (l : List Int) (hn : l.length ≤ 140737488355328) (i h : Int) (hi : dAt l i) (m : Int) : Fin (fun _ => spec_l01Below.f l i h m) (fun r => (0 ≤ r.1 ∧ (r.1 < m ∨ r.1 = 0)) ∧ dAt l r.2.1) := by
  obtain ⟨b, i1, h1, e, q, d⟩ := drawBelow l hn i h hi m
  exact ⟨_, ev_some fun _ => e, q, d⟩
theorem fPick (l : List Int) (hn : l.length ≤ 140737488355328) (i h : Int) (hi : dAt l i) (xs : List Int) (hx : 0 < xs.length) : Fin (fun _ => spec_l01PickInt.f l i h xs) (fun r => r.1 ∈ xs ∧ dAt l r.2.1) := by
  obtain ⟨b, i1, h1, e, q, d⟩ := drawPickInt l hn i h hi xs hx
  exact ⟨_, ev_some fun _ => e, q, d⟩
theorem fOnce (l : List Int) (hn : l.length ≤ 140737488355328) (i h : Int) (hi : dAt l i) (m : Int) : Fin (fun _ => spec_l01Once.f l i h m) (fun r => dAt l r.2.1) := by
  obtain ⟨b, i1, h1, e, d⟩ := drawOnce1 l hn i h hi m
  exact ⟨_, ev_some fun _ => e, d⟩
theorem fField (l : List Int) (hn : l.length ≤ 140737488355328) (i h : Int) (hi : dAt l i) : Fin (fun _ => spec_l01DrawField.f l i h) (fun r => dAt l r.2.1) := by
  obtain ⟨b, i1, h1, e, d⟩ := drawField l hn i h hi
  exact ⟨_, ev_some fun _ => e, d⟩
theorem fElem (l : List Int) (hn : l.length ≤ 140737488355328) (i h : Int) (hi : dAt l i) (f : Int) : Fin (fun _ => spec_l01DrawElement.f l i h f) (fun r => dAt l r.2.1) := by
  obtain ⟨b, i1, h1, e, d⟩ := drawElem l hn i h hi f
  exact ⟨_, ev_some fun _ => e, d⟩
theorem fList (l : List Int) (hn : l.length ≤ 140737488355328) (i h : Int) (hi : dAt l i) (f n : Int) (h0 : 0 ≤ n) (h1 : n ≤ 1048576) : Fin (fun k => spec_l01DrawList.f k l i h f n) (fun r => (r.1.length : Int) = n ∧ dAt l r.2.1) := by
  obtain ⟨out, i', h', e, q, d⟩ := drawList l hn i h hi f n.toNat (by omega)
  rw [show ((n.toNat : Nat) : Int) = n by omega] at e
  exact ⟨_, e, by show (out.length : Int) = n; omega, d⟩
theorem fMod (f : Int) : Fin (fun _ => spec_Modulus.f f) (fun _ => True) := ⟨_, ev_some fun _ => sMod f, trivial⟩

-- block finAny
theorem fAny (l : List Int) (hn : l.length ≤ 140737488355328) (i h : Int) (hi : dAt l i) (f : Int) : Fin (fun _ => spec_l01DrawAny.f l i h f) (fun r => dAt l r.2.1) := by
  simp only [spec_l01DrawAny.f]
  refine Fin.bind (fBelow l hn i h hi 8) fun r1 q1 => ?_
  refine Fin.ite (fun _ => ?_) fun _ => ?_
  · exact Fin.bind (fBelow l hn _ _ q1.2 300) fun r2 q2 => Fin.now _ q2.2
  · refine Fin.ite (fun _ => ?_) fun _ => ?_
    · exact Fin.bind (fPick l hn _ _ q1.2 _ (by simp)) fun r2 q2 => Fin.now _ q2.2
    · refine Fin.ite (fun _ => ?_) fun _ => ?_
      · exact Fin.bind (fMod f) fun _ _ => Fin.bind (fBelow l hn _ _ q1.2 1000) fun r2 q2 => Fin.now _ q2.2
      · refine Fin.ite (fun _ => ?_) fun _ => ?_
        · exact Fin.bind (fBelow l hn _ _ q1.2 _) fun r2 q2 => Fin.bind (fBelow l hn _ _ q2.2 _) fun r3 q3 => Fin.now _ q3.2
        · exact Fin.bind (fElem l hn _ _ q1.2 f) fun r2 q2 => Fin.now _ q2

-- block finTerms
theorem fTerms (l : List Int) (hn : l.length ≤ 140737488355328) (i h : Int) (hi : dAt l i) (m : Int) (h0 : 0 ≤ m) (h1 : m ≤ 1048575) : Fin (fun k => spec_l05DrawTerms.f k l i h m) (fun r => (r.1.length : Int) ≤ 1048575 ∧ dAt l r.2.1) := by
  obtain ⟨n, rfl⟩ : ∃ n : Nat, m = (n : Int) := ⟨m.toNat, by omega⟩
  have hj1 : ∀ (acc : List Int) (i h : Int) (b : Bool), acc.length = n → dAt l i → (b = true → 0 < n) → Fin (fun k => spec_l05DrawTerms.j1 k (n : Int) acc b l i h) (fun r => (r.1.length : Int) ≤ 1048575 ∧ dAt l r.2.1) := by
    intro acc i h b ha hi hb
    refine Fin.step (fun k => by rw [spec_l05DrawTerms.j1]) ?_
    refine Fin.ite (fun c => ?_) fun c => Fin.now _ ⟨by show (acc.length : Int) ≤ 1048575; omega, hi⟩
    have := hb c
    refine Fin.bind (fBelow l hn i h hi _) fun r1 q1 => Fin.bind (fPick l hn _ _ q1.2 _ (by simp)) fun r2 q2 => ?_
    have := q1.1
    exact Fin.yes (by omega) (Fin.yes (by omega) (Fin.now _ ⟨by show ((acc.set _ _).length : Int) ≤ 1048575; rw [List.length_set]; omega, q2.2⟩))
  have key : ∀ (d j : Nat) (acc : List Int) (i h : Int), n - j = d → j ≤ n → acc.length = j → dAt l i → Fin (fun k => spec_l05DrawTerms.l0 k (n : Int) acc (j : Int) l i h) (fun r => (r.1.length : Int) ≤ 1048575 ∧ dAt l r.2.1) := by
    intro d
    induction d with
    | zero =>
      intro j acc i h hd hj ha hi
      refine Fin.step (fun k => by rw [spec_l05DrawTerms.l0]) ?_
      refine Fin.no (by omega) (Fin.bind (fOnce l hn i h hi _) fun r1 q1 => Fin.ite (fun _ => ?_) fun _ => ?_)
      · exact hj1 acc _ _ _ (by omega) q1 (fun e => by simpa using e)
      · exact hj1 acc _ _ _ (by omega) q1 (fun e => by simp at e)
    | succ d ih =>
      intro j acc i h hd hj ha hi
      refine Fin.step (fun k => by rw [spec_l05DrawTerms.l0]) ?_
      refine Fin.yes (by omega) (Fin.bind (fBelow l hn i h hi _) fun r1 q1 => Fin.bind (fBelow l hn _ _ q1.2 _) fun r2 q2 => Fin.bind (fBelow l hn _ _ q2.2 _) fun r3 q3 => Fin.bind (fPick l hn _ _ q3.2 _ (by simp)) fun r4 q4 => Fin.yes (by omega) ?_)
      rw [wsucc (by omega)]
      exact ih (j + 1) (acc ++ [r4.1]) _ _ (by omega) (by omega) (by simp; omega) q4.2
  exact key n 0 [] i h (by omega) (by omega) rfl hi

-- block finSeries
theorem fSeries (l : List Int) (hn : l.length ≤ 140737488355328) (i h : Int) (hi : dAt l i) (f n c : Int) (h0 : 0 < n) (h1 : n ≤ 1048575) : Fin (fun k => spec_l06DrawSeries.f k l i h f n c) (fun r => (r.1.length : Int) ≤ 1048575 ∧ dAt l r.2.1) := by
  have hj2 : ∀ (acc : List Int) (i h : Int) (b : Bool), (acc.length : Int) = n → dAt l i → Fin (fun k => spec_l06DrawSeries.j2 k f n acc b l i h) (fun r => (r.1.length : Int) ≤ 1048575 ∧ dAt l r.2.1) := by
    intro acc i h b ha hi
    refine Fin.step (fun k => by rw [spec_l06DrawSeries.j2]) ?_
    refine Fin.ite (fun c => ?_) fun c => Fin.now _ ⟨by show (acc.length : Int) ≤ 1048575; omega, hi⟩
    refine Fin.bind (fBelow l hn i h hi _) fun r1 q1 => Fin.bind (fMod f) fun t _ => Fin.bind (fPick l hn _ _ q1.2 _ (by simp)) fun r2 q2 => ?_
    have := q1.1
    exact Fin.yes (by omega) (Fin.yes (by omega) (Fin.now _ ⟨by show ((acc.set _ _).length : Int) ≤ 1048575; rw [List.length_set]; omega, q2.2⟩))
  have hj1 : ∀ (acc : List Int) (i h : Int), (acc.length : Int) = n → dAt l i → Fin (fun k => spec_l06DrawSeries.j1 k f n acc l i h) (fun r => (r.1.length : Int) ≤ 1048575 ∧ dAt l r.2.1) := by
    intro acc i h ha hi
    refine Fin.step (fun k => by rw [spec_l06DrawSeries.j1]) ?_
    exact Fin.bind (fOnce l hn i h hi _) fun r1 q1 => Fin.ite (fun _ => hj2 acc _ _ _ ha q1) fun _ => hj2 acc _ _ _ ha q1
  have hj0 : ∀ (acc : List Int) (i h : Int) (b : Bool), (acc.length : Int) = n → dAt l i → Fin (fun k => spec_l06DrawSeries.j0 k f n c acc b l i h) (fun r => (r.1.length : Int) ≤ 1048575 ∧ dAt l r.2.1) := by
    intro acc i h b ha hi
    refine Fin.step (fun k => by rw [spec_l06DrawSeries.j0]) ?_
    exact Fin.ite (fun _ => Fin.yes (by omega) (hj1 _ _ _ (by rw [List.length_set]; exact ha) hi)) fun _ => hj1 acc _ _ ha hi
  simp only [spec_l06DrawSeries.f]
  exact Fin.bind (fList l hn i h hi f n (by omega) (by omega)) fun r1 q1 => Fin.ite (fun _ => hj0 _ _ _ _ q1.1 q1.2) fun _ => hj0 _ _ _ _ q1.1 q1.2

-- block finPoints
theorem fPoints (l : List Int) (hn : l.length ≤ 140737488355328) (i h : Int) (hi : dAt l i) (f m : Int) (h0 : 0 < m) (h1 : m ≤ 1000) : Fin (fun k => spec_l07DrawPoints.f k l i h f m) (fun r => (0 < r.1.length ∧ (r.1.length : Int) ≤ 1000) ∧ dAt l r.2.1) := by
  obtain ⟨n, rfl⟩ : ∃ n : Nat, m = (n : Int) := ⟨m.toNat, by omega⟩
  have hj1 : ∀ (acc : List Int) (i h : Int) (b : Bool), acc.length ≤ n → 0 < acc.length → dAt l i → Fin (fun k => spec_l07DrawPoints.j1 k f acc b l i h) (fun r => (0 < r.1.length ∧ (r.1.length : Int) ≤ 1000) ∧ dAt l r.2.1) := by
    intro acc i h b ha hp hi
    refine Fin.step (fun k => by rw [spec_l07DrawPoints.j1]) ?_
    refine Fin.ite (fun c => ?_) fun c => Fin.now _ ⟨⟨hp, by show (acc.length : Int) ≤ 1000; omega⟩, hi⟩
    refine Fin.bind (fBelow l hn i h hi _) fun r1 q1 => Fin.bind (fMod f) fun t _ => Fin.bind (fPick l hn _ _ q1.2 _ (by simp)) fun r2 q2 => ?_
    have := q1.1
    exact Fin.yes (by omega) (Fin.yes (by omega) (Fin.now _ ⟨⟨by show 0 < (acc.set _ _).length; rw [List.length_set]; omega, by show ((acc.set _ _).length : Int) ≤ 1000; rw [List.length_set]; omega⟩, q2.2⟩))
  have key : ∀ (d j : Nat) (acc : List Int) (i h : Int), n - j = d → j ≤ n → acc.length ≤ j → (0 < j → 0 < acc.length) → dAt l i → Fin (fun k => spec_l07DrawPoints.l0 k f (n : Int) acc (j : Int) l i h) (fun r => (0 < r.1.length ∧ (r.1.length : Int) ≤ 1000) ∧ dAt l r.2.1) := by
    intro d
    induction d with
    | zero =>
      intro j acc i h hd hj ha hp hi
      refine Fin.step (fun k => by rw [spec_l07DrawPoints.l0]) ?_
      have := hp (by omega)
      exact Fin.no (by omega) (Fin.bind (fOnce l hn i h hi _) fun r1 q1 => Fin.ite (fun _ => hj1 acc _ _ _ (by omega) this q1) fun _ => hj1 acc _ _ _ (by omega) this q1)
    | succ d ih =>
      intro j acc i h hd hj ha hp hi
      refine Fin.step (fun k => by rw [spec_l07DrawPoints.l0]) ?_
      refine Fin.yes (by omega) (Fin.bind (fElem l hn i h hi f) fun r1 q1 => Fin.bind (Q := fun b => b = decide (r1.1 ∈ acc)) ⟨_, sHas_ev acc r1.1 (by omega), rfl⟩ fun b hb => ?_)
      simp only [wsucc (show j < 9223372036854775807 by omega)]
      refine Fin.ite (fun c => ?_) fun c => ?_
      · have hm : 0 < acc.length := by
          rw [hb, decide_eq_true_eq] at c
          exact List.length_pos_of_mem c
        refine Fin.bind (fOnce l hn _ _ q1 _) fun r2 q2 => Fin.ite (fun _ => ?_) fun _ => ?_
        · exact Fin.yes (by omega) (ih (j + 1) _ _ _ (by omega) (by omega) (by simp; omega) (fun _ => by simp) q2)
        · exact ih (j + 1) _ _ _ (by omega) (by omega) (by omega) (fun _ => hm) q2
      · exact Fin.yes (by omega) (ih (j + 1) _ _ _ (by omega) (by omega) (by simp; omega) (fun _ => by simp) q1)
  exact key n 0 [] i h (by omega) (by omega) (by simp) (fun e => by omega) hi

-- block finWord
theorem fWord (l : List Int) (hn : l.length ≤ 140737488355328) (i h : Int) (hi : dAt l i) : Fin (fun k => spec_l07DrawWord.f k l i h) (fun r => r.2.1.length ≤ 1000 ∧ r.2.2.1.length ≤ 1000 ∧ dAt l r.2.2.2.2.2.1) := by
  have key : ∀ (f : Int) (P D : List Int) (n : Int) (m : Nat), m ≤ 9223372036854775806 → P.length ≤ 1000 → ∀ (d j : Nat) (acc : List Int) (i h : Int), m - j = d → j ≤ m → 0 < acc.length → acc.length ≤ 1000 → dAt l i → Fin (fun k => spec_l07DrawWord.l0 k f P n D acc (m : Int) (j : Int) l i h) (fun r => r.2.1.length ≤ 1000 ∧ r.2.2.1.length ≤ 1000 ∧ dAt l r.2.2.2.2.2.1) := by
    intro f P D n m hm hP d
    induction d with
    | zero =>
      intro j acc i h hd hj ha ha2 hi
      refine Fin.step (fun k => by rw [spec_l07DrawWord.l0]) ?_
      exact Fin.no (by omega) (Fin.now _ ⟨hP, ha2, hi⟩)
    | succ d ih =>
      intro j acc i h hd hj ha ha2 hi
      refine Fin.step (fun k => by rw [spec_l07DrawWord.l0]) ?_
      simp only [wsucc (show j < 9223372036854775807 by omega)]
      refine Fin.yes (by omega) (Fin.bind (fBelow l hn i h hi _) fun r1 q1 => Fin.bind (fElem l hn _ _ q1.2 f) fun r2 q2 => ?_)
      have := q1.1
      exact Fin.yes (by omega) (Fin.yes (by omega) (ih (j + 1) _ _ _ (by omega) (by omega) (by rw [List.length_set]; exact ha) (by rw [List.length_set]; exact ha2) q2))
  have hw63 : ∀ x : Int, wrap64 x ≤ 9223372036854775807 := fun x => by unfold wrap64; omega
  have hj2 : ∀ (f : Int) (P D : List Int) (n x : Int) (acc : List Int) (i h : Int), 0 ≤ x → x ≤ 9223372036854775806 → P.length ≤ 1000 → 0 < acc.length → acc.length ≤ 1000 → dAt l i → Fin (fun k => spec_l07DrawWord.j2 k f P n D acc x l i h) (fun r => r.2.1.length ≤ 1000 ∧ r.2.2.1.length ≤ 1000 ∧ dAt l r.2.2.2.2.2.1) := by
    intro f P D n x acc i h h0 h1 hP ha ha2 hi
    obtain ⟨m, rfl⟩ : ∃ m : Nat, x = (m : Int) := ⟨x.toNat, by omega⟩
    refine Fin.step (fun k => by rw [spec_l07DrawWord.j2]) ?_
    exact key f P D n m (by omega) hP m 0 acc i h (by omega) (by omega) ha ha2 hi
  have hj1 : ∀ (f : Int) (P D : List Int) (n : Int) (acc : List Int) (i h : Int), P.length ≤ 1000 → 0 < acc.length → acc.length ≤ 1000 → dAt l i → Fin (fun k => spec_l07DrawWord.j1 k f P n D acc l i h) (fun r => r.2.1.length ≤ 1000 ∧ r.2.2.1.length ≤ 1000 ∧ dAt l r.2.2.2.2.2.1) := by
    intro f P D n acc i h hP ha ha2 hi
    refine Fin.step (fun k => by rw [spec_l07DrawWord.j1]) ?_
    refine Fin.bind (fBelow l hn i h hi _) fun r1 q1 => Fin.bind (fOnce l hn _ _ q1.2 _) fun r2 q2 => Fin.ite (fun _ => ?_) fun _ => ?_
    · refine Fin.bind (fBelow l hn _ _ q2 _) fun r3 q3 => ?_
      have h1 := hw63 ((P.length : Int) + 1)
      have := q3.1
      exact hj2 f P D n _ acc _ _ (by omega) (by omega) hP ha ha2 q3.2
    · have h1 := hw63 ((wrap64 (Int.tdiv (wrap64 ((P.length : Int) - n)) 2)) + 2)
      have := q1.1
      exact hj2 f P D n _ acc _ _ (by omega) (by omega) hP ha ha2 q2
  have hj0 : ∀ (f : Int) (P : List Int) (n : Int) (i h : Int), P.length ≤ 1000 → 0 < P.length → 0 ≤ n → n ≤ 1048576 → dAt l i → Fin (fun k => spec_l07DrawWord.j0 k f P n l i h) (fun r => r.2.1.length ≤ 1000 ∧ r.2.2.1.length ≤ 1000 ∧ dAt l r.2.2.2.2.2.1) := by
    intro f P n i h hP hp h0 h1 hi
    refine Fin.step (fun k => by rw [spec_l07DrawWord.j0]) ?_
    refine Fin.bind (fList l hn i h hi f n h0 h1) fun r1 q1 => Fin.bind (fEncW f P r1.1 (by omega) (by have := q1.1; omega)) fun W hW => Fin.ite (fun _ => ?_) fun c => ?_
    · refine Fin.bind (fList l hn _ _ q1.2 f _ (by omega) (by omega)) fun r2 q2 => ?_
      have := q2.1
      exact hj1 f P _ n _ _ _ hP (by omega) (by omega) q2.2
    · exact hj1 f P _ n W _ _ hP (by omega) (by omega) q1.2
  simp only [spec_l07DrawWord.f]
  refine Fin.bind (fField l hn i h hi) fun r1 q1 => Fin.bind (fBelow l hn _ _ q1 8) fun r2 q2 => ?_
  have b2 := q2.1
  have e2 : wrap64 (3 + r2.1) = 3 + r2.1 := w64 (by omega) (by omega)
  simp only [e2]
  refine Fin.bind (fPoints l hn _ _ q2.2 r1.1 (3 + r2.1) (by omega) (by omega)) fun r3 q3 => Fin.bind (fBelow l hn _ _ q3.2 _) fun r4 q4 => Fin.bind (fOnce l hn _ _ q4.2 2) fun r5 q5 => ?_
  have b3 := q3.1
  have b4 := q4.1
  have e4 : wrap64 (1 + r4.1) = 1 + r4.1 := w64 (by omega) (by omega)
  refine Fin.ite (fun _ => ?_) fun _ => ?_
  · refine Fin.bind (fBelow l hn _ _ q5 _) fun r6 q6 => ?_
    have b6 := q6.1
    have e5 : wrap64 (Int.tdiv (wrap64 ((r3.1.length : Int) + 1)) 2) ≤ 1001 := by
      rw [w64 (x := (r3.1.length : Int) + 1) (by omega) (by omega), Int.tdiv_eq_ediv_of_nonneg (by omega), w64 (by omega) (by omega)]; omega
    have e6 : wrap64 (1 + r6.1) = 1 + r6.1 := w64 (by omega) (by omega)
    simp only [e6]
    exact hj0 _ _ _ _ _ (by omega) b3.1 (by omega) (by omega) q6.2
  · simp only [e4]
    exact hj0 _ _ _ _ _ (by omega) b3.1 (by omega) (by omega) q5

-- block finJob
/-- A drawn job: its rows are short. -/
def jobQ (l : List Int) (r : Int × Int × List Int × List Int × Int × Int × Int) : Prop := (r.2.2.1.length : Int) ≤ 1048576 ∧ (r.2.2.2.1.length : Int) ≤ 1048576 ∧ dAt l r.2.2.2.2.2.1
theorem sh4 (x : Int) (h0 : 0 ≤ x) (h1 : x < 4) : 0 ≤ IntKind.u64.wrap x ∧ 0 ≤ shl .i64 1 (IntKind.u64.wrap x) ∧ shl .i64 1 (IntKind.u64.wrap x) ≤ 8 := by
  rcases (show x = 0 ∨ x = 1 ∨ x = 2 ∨ x = 3 by omega) with rfl | rfl | rfl | rfl <;> decide +kernel
theorem fJob3 (l : List Int) (hn : l.length ≤ 140737488355328) (i h : Int) (hi : dAt l i) (op f : Int) (A B : List Int) (n : Int) (hA : (A.length : Int) ≤ 1048575) (hB : (B.length : Int) ≤ 1048575) : Fin (fun k => spec_l10DrawJob.j3 k l i h op f A B n) (jobQ l) := by
  refine Fin.step (fun k => by rw [spec_l10DrawJob.j3]) ?_
  refine Fin.bind (fOnce l hn i h hi 12) fun r1 q1 => Fin.ite (fun _ => ?_) fun _ => Fin.now _ ⟨by show (A.length : Int) ≤ 1048576; omega, by show (B.length : Int) ≤ 1048576; omega, q1⟩
  refine Fin.bind (fBelow l hn _ _ q1 5) fun r2 q2 => Fin.ite (fun _ => ?_) fun _ => ?_
  · exact Fin.bind (fBelow l hn _ _ q2.2 11) fun r3 q3 => Fin.bind (fPick l hn _ _ q3.2 _ (by simp)) fun r4 q4 => Fin.now _ ⟨by show (A.length : Int) ≤ 1048576; omega, by show (B.length : Int) ≤ 1048576; omega, q4.2⟩
  refine Fin.ite (fun _ => ?_) fun _ => ?_
  · exact Fin.bind (fField l hn _ _ q2.2) fun r3 q3 => Fin.now _ ⟨by show (A.length : Int) ≤ 1048576; omega, by show (B.length : Int) ≤ 1048576; omega, q3⟩
  refine Fin.ite (fun _ => ?_) fun _ => ?_
  · exact Fin.bind (fPick l hn _ _ q2.2 _ (by simp)) fun r3 q3 => Fin.now _ ⟨by show (A.length : Int) ≤ 1048576; omega, by show (B.length : Int) ≤ 1048576; omega, q3.2⟩
  refine Fin.ite (fun _ => ?_) fun _ => ?_
  · refine Fin.bind (Q := fun r => r = B) ⟨_, sCopy_ev B (by omega), rfl⟩ fun t ht => Fin.bind (fAny l hn _ _ q2.2 f) fun r3 q3 => ?_
    subst ht
    exact Fin.yes (by omega) (Fin.now _ ⟨by show (A.length : Int) ≤ 1048576; omega, by show ((t ++ [_]).length : Int) ≤ 1048576; simp; omega, q3⟩)
  refine Fin.ite (fun _ => ?_) fun _ => ?_
  · refine Fin.bind (Q := fun r => r = A) ⟨_, sCopy_ev A (by omega), rfl⟩ fun t ht => Fin.bind (fPick l hn _ _ q2.2 _ (by simp)) fun r3 q3 => ?_
    subst ht
    exact Fin.yes (by omega) (Fin.now _ ⟨by show ((t ++ [_]).length : Int) ≤ 1048576; simp; omega, by show (B.length : Int) ≤ 1048576; omega, q3.2⟩)
  · exact Fin.now _ ⟨by show (A.length : Int) ≤ 1048576; omega, by show (B.length : Int) ≤ 1048576; omega, q2.2⟩
theorem fJob2 (l : List Int) (hn : l.length ≤ 140737488355328) (a : Int) (ha0 : 0 ≤ a) (ha : a ≤ 900) (i h : Int) (hi : dAt l i) (x : Int) (b : Bool) (op f n : Int) : Fin (fun k => spec_l10DrawJob.j2 k a x b l i h op f n) (jobQ l) := by
  have w1 : wrap64 (a + 1) = a + 1 := w64 (by omega) (by omega)
  have w2 : wrap64 (wrap64 (Int.tdiv a 2) + 2) = a / 2 + 2 := by
    rw [Int.tdiv_eq_ediv_of_nonneg ha0, w64 (x := a / 2) (by omega) (by omega), w64 (by omega) (by omega)]
  refine Fin.step (fun k => by rw [spec_l10DrawJob.j2]) ?_
  simp only [w1, w2]
  refine Fin.ite (fun _ => ?_) fun _ => Fin.ite (fun _ => ?_) fun _ => Fin.ite (fun _ => ?_) fun _ => Fin.ite (fun _ => ?_) fun _ => Fin.ite (fun _ => ?_) fun _ => Fin.ite (fun _ => ?_) fun _ => ?_
  · refine Fin.bind (fBelow l hn i h hi _) fun r1 q1 => ?_
    have b1 := q1.1
    refine Fin.bind (fList l hn _ _ q1.2 f _ (by omega) (by omega)) fun r2 q2 => ?_
    have b2 := q2.1
    refine Fin.bind (fCut r2.1 (by omega)) fun c1 k1 => Fin.bind (fBelow l hn _ _ q2.2 _) fun r3 q3 => ?_
    have b3 := q3.1
    refine Fin.bind (fList l hn _ _ q3.2 f _ (by omega) (by omega)) fun r4 q4 => ?_
    have b4 := q4.1
    exact Fin.bind (fCut r4.1 (by omega)) fun c2 k2 => fJob3 l hn _ _ q4.2 _ _ _ _ _ (by omega) (by omega)
  · refine Fin.bind (fBelow l hn i h hi _) fun r1 q1 => ?_
    have b1 := q1.1
    refine Fin.bind (fTerms l hn _ _ q1.2 r1.1 (by omega) (by omega)) fun r2 q2 => Fin.bind (fBelow l hn _ _ q2.2 _) fun r3 q3 => ?_
    have b3 := q3.1
    exact Fin.bind (fTerms l hn _ _ q3.2 r3.1 (by omega) (by omega)) fun r4 q4 => fJob3 l hn _ _ q4.2 _ _ _ _ _ q2.1 q4.1
  · refine Fin.bind (fBelow l hn i h hi _) fun r1 q1 => Fin.bind (fBelow l hn _ _ q1.2 _) fun r2 q2 => ?_
    have b1 := q1.1
    have w3 : wrap64 (1 + r1.1) = 1 + r1.1 := w64 (by omega) (by omega)
    simp only [w3]
    exact Fin.bind (fSeries l hn _ _ q2.2 f (1 + r1.1) _ (by omega) (by omega)) fun r3 q3 => fJob3 l hn _ _ q3.2 _ _ _ _ _ q3.1 (by simp)
  · refine Fin.bind (fBelow l hn i h hi _) fun r1 q1 => ?_
    have b1 := q1.1
    refine Fin.bind (fList l hn _ _ q1.2 f _ (by omega) (by omega)) fun r2 q2 => ?_
    have b2 := q2.1
    refine Fin.bind (fCut r2.1 (by omega)) fun c1 k1 => Fin.bind (fBelow l hn _ _ q2.2 _) fun r3 q3 => ?_
    have b3 := q3.1
    refine Fin.bind (fList l hn _ _ q3.2 f _ (by omega) (by omega)) fun r4 q4 => ?_
    have b4 := q4.1
    exact fJob3 l hn _ _ q4.2 _ _ _ _ _ (by omega) (by omega)
  · refine Fin.bind (fBelow l hn i h hi _) fun r1 q1 => ?_
    have b1 := q1.1
    have w3 : wrap64 (1 + r1.1) = 1 + r1.1 := w64 (by omega) (by omega)
    simp only [w3]
    refine Fin.bind (fPoints l hn _ _ q1.2 f (1 + r1.1) (by omega) (by omega)) fun r2 q2 => ?_
    have b2 := q2.1
    refine Fin.bind (fList l hn _ _ q2.2 f _ (by omega) (by omega)) fun r3 q3 => ?_
    have b3 := q3.1
    exact fJob3 l hn _ _ q3.2 _ _ _ _ _ (by omega) (by omega)
  · exact Fin.bind (fWord l hn i h hi) fun r1 q1 => fJob3 l hn _ _ q1.2.2 _ _ _ _ _ (by have := q1.1; omega) (by have := q1.2.1; omega)
  · exact fJob3 l hn _ _ hi _ _ _ _ _ (by simp) (by simp)
theorem fJob (l : List Int) (hn : l.length ≤ 140737488355328) (a : Int) (ha0 : 0 ≤ a) (ha : a ≤ 900) (i h : Int) (hi : dAt l i) : Fin (fun k => spec_l10DrawJob.f k l i h a) (jobQ l) := by
  have hj1 : ∀ (y x : Int) (b : Bool) (i h op f n : Int), 0 ≤ y → y < 4 → dAt l i → Fin (fun k => spec_l10DrawJob.j1 k a y x b l i h op f n) (jobQ l) := by
    intro y x b i h op f n h0 h1 hi
    have hs := sh4 y h0 h1
    refine Fin.step (fun k => by rw [spec_l10DrawJob.j1]) ?_
    refine Fin.ite (fun _ => Fin.yes hs.1 (Fin.bind (fList l hn i h hi f _ hs.2.1 (by omega)) fun r1 q1 => Fin.bind (fList l hn _ _ q1.2 f _ hs.2.1 (by omega)) fun r2 q2 => ?_)) fun _ => Fin.ite (fun _ => fJob2 l hn a ha0 ha i h hi _ _ _ _ _) fun _ => fJob2 l hn a ha0 ha i h hi _ _ _ _ _
    have b1 := q1.1
    have b2 := q2.1
    exact fJob3 l hn _ _ q2.2 _ _ _ _ _ (by omega) (by omega)
  have hj0 : ∀ (y x : Int) (b : Bool) (i h op f n : Int), 0 ≤ y → y < 4 → dAt l i → Fin (fun k => spec_l10DrawJob.j0 k a y x b l i h op f n) (jobQ l) := by
    intro y x b i h op f n h0 h1 hi
    have hs := sh4 y h0 h1
    refine Fin.step (fun k => by rw [spec_l10DrawJob.j0]) ?_
    refine Fin.ite (fun _ => Fin.yes hs.1 (Fin.bind (fList l hn i h hi f _ hs.2.1 (by omega)) fun r1 q1 => ?_)) fun _ => Fin.ite (fun _ => hj1 _ _ _ _ _ _ _ _ h0 h1 hi) fun _ => hj1 _ _ _ _ _ _ _ _ h0 h1 hi
    have b1 := q1.1
    exact fJob3 l hn _ _ q1.2 _ _ _ _ _ (by omega) (by simp)
  simp only [spec_l10DrawJob.f]
  refine Fin.bind (fBelow l hn i h hi 11) fun r1 q1 => Fin.bind (fBelow l hn _ _ q1.2 9) fun r2 q2 => Fin.bind (fBelow l hn _ _ q2.2 4) fun r3 q3 => ?_
  have b3 := q3.1
  exact Fin.ite (fun _ => hj0 _ _ _ _ _ _ _ _ (by omega) (by omega) q3.2) fun _ => hj0 _ _ _ _ _ _ _ _ (by omega) (by omega) q3.2

-- block putB
theorem putAll_isB : ∀ l : List Int, isB (putAll l) := by
  intro l
  induction l with
  | nil => intro y hy; simp [putAll] at hy
  | cons x r ih => exact isB_append (put_isB _) ih
theorem jobEncV_isB (kind f : Int) (A B : List Int) (n : Int) : isB (jobEncV kind f A B n) := by
  unfold jobEncV
  split
  · unfold jobE listE
    refine isB_append (isB_append (isB_append ?_ (put_isB _)) (isB_append (put_isB _) (putAll_isB _))) (isB_append (put_isB _) (putAll_isB _))
    intro y hy
    simp only [List.mem_cons, List.not_mem_nil, or_false] at hy
    omega
  · intro y hy; simp at hy

-- block finFrame
theorem fBytes (l : List Int) (hn : l.length ≤ 140737488355328) (i h : Int) (hi : dAt l i) (m : Int) (hm : m ≤ 1048576) : Fin (fun k => spec_l01DrawBytes.f k l i h m) (fun r => (isB r.1 ∧ (r.1.length : Int) ≤ 1048576) ∧ dAt l r.2.1) := by
  obtain ⟨out, i', h', e, a, b, c⟩ := drawBytes l hn m hm i h hi
  exact ⟨_, e, ⟨a, b⟩, c⟩
/-- A drawn frame: bytes, not too many. -/
def frameQ (r : Int × Int × List Int × Int × Int) : Prop := isB r.2.2.1
theorem fFrame (l : List Int) (hn : l.length ≤ 140737488355328) (a : Int) (ha : a ≤ 900) (i h : Int) (hi : dAt l i) : Fin (fun k => spec_l11DrawFrame.f k l i h a) frameQ := by
  have hj1 : ∀ (x y : Int) (v : List Int) (i h : Int), isB v → dAt l i → Fin (fun k => spec_l11DrawFrame.j1 k l i h x y v) frameQ := by
    intro x y v i h hv hi
    refine Fin.step (fun k => by rw [spec_l11DrawFrame.j1]) ?_
    refine Fin.bind (fOnce l hn i h hi 20) fun r1 q1 => Fin.ite (fun _ => ?_) fun _ => Fin.now _ hv
    refine Fin.bind (fBelow l hn _ _ q1 3) fun r2 q2 => Fin.ite (fun _ => ?_) fun _ => Fin.ite (fun _ => ?_) fun _ => Fin.ite (fun _ => ?_) fun _ => Fin.now _ hv
    · exact Fin.bind (fPick l hn _ _ q2.2 _ (by simp)) fun r3 q3 => Fin.now _ hv
    · exact Fin.bind (fPick l hn _ _ q2.2 _ (by simp)) fun r3 q3 => Fin.now _ hv
    · refine Fin.bind (fBelow l hn _ _ q2.2 3) fun r3 q3 => ?_
      have b3 := q3.1
      have w : wrap64 (4999 + r3.1) = 4999 + r3.1 := w64 (by omega) (by omega)
      simp only [w]
      exact Fin.bind (fBytes l hn _ _ q3.2 _ (by omega)) fun r4 q4 => Fin.now _ q4.1.1
  have hj0 : ∀ (x y : Int) (v : List Int) (i h : Int), isB v → v.length ≤ 1048576 → dAt l i → Fin (fun k => spec_l11DrawFrame.j0 k l i h x y v) frameQ := by
    intro x y v i h hv hl hi
    refine Fin.step (fun k => by rw [spec_l11DrawFrame.j0]) ?_
    refine Fin.bind (fOnce l hn i h hi 6) fun r1 q1 => Fin.ite (fun _ => ?_) fun _ => hj1 x y v _ _ hv q1
    refine Fin.bind (fBelow l hn _ _ q1 100) fun r2 q2 => Fin.bind (Q := fun r => isB r) ⟨_, sJoinB_ev v _ (by simp; omega), isB_append hv (by intro z hz; simp only [List.mem_cons, List.not_mem_nil, or_false] at hz; omega)⟩ fun t ht => hj1 x y t _ _ ht q2.2
  simp only [spec_l11DrawFrame.f]
  refine Fin.bind (fBelow l hn i h hi 100) fun r1 q1 => Fin.bind (fBelow l hn _ _ q1.2 16777216) fun r2 q2 => Fin.bind (fPick l hn _ _ q2.2 _ (by simp)) fun r3 q3 => Fin.bind (fBelow l hn _ _ q3.2 a) fun r4 q4 => ?_
  have b4 := q4.1
  refine Fin.bind (fBytes l hn _ _ q4.2 r4.1 (by omega)) fun r5 q5 => Fin.bind (fOnce l hn _ _ q5.2 3) fun r6 q6 => Fin.ite (fun _ => ?_) fun _ => ?_
  · refine Fin.bind (fJob l hn 8 (by omega) (by omega) _ _ q6) fun j qj => ?_
    obtain ⟨jA, jB, jd⟩ := qj
    refine Fin.bind (Q := fun r => isB r ∧ r.length ≤ 5000) ⟨_, sEncJob_ev j.1 j.2.1 j.2.2.1 j.2.2.2.1 j.2.2.2.2.1 (by omega) (by omega), jobEncV_isB _ _ _ _ _, jobEncV_len _ _ _ _ _⟩ fun t ht => hj0 _ _ t _ _ ht.1 (by have := ht.2; omega) jd
  · exact hj0 _ _ _ _ _ q5.1.1 (by have := q5.1.2; omega) q6
theorem fFrameOk (l : List Int) (hn : l.length ≤ 140737488355328) : Fin (fun k => spec_DrawFrameOk.f k l) (fun r => isB r.2.2) := by
  obtain ⟨h0, e0⟩ := drawNew l hn
  obtain ⟨m, em, hm⟩ := drawSize l hn 60
  simp only [spec_DrawFrameOk.f]
  refine Fin.bind (Q := fun r => r = (l, 0, h0)) ⟨_, e0, rfl⟩ fun r hr => ?_
  subst hr
  simp only [em, Option.bind_some]
  exact Fin.bind (fFrame l hn m (by omega) 0 h0 (dAt0 l)) fun r q => Fin.now _ q

end Go.Proofs.Ytdefnccngnilmaa.QFnResync

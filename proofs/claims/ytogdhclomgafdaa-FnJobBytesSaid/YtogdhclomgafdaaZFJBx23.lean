/- Lemmas on the printed functions of FnJobBytes: what each comes to. -/
import Derived.Test.YtogdhclomgafdaaZFJBx22
namespace Go.Proofs.Ytogdhclomgafdaa.QFnJobBytes
open Go.RowKit Go.Proofs.Ytogdhclomgafdaa.PFnJobBytes Go.Proofs.YtogdhclomgafdaaW.PrintWords Go.Proofs.YtogdhclomgafdaaW.PrintLast Go.Proofs.Ytogdhclomgafdaa.Math
set_option linter.unusedVariables false
set_option linter.unusedSimpArgs false

theorem in_eq (a b c : Int) : spec_l01In.f a b c = some (decide (b ≤ a ∧ a ≤ c)) := by
 simp only [spec_l01In.f, if_dec]

theorem sPut_l (u : Nat) : ∀ (acc : List Int), u < 4611686018427387904 → acc.length + (put u).length ≤ 1000000 → Ev (fun k => spec_PutNumber.l0 k acc (u : Int)) (acc ++ put u) := by
 induction u using Nat.strongRecOn with
 | _ u ih =>
  intro acc hu ha
  by_cases h : u < 128
  · refine ev_now fun k => ?_
    simp only [spec_PutNumber.l0]
    rw [if_neg (by omega), if_pos (by omega), put_small h, show ((u : Int)) % 256 = u by omega]
  · rw [put_big (by omega)] at ha ⊢
    refine Ev.step (fun k => ?_) (Ev.congr (fun k => rfl) (ih (u / 128) (by omega) (acc ++ [((u % 128 + 128 : Nat) : Int)]) (by omega) (by simp at ha ⊢; omega))) |> fun h => by simpa using h
    simp only [spec_PutNumber.l0]
    rw [if_pos (by omega), if_pos (by omega), Int.tmod_eq_emod_of_nonneg (by omega), Int.tdiv_eq_ediv_of_nonneg (by omega), w64 (by omega) (by omega), w64 (by omega) (by omega)]
    rw [show (128 + (u : Int) % 128) % 256 = ((u % 128 + 128 : Nat) : Int) by omega, show (u : Int) / 128 = ((u / 128 : Nat) : Int) by omega]
theorem sPut_ev (x : Int) (hx : (Lit.int .i64 x).wf = true) : Ev (fun k => spec_PutNumber.f k x) (putOf x) := by
 unfold putOf
 by_cases h : isWord x
 · have hz := zz_lt h
   have hl := put_len (zz x) 5 (by omega)
   rw [if_pos h]
   have key := sPut_l (zz x) [] (by omega) (by simp; omega)
   unfold isWord at h
   refine Ev.congr (fun k => ?_) (Ev.step (g := fun k => spec_PutNumber.j0 k [] (zz x : Int)) (fun k => rfl) key)
   simp only [spec_PutNumber.f, in_eq, Option.bind_some, decide_eq_true_eq]
   rw [if_pos h]
   by_cases hn : x < 0
   · rw [if_pos hn, w64 (x := -2 * x) (by omega) (by omega), w64 (by omega) (by omega), show -2 * x - 1 = (zz x : Int) by unfold zz; omega]
   · rw [if_neg hn, w64 (by omega) (by omega), show 2 * x = (zz x : Int) by unfold zz; omega]
 · rw [if_neg h]
   refine ev_some fun k => ?_
   unfold isWord at h
   simp only [spec_PutNumber.f, in_eq, Option.bind_some, decide_eq_true_eq]
   rw [if_neg h]

theorem iPut_l (u : Nat) : ∀ (acc : List Int), u < 4611686018427387904 → acc.length + (put u).length ≤ 1000000 → Ev (fun k => impl_putNumber.l0 k (u : Int) acc) (acc ++ put u) := by
 induction u using Nat.strongRecOn with
 | _ u ih =>
  intro acc hu ha
  by_cases h : u < 128
  · refine ev_now fun k => ?_
    simp only [impl_putNumber.l0]
    rw [if_neg (by omega), if_pos (by omega), put_small h, show ((u : Int)) % 256 = u by omega]
  · rw [put_big (by omega)] at ha ⊢
    refine Ev.step (fun k => ?_) (Ev.congr (fun k => rfl) (ih (u / 128) (by omega) (acc ++ [((u % 128 + 128 : Nat) : Int)]) (by omega) (by simp at ha ⊢; omega))) |> fun h => by simpa using h
    simp only [impl_putNumber.l0]
    rw [if_pos (by omega), if_pos (by omega), Int.tmod_eq_emod_of_nonneg (by omega), Int.tdiv_eq_ediv_of_nonneg (by omega), w64 (x := (u : Int) / 128) (by omega) (by omega), w64 (by omega) (by omega)]
    rw [show ((u : Int) % 128 + 128) % 256 = ((u % 128 + 128 : Nat) : Int) by omega, show (u : Int) / 128 = ((u / 128 : Nat) : Int) by omega]
theorem iPut_ev (x : Int) (h : isWord x) : Ev (fun k => impl_putNumber.f k x) (put (zz x)) := by
 have hz := zz_lt h
 have hl := put_len (zz x) 5 (by omega)
 have key := iPut_l (zz x) [] (by omega) (by simp; omega)
 unfold isWord at h
 refine Ev.congr (fun k => ?_) (Ev.step (g := fun k => impl_putNumber.j0 k (zz x : Int)) (fun k => rfl) key)
 simp only [impl_putNumber.f]
 by_cases hn : x < 0
 · rw [if_pos hn, w64 (x := -2 * x) (by omega) (by omega), w64 (by omega) (by omega), show -2 * x - 1 = (zz x : Int) by unfold zz; omega]
 · rw [if_neg hn, w64 (by omega) (by omega), show 2 * x = (zz x : Int) by unfold zz; omega]

def fldOk (f : Int) : Prop := 0 ≤ f ∧ f < 9
instance fldOk_dec (f : Int) : Decidable (fldOk f) := by unfold fldOk; infer_instance
def fP : List Int := [17, 97, 193, 257, 7681, 12289, 998244353, 469762049, 1004535809]
def fG : List Int := [3, 5, 5, 3, 17, 11, 3, 3, 3]
def fT : List Int := [4, 5, 6, 8, 9, 12, 23, 26, 21]
theorem fld_cases {f : Int} (h : fldOk f) {Q : Int → Prop} (h0 : Q 0) (h1 : Q 1) (h2 : Q 2) (h3 : Q 3) (h4 : Q 4) (h5 : Q 5) (h6 : Q 6) (h7 : Q 7) (h8 : Q 8) : Q f := by
 unfold fldOk at h
 have : f = 0 ∨ f = 1 ∨ f = 2 ∨ f = 3 ∨ f = 4 ∨ f = 5 ∨ f = 6 ∨ f = 7 ∨ f = 8 := by omega
 rcases this with rfl | rfl | rfl | rfl | rfl | rfl | rfl | rfl | rfl <;> assumption

def md (f : Int) : Int := if fldOk f then rd fP f else 0
theorem sMod (f : Int) : spec_Modulus.f f = some (md f) := by
 by_cases h : fldOk f
 · exact fld_cases (Q := fun f => spec_Modulus.f f = some (md f)) h rfl rfl rfl rfl rfl rfl rfl rfl rfl
 · unfold md
   rw [if_neg h]
   unfold fldOk at h
   simp only [spec_Modulus.f]
   rw [if_neg (by omega), if_neg (by omega), if_neg (by omega), if_neg (by omega), if_neg (by omega), if_neg (by omega), if_neg (by omega), if_neg (by omega), if_neg (by omega)]
theorem md_pos {f : Int} (h : fldOk f) : 17 ≤ md f ∧ md f ≤ 1004535809 := fld_cases (Q := fun f => 17 ≤ md f ∧ md f ≤ 1004535809) h (by decide) (by decide) (by decide) (by decide) (by decide) (by decide) (by decide) (by decide) (by decide)
theorem md_zero {f : Int} : md f = 0 ↔ ¬ fldOk f := by
 by_cases h : fldOk f
 · have := md_pos h
   simp [h]; omega
 · simp [md, h]

theorem iFld (f : Int) : impl_fieldOf.f f = some (if fldOk f then (rd fP f, rd fG f, rd fT f, true) else (0, 0, 0, false)) := by
 by_cases h : fldOk f
 · exact fld_cases (Q := fun f => impl_fieldOf.f f = some (if fldOk f then (rd fP f, rd fG f, rd fT f, true) else (0, 0, 0, false))) h rfl rfl rfl rfl rfl rfl rfl rfl rfl
 · rw [if_neg h]
   unfold fldOk at h
   show Go.Proofs.Ytogdhclomgafdaa.Fld.impl_fieldOf.f f = _
   unfold Go.Proofs.Ytogdhclomgafdaa.Fld.impl_fieldOf.f
   by_cases h1 : f < 0
   · rw [if_pos h1]
   · rw [if_neg h1, if_pos (by omega)]

def wordsB (l : List Int) : Bool := decide (l.length ≤ 400) && allF l.length 0 (fun j => decide (isWord (rd l (j : Int))))
theorem wordsB_iff (l : List Int) : wordsB l = true ↔ l.length ≤ 400 ∧ ∀ x ∈ l, isWord x := by
 unfold wordsB
 rw [Bool.and_eq_true, decide_eq_true_eq, allF_iff]
 constructor
 · rintro ⟨h1, h2⟩
   refine ⟨h1, fun x hx => ?_⟩
   obtain ⟨j, hj, rfl⟩ := List.getElem_of_mem hx
   have := h2 j (by omega) (by omega)
   rw [decide_eq_true_eq, rd_eq hj] at this
   exact this
 · rintro ⟨h1, h2⟩
   refine ⟨h1, fun j _ hj => ?_⟩
   rw [decide_eq_true_eq, rd_eq (by omega)]
   exact h2 _ (List.getElem_mem _)

theorem sWords_l (l : List Int) (hn : l.length ≤ 1048576) : ∀ (d i : Nat), l.length - i = d → i ≤ l.length → Ev (fun k => spec_l10Words.l0 k l (i : Int)) (allF d i (fun j => decide (isWord (rd l (j : Int))))) := by
 intro d
 induction d with
 | zero =>
  intro i h hi
  refine ev_now fun k => ?_
  simp only [spec_l10Words.l0]
  rw [if_neg (by omega)]; rfl
 | succ d ih =>
  intro i h hi
  rw [allF]
  by_cases hq : isWord (rd l (i : Int))
  · rw [decide_eq_true hq, Bool.true_and]
    refine Ev.step (fun k => ?_) (ih (i + 1) (by omega) (by omega))
    unfold isWord at hq
    simp only [spec_l10Words.l0, in_eq, Option.bind_some, decide_eq_true_eq]
    rw [if_pos (by omega), if_pos (by omega), if_pos hq, wsucc (by omega)]
  · rw [decide_eq_false hq, Bool.false_and]
    refine ev_now fun k => ?_
    unfold isWord at hq
    simp only [spec_l10Words.l0, in_eq, Option.bind_some, decide_eq_true_eq]
    rw [if_pos (by omega), if_pos (by omega), if_neg hq]
theorem sWords_ev (l : List Int) (hn : l.length ≤ 1048576) : Ev (fun k => spec_l10Words.f k l) (wordsB l) := by
 unfold wordsB
 by_cases h : l.length ≤ 400
 · rw [decide_eq_true h, Bool.true_and]
   refine Ev.congr (fun k => ?_) (sWords_l l hn l.length 0 (by omega) (by omega))
   simp only [spec_l10Words.f]
   rw [if_neg (by omega)]; rfl
 · rw [decide_eq_false h, Bool.false_and]
   refine ev_some fun k => ?_
   simp only [spec_l10Words.f]
   rw [if_pos (by omega)]

theorem iWords_l (l : List Int) (hn : l.length ≤ 1048576) : ∀ (d i : Nat), l.length - i = d → i ≤ l.length → Ev (fun k => impl_areWords.l0 k l l (l.length : Int) (i : Int)) (decide (l.length ≤ 400) && allF d i (fun j => decide (isWord (rd l (j : Int))))) := by
 intro d
 induction d with
 | zero =>
  intro i h hi
  refine ev_now fun k => ?_
  simp only [impl_areWords.l0]
  rw [if_neg (by omega), allF, Bool.and_true]
  exact congrArg some (decide_eq_decide.2 (by omega))
 | succ d ih =>
  intro i h hi
  rw [allF]
  by_cases hq : isWord (rd l (i : Int))
  · rw [decide_eq_true hq, Bool.true_and]
    refine Ev.step (fun k => ?_) (ih (i + 1) (by omega) (by omega))
    unfold isWord at hq
    simp only [impl_areWords.l0]
    rw [if_pos (by omega), if_pos (by omega), if_pos (by omega), if_neg (by omega), if_neg (by omega), wsucc (by omega)]
  · rw [decide_eq_false hq, Bool.false_and, Bool.and_false]
    refine ev_now fun k => ?_
    unfold isWord at hq
    simp only [impl_areWords.l0]
    rw [if_pos (by omega), if_pos (by omega), if_pos (by omega)]
    by_cases h1 : rd l (i : Int) < -1099511627776
    · rw [if_pos h1]
    · rw [if_neg h1, if_pos (by omega)]
theorem iWords_ev (l : List Int) (hn : l.length ≤ 1048576) : Ev (fun k => impl_areWords.f k l) (wordsB l) := by
 refine Ev.congr (fun k => ?_) (iWords_l l hn l.length 0 (by omega) (by omega))
 simp [impl_areWords.f]

theorem sHas_l (l : List Int) (x : Int) (hn : l.length ≤ 1048576) : ∀ (d i : Nat), l.length - i = d → i ≤ l.length → Ev (fun k => spec_l01Has.l0 k l x (i : Int)) (decide (x ∈ l.drop i)) := by
 intro d
 induction d with
 | zero =>
  intro i h hi
  refine ev_now fun k => ?_
  simp only [spec_l01Has.l0]
  rw [if_neg (by omega), List.drop_eq_nil_of_le (by omega)]
  simp
 | succ d ih =>
  intro i h hi
  rw [List.drop_eq_getElem_cons (show i < l.length by omega)]
  by_cases hq : rd l (i : Int) = x
  · refine ev_now fun k => ?_
    simp only [spec_l01Has.l0]
    rw [if_pos (by omega), if_pos (by omega), if_pos hq]
    rw [rd_eq (by omega)] at hq
    simp [hq]
  · have hne : ¬ x = l[i]'(by omega) := fun e => hq (by rw [rd_eq (by omega)]; exact e.symm)
    have := ih (i + 1) (by omega) (by omega)
    simp only [List.mem_cons, hne, false_or]
    refine Ev.step (fun k => ?_) this
    simp only [spec_l01Has.l0]
    rw [if_pos (by omega), if_pos (by omega), if_neg hq, wsucc (by omega)]
theorem sHas_ev (l : List Int) (x : Int) (hn : l.length ≤ 1048576) : Ev (fun k => spec_l01Has.f k l x) (decide (x ∈ l)) := by
 refine Ev.congr (fun k => ?_) (by simpa using sHas_l l x hn l.length 0 (by omega) (by omega))
 simp [spec_l01Has.f]

def jobHead (kind f : Int) : Prop := 1 ≤ kind ∧ kind ≤ 11 ∧ fldOk f ∧ (kind = 6 → f = 0)
instance jobHead_dec (kind f : Int) : Decidable (jobHead kind f) := by unfold jobHead; infer_instance
def jobTail (kind : Int) (B : List Int) (n : Int) : Prop := 0 ≤ n ∧ n ≤ 400 ∧ ((kind = 1 ∨ kind = 2 ∨ kind = 7) → B.length = 0) ∧ (kind ≠ 11 → n = 0)
instance jobTail_dec (kind : Int) (B : List Int) (n : Int) : Decidable (jobTail kind B n) := by unfold jobTail; infer_instance
def jobB (kind f : Int) (A B : List Int) (n : Int) : Bool := decide (jobHead kind f) && (wordsB A && (wordsB B && decide (jobTail kind B n)))

theorem sJob_t (kind f : Int) (A B : List Int) (n : Int) (hA : A.length ≤ 1048576) (hB : B.length ≤ 1048576) (h0 : jobHead kind f) : Ev (fun k => spec_JobOk.j0 k false kind f A B n) (wordsB A && (wordsB B && decide (jobTail kind B n))) := by
 obtain ⟨m, h1, h2, h3⟩ := evs3 (sWords_ev A hA) (sWords_ev B hB) (sHas_ev [3, 4, 5, 6, 8, 9, 10, 11] kind (by simp))
 refine ⟨m + 1, fun k hk => ?_⟩
 obtain ⟨j, rfl⟩ : ∃ j, k = m + j + 1 := ⟨k - m - 1, by omega⟩
 simp only [spec_JobOk.j0, spec_l10UsesB.f, h1, h2, h3, in_eq, Option.bind_some, Bool.false_eq_true, if_false, decide_eq_true_eq]
 cases hwA : wordsB A with
 | false => simp
 | true =>
  cases hwB : wordsB B with
  | false => simp
  | true =>
   simp only [if_true, Bool.true_and, List.mem_cons, List.not_mem_nil, or_false]
   unfold jobHead at h0
   by_cases hn : 0 ≤ n ∧ n ≤ 400
   · rw [if_pos hn]
     by_cases hu : kind = 1 ∨ kind = 2 ∨ kind = 7
     · rw [if_neg (by omega)]
       by_cases hl : B.length = 0
       · rw [if_pos (by omega), if_neg (by omega)]
         exact congrArg some (by rw [Bool.eq_iff_iff, beq_iff_eq, decide_eq_true_eq]; unfold jobTail; omega)
       · rw [if_neg (by omega), decide_eq_false (by unfold jobTail; omega)]
     · rw [if_pos (by omega)]
       by_cases he : kind = 11
       · rw [if_pos he, decide_eq_true (by unfold jobTail; omega)]
       · rw [if_neg he]
         exact congrArg some (by rw [Bool.eq_iff_iff, beq_iff_eq, decide_eq_true_eq]; unfold jobTail; omega)
   · rw [if_neg hn, decide_eq_false (by unfold jobTail; omega)]
theorem sJob_ev (kind f : Int) (A B : List Int) (n : Int) (hA : A.length ≤ 1048576) (hB : B.length ≤ 1048576) : Ev (fun k => spec_JobOk.f k kind f A B n) (jobB kind f A B n) := by
 unfold jobB
 by_cases h0 : jobHead kind f
 · rw [decide_eq_true h0, Bool.true_and]
   refine Ev.congr (fun k => ?_) (sJob_t kind f A B n hA hB h0)
   have h1 := h0
   unfold jobHead at h1
   simp only [spec_JobOk.f, in_eq, sMod, Option.bind_some, decide_eq_true_eq, md_zero]
   rw [if_pos (by omega), if_neg (fun hh => hh h1.2.2.1)]
   by_cases h6 : kind = 6
   · rw [if_pos h6, h1.2.2.2 h6]; rfl
   · rw [if_neg h6]
 · rw [decide_eq_false h0, Bool.false_and]
   have key : Ev (fun k => spec_JobOk.j0 k true kind f A B n) false := ev_now fun k => by simp [spec_JobOk.j0]
   refine Ev.congr (fun k => ?_) key
   simp only [spec_JobOk.f, in_eq, sMod, Option.bind_some, decide_eq_true_eq, md_zero]
   by_cases h1 : 1 ≤ kind ∧ kind ≤ 11
   · rw [if_pos h1]
     by_cases h2 : fldOk f
     · rw [if_neg (fun hh => hh h2)]
       have h6 : kind = 6 ∧ f ≠ 0 := Classical.byContradiction fun hh => h0 ⟨h1.1, h1.2, h2, fun e => Classical.byContradiction fun hf => hh ⟨e, hf⟩⟩
       rw [if_pos h6.1, bne_iff_ne.2 h6.2]
     · rw [if_pos h2]
   · rw [if_neg h1]

theorem iJob_t (kind f : Int) (A B : List Int) (n : Int) (hA : A.length ≤ 1048576) (hB : B.length ≤ 1048576) (h0 : jobHead kind f) : Ev (fun k => impl_isJob.j0 k false kind f A B n) (wordsB A && (wordsB B && decide (jobTail kind B n))) := by
 obtain ⟨m, h1, h2⟩ := evs2 (iWords_ev A hA) (iWords_ev B hB)
 refine ⟨m + 1, fun k hk => ?_⟩
 obtain ⟨j, rfl⟩ : ∃ j, k = m + j + 1 := ⟨k - m - 1, by omega⟩
 have hu : impl_usesB.f kind = some (decide (¬ (kind = 1 ∨ kind = 2 ∨ kind = 7))) := by
  simp only [impl_usesB.f]
  by_cases k1 : kind = 1
  · rw [if_pos k1, decide_eq_false (by omega)]
  · rw [if_neg k1]
    by_cases k2 : kind = 2
    · rw [if_pos k2, decide_eq_false (by omega)]
    · rw [if_neg k2]
      exact congrArg some (by rw [Bool.eq_iff_iff, bne_iff_ne, decide_eq_true_eq]; omega)
 simp only [impl_isJob.j0, h1, h2, hu, Option.bind_some, Bool.false_eq_true, if_false, decide_eq_true_eq]
 cases hwA : wordsB A with
 | false => simp
 | true =>
  cases hwB : wordsB B with
  | false => simp
  | true =>
   simp only [if_true, Bool.true_and]
   unfold jobHead at h0
   by_cases hn : n < 0
   · rw [if_pos hn, decide_eq_false (by unfold jobTail; omega)]
   · rw [if_neg hn]
     by_cases hn2 : n > 400
     · rw [if_pos hn2, decide_eq_false (by unfold jobTail; omega)]
     · rw [if_neg hn2]
       by_cases hu : kind = 1 ∨ kind = 2 ∨ kind = 7
       · rw [if_neg (by omega)]
         by_cases hl : B.length = 0
         · rw [if_pos (by omega), if_neg (by omega)]
           exact congrArg some (by rw [Bool.eq_iff_iff, beq_iff_eq, decide_eq_true_eq]; unfold jobTail; omega)
         · rw [if_neg (by omega), decide_eq_false (by unfold jobTail; omega)]
       · rw [if_pos (by omega)]
         by_cases he : kind = 11
         · rw [if_pos he, decide_eq_true (by unfold jobTail; omega)]
         · rw [if_neg he]
           exact congrArg some (by rw [Bool.eq_iff_iff, beq_iff_eq, decide_eq_true_eq]; unfold jobTail; omega)
theorem iJob_ev (kind f : Int) (A B : List Int) (n : Int) (hA : A.length ≤ 1048576) (hB : B.length ≤ 1048576) : Ev (fun k => impl_isJob.f k kind f A B n) (jobB kind f A B n) := by
 unfold jobB
 by_cases h0 : jobHead kind f
 · rw [decide_eq_true h0, Bool.true_and]
   refine Ev.congr (fun k => ?_) (iJob_t kind f A B n hA hB h0)
   have h1 := h0
   unfold jobHead at h1
   simp only [impl_isJob.f, iFld, if_pos h1.2.2.1, Option.bind_some, if_true]
   rw [if_neg (by omega), if_neg (by omega)]
   by_cases h6 : kind = 6
   · rw [if_pos h6, h1.2.2.2 h6]; rfl
   · rw [if_neg h6]
 · rw [decide_eq_false h0, Bool.false_and]
   have key : Ev (fun k => impl_isJob.j0 k true kind f A B n) false := ev_now fun k => by simp [impl_isJob.j0]
   refine Ev.congr (fun k => ?_) key
   simp only [impl_isJob.f, iFld, Option.bind_some]
   by_cases h2 : fldOk f
   · simp only [if_pos h2, if_true]
     by_cases h1 : kind < 1
     · rw [if_pos h1]
     · rw [if_neg h1]
       by_cases h3 : kind > 11
       · rw [if_pos h3]
       · have h6 : kind = 6 ∧ f ≠ 0 := Classical.byContradiction fun hh => h0 ⟨by omega, by omega, h2, fun e => Classical.byContradiction fun hf => hh ⟨e, hf⟩⟩
         rw [if_neg h3, if_pos h6.1, bne_iff_ne.2 h6.2]
   · simp only [if_neg h2, Bool.false_eq_true, if_false]

theorem md_range {f : Int} (h : fldOk f) (x : Int) : 0 ≤ x % md f ∧ x % md f < md f := by
 have hm := md_pos h
 exact ⟨Int.emod_nonneg _ (by omega), Int.emod_lt_of_pos _ (by omega)⟩

theorem sReduce (f x : Int) : spec_Reduce.f f x = some (if fldOk f then x % md f else -1) := by
 simp only [spec_Reduce.f, sMod, Option.bind_some, md_zero]
 by_cases h : fldOk f
 · have hm := md_pos h
   have hb := tmod_bounds (x := x) (p := md f) (by omega)
   rw [if_neg (fun hh => hh h), if_pos h]
   by_cases hn : Int.tmod x (md f) < 0
   · rw [if_pos hn, w64 (by omega) (by omega), red_lt (by omega) hn]
   · rw [if_neg hn, red_ge (by omega) hn]
 · rw [if_pos h, if_neg h]

theorem sMul (f a b : Int) : spec_Mul.f f a b = some (if fldOk f then a * b % md f else -1) := by
 simp only [spec_Mul.f, sMod, sReduce, Option.bind_some, md_zero]
 by_cases h : fldOk f
 · have hm := md_pos h
   have ha := md_range h a
   have hb := md_range h b
   have h0 : 0 ≤ (a % md f) * (b % md f) := Int.mul_nonneg ha.1 hb.1
   have h1 : (a % md f) * (b % md f) ≤ 2147483648 * 2147483648 := Int.mul_le_mul (by omega) (by omega) hb.1 (by omega)
   simp only [h, not_true_eq_false, if_true, if_false]
   rw [w64 (by omega) (by omega), ← Int.mul_emod]
 · simp only [h, not_false_eq_true, if_true, if_false]

theorem sPow_l {p : Int} (hp : 2 ≤ p) (hp2 : p ≤ 2147483648) (e : Nat) : ∀ (a out : Int), e < 4611686018427387904 → 0 ≤ a → a < p → 0 ≤ out → out < p →
 Ev (fun k => spec_Power.l0 k p a (e : Int) out) (out * a ^ e % p) := by
 induction e using Nat.strongRecOn with
 | _ e ih =>
  intro a out he ha ha' ho ho'
  by_cases h0 : e = 0
  · subst h0
    refine ev_now fun k => ?_
    simp only [spec_Power.l0]
    rw [if_neg (by omega), show a ^ 0 = 1 by grind, Int.mul_one, Int.emod_eq_of_lt ho ho']
  · have m0 : ∀ z : Int, 0 ≤ z % p := fun z => Int.emod_nonneg _ (by omega)
    have m1 : ∀ z : Int, z % p < p := fun z => Int.emod_lt_of_pos _ (by omega)
    have ht : Int.tmod (e : Int) 2 = ((e % 2 : Nat) : Int) := by rw [Int.tmod_eq_emod_of_nonneg (by omega)]; omega
    have hd : wrap64 (Int.tdiv (e : Int) 2) = ((e / 2 : Nat) : Int) := by rw [Int.tdiv_eq_ediv_of_nonneg (by omega), w64 (by omega) (by omega)]; omega
    have q0 : ∀ x y : Int, 0 ≤ x → x < p → 0 ≤ y → y < p → Int.tmod (wrap64 (x * y)) p = x * y % p := fun x y hx hx' hy hy' => by
     have h0 : 0 ≤ x * y := Int.mul_nonneg hx hy
     have h1 : x * y ≤ 2147483648 * 2147483648 := Int.mul_le_mul (by omega) (by omega) hy (by omega)
     rw [w64 (by omega) (by omega), Int.tmod_eq_emod_of_nonneg h0]
    by_cases h1 : e % 2 = 1
    · rw [← pw_odd h1]
      refine Ev.step (fun k => ?_) (ih (e / 2) (by omega) (a * a % p) (out * a % p) (by omega) (m0 _) (m1 _) (m0 _) (m1 _))
      simp only [spec_Power.l0, ht, hd, q0 out a ho ho' ha ha', q0 a a ha ha' ha ha']
      rw [if_pos (by omega), if_pos (by omega), if_neg (by omega)]
    · rw [← pw_even h1]
      refine Ev.step (fun k => ?_) (ih (e / 2) (by omega) (a * a % p) out (by omega) (m0 _) (m1 _) ho ho')
      simp only [spec_Power.l0, ht, hd, q0 a a ha ha' ha ha']
      rw [if_pos (by omega), if_neg (by omega), if_neg (by omega)]
def expOf (p e : Int) : Nat := (e % (p - 1)).toNat
theorem sPow_ev {f : Int} (h : fldOk f) (a e : Int) (hx : a % md f ≠ 0) : Ev (fun k => spec_Power.f k f a e) ((a % md f) ^ expOf (md f) e % md f) := by
 have hm := md_pos h
 have ha := md_range h a
 have hb := tmod_bounds (x := e) (p := md f - 1) (by omega)
 have he : 0 ≤ e % (md f - 1) ∧ e % (md f - 1) < md f - 1 := ⟨Int.emod_nonneg _ (by omega), Int.emod_lt_of_pos _ (by omega)⟩
 have key := sPow_l (p := md f) (by omega) (by omega) (expOf (md f) e) (a % md f) 1 (by unfold expOf; omega) ha.1 ha.2 (by omega) (by omega)
 rw [Int.one_mul, show ((expOf (md f) e : Nat) : Int) = e % (md f - 1) by unfold expOf; omega] at key
 refine Ev.congr (fun k => ?_) (Ev.step (g := fun k => spec_Power.j0 k (md f) (a % md f) (e % (md f - 1))) (fun k => rfl) key)
 simp only [spec_Power.f, sMod, sReduce, Option.bind_some, md_zero]
 rw [if_neg (fun hh => hh h), if_pos h, if_neg hx, w64 (x := md f - 1) (by omega) (by omega), if_neg (by omega)]
 by_cases hn : Int.tmod e (md f - 1) < 0
 · rw [if_pos hn, w64 (x := Int.tmod e (md f - 1) + md f) (by omega) (by omega), w64 (by omega) (by omega), ← red_lt (by omega) hn, show Int.tmod e (md f - 1) + md f - 1 = Int.tmod e (md f - 1) + (md f - 1) by omega]
 · rw [if_neg hn, red_ge (by omega) hn]

def elemB (p : Int) (l : List Int) : Bool := allF l.length 0 (fun j => decide (0 ≤ rd l (j : Int) ∧ rd l (j : Int) < p))
theorem elemB_iff (p : Int) (l : List Int) : elemB p l = true ↔ ∀ x ∈ l, 0 ≤ x ∧ x < p := by
 unfold elemB
 rw [allF_iff]
 constructor
 · intro h x hx
   obtain ⟨j, hj, rfl⟩ := List.getElem_of_mem hx
   have := h j (by omega) (by omega)
   rw [decide_eq_true_eq, rd_eq hj] at this
   exact this
 · intro h j _ hj
   rw [decide_eq_true_eq, rd_eq (by omega)]
   exact h _ (List.getElem_mem _)

def dAt (l : List Int) (i : Int) : Prop := 0 ≤ i ∧ i ≤ l.length
theorem drawByte (l : List Int) (hn : l.length ≤ 140737488355328) (i h : Int) (hi : dAt l i) : ∃ b i' h', spec_l01Byte.f l i h = some (b, i', h') ∧ (0 ≤ b ∧ b ≤ 255) ∧ dAt l i' := by
 unfold dAt at hi ⊢
 simp only [spec_l01Byte.f]
 by_cases hl : i < (l.length : Int)
 · rw [if_pos hl, if_pos hi.1]
   exact ⟨_, _, _, rfl, bits_and _ 255 (by decide), by rw [w64 (by omega) (by omega)]; omega⟩
 · rw [if_neg hl]
   exact ⟨_, _, _, rfl, bits_and _ 255 (by decide), hi⟩

theorem drawBelow (l : List Int) (hn : l.length ≤ 140737488355328) (i h : Int) (hi : dAt l i) (m : Int) : ∃ b i' h', spec_l01Below.f l i h m = some (b, i', h') ∧ (0 ≤ b ∧ (b < m ∨ b = 0)) ∧ dAt l i' := by
 simp only [spec_l01Below.f]
 by_cases h0 : m ≤ 0
 · rw [if_pos h0]
   exact ⟨_, _, _, rfl, by omega, hi⟩
 · rw [if_neg h0]
   obtain ⟨b1, i1, h1, e1, r1, d1⟩ := drawByte l hn i h hi
   rw [e1]
   by_cases hm : m ≤ 256
   · rw [if_pos hm, Option.bind_some, if_neg (by omega)]
     refine ⟨_, _, _, rfl, ?_, d1⟩
     simp only
     rw [Int.tmod_eq_emod_of_nonneg (by omega)]
     exact ⟨Int.emod_nonneg _ (by omega), Or.inl (Int.emod_lt_of_pos _ (by omega))⟩
   · rw [if_neg hm, Option.bind_some]
     obtain ⟨b2, i2, h2, e2, r2, d2⟩ := drawByte l hn i1 h1 d1
     rw [e2, Option.bind_some]
     obtain ⟨b3, i3, h3, e3, r3, d3⟩ := drawByte l hn i2 h2 d2
     rw [e3, Option.bind_some, if_neg (by omega)]
     refine ⟨_, _, _, rfl, ?_, d3⟩
     simp only
     rw [w64 (x := b1 * 65536) (by omega) (by omega), w64 (x := b2 * 256) (by omega) (by omega), w64 (x := b1 * 65536 + b2 * 256) (by omega) (by omega), w64 (by omega) (by omega), Int.tmod_eq_emod_of_nonneg (by omega)]
     exact ⟨Int.emod_nonneg _ (by omega), Or.inl (Int.emod_lt_of_pos _ (by omega))⟩

theorem drawPickInt (l : List Int) (hn : l.length ≤ 140737488355328) (i h : Int) (hi : dAt l i) (xs : List Int) (hx : 0 < xs.length) : ∃ b i' h', spec_l01PickInt.f l i h xs = some (b, i', h') ∧ b ∈ xs ∧ dAt l i' := by
 simp only [spec_l01PickInt.f]
 obtain ⟨b1, i1, h1, e1, r1, d1⟩ := drawBelow l hn i h hi (xs.length : Int)
 rw [e1, Option.bind_some, if_pos r1.1, if_pos (by simp only; omega)]
 refine ⟨_, _, _, rfl, ?_, d1⟩
 simp only
 rw [show b1 = ((b1.toNat : Nat) : Int) by omega]
 exact rd_mem (by omega)

theorem drawNew_l (l : List Int) (hn : l.length ≤ 140737488355328) : ∀ (d i : Nat) (h : Int), 4000 - i = d → ∃ h', Ev (fun k => spec_l01New.l0 k l h (i : Int)) (l, 0, h') := by
 intro d
 induction d with
 | zero =>
  intro i h hd
  refine ⟨h, ev_now fun k => ?_⟩
  simp only [spec_l01New.l0]
  split
  · rw [if_neg (by omega)]
  · rfl
 | succ d ih =>
  intro i h hd
  by_cases hl : (i : Int) < (l.length : Int)
  · obtain ⟨h', e⟩ := ih (i + 1) (Go.bits .and .i64 (wrap64 ((wrap64 ((wrap64 (h * 149)) + (wrap64 (rd l i)))) + 11)) 1073741823) (by omega)
    refine ⟨h', Ev.step (fun k => ?_) e⟩
    simp only [spec_l01New.l0]
    rw [if_pos hl, if_pos (by omega), if_pos (by omega), wsucc (by omega)]
  · refine ⟨h, ev_now fun k => ?_⟩
    simp only [spec_l01New.l0]
    rw [if_neg hl]
theorem drawNew (l : List Int) (hn : l.length ≤ 140737488355328) : ∃ h', Ev (fun k => spec_l01New.f k l) (l, 0, h') := by
 obtain ⟨h', e⟩ := drawNew_l l hn 4000 0 (wrap64 (710710 + (l.length : Int))) (by omega)
 exact ⟨h', Ev.congr (fun k => rfl) e⟩
theorem dAt0 (l : List Int) : dAt l 0 := by unfold dAt; omega

theorem cpBytes_l (l : List Int) (hn : l.length < 140737488355328) : ∀ (d i : Nat), l.length - i = d → i ≤ l.length →
 Ev (fun k => laws_cpBytes.l0 k l (l.take i) (i : Int)) l := by
 intro d
 induction d with
 | zero =>
  intro i h hi
  refine ev_now fun k => ?_
  simp only [laws_cpBytes.l0]
  rw [if_neg (by omega), List.take_of_length_le (by omega)]
 | succ d ih =>
  intro i h hi
  refine Ev.step (fun k => ?_) (ih (i + 1) (by omega) (by omega))
  simp only [laws_cpBytes.l0]
  rw [if_pos (by omega), if_pos (by omega), if_pos (by simp; omega), wsucc (by omega), rd_eq (by omega), List.take_append_getElem (by omega)]
theorem cpBytes_ev (l : List Int) (hn : l.length < 140737488355328) : Ev (fun k => laws_cpBytes.f k l) l :=
 Ev.congr (fun k => rfl) (cpBytes_l l hn l.length 0 (by omega) (by omega))

theorem iTake_l (l : List Int) (hn : l.length ≤ 140737488355328) (hb : isB l) (p : Nat) (hp : p ≤ 4611686018427387904) : ∀ (d k u : Nat), k + d = 7 → u < 128 ^ k →
 Ev (fun n => impl_takeNumber.l0 n l (p : Int) (u : Int) (k : Int)) (tkR p (tkL d (l.drop (p + k)) k u)) := by
 intro d
 induction d with
 | zero =>
  intro k u hk hu
  refine ⟨2, fun n hn' => ?_⟩
  obtain ⟨n, rfl⟩ : ∃ m, n = m + 2 := ⟨n - 2, by omega⟩
  simp only [impl_takeNumber.l0, impl_takeNumber.j1]
  rw [if_neg (by omega), if_neg (by decide)]
  rfl
 | succ d ih =>
  intro k u hk hu
  have h42 : 128 ^ k ≤ 4398046511104 := Nat.pow_le_pow_right (n := 128) (i := k) (j := 6) (by omega) (by omega)
  have hB : ∀ c : Nat, c < 128 → Go.bits .or .i64 (u : Int) (shl .i64 (c : Int) ((7 * k : Nat) : Int)) = ((128 ^ k * c + u : Nat) : Int) := by
   intro c hc
   have e7 : 128 ^ k = 2 ^ (7 * k) := by rw [Nat.pow_mul]
   rw [e7]
   exact bits_or u c (7 * k) (by omega) (by rw [← e7]; exact hu) hc
  have hI : ∀ c, c < 128 → 128 ^ k * c + u < 128 ^ (k + 1) := by
   intro c hc
   rw [Nat.pow_succ]
   have := Nat.mul_le_mul (Nat.le_refl (128 ^ k)) (show c ≤ 127 by omega)
   omega
  have hJ : ∀ c, c < 128 → 128 ^ k * c + u ≤ 562949953421312 := by
   intro c hc
   have := Nat.mul_le_mul (Nat.le_refl (128 ^ k)) (show c ≤ 127 by omega)
   omega
  clear h42 hu
  by_cases hl : p + k < l.length
  · have hc := isB_at hb hl
    rw [List.drop_eq_getElem_cons hl]
    obtain ⟨c, hce⟩ : ∃ c : Nat, l[p + k] = (c : Int) := ⟨l[p + k].toNat, by omega⟩
    rw [hce] at hc ⊢
    have h1 : wrap64 ((p : Int) + (k : Int)) = ((p + k : Nat) : Int) := by rw [w64 (by omega) (by omega)]; omega
    have h2 : wrap64 (7 * (k : Int)) = ((7 * k : Nat) : Int) := by rw [w64 (by omega) (by omega)]; omega
    have h3 : rd l ((p + k : Nat) : Int) = (c : Int) := by rw [rd_eq hl, hce]
    have h4 : wrap64 (c : Int) = (c : Int) := w64 (by omega) (by omega)
    have h5 : Int.tmod (c : Int) 128 = ((c % 128 : Nat) : Int) := by rw [Int.tmod_eq_emod_of_nonneg (by omega)]; omega
    have h6 := hB (c % 128) (by omega)
    have hv1 := hI (c % 128) (by omega)
    have hv2 := hJ (c % 128) (by omega)
    clear hB hI hJ
    obtain ⟨v, hv⟩ : ∃ v, v = 128 ^ k * (c % 128) + u := ⟨_, rfl⟩
    rw [← hv] at h6 hv1 hv2
    have h8 : (k : Int) < 7 := by omega
    have h9 : ((p + k : Nat) : Int) < (l.length : Int) := by omega
    have h10 : 0 ≤ ((p + k : Nat) : Int) := by omega
    have h11 : 0 ≤ ((7 * k : Nat) : Int) := by omega
    by_cases hbig : 128 ≤ (c : Int)
    · have key := ih (k + 1) v (by omega) hv1
      have et : tkL (d + 1) ((c : Int) :: l.drop (p + k + 1)) k u = tkL d (l.drop (p + (k + 1))) (k + 1) v := by
       simp only [tkL]
       rw [if_pos hbig, Int.toNat_natCast, ← hv]
       rfl
      rw [et]
      refine Ev.step (f := fun n => impl_takeNumber.j1 n l p u k true) (fun n => ?_) (Ev.step (fun n => ?_) key)
      · simp only [impl_takeNumber.l0, h1, h8, h9, decide_true, if_true]
      · simp only [impl_takeNumber.j1, h1, h2, h3, h4, h5, h6, h9, h10, h11, if_true, wsucc (show k < 9223372036854775807 by omega)]
        rw [if_pos hbig]
    · refine Ev.step (f := fun n => impl_takeNumber.j1 n l p u k true) (fun n => ?_) (ev_now fun n => ?_)
      · simp only [impl_takeNumber.l0, h1, h8, h9, decide_true, if_true]
      · simp only [impl_takeNumber.j1, h1, h2, h3, h4, h5, h6, h9, h10, h11, if_true]
        rw [if_neg hbig]
        simp only [tkL]
        rw [if_neg hbig, Int.toNat_natCast, ← hv]
        clear h1 h2 h3 h4 h5 h6 hv hv1 hbig hb ih hce
        have q0 : ((k : Int) > 0) = (0 < k) := by simp
        have q5 : isWord (unzz v) = (¬ unzz v < -1099511627776 ∧ ¬ unzz v > 1099511627776) := by unfold isWord; apply propext; omega
        simp only [q5]
        have g1 : wrap64 ((v : Int) + 1) = ((v + 1 : Nat) : Int) := wsucc (by omega)
        have g2 : wrap64 (((p + k : Nat) : Int) + 1) = ((p + (k + 1) : Nat) : Int) := by rw [w64 (by omega) (by omega)]; omega
        by_cases hodd : v % 2 = 1
        · have g3 : wrap64 (Int.tdiv (wrap64 (-((v + 1 : Nat) : Int))) 2) = unzz v := by
           unfold unzz
           rw [if_pos hodd, w64 (x := -((v + 1 : Nat) : Int)) (by omega) (by omega), Int.neg_tdiv, Int.tdiv_eq_ediv_of_nonneg (by omega), w64 (by omega) (by omega)]
           omega
          have g4 : Int.tmod (v : Int) 2 = 1 := by rw [Int.tmod_eq_emod_of_nonneg (by omega)]; omega
          simp only [g1, g2, g3, g4, q0, if_true]
          clear q0 q5 g1 g2 g3 g4
          by_cases q1 : (c : Int) = 0 <;> by_cases q2 : 0 < k <;> by_cases q3 : unzz v < -1099511627776 <;> by_cases q4 : unzz v > 1099511627776 <;> simp only [q1, q2, q3, q4, if_true, if_false, and_true, and_false, false_and, true_and, not_true, not_false_iff, tkR]
        · have g3 : wrap64 (Int.tdiv (v : Int) 2) = unzz v := by
           unfold unzz
           rw [if_neg hodd, Int.tdiv_eq_ediv_of_nonneg (by omega), w64 (by omega) (by omega)]
           omega
          have g4 : ¬ Int.tmod (v : Int) 2 = 1 := by rw [Int.tmod_eq_emod_of_nonneg (by omega)]; omega
          simp only [g2, g3, g4, q0, if_false]
          clear q0 q5 g1 g2 g3 g4
          by_cases q1 : (c : Int) = 0 <;> by_cases q2 : 0 < k <;> by_cases q3 : unzz v < -1099511627776 <;> by_cases q4 : unzz v > 1099511627776 <;> simp only [q1, q2, q3, q4, if_true, if_false, and_true, and_false, false_and, true_and, not_true, not_false_iff, tkR]
  · rw [List.drop_eq_nil_of_le (by omega)]
    have h1 : ¬ wrap64 ((p : Int) + (k : Int)) < (l.length : Int) := by rw [w64 (by omega) (by omega)]; omega
    refine ⟨2, fun n hn' => ?_⟩
    obtain ⟨n, rfl⟩ : ∃ m, n = m + 2 := ⟨n - 2, by omega⟩
    simp only [impl_takeNumber.l0, impl_takeNumber.j1, h1, decide_false]
    rw [if_pos (by omega), if_neg (by decide)]
    rfl
def takeAt (l : List Int) (p : Nat) : Int × Int × Bool := tkR p (tkL 7 (l.drop p) 0 0)
theorem iTake_ev (l : List Int) (hn : l.length ≤ 140737488355328) (hb : isB l) (p : Nat) (hp : p ≤ 4611686018427387904) : Ev (fun n => impl_takeNumber.f n l (p : Int)) (takeAt l p) := by
 refine Ev.congr (fun n => ?_) (iTake_l l hn hb p hp 7 0 0 (by omega) (by omega))
 simp only [impl_takeNumber.f]
 rw [if_neg (by omega)]
 rfl

theorem sBytes_l (l : List Int) (hn : l.length < 140737488355328) : ∀ (d i : Nat), l.length - i = d → i ≤ l.length →
 Ev (fun k => spec_l01Bytes.l0 k l (l.take i) (i : Int)) l := by
 intro d
 induction d with
 | zero =>
  intro i h hi
  refine ev_now fun k => ?_
  simp only [spec_l01Bytes.l0]
  rw [if_neg (by omega), List.take_of_length_le (by omega)]
 | succ d ih =>
  intro i h hi
  refine Ev.step (fun k => ?_) (ih (i + 1) (by omega) (by omega))
  simp only [spec_l01Bytes.l0]
  rw [if_pos (by omega), if_pos (by omega), if_pos (by simp; omega), wsucc (by omega), rd_eq (by omega), List.take_append_getElem (by omega)]
theorem sBytes_ev (l : List Int) (hn : l.length < 140737488355328) : Ev (fun k => spec_l01Bytes.f k l) l :=
 Ev.congr (fun k => rfl) (sBytes_l l hn l.length 0 (by omega) (by omega))

theorem sElem_l (p : Int) (hp : 2 ≤ p) (hp2 : p ≤ 2147483648) (l : List Int) (hn : l.length ≤ 1048576) : ∀ (d i : Nat), l.length - i = d → i ≤ l.length → Ev (fun k => spec_l03Elements.l0 k l p (i : Int)) (allF d i (fun j => decide (0 ≤ rd l (j : Int) ∧ rd l (j : Int) < p))) := by
 intro d
 induction d with
 | zero =>
  intro i h hi
  refine ev_now fun k => ?_
  simp only [spec_l03Elements.l0]
  rw [if_neg (by omega)]; rfl
 | succ d ih =>
  intro i h hi
  rw [allF]
  have hw : wrap64 (p - 1) = p - 1 := w64 (by omega) (by omega)
  by_cases hq : 0 ≤ rd l (i : Int) ∧ rd l (i : Int) < p
  · rw [decide_eq_true hq, Bool.true_and]
    refine Ev.step (fun k => ?_) (ih (i + 1) (by omega) (by omega))
    simp only [spec_l03Elements.l0, in_eq, hw, Option.bind_some, decide_eq_true_eq]
    rw [if_pos (by omega), if_pos (by omega), if_pos (by omega), wsucc (by omega)]
  · rw [decide_eq_false hq, Bool.false_and]
    refine ev_now fun k => ?_
    simp only [spec_l03Elements.l0, in_eq, hw, Option.bind_some, decide_eq_true_eq]
    rw [if_pos (by omega), if_pos (by omega), if_neg (by omega)]
theorem sElem_ev {f : Int} (h : fldOk f) (l : List Int) (hn : l.length ≤ 1048576) : Ev (fun k => spec_l03Elements.f k f l) (elemB (md f) l) := by
 have hm := md_pos h
 refine Ev.congr (fun k => ?_) (sElem_l (md f) (by omega) (by omega) l hn l.length 0 (by omega) (by omega))
 simp only [spec_l03Elements.f, sMod, Option.bind_some]
 rw [if_neg (by omega)]
 rfl

theorem sAdd (f a b : Int) : spec_Add.f f a b = some (if fldOk f then (a + b) % md f else -1) := by
 simp only [spec_Add.f, sMod, sReduce, Option.bind_some, md_zero]
 by_cases h : fldOk f
 · have hm := md_pos h
   have ha := md_range h a
   have hb := md_range h b
   rw [if_neg (fun hh => hh h), if_pos h, if_pos h, if_pos h, if_pos h, w64 (by omega) (by omega)]
   exact congrArg some (Md.emod (Md.add (Md.mod _ _) (Md.mod _ _)))
 · rw [if_pos h, if_neg h]

theorem sCopy_l (l : List Int) (hn : l.length < 17592186044416) : ∀ (d i : Nat), l.length - i = d → i ≤ l.length →
 Ev (fun k => spec_l01Copy.l0 k l (l.take i) (i : Int)) l := by
 intro d
 induction d with
 | zero =>
  intro i h hi
  refine ev_now fun k => ?_
  simp only [spec_l01Copy.l0]
  rw [if_neg (by omega), List.take_of_length_le (by omega)]
 | succ d ih =>
  intro i h hi
  refine Ev.step (fun k => ?_) (ih (i + 1) (by omega) (by omega))
  simp only [spec_l01Copy.l0]
  rw [if_pos (by omega), if_pos (by omega), if_pos (by simp; omega), wsucc (by omega), rd_eq (by omega), List.take_append_getElem (by omega)]
theorem sCopy_ev (l : List Int) (hn : l.length < 17592186044416) : Ev (fun k => spec_l01Copy.f k l) l :=
 Ev.congr (fun k => rfl) (sCopy_l l hn l.length 0 (by omega) (by omega))

def bitF : Nat → Nat → Nat
 | 0, _ => 0
 | d + 1, x => if x = 0 then 0 else 1 + bitF d (x / 2)
def bitB (x : Nat) : Nat := bitF 21 x
theorem u64_nat {n : Nat} (h : n < 9223372036854775808) : IntKind.u64.wrap (n : Int) = (n : Int) := by
 unfold IntKind.wrap
 have e : (n : Int) % 2 ^ IntKind.u64.bits = n := by show (n : Int) % 2 ^ 64 = n; omega
 rw [e]
 refine if_neg ?_
 show ¬ ((false && _) = true)
 simp

theorem sSame_l (a b : List Int) (hn : a.length ≤ 1048576) (hab : a.length = b.length) : ∀ (d i : Nat), a.length - i = d → i ≤ a.length → Ev (fun k => spec_l01Same.l0 k a b (i : Int)) (decide (a.drop i = b.drop i)) := by
 intro d
 induction d with
 | zero =>
  intro i h hi
  refine ev_now fun k => ?_
  simp only [spec_l01Same.l0]
  rw [if_neg (by omega), List.drop_of_length_le (by omega), List.drop_of_length_le (by omega)]
  simp
 | succ d ih =>
  intro i h hi
  have h1 : i < a.length := by omega
  have h2 : i < b.length := by omega
  rw [List.drop_eq_getElem_cons h1, List.drop_eq_getElem_cons h2]
  by_cases he : a[i] = b[i]
  · rw [show decide (a[i] :: a.drop (i + 1) = b[i] :: b.drop (i + 1)) = decide (a.drop (i + 1) = b.drop (i + 1)) from decide_eq_decide.2 ⟨fun h => by injection h, fun h => by rw [he, h]⟩]
    refine Ev.step (fun k => ?_) (ih (i + 1) (by omega) (by omega))
    simp only [spec_l01Same.l0]
    rw [if_pos (by omega), if_pos (by omega), if_pos (by omega), rd_eq h1, rd_eq h2, if_pos he, wsucc (by omega)]
  · rw [decide_eq_false (fun h => he (by injection h))]
    refine ev_now fun k => ?_
    simp only [spec_l01Same.l0]
    rw [if_pos (by omega), if_pos (by omega), if_pos (by omega), rd_eq h1, rd_eq h2, if_neg he]
theorem sSame_ev (a b : List Int) (hn : a.length ≤ 1048576) : Ev (fun k => spec_l01Same.f k a b) (decide (a = b)) := by
 by_cases hab : a.length = b.length
 · refine Ev.congr (fun k => ?_) (sSame_l a b hn hab a.length 0 (by omega) (by omega))
   simp only [spec_l01Same.f]
   rw [if_pos (by omega)]
   rfl
 · rw [decide_eq_false (fun h => hab (by rw [h]))]
   refine ev_some fun k => ?_
   simp only [spec_l01Same.f]
   rw [if_neg (by omega)]

theorem tk_w {p k n : Nat} (h : p + k < n) (hn : n ≤ 1048576) (hk : k ≤ 6) : wrap64 ((p : Int) + (k : Int)) = ((p + k : Nat) : Int) ∧ wrap64 (7 * (k : Int)) = ((7 * k : Nat) : Int) ∧ IntKind.u64.wrap ((7 * k : Nat) : Int) = ((7 * k : Nat) : Int) ∧ wrap64 ((k : Int) + 1) = ((k + 1 : Nat) : Int) ∧ wrap64 (((p + k : Nat) : Int) + 1) = ((p + k + 1 : Nat) : Int) ∧ wrap64 ((n : Int) - (p : Int)) = ((n - p : Nat) : Int) :=
 ⟨w64n (by omega) (by omega), w64n (by omega) (by omega), u64_nat (by omega), wsucc (by omega), wsucc (by omega), w64n (by omega) (by omega)⟩
theorem tk_c {c : Nat} (h : c ≤ 255) : wrap64 ((c : Nat) : Int) = ((c : Nat) : Int) ∧ Int.tmod ((c : Nat) : Int) 128 = ((c % 128 : Nat) : Int) :=
 ⟨w64n rfl (by omega), by rw [Int.tmod_eq_emod_of_nonneg (by omega)]; omega⟩
theorem tk_v {u a v : Nat} (hv : v = a + u) (h : v ≤ 8796093022208) : wrap64 ((u : Int) + (a : Int)) = (v : Int) := w64n (by rw [hv]; omega) (by omega)
theorem tk_z {v : Nat} (h : v ≤ 8796093022208) : (if Int.tmod (v : Int) 2 = 1 then wrap64 (wrap64 (-(wrap64 (Int.tdiv (v : Int) 2))) - 1) else wrap64 (Int.tdiv (v : Int) 2)) = unzz v := by
 rw [Int.tmod_eq_emod_of_nonneg (by omega), Int.tdiv_eq_ediv_of_nonneg (by omega)]
 unfold unzz
 by_cases ho : v % 2 = 1
 · rw [if_pos (by omega), if_pos ho, w64 (x := (v : Int) / 2) (by omega) (by omega), w64 (x := -((v : Int) / 2)) (by omega) (by omega), w64 (by omega) (by omega)]; omega
 · rw [if_neg (by omega), if_neg ho, w64 (x := (v : Int) / 2) (by omega) (by omega)]; omega
theorem sTake_l (l : List Int) (hn : l.length ≤ 1048576) (hb : isB l) (p : Nat) (hp : p ≤ l.length) : ∀ (d k u : Nat), k + d = 6 → p + k ≤ l.length → u < 128 ^ k → (∀ w, 1 ≤ w → put (128 ^ k * w + u) = (l.drop p).take k ++ put w) →
 Ev (fun n => spec_TakeNumber.l0 n l (p : Int) (u : Int) (k : Int)) (tkR p (tkL (d + 1) (l.drop (p + k)) k u)) := by
 intro d
 induction d with
 | zero =>
  intro k u hk hpk hu hput
  have ek : k = 6 := by omega
  subst ek
  rw [tkL_seven _ (isB_drop hb _)]
  refine ⟨2, fun n hn' => ?_⟩
  obtain ⟨n, rfl⟩ : ∃ m, n = m + 2 := ⟨n - 2, by omega⟩
  simp only [spec_TakeNumber.l0, spec_TakeNumber.j2]
  rw [if_neg (by omega), if_neg (by decide)]
  rfl
 | succ d ih =>
  intro k u hk hpk hu hput
  have h42 : 128 ^ k ≤ 34359738368 := Nat.pow_le_pow_right (n := 128) (i := k) (j := 5) (by omega) (by omega)
  have h27 : 2 ^ (7 * k) = 128 ^ k := by rw [Nat.pow_mul]
  by_cases hl : p + k < l.length
  · obtain ⟨c, hc⟩ := Int.eq_ofNat_of_zero_le (isB_at hb hl).1
    have hc2 := (isB_at hb hl).2
    rw [hc] at hc2
    have hrd : rd l ((p + k : Nat) : Int) = (c : Int) := by rw [rd_eq hl, hc]
    rw [List.drop_eq_getElem_cons hl, hc]
    have hmul : 128 ^ k * (c % 128) ≤ 34359738368 * 127 := Nat.mul_le_mul h42 (by omega)
    have hsh : shl .i64 ((c % 128 : Nat) : Int) ((7 * k : Nat) : Int) = ((128 ^ k * (c % 128) : Nat) : Int) := by rw [shl_mul _ _ (by omega) (by omega), h27]
    obtain ⟨v, hv⟩ : ∃ v, v = 128 ^ k * (c % 128) + u := ⟨_, rfl⟩
    have htk : (l.drop p).take (k + 1) = (l.drop p).take k ++ [(c : Int)] := by
     rw [List.take_add_one, List.getElem?_drop, List.getElem?_eq_getElem hl, hc]; rfl
    have hlen : ((l.drop p).take k).length = k := by rw [List.length_take, List.length_drop]; omega
    obtain ⟨c1, c2, c3, c4, c5⟩ : (k : Int) < 6 ∧ ((k : Int) < ((l.length - p : Nat) : Int)) ∧ 0 ≤ ((p + k : Nat) : Int) ∧ ((p + k : Nat) : Int) < (l.length : Int) ∧ 0 ≤ ((7 * k : Nat) : Int) := by
     exact ⟨by omega, by omega, by omega, by omega, by omega⟩
    have hc2' : c ≤ 255 := by omega
    have hv43 : v ≤ 8796093022208 := by omega
    by_cases hge : 128 ≤ c
    · have key := ih (k + 1) v (by omega) (by omega) (by
       rw [Nat.pow_succ, hv]
       have : 128 ^ k * (c % 128) + u < 128 ^ k * (c % 128) + 128 ^ k := by omega
       have h2 : 128 ^ k * (c % 128) + 128 ^ k = 128 ^ k * (c % 128 + 1) := by rw [Nat.mul_add, Nat.mul_one]
       have h3 : 128 ^ k * (c % 128 + 1) ≤ 128 ^ k * 128 := Nat.mul_le_mul (Nat.le_refl _) (by omega)
       omega) (by
       intro w hw
       have e1 : 128 ^ (k + 1) * w + v = 128 ^ k * (128 * w + c % 128) + u := by
        rw [hv, Nat.pow_succ, Nat.mul_add, Nat.mul_assoc, Nat.add_assoc]
       rw [e1, hput _ (by omega), put_big (by omega), htk, List.append_assoc]
       congr 1
       rw [show (128 * w + c % 128) % 128 + 128 = c by omega, show (128 * w + c % 128) / 128 = w by omega]
       rfl)
      rw [← Nat.add_assoc] at key
      have et : tkL (d + 1 + 1) ((c : Int) :: l.drop (p + k + 1)) k u = tkL (d + 1) (l.drop (p + k + 1)) (k + 1) v := by
       rw [tkL, if_pos (by omega), Int.toNat_natCast, ← hv]
      rw [et]
      have c6 : (c : Int) ≥ 128 := by omega
      obtain ⟨w1, w2, w3, w7, w8, w9⟩ := tk_w (p := p) (k := k) hl hn (by omega)
      obtain ⟨w4, w5⟩ := tk_c hc2'
      have w6 := tk_v hv hv43
      refine Ev.step (fun n => ?_) (Ev.step (g := fun n => spec_TakeNumber.j2 n l (p : Int) (u : Int) (k : Int) true) (fun n => ?_) key)
      · simp only [spec_TakeNumber.l0, w9, c1, if_true, decide_eq_true c2]
      · simp only [spec_TakeNumber.j2, w1, w2, w3, hrd, w4, w5, hsh, w6, w7, c3, c4, c5, c6, if_true]
    · have c6 : ¬ ((c : Int) ≥ 128) := by omega
      have hcm : c % 128 = c := Nat.mod_eq_of_lt (by omega)
      have hcan : (put v = (l.drop p).take (k + 1)) ↔ ¬ ((c : Int) = 0 ∧ 0 < k) := by
       rw [htk]
       constructor
       · rintro h ⟨hc0, hk0⟩
         have hc0' : c = 0 := by omega
         rw [hc0', Nat.zero_mod, Nat.mul_zero, Nat.zero_add] at hv
         obtain ⟨q, rfl⟩ : ∃ q, k = q + 1 := ⟨k - 1, by omega⟩
         have := put_len v q (by rw [hv]; exact hu)
         rw [h, List.length_append, hlen] at this
         simp at this
         omega
       · intro h
         by_cases hk0 : k = 0
         · subst hk0
           rw [show v = c by rw [hv, hcm]; simp at hu; rw [hu]; simp, put_small (by omega)]
           simp
         · have hc1 : 1 ≤ c := by
            by_cases hc0 : c = 0
            · exact absurd ⟨by omega, by omega⟩ h
            · omega
           rw [hv, hcm, hput c hc1, put_small (by omega)]
      have et : tkL (d + 1 + 1) ((c : Int) :: l.drop (p + k + 1)) k u = if (c : Int) = 0 ∧ 0 < k then none else if isWord (unzz v) then some (unzz v, k + 1) else none := by
       rw [tkL, if_neg (by omega), Int.toNat_natCast, ← hv]
      rw [et]
      have hzb : -8796093022209 ≤ unzz v ∧ unzz v ≤ 8796093022209 := by
       unfold unzz
       split <;> omega
      have hsl : (l.take (p + k + 1)).drop p = (l.drop p).take (k + 1) := by rw [List.drop_take]; congr 1; omega
      have hcond : (putOf (unzz v) = (l.drop p).take (k + 1)) ↔ (¬ ((c : Int) = 0 ∧ 0 < k) ∧ isWord (unzz v)) := by
       by_cases hw : isWord (unzz v)
       · unfold putOf
         rw [if_pos hw, zz_unzz, hcan]
         exact ⟨fun h => ⟨h, hw⟩, fun h => h.1⟩
       · unfold putOf
         rw [if_neg hw]
         refine ⟨fun h => ?_, fun h => absurd h.2 hw⟩
         rw [htk] at h
         exact absurd h.symm (by simp)
      have hpl : (putOf (unzz v)).length ≤ 1048576 := Nat.le_trans (putOf_len _) (by omega)
      obtain ⟨m, e1, e2⟩ := evs2 (sPut_ev (unzz v) (i64_wf (by omega) (by omega))) (sSame_ev (putOf (unzz v)) ((l.drop p).take (k + 1)) hpl)
      obtain ⟨b1, b2, b3, b4⟩ : 0 ≤ (p : Int) ∧ (p : Int) ≤ ((p + k + 1 : Nat) : Int) ∧ ((p + k + 1 : Nat) : Int) ≤ (l.length : Int) ∧ (p + k + 1 : Nat) = p + (k + 1) := by
       exact ⟨by omega, by omega, by omega, by omega⟩
      refine ⟨m + 3, fun n hn' => ?_⟩
      obtain ⟨n, rfl⟩ : ∃ q, n = m + q + 3 := ⟨n - m - 3, by omega⟩
      obtain ⟨w1, w2, w3, w7, w8, w9⟩ := tk_w (p := p) (k := k) hl hn (by omega)
      obtain ⟨w4, w5⟩ := tk_c hc2'
      have w6 := tk_v hv hv43
      have hz := tk_z hv43
      have hj3 : spec_TakeNumber.j3 (m + n + 1) l (p : Int) (k : Int) (unzz v) = some (tkR p (if (c : Int) = 0 ∧ 0 < k then none else if isWord (unzz v) then some (unzz v, k + 1) else none)) := by
       simp only [spec_TakeNumber.j3, e1 n, Option.bind_some, w1, w8, b1, b2, b3, if_true, Int.toNat_natCast, hsl, e2 n]
       by_cases hx : ¬ ((c : Int) = 0 ∧ 0 < k) ∧ isWord (unzz v)
       · rw [decide_eq_true (hcond.2 hx), if_pos rfl, if_neg hx.1, if_pos hx.2]
         simp only [tkR, b4]
       · rw [decide_eq_false (fun h => hx (hcond.1 h)), if_neg (by decide)]
         by_cases hx1 : (c : Int) = 0 ∧ 0 < k
         · rw [if_pos hx1]; rfl
         · rw [if_neg hx1, if_neg (fun h => hx ⟨hx1, h⟩)]; rfl
      rw [show m + n + 3 = m + n + 1 + 1 + 1 from rfl]
      simp only [spec_TakeNumber.l0, spec_TakeNumber.j2, w9, c1, decide_eq_true c2, w1, w2, w3, hrd, w4, w5, hsh, w6, c3, c4, c5, c6, if_true, if_false]
      rw [← hj3, ← hz]
      split <;> rfl
  · rw [List.drop_eq_nil_of_le (by omega)]
    refine ⟨2, fun n hn' => ?_⟩
    obtain ⟨n, rfl⟩ : ∃ m, n = m + 2 := ⟨n - 2, by omega⟩
    obtain ⟨c1, c2⟩ : (k : Int) < 6 ∧ ¬ ((k : Int) < ((l.length - p : Nat) : Int)) := ⟨by omega, by omega⟩
    have w9 : wrap64 ((l.length : Int) - (p : Int)) = ((l.length - p : Nat) : Int) := w64n (by omega) (by omega)
    simp only [spec_TakeNumber.l0, spec_TakeNumber.j2, w9, c1, if_true, decide_eq_false c2, Bool.false_eq_true, if_false]
    rfl
def takeI (l : List Int) (a : Int) : Int × Int × Bool := if a < 0 then (0, 0, false) else tkR a.toNat (tkL 7 (l.drop a.toNat) 0 0)
theorem sTake_ev (l : List Int) (hn : l.length ≤ 1048576) (hb : isB l) (a : Int) : Ev (fun n => spec_TakeNumber.f n l a) (takeI l a) := by
 unfold takeI
 by_cases h0 : a < 0
 · rw [if_pos h0]
   refine ev_now fun n => ?_
   simp only [spec_TakeNumber.f, spec_TakeNumber.j0]
   rw [if_pos h0, if_pos trivial]
 · obtain ⟨p, rfl⟩ := Int.eq_ofNat_of_zero_le (show 0 ≤ a by omega)
   rw [if_neg h0, Int.toNat_natCast]
   by_cases h1 : p < l.length
   · have key := sTake_l l hn hb p (by omega) 6 0 0 (by omega) (by omega) (by simp) (by intro w hw; simp)
     refine Ev.congr (f := fun n => spec_TakeNumber.j0 n l (p : Int) false) (fun n => ?_) (Ev.step (fun n => ?_) key)
     · simp only [spec_TakeNumber.f]
       rw [if_neg h0, decide_eq_false (by omega)]
     · simp only [spec_TakeNumber.j0, Bool.false_eq_true, if_false]
       rfl
   · rw [List.drop_eq_nil_of_le (by omega)]
     refine ev_now fun n => ?_
     simp only [spec_TakeNumber.f, spec_TakeNumber.j0]
     rw [if_neg h0, decide_eq_true (by omega), if_pos rfl]
     rfl

theorem sJoinB_l (b : List Int) (a : List Int) (hn : a.length + b.length < 140737488355328) : ∀ (d i : Nat), b.length - i = d → i ≤ b.length → Ev (fun k => spec_l01Join.l0 k b (a ++ b.take i) (i : Int)) (a ++ b) := by
 intro d
 induction d with
 | zero =>
  intro i h hi
  refine ev_now fun k => ?_
  simp only [spec_l01Join.l0]
  rw [if_neg (by omega), List.take_of_length_le (by omega)]
 | succ d ih =>
  intro i h hi
  have key := ih (i + 1) (by omega) (by omega)
  refine Ev.step (fun k => ?_) key
  simp only [spec_l01Join.l0]
  rw [if_pos (by omega), if_pos (by omega), if_pos (by simp; omega), wsucc (by omega), rd_eq (by omega), List.append_assoc, List.take_append_getElem (by omega)]
theorem sJoinB_ev (a b : List Int) (hn : a.length + b.length < 140737488355328) : Ev (fun k => spec_l01Join.f k a b) (a ++ b) := by
 have key := sJoinB_l b a hn b.length 0 (by omega) (by omega)
 rw [List.take_zero, List.append_nil] at key
 obtain ⟨n, e1, e2⟩ := evs2 (sBytes_ev a (by omega)) key
 refine ⟨n, fun k hk => ?_⟩
 obtain ⟨j, rfl⟩ : ∃ j, k = n + j := ⟨k - n, by omega⟩
 simp only [spec_l01Join.f, e1 j, Option.bind_some]
 exact e2 j

def lstD (l : List Int) : Nat → Nat → Option (List Int × Nat)
 | 0, p => some ([], p)
 | d + 1, p => (tkL 7 (l.drop p) 0 0).bind fun r => (lstD l d (p + r.2)).bind fun s => some (r.1 :: s.1, s.2)
def oneD (l : List Int) (p : Nat) : Option (List Int × Nat) := (tkL 7 (l.drop p) 0 0).bind fun r => if 0 ≤ r.1 ∧ r.1 ≤ 400 then lstD l r.1.toNat (p + r.2) else none
def dR : Option (List Int × Nat) → List Int × Int × Bool
 | some r => (r.1, (r.2 : Int), true)
 | none => ([], 0, false)
def dOk (o : Option (List Int × Nat)) (r : List Int × Int × Bool) : Prop := match o with
 | some s => r = (s.1, (s.2 : Int), true)
 | none => r.2.2 = false
theorem tkL_le : ∀ (d : Nat) (l : List Int) (k u : Nat) (r : Int × Nat), tkL d l k u = some r → r.2 ≤ k + l.length ∧ k < r.2
 | 0, l, k, u, r, h => by cases l <;> simp [tkL] at h
 | d + 1, [], k, u, r, h => by simp [tkL] at h
 | d + 1, b :: l, k, u, r, h => by
  rw [tkL] at h
  split at h
  · have := tkL_le d l (k + 1) _ r h
    rw [List.length_cons]; omega
  · split at h
    · cases h
    · split at h
      · injection h with h; subst h; rw [List.length_cons]; dsimp only; omega
      · cases h
theorem tk_le {l : List Int} {p : Nat} {r : Int × Nat} (h : tkL 7 (l.drop p) 0 0 = some r) : p + r.2 ≤ l.length ∧ 0 < r.2 := by
 have := tkL_le 7 (l.drop p) 0 0 r h
 rw [List.length_drop] at this
 omega
theorem lstD_le (l : List Int) : ∀ (d p : Nat) (s : List Int × Nat), p ≤ l.length → lstD l d p = some s → s.2 ≤ l.length ∧ s.1.length = d ∧ p ≤ s.2
 | 0, p, s, hp, h => by injection h with h; subst h; exact ⟨hp, rfl, Nat.le_refl _⟩
 | d + 1, p, s, hp, h => by
  rw [lstD] at h
  obtain ⟨r, hr, h⟩ := Option.bind_eq_some_iff.mp h
  obtain ⟨t, ht, h⟩ := Option.bind_eq_some_iff.mp h
  injection h with h
  subst h
  have h1 := tk_le hr
  have h2 := lstD_le l d _ t h1.1 ht
  exact ⟨h2.1, by rw [List.length_cons, h2.2.1], by dsimp only; omega⟩
theorem oneD_le {l : List Int} {p : Nat} {s : List Int × Nat} (h : oneD l p = some s) : s.2 ≤ l.length ∧ s.1.length ≤ 400 ∧ p ≤ s.2 := by
 unfold oneD at h
 obtain ⟨r, hr, h⟩ := Option.bind_eq_some_iff.mp h
 split at h
 · rename_i hc
   have h1 := tk_le hr
   have h2 := lstD_le l _ _ s h1.1 h
   omega
 · cases h

def decV (l : List Int) : Int × Int × List Int × List Int × Int × Bool :=
 if l.length < 2 then (0, 0, [], [], 0, false) else match tkL 7 (l.drop 2) 0 0 with
 | none => (0, 0, [], [], 0, false)
 | some r => match oneD l (2 + r.2) with
  | none => (0, 0, [], [], 0, false)
  | some s => match oneD l s.2 with
   | none => (0, 0, [], [], 0, false)
   | some t => if t.2 = l.length ∧ jobB (rd l 0) (rd l 1) s.1 t.1 r.1 = true then (rd l 0, rd l 1, s.1, t.1, r.1, true) else (0, 0, [], [], 0, false)
theorem decV_len (l : List Int) : (decV l).2.2.1.length ≤ 400 ∧ (decV l).2.2.2.1.length ≤ 400 := by
 unfold decV
 split
 · simp
 · split
   · simp
   · split
     · simp
     · rename_i s hs
       split
       · simp
       · rename_i t ht
         split
         · exact ⟨(oneD_le hs).2.1, (oneD_le ht).2.1⟩
         · simp
theorem rdByte {l : List Int} (hb : isB l) {i : Nat} (h : i < l.length) : wrap64 (rd l (i : Int)) = rd l (i : Int) := by
 have := isB_at hb h
 rw [rd_eq h]
 exact w64 (by omega) (by omega)

theorem takeI_nat (l : List Int) (p : Nat) : takeI l (p : Int) = tkR p (tkL 7 (l.drop p) 0 0) := by
 unfold takeI
 rw [if_neg (by omega), Int.toNat_natCast]
theorem sLst (l : List Int) (hn : l.length ≤ 1048576) (hb : isB l) (m : Nat) (hm : m ≤ 400) : ∀ (d i p : Nat) (xs : List Int), m - i = d → i ≤ m → p ≤ l.length → xs.length ≤ i →
 Ev (fun k => spec_l10TakeList.l0 k l (p : Int) xs (m : Int) (i : Int)) (dR ((lstD l d p).bind fun s => some (xs ++ s.1, s.2))) := by
 intro d
 induction d with
 | zero =>
  intro i p xs h hi hp hx
  refine ev_now fun k => ?_
  simp only [spec_l10TakeList.l0]
  rw [if_neg (by omega)]
  simp [lstD, dR]
 | succ d ih =>
  intro i p xs h hi hp hx
  have ht := sTake_ev l hn hb (p : Int)
  rw [takeI_nat] at ht
  rw [lstD]
  cases hr : tkL 7 (l.drop p) 0 0 with
  | none =>
   rw [hr] at ht
   obtain ⟨n, e⟩ := evs1 ht
   refine ⟨n + 1, fun k hk => ?_⟩
   obtain ⟨j, rfl⟩ : ∃ j, k = n + j + 1 := ⟨k - n - 1, by omega⟩
   simp only [spec_l10TakeList.l0, e, tkR, Option.bind_some, Option.bind_none, Bool.false_eq_true, if_false, dR]
   rw [if_pos (by omega)]
  | some r =>
   rw [hr] at ht
   have h1 := tk_le hr
   have key := ih (i + 1) (p + r.2) (xs ++ [r.1]) (by omega) (by omega) h1.1 (by rw [List.length_append]; simp; omega)
   obtain ⟨n, e, e2⟩ := evs2 ht key
   refine ⟨n + 1, fun k hk => ?_⟩
   obtain ⟨j, rfl⟩ : ∃ j, k = n + j + 1 := ⟨k - n - 1, by omega⟩
   simp only [spec_l10TakeList.l0, e, tkR, Option.bind_some, if_true]
   rw [if_pos (by omega), if_pos (by omega), wsucc (by omega), e2]
   congr 2
   cases lstD l d (p + r.2) with
   | none => rfl
   | some s => simp
theorem sOne (l : List Int) (hn : l.length ≤ 1048576) (hb : isB l) (p : Nat) : Ev (fun k => spec_l10TakeList.f k l (p : Int)) (dR (oneD l p)) := by
 have ht := sTake_ev l hn hb (p : Int)
 rw [takeI_nat] at ht
 unfold oneD
 cases hr : tkL 7 (l.drop p) 0 0 with
 | none =>
  rw [hr] at ht
  obtain ⟨n, e⟩ := evs1 ht
  refine ⟨n + 1, fun k hk => ?_⟩
  obtain ⟨j, rfl⟩ : ∃ j, k = n + (j + 1) := ⟨k - n - 1, by omega⟩
  simp only [spec_l10TakeList.f, e, tkR, Option.bind_some, Option.bind_none, Bool.false_eq_true, if_false]
  rw [show n + (j + 1) = n + j + 1 from rfl]
  simp only [spec_l10TakeList.j0, if_true, dR]
 | some r =>
  rw [hr] at ht
  have h1 := tk_le hr
  simp only [Option.bind_some]
  by_cases hc : 0 ≤ r.1 ∧ r.1 ≤ 400
  · rw [if_pos hc]
    have key := sLst l hn hb r.1.toNat (by omega) r.1.toNat 0 (p + r.2) [] (by omega) (by omega) h1.1 (by simp)
    rw [show ((r.1.toNat : Nat) : Int) = r.1 by omega] at key
    obtain ⟨n, e, e2⟩ := evs2 ht key
    refine ⟨n + 1, fun k hk => ?_⟩
    obtain ⟨j, rfl⟩ : ∃ j, k = n + (j + 1) := ⟨k - n - 1, by omega⟩
    simp only [spec_l10TakeList.f, spec_l01In.f, e, tkR, Option.bind_some, if_true]
    rw [if_pos hc.1, decide_eq_true hc.2]
    simp only [Option.bind_some, Bool.not_true]
    rw [show n + (j + 1) = n + j + 1 from rfl]
    simp only [spec_l10TakeList.j0, Bool.false_eq_true, if_false]
    have e3 := e2 j
    simp only [List.nil_append] at e3
    rw [show ((0 : Nat) : Int) = 0 from rfl] at e3
    rw [e3]
    cases lstD l r.1.toNat (p + r.2) <;> rfl
  · rw [if_neg hc]
    obtain ⟨n, e⟩ := evs1 ht
    refine ⟨n + 1, fun k hk => ?_⟩
    obtain ⟨j, rfl⟩ : ∃ j, k = n + (j + 1) := ⟨k - n - 1, by omega⟩
    simp only [spec_l10TakeList.f, spec_l01In.f, e, tkR, Option.bind_some, if_true]
    have hj : spec_l10TakeList.j0 (n + (j + 1)) l ((p + r.2 : Nat) : Int) [] r.1 true = some ([], 0, false) := by
     rw [show n + (j + 1) = n + j + 1 from rfl]
     simp only [spec_l10TakeList.j0, if_true]
    by_cases h0 : 0 ≤ r.1
    · rw [if_pos h0, decide_eq_false (fun h => hc ⟨h0, h⟩)]
      simp only [Option.bind_some, Bool.not_false]
      exact hj
    · rw [if_neg h0]
      simp only [Option.bind_some, Bool.not_false]
      exact hj

theorem sDecode_ev (l : List Int) (hn : l.length ≤ 1048576) (hb : isB l) : Ev (fun k => spec_DecodeJob.f k l) (decV l) := by
 unfold decV
 by_cases h2 : l.length < 2
 · rw [if_pos h2]
   refine ev_some fun k => ?_
   simp only [spec_DecodeJob.f]
   rw [if_pos (by omega)]
 · rw [if_neg h2]
   have ht := sTake_ev l hn hb ((2 : Nat) : Int)
   rw [takeI_nat] at ht
   have w0 : wrap64 (rd l 0) = rd l 0 := rdByte hb (i := 0) (by omega)
   have w1 : wrap64 (rd l 1) = rd l 1 := rdByte hb (i := 1) (by omega)
   cases hr : tkL 7 (l.drop 2) 0 0 with
   | none =>
    rw [hr] at ht
    refine Ev.congr (fun k => rfl) ?_
    obtain ⟨n, e⟩ := evs1 ht
    refine ⟨n, fun k hk => ?_⟩
    obtain ⟨j, rfl⟩ : ∃ j, k = n + j := ⟨k - n, by omega⟩
    have e' : spec_TakeNumber.f (n + j) l 2 = some (0, 0, false) := e j
    simp only [spec_DecodeJob.f, e', Option.bind_some, Bool.false_eq_true, if_false]
    rw [if_neg (by omega), if_pos (by omega), if_pos (by omega)]
   | some r =>
    rw [hr] at ht
    dsimp only
    have hs := sOne l hn hb (2 + r.2)
    cases ho : oneD l (2 + r.2) with
    | none =>
     rw [ho] at hs
     obtain ⟨n, e, e2⟩ := evs2 ht hs
     refine ⟨n, fun k hk => ?_⟩
     obtain ⟨j, rfl⟩ : ∃ j, k = n + j := ⟨k - n, by omega⟩
     have e' : spec_TakeNumber.f (n + j) l 2 = some (r.1, ((2 + r.2 : Nat) : Int), true) := e j
     simp only [spec_DecodeJob.f, e', e2, dR, Option.bind_some, if_true, Bool.false_eq_true, if_false]
     rw [if_neg (by omega), if_pos (by omega), if_pos (by omega)]
    | some s =>
     rw [ho] at hs
     dsimp only
     have hu := sOne l hn hb s.2
     cases hq : oneD l s.2 with
     | none =>
      rw [hq] at hu
      obtain ⟨n, e, e2, e3⟩ := evs3 ht hs hu
      refine ⟨n, fun k hk => ?_⟩
      obtain ⟨j, rfl⟩ : ∃ j, k = n + j := ⟨k - n, by omega⟩
      have e' : spec_TakeNumber.f (n + j) l 2 = some (r.1, ((2 + r.2 : Nat) : Int), true) := e j
      simp only [spec_DecodeJob.f, e', e2, e3, dR, Option.bind_some, if_true, Bool.false_eq_true, if_false]
      rw [if_neg (by omega), if_pos (by omega), if_pos (by omega)]
     | some t =>
      rw [hq] at hu
      dsimp only
      have hl1 := (oneD_le ho).2.1
      have hl2 := (oneD_le hq).2.1
      obtain ⟨n, e, e2, e3, e4⟩ := evs4 ht hs hu (sJob_ev (rd l 0) (rd l 1) s.1 t.1 r.1 (by omega) (by omega))
      refine ⟨n, fun k hk => ?_⟩
      obtain ⟨j, rfl⟩ : ∃ j, k = n + j := ⟨k - n, by omega⟩
      have e' : spec_TakeNumber.f (n + j) l 2 = some (r.1, ((2 + r.2 : Nat) : Int), true) := e j
      simp only [spec_DecodeJob.f, e', e2, e3, dR, Option.bind_some, if_true, w0, w1, e4]
      rw [if_neg (by omega), if_pos (by omega), if_pos (by omega)]
      by_cases hc : t.2 = l.length
      · rw [if_pos (by omega)]
        by_cases hj : jobB (rd l 0) (rd l 1) s.1 t.1 r.1 = true
        · rw [if_pos hj, if_pos ⟨hc, hj⟩]
        · rw [if_neg hj, if_neg (fun hh => hj hh.2)]
      · rw [if_neg (by omega), if_neg (fun hh => hc hh.1)]

theorem iLst (l : List Int) (hn : l.length ≤ 1048576) (hb : isB l) (m : Nat) (hm : m ≤ 400) : ∀ (d i p : Nat) (xs : List Int), m - i = d → i ≤ m → p ≤ l.length → xs.length ≤ i →
 ∃ r, Ev (fun k => impl_DecodeJob.l1 k l xs (m : Int) (p : Int) true (i : Int)) r ∧ dOk ((lstD l d p).bind fun s => some (xs ++ s.1, s.2)) r := by
 intro d
 induction d with
 | zero =>
  intro i p xs h hi hp hx
  refine ⟨(xs, (p : Int), true), ev_now fun k => ?_, ?_⟩
  · simp only [impl_DecodeJob.l1, if_true]
    rw [if_neg (by omega)]
  · simp [lstD, dOk]
 | succ d ih =>
  intro i p xs h hi hp hx
  have ht := iTake_ev l (by omega) hb p (by omega)
  unfold takeAt at ht
  rw [lstD]
  cases hr : tkL 7 (l.drop p) 0 0 with
  | none =>
   rw [hr] at ht
   obtain ⟨n, e⟩ := evs1 ht
   refine ⟨(xs ++ [0], 0, false), ⟨n + 2, fun k hk => ?_⟩, rfl⟩
   obtain ⟨j, rfl⟩ : ∃ j, k = n + (j + 1) + 1 := ⟨k - n - 2, by omega⟩
   simp only [impl_DecodeJob.l1, if_true]
   rw [if_pos (by omega), e (j + 1)]
   simp only [tkR, Option.bind_some]
   rw [if_pos (by omega)]
   simp only [impl_DecodeJob.l1, Bool.false_eq_true, if_false]
  | some r =>
   rw [hr] at ht
   have h1 := tk_le hr
   obtain ⟨v, key, hv⟩ := ih (i + 1) (p + r.2) (xs ++ [r.1]) (by omega) (by omega) h1.1 (by rw [List.length_append]; simp; omega)
   obtain ⟨n, e, e2⟩ := evs2 ht key
   refine ⟨v, ⟨n + 1, fun k hk => ?_⟩, ?_⟩
   · obtain ⟨j, rfl⟩ : ∃ j, k = n + j + 1 := ⟨k - n - 1, by omega⟩
     simp only [impl_DecodeJob.l1, e, tkR, Option.bind_some, if_true]
     rw [if_pos (by omega), if_pos (by omega), wsucc (by omega), e2]
   · rw [Option.bind_some]
     cases hq : lstD l d (p + r.2) with
     | none => rw [hq] at hv; exact hv
     | some s => rw [hq] at hv; simpa [dOk] using hv
theorem iOne (l : List Int) (hn : l.length ≤ 1048576) (hb : isB l) (p : Nat) (hp : p ≤ l.length) : ∃ r, Ev (fun k => impl_DecodeJob.one k l (p : Int) true) r ∧ dOk (oneD l p) r := by
 have ht := iTake_ev l (by omega) hb p (by omega)
 unfold takeAt at ht
 unfold oneD
 have off : ∀ (m a : Int), Ev (fun k => impl_DecodeJob.l1 k l [] m a false 0) (([] : List Int), a, false) := fun m a => ev_now fun k => by simp only [impl_DecodeJob.l1, Bool.false_eq_true, if_false]
 cases hr : tkL 7 (l.drop p) 0 0 with
 | none =>
  rw [hr] at ht
  obtain ⟨n, e, e2⟩ := evs2 ht (off 0 0)
  refine ⟨([], 0, false), ⟨n, fun k hk => ?_⟩, rfl⟩
  obtain ⟨j, rfl⟩ : ∃ j, k = n + j := ⟨k - n, by omega⟩
  simp only [impl_DecodeJob.one, e, tkR, Option.bind_some, Bool.true_and, Bool.false_and]
  exact e2 j
 | some r =>
  rw [hr] at ht
  have h1 := tk_le hr
  simp only [Option.bind_some]
  by_cases hc : 0 ≤ r.1 ∧ r.1 ≤ 400
  · rw [if_pos hc]
    obtain ⟨v, key, hv⟩ := iLst l hn hb r.1.toNat (by omega) r.1.toNat 0 (p + r.2) [] (by omega) (by omega) h1.1 (by simp)
    rw [show ((r.1.toNat : Nat) : Int) = r.1 by omega] at key
    obtain ⟨n, e, e2⟩ := evs2 ht key
    refine ⟨v, ⟨n, fun k hk => ?_⟩, ?_⟩
    · obtain ⟨j, rfl⟩ : ∃ j, k = n + j := ⟨k - n, by omega⟩
      simp only [impl_DecodeJob.one, e, tkR, Option.bind_some, Bool.true_and]
      rw [decide_eq_true hc.1, decide_eq_true hc.2]
      exact e2 j
    · cases hq : lstD l r.1.toNat (p + r.2) with
      | none => rw [hq] at hv; exact hv
      | some s => rw [hq] at hv; simpa [dOk] using hv
  · rw [if_neg hc]
    obtain ⟨n, e, e2⟩ := evs2 ht (off r.1 ((p + r.2 : Nat) : Int))
    refine ⟨([], ((p + r.2 : Nat) : Int), false), ⟨n, fun k hk => ?_⟩, rfl⟩
    obtain ⟨j, rfl⟩ : ∃ j, k = n + j := ⟨k - n, by omega⟩
    simp only [impl_DecodeJob.one, e, tkR, Option.bind_some, Bool.true_and]
    have hf : (decide (0 ≤ r.1) && decide (r.1 ≤ 400)) = false := by
     rw [Bool.eq_false_iff]
     intro hh
     rw [Bool.and_eq_true, decide_eq_true_eq, decide_eq_true_eq] at hh
     exact hc hh
    rw [hf]
    exact e2 j
theorem iOneNo (l : List Int) (hn : l.length ≤ 1048576) (hb : isB l) (p : Nat) (hp : p ≤ l.length) : ∃ r, Ev (fun k => impl_DecodeJob.one k l (p : Int) false) r ∧ r.2.2 = false := by
 have ht := iTake_ev l (by omega) hb p (by omega)
 obtain ⟨n, e, e2⟩ := evs2 ht (show Ev (fun k => impl_DecodeJob.l1 k l [] (takeAt l p).1 (takeAt l p).2.1 false 0) (([] : List Int), (takeAt l p).2.1, false) from ev_now fun k => by simp only [impl_DecodeJob.l1, Bool.false_eq_true, if_false])
 refine ⟨([], (takeAt l p).2.1, false), ⟨n, fun k hk => ?_⟩, rfl⟩
 obtain ⟨j, rfl⟩ : ∃ j, k = n + j := ⟨k - n, by omega⟩
 simp only [impl_DecodeJob.one, e, Option.bind_some, Bool.false_and]
 exact e2 j

theorem iDecode_ev (l : List Int) (hn : l.length ≤ 1048576) (hb : isB l) : Ev (fun k => impl_DecodeJob.f k l) (decV l) := by
 unfold decV
 by_cases h2 : l.length < 2
 · rw [if_pos h2]
   refine ev_some fun k => ?_
   simp only [impl_DecodeJob.f]
   rw [if_pos (by omega)]
 · rw [if_neg h2]
   have ht := iTake_ev l (by omega) hb 2 (by omega)
   unfold takeAt at ht
   have w0 : wrap64 (rd l 0) = rd l 0 := rdByte hb (i := 0) (by omega)
   have w1 : wrap64 (rd l 1) = rd l 1 := rdByte hb (i := 1) (by omega)
   cases hr : tkL 7 (l.drop 2) 0 0 with
   | none =>
    rw [hr] at ht
    obtain ⟨v, hv, hf⟩ := iOneNo l hn hb 0 (by omega)
    obtain ⟨n, e, e2⟩ := evs2 ht hv
    refine ⟨n, fun k hk => ?_⟩
    obtain ⟨j, rfl⟩ : ∃ j, k = n + j := ⟨k - n, by omega⟩
    have e' : impl_takeNumber.f (n + j) l 2 = some (0, 0, false) := e j
    have e2' : impl_DecodeJob.one (n + j) l 0 false = some v := e2 j
    simp only [impl_DecodeJob.f, e', impl_DecodeJob.g0, e2', hf, Option.bind_some, Bool.false_eq_true, if_false]
    rw [if_neg (by omega), if_pos (by omega), if_pos (by omega)]
   | some r =>
    rw [hr] at ht
    dsimp only
    have h1 := tk_le hr
    obtain ⟨v, hv, hd⟩ := iOne l hn hb (2 + r.2) h1.1
    cases ho : oneD l (2 + r.2) with
    | none =>
     rw [ho] at hd
     have hd' : v.2.2 = false := hd
     obtain ⟨n, e, e2⟩ := evs2 ht hv
     refine ⟨n, fun k hk => ?_⟩
     obtain ⟨j, rfl⟩ : ∃ j, k = n + j := ⟨k - n, by omega⟩
     have e' : impl_takeNumber.f (n + j) l 2 = some (r.1, ((2 + r.2 : Nat) : Int), true) := e j
     simp only [impl_DecodeJob.f, impl_DecodeJob.g0, e', e2, hd', Option.bind_some, Bool.false_eq_true, if_false]
     rw [if_neg (by omega), if_pos (by omega), if_pos (by omega)]
    | some s =>
     rw [ho] at hd
     have hd' : v = (s.1, (s.2 : Int), true) := hd
     subst hd'
     dsimp only
     have hl1 := oneD_le ho
     obtain ⟨u, hu, hd2⟩ := iOne l hn hb s.2 hl1.1
     cases hq : oneD l s.2 with
     | none =>
      rw [hq] at hd2
      have hd' : u.2.2 = false := hd2
      obtain ⟨n, e, e2, e3⟩ := evs3 ht hv hu
      refine ⟨n, fun k hk => ?_⟩
      obtain ⟨j, rfl⟩ : ∃ j, k = n + j := ⟨k - n, by omega⟩
      have e' : impl_takeNumber.f (n + j) l 2 = some (r.1, ((2 + r.2 : Nat) : Int), true) := e j
      simp only [impl_DecodeJob.f, impl_DecodeJob.g0, impl_DecodeJob.g1, e', e2, e3, hd', Option.bind_some, if_true, Bool.false_eq_true, if_false]
      rw [if_neg (by omega), if_pos (by omega), if_pos (by omega)]
     | some t =>
      rw [hq] at hd2
      have hd' : u = (t.1, (t.2 : Int), true) := hd2
      subst hd'
      dsimp only
      have hl2 := (oneD_le hq).2.1
      obtain ⟨n, e, e2, e3, e4⟩ := evs4 ht hv hu (iJob_ev (rd l 0) (rd l 1) s.1 t.1 r.1 (by omega) (by omega))
      refine ⟨n, fun k hk => ?_⟩
      obtain ⟨j, rfl⟩ : ∃ j, k = n + j := ⟨k - n, by omega⟩
      have e' : impl_takeNumber.f (n + j) l 2 = some (r.1, ((2 + r.2 : Nat) : Int), true) := e j
      simp only [impl_DecodeJob.f, impl_DecodeJob.g0, impl_DecodeJob.g1, impl_DecodeJob.g2, e', e2, e3, e4, Option.bind_some, if_true, w0, w1]
      rw [if_neg (by omega), if_pos (by omega), if_pos (by omega)]
      by_cases hc : t.2 = l.length
      · rw [if_pos (by omega)]
        by_cases hj : jobB (rd l 0) (rd l 1) s.1 t.1 r.1 = true
        · rw [if_pos hj, if_pos ⟨hc, hj⟩]
        · rw [if_neg hj, if_neg (fun hh => hj hh.2)]
      · rw [if_neg (by omega), if_neg (fun hh => hc hh.1)]

def Fin {α : Type} (g : Nat → Option α) (Q : α → Prop) : Prop := ∃ r, Ev g r ∧ Q r
theorem Fin.bind {α β : Type} {g : Nat → Option α} {f : Nat → α → Option β} {Q : α → Prop} {R : β → Prop} (h : Fin g Q) (k : ∀ r, Q r → Fin (fun n => f n r) R) : Fin (fun n => (g n).bind (f n)) R := by
 obtain ⟨r, e, q⟩ := h
 obtain ⟨s, e2, q2⟩ := k r q
 exact ⟨s, Ev.bind e e2, q2⟩
theorem Fin.step {α : Type} {g f : Nat → Option α} {Q : α → Prop} (h : ∀ k, g (k + 1) = f k) (k : Fin f Q) : Fin g Q := by
 obtain ⟨r, e, q⟩ := k
 exact ⟨r, Ev.step h e, q⟩
theorem Fin.now {α : Type} {Q : α → Prop} (x : α) (h : Q x) : Fin (fun _ => some x) Q := ⟨x, Ev.now x, h⟩
theorem Fin.of {α : Type} {g : Nat → Option α} {Q : α → Prop} {r : α} (h : Ev g r) (q : Q r) : Fin g Q := ⟨r, h, q⟩
theorem Fin.ite {α : Type} {c : Prop} [Decidable c] {g f : Nat → Option α} {Q : α → Prop} (h1 : c → Fin g Q) (h2 : ¬ c → Fin f Q) : Fin (fun n => if c then g n else f n) Q := by
 by_cases h : c
 · simp only [if_pos h]; exact h1 h
 · simp only [if_neg h]; exact h2 h
theorem Fin.mono {α : Type} {g : Nat → Option α} {Q R : α → Prop} (h : Fin g Q) (k : ∀ r, Q r → R r) : Fin g R := by
 obtain ⟨r, e, q⟩ := h
 exact ⟨r, e, k r q⟩
theorem Fin.yes {α : Type} {c : Prop} [Decidable c] {g f : Nat → Option α} {Q : α → Prop} (hc : c) (h1 : Fin g Q) : Fin (fun n => if c then g n else f n) Q := by simp only [if_pos hc]; exact h1
theorem Fin.no {α : Type} {c : Prop} [Decidable c] {g f : Nat → Option α} {Q : α → Prop} (hc : ¬ c) (h1 : Fin f Q) : Fin (fun n => if c then g n else f n) Q := by simp only [if_neg hc]; exact h1

theorem fCut (v : List Int) (hv : v.length ≤ 1048576) : Fin (fun k => spec_l03Cut.f k v) (fun r => r.length ≤ v.length) := by
 have key : ∀ (d : Nat), d ≤ v.length → Fin (fun k => spec_l03Cut.l0 k v (d : Int)) (fun r => r.length ≤ v.length) := by
  intro d
  have hcp : ∀ d ≤ v.length, Fin (fun k => (spec_l01Copy.f k (v.take d)).bind fun t => some t) (fun r => r.length ≤ v.length) := fun d hd =>
   Fin.bind (Q := fun r => r = v.take d) ⟨_, sCopy_ev (v.take d) (by simp; omega), rfl⟩ fun r q => Fin.now r (by rw [q]; simp <;> omega)
  induction d with
  | zero =>
   intro hd
   refine Fin.step (fun k => ?_) (hcp 0 (by omega))
   simp only [spec_l03Cut.l0]
   rw [if_neg (by omega), if_pos (by omega), if_pos (by omega)]
   rfl
  | succ d ih =>
   intro hd
   obtain ⟨J, hJ⟩ : ∃ J : Int, J = ((d + 1 : Nat) : Int) := ⟨_, rfl⟩
   have hw : wrap64 (J - 1) = (d : Int) := by rw [hJ]; exact w64n (by omega) (by omega)
   rw [← hJ]
   by_cases h0 : rd v (d : Int) = 0
   · refine Fin.step (fun k => ?_) (ih (by omega))
     simp only [spec_l03Cut.l0]
     rw [if_pos (by omega), hw, if_pos (by omega), if_pos (by omega), if_pos h0]
   · refine Fin.step (fun k => ?_) (hcp (d + 1) (by omega))
     simp only [spec_l03Cut.l0]
     rw [if_pos (by omega), hw, if_pos (by omega), if_pos (by omega), if_neg h0, if_pos (by omega), if_pos (by omega), show (J : Int).toNat = d + 1 by omega]
 exact key v.length (Nat.le_refl _)

theorem fElems (f : Int) (v : List Int) (hv : v.length ≤ 1048576) : Fin (fun k => spec_l03Elements.f k f v) (fun _ => True) := by
 by_cases h : fldOk f
 · exact ⟨_, sElem_ev h v hv, trivial⟩
 · simp only [spec_l03Elements.f, sMod, Option.bind_some]
   exact Fin.yes (by unfold md; rw [if_neg h]) (Fin.now _ trivial)
theorem fPoly (f : Int) (v : List Int) (hv : v.length ≤ 1048576) : Fin (fun k => spec_PolyOk.f k f v) (fun _ => True) := by
 simp only [spec_PolyOk.f]
 refine Fin.ite (fun _ => Fin.now _ trivial) fun c => Fin.bind (fElems f v hv) fun b _ => Fin.ite (fun _ => Fin.ite (fun _ => Fin.now _ trivial) fun c2 => ?_) fun _ => Fin.now _ trivial
 have hw : wrap64 ((v.length : Int) - 1) = ((v.length - 1 : Nat) : Int) := w64n (by omega) (by omega)
 simp only [hw]
 exact Fin.yes (by omega) (Fin.yes (by omega) (Fin.now _ trivial))
theorem fPtsOk (f : Int) (v : List Int) (hv : v.length ≤ 1048576) : Fin (fun k => spec_PointsOk.f k f v) (fun _ => True) := by
 have key : ∀ (d j : Nat), v.length - j = d → j ≤ v.length → Fin (fun k => spec_PointsOk.l0 k v (j : Int)) (fun _ => True) := by
  intro d
  induction d with
  | zero =>
   intro j hd hj
   refine Fin.step (fun k => by rw [spec_PointsOk.l0]) ?_
   exact Fin.no (by omega) (Fin.now _ trivial)
  | succ d ih =>
   intro j hd hj
   refine Fin.step (fun k => by rw [spec_PointsOk.l0]) ?_
   simp only [wsucc (show j < 9223372036854775807 by omega)]
   exact Fin.yes (by omega) (Fin.yes (by omega) (Fin.yes (by omega) (Fin.bind (Q := fun _ => True) ⟨_, sHas_ev _ _ (by simp; omega), trivial⟩ fun b _ => Fin.ite (fun _ => Fin.now _ trivial) fun _ => ih (j + 1) (by omega) (by omega))))
 have hj : ∀ b, Fin (fun k => spec_PointsOk.j0 k v b) (fun _ => True) := fun b => by
  refine Fin.step (fun k => by rw [spec_PointsOk.j0]) ?_
  exact Fin.ite (fun _ => Fin.now _ trivial) fun _ => key v.length 0 (by omega) (by omega)
 simp only [spec_PointsOk.f, in_eq, Option.bind_some]
 exact Fin.ite (fun _ => Fin.bind (fElems f v hv) fun b _ => hj _) fun _ => hj _
theorem fCode (f : Int) (v : List Int) (hv : v.length ≤ 1048576) (n : Int) : Fin (fun k => spec_l07Code.f k f v n) (fun _ => True) := by
 simp only [spec_l07Code.f, in_eq, Option.bind_some]
 exact Fin.ite (fun _ => Fin.bind (fPtsOk f v hv) fun b _ => Fin.ite (fun _ => Fin.now _ trivial) fun _ => Fin.now _ trivial) fun _ => Fin.now _ trivial

theorem fPow (f a e : Int) : Fin (fun k => spec_Power.f k f a e) (fun _ => True) := by
 by_cases h : fldOk f
 · by_cases hx : a % md f = 0
   · have hm := md_pos h
     simp only [spec_Power.f, sMod, sReduce, Option.bind_some, if_pos h]
     exact Fin.no (by omega) (Fin.yes hx (Fin.ite (fun _ => Fin.now _ trivial) fun _ => Fin.ite (fun _ => Fin.now _ trivial) fun _ => Fin.now _ trivial))
   · exact ⟨_, sPow_ev h a e hx, trivial⟩
 · simp only [spec_Power.f, sMod, Option.bind_some]
   exact Fin.yes (by unfold md; rw [if_neg h]) (Fin.now _ trivial)
theorem fEval (f : Int) (v : List Int) (hv : v.length ≤ 1048576) (x : Int) : Fin (fun k => spec_EvalPoly.f k f v x) (fun _ => True) := by
 have key : ∀ (d j : Nat) (acc : Int), v.length - j = d → j ≤ v.length → Fin (fun k => spec_EvalPoly.l0 k f v x acc (j : Int)) (fun _ => True) := by
  intro d
  induction d with
  | zero =>
   intro j acc hd hj
   refine Fin.step (fun k => by rw [spec_EvalPoly.l0]) ?_
   exact Fin.no (by omega) (Fin.now _ trivial)
  | succ d ih =>
   intro j acc hd hj
   refine Fin.step (fun k => by rw [spec_EvalPoly.l0]) ?_
   simp only [wsucc (show j < 9223372036854775807 by omega), sMul, sAdd, Option.bind_some]
   exact Fin.yes (by omega) (Fin.yes (by omega) (Fin.bind (fPow f x _) fun t _ => ih (j + 1) _ (by omega) (by omega)))
 simp only [spec_EvalPoly.f]
 exact Fin.bind (fPoly f v hv) fun b _ => Fin.ite (fun _ => key v.length 0 0 (by omega) (by omega)) fun _ => Fin.now _ trivial
theorem fEncW (f : Int) (P D : List Int) (hP : P.length ≤ 1048576) (hD : D.length ≤ 1048576) : Fin (fun k => spec_EncodeWord.f k f P D) (fun r => r.length ≤ P.length) := by
 have key : ∀ (d j : Nat) (acc : List Int), P.length - j = d → j ≤ P.length → acc.length = j → Fin (fun k => spec_EncodeWord.l0 k f P D acc (j : Int)) (fun r => r.length ≤ P.length) := by
  intro d
  induction d with
  | zero =>
   intro j acc hd hj ha
   refine Fin.step (fun k => by rw [spec_EncodeWord.l0]) ?_
   exact Fin.no (by omega) (Fin.now _ (by omega))
  | succ d ih =>
   intro j acc hd hj ha
   refine Fin.step (fun k => by rw [spec_EncodeWord.l0]) ?_
   simp only [wsucc (show j < 9223372036854775807 by omega)]
   exact Fin.yes (by omega) (Fin.bind (fCut D hD) fun t ht => Fin.yes (by omega) (Fin.bind (fEval f t (by omega) _) fun y _ => Fin.yes (by omega) (ih (j + 1) _ (by omega) (by omega) (by simp; omega))))
 have hj : ∀ b, Fin (fun k => spec_EncodeWord.j0 k f P D [] b) (fun r => r.length ≤ P.length) := fun b => by
  refine Fin.step (fun k => by rw [spec_EncodeWord.j0]) ?_
  exact Fin.ite (fun _ => Fin.now _ (by simp)) fun _ => key P.length 0 [] (by omega) (by omega) rfl
 simp only [spec_EncodeWord.f, Option.bind_some]
 exact Fin.bind (fCode f P hP _) fun b _ => Fin.ite (fun _ => Fin.bind (fElems f D hD) fun b _ => hj _) fun _ => hj _

def putAll : List Int → List Int
 | [] => []
 | x :: r => put (zz x) ++ putAll r
def listE (l : List Int) : List Int := put (zz (l.length : Int)) ++ putAll l
def jobE (kind f : Int) (A B : List Int) (n : Int) : List Int := (([kind % 256, f % 256] ++ put (zz n)) ++ listE A) ++ listE B
theorem put6 {x : Int} (h : isWord x) : (put (zz x)).length ≤ 6 := put_len _ 5 (by have := zz_lt h; omega)
theorem putAll_len : ∀ l : List Int, (∀ x ∈ l, isWord x) → (putAll l).length ≤ 6 * l.length := by
 intro l
 induction l with
 | nil => intro _; simp [putAll]
 | cons x r ih =>
  intro h
  have h1 := put6 (h x (List.mem_cons_self ..))
  have h2 := ih (fun y hy => h y (List.mem_cons_of_mem _ hy))
  rw [putAll, List.length_append, List.length_cons]; omega
theorem word_small {n : Nat} (h : n ≤ 1000) : isWord (n : Int) := by unfold isWord; omega
theorem listE_len {l : List Int} (h : ∀ x ∈ l, isWord x) (hl : l.length ≤ 400) : (listE l).length ≤ 2406 := by
 have h1 := put6 (word_small (n := l.length) (by omega))
 have h2 := putAll_len l h
 rw [listE, List.length_append]; omega
theorem putAll_at {l : List Int} {i : Nat} (h : i < l.length) : putAll (l.drop i) = put (zz l[i]) ++ putAll (l.drop (i + 1)) := by
 rw [List.drop_eq_getElem_cons h, putAll]
theorem putAll_drop_len {l : List Int} (h : ∀ x ∈ l, isWord x) (i : Nat) : (putAll (l.drop i)).length ≤ 6 * l.length := by
 have h1 := putAll_len (l.drop i) (fun x hx => h x (List.mem_of_mem_drop hx))
 rw [List.length_drop] at h1
 omega

def jobEncV (kind f : Int) (A B : List Int) (n : Int) : List Int := if jobB kind f A B n = true then jobE kind f A B n else []
theorem job_words {kind f n : Int} {A B : List Int} (h : jobB kind f A B n = true) : (A.length ≤ 400 ∧ ∀ x ∈ A, isWord x) ∧ (B.length ≤ 400 ∧ ∀ x ∈ B, isWord x) ∧ 0 ≤ n ∧ n ≤ 400 := by
 unfold jobB at h
 rw [Bool.and_eq_true, Bool.and_eq_true, Bool.and_eq_true, wordsB_iff, wordsB_iff, decide_eq_true_eq, decide_eq_true_eq] at h
 exact ⟨h.2.1, h.2.2.1, h.2.2.2.1, h.2.2.2.2.1⟩
theorem jobEncV_len (kind f : Int) (A B : List Int) (n : Int) : (jobEncV kind f A B n).length ≤ 5000 := by
 unfold jobEncV
 split
 · rename_i h
   obtain ⟨⟨a1, a2⟩, ⟨b1, b2⟩, n0, n1⟩ := job_words h
   have h1 := listE_len a2 a1
   have h2 := listE_len b2 b1
   have h3 := put6 (x := n) (by unfold isWord; omega)
   rw [jobE, List.length_append, List.length_append, List.length_append]
   simp only [List.length_cons, List.length_nil]; omega
 · simp

theorem sPutW_ev {x : Int} (h : isWord x) : Ev (fun k => spec_PutNumber.f k x) (put (zz x)) := by
 have := sPut_ev x (i64_wf (by unfold isWord at h; omega) (by unfold isWord at h; omega))
 unfold putOf at this
 rwa [if_pos h] at this
theorem sPutList_l1 (l : List Int) (j : Nat) (t : List Int) (acc r : List Int) (ha : acc.length + t.length ≤ 1000000) (hr : Ev (fun k => spec_l10PutList.l0 k (acc ++ t) l ((j + 1 : Nat) : Int)) r) (hj : j ≤ 1000000) : ∀ (d i : Nat), t.length - i = d → i ≤ t.length →
 Ev (fun k => spec_l10PutList.l1 k (acc ++ t.take i) l (j : Int) t (t.length : Int) (i : Int)) r := by
 intro d
 induction d with
 | zero =>
  intro i h hi
  refine Ev.step (fun k => ?_) hr
  simp only [spec_l10PutList.l1]
  rw [if_neg (by omega), List.take_of_length_le (by omega), wsucc (by omega)]
 | succ d ih =>
  intro i h hi
  have key := ih (i + 1) (by omega) (by omega)
  refine Ev.step (fun k => ?_) key
  simp only [spec_l10PutList.l1]
  rw [if_pos (by omega), if_pos (by omega), if_pos (by omega), if_pos (by rw [List.length_append, List.length_take]; omega), wsucc (by omega), rd_eq (by omega), List.append_assoc, List.take_append_getElem (by omega)]
theorem sPutList_l0 (l : List Int) (hl : l.length ≤ 400) (hw : ∀ x ∈ l, isWord x) : ∀ (d i : Nat) (acc : List Int), l.length - i = d → i ≤ l.length → acc.length ≤ 10000 + 6 * i →
 Ev (fun k => spec_l10PutList.l0 k acc l (i : Int)) (acc ++ putAll (l.drop i)) := by
 intro d
 induction d with
 | zero =>
  intro i acc h hi ha
  refine ev_now fun k => ?_
  simp only [spec_l10PutList.l0]
  rw [if_neg (by omega), List.drop_of_length_le (by omega), putAll, List.append_nil]
 | succ d ih =>
  intro i acc h hi ha
  have hil : i < l.length := by omega
  have hwi := hw l[i] (List.getElem_mem hil)
  have h6 := put6 hwi
  have key := ih (i + 1) (acc ++ put (zz l[i])) (by omega) (by omega) (by rw [List.length_append]; omega)
  rw [List.append_assoc, ← putAll_at hil] at key
  have k1 := sPutList_l1 l i (put (zz l[i])) acc _ (by omega) key (by omega) (put (zz l[i])).length 0 (by omega) (by omega)
  rw [List.take_zero, List.append_nil] at k1
  obtain ⟨n, e1, e2⟩ := evs2 (sPutW_ev hwi) k1
  refine ⟨n + 1, fun k hk => ?_⟩
  obtain ⟨j, rfl⟩ : ∃ j, k = n + j + 1 := ⟨k - n - 1, by omega⟩
  simp only [spec_l10PutList.l0, rd_eq hil, e1 j, Option.bind_some]
  rw [if_pos (by omega), if_pos (by omega)]
  exact e2 j
theorem sPutList_ev (acc l : List Int) (hl : l.length ≤ 400) (hw : ∀ x ∈ l, isWord x) (ha : acc.length ≤ 5000) : Ev (fun k => spec_l10PutList.f k acc l) (acc ++ listE l) := by
 have hwl := word_small (n := l.length) (by omega)
 have h6 := put6 hwl
 have key := sPutList_l0 l hl hw l.length 0 (acc ++ put (zz (l.length : Int))) (by omega) (by omega) (by rw [List.length_append]; omega)
 rw [List.drop_zero, List.append_assoc] at key
 obtain ⟨n, e1, e2, e3⟩ := evs3 (sPutW_ev hwl) (sJoinB_ev acc (put (zz (l.length : Int))) (by omega)) key
 refine ⟨n, fun k hk => ?_⟩
 obtain ⟨j, rfl⟩ : ∃ j, k = n + j := ⟨k - n, by omega⟩
 simp only [spec_l10PutList.f, e1 j, e2 j, Option.bind_some]
 exact e3 j

theorem sEncJob_ev (kind f : Int) (A B : List Int) (n : Int) (hA : A.length ≤ 1048576) (hB : B.length ≤ 1048576) : Ev (fun k => spec_EncodeJob.f k kind f A B n) (jobEncV kind f A B n) := by
 unfold jobEncV
 by_cases h : jobB kind f A B n = true
 · obtain ⟨⟨a1, a2⟩, ⟨b1, b2⟩, n0, n1⟩ := job_words h
   have hwn : isWord n := by unfold isWord; omega
   have h3 := put6 hwn
   have h4 := listE_len a2 a1
   obtain ⟨m, e1, e2, e3, e4, e5⟩ := evs5 (sJob_ev kind f A B n hA hB) (sPutW_ev hwn) (sJoinB_ev [kind % 256, f % 256] (put (zz n)) (by simp only [List.length_cons, List.length_nil]; omega)) (sPutList_ev ([kind % 256, f % 256] ++ put (zz n)) A a1 a2 (by rw [List.length_append]; simp only [List.length_cons, List.length_nil]; omega)) (sPutList_ev (([kind % 256, f % 256] ++ put (zz n)) ++ listE A) B b1 b2 (by rw [List.length_append, List.length_append]; simp only [List.length_cons, List.length_nil]; omega))
   refine ⟨m, fun k hk => ?_⟩
   obtain ⟨j, rfl⟩ : ∃ j, k = m + j := ⟨k - m, by omega⟩
   rw [if_pos h]
   simp only [spec_EncodeJob.f, e1 j, h, e2 j, e3 j, e4 j, e5 j, Option.bind_some, if_true]
   rfl
 · rw [if_neg h]
   rw [Bool.not_eq_true] at h
   obtain ⟨m, e1⟩ := evs1 (sJob_ev kind f A B n hA hB)
   refine ⟨m, fun k hk => ?_⟩
   obtain ⟨j, rfl⟩ : ∃ j, k = m + j := ⟨k - m, by omega⟩
   simp only [spec_EncodeJob.f, e1, h, Option.bind_some, Bool.false_eq_true, if_false]

theorem iEncJ_l1 (Y : List (List Int)) (m : Int) (j : Nat) (l : List Int) (hl : l.length ≤ 400) (hw : ∀ x ∈ l, isWord x) (hj : j ≤ 1000) (r : List Int) : ∀ (d i : Nat) (acc : List Int), l.length - i = d → i ≤ l.length → acc.length ≤ 10000 + 6 * i →
 Ev (fun k => impl_encodeJob.l0 k (acc ++ putAll (l.drop i)) Y m ((j + 1 : Nat) : Int)) r →
 Ev (fun k => impl_encodeJob.l1 k acc Y m (j : Int) l (l.length : Int) (i : Int)) r := by
 intro d
 induction d with
 | zero =>
  intro i acc h hi ha hr
  rw [List.drop_of_length_le (by omega), putAll, List.append_nil] at hr
  refine Ev.step (fun k => ?_) hr
  simp only [impl_encodeJob.l1]
  rw [if_neg (by omega), wsucc (by omega)]
 | succ d ih =>
  intro i acc h hi ha hr
  have hil : i < l.length := by omega
  have hwi := hw l[i] (List.getElem_mem hil)
  have h6 := put6 hwi
  rw [putAll_at hil, ← List.append_assoc] at hr
  have key := ih (i + 1) (acc ++ put (zz l[i])) (by omega) (by omega) (by rw [List.length_append]; omega) hr
  obtain ⟨n, e1, e2⟩ := evs2 (iPut_ev l[i] hwi) key
  refine ⟨n + 1, fun k hk => ?_⟩
  obtain ⟨q, rfl⟩ : ∃ q, k = n + q + 1 := ⟨k - n - 1, by omega⟩
  simp only [impl_encodeJob.l1, rd_eq hil, e1 q, Option.bind_some]
  rw [if_pos (by omega), if_pos (by omega), if_pos (by omega), if_pos (by omega), wsucc (by omega)]
  exact e2 q
theorem iEncJ_l0 (Y : List (List Int)) (j : Nat) (hj : j < Y.length) (hY : Y.length ≤ 10) (l : List Int) (hlY : rd_L2 Y (j : Int) = l) (hl : l.length ≤ 400) (hw : ∀ x ∈ l, isWord x) (acc r : List Int) (ha : acc.length ≤ 9000) (hr : Ev (fun k => impl_encodeJob.l0 k (acc ++ listE l) Y (Y.length : Int) ((j + 1 : Nat) : Int)) r) :
 Ev (fun k => impl_encodeJob.l0 k acc Y (Y.length : Int) (j : Int)) r := by
 have hwl := word_small (n := l.length) (by omega)
 have h6 := put6 hwl
 have k1 := iEncJ_l1 Y (Y.length : Int) j l hl hw (by omega) r l.length 0 (acc ++ put (zz (l.length : Int))) (by omega) (by omega) (by rw [List.length_append]; omega) (by rw [List.drop_zero, List.append_assoc]; exact hr)
 obtain ⟨n, e1, e2⟩ := evs2 (iPut_ev (l.length : Int) hwl) k1
 refine ⟨n + 1, fun k hk => ?_⟩
 obtain ⟨q, rfl⟩ : ∃ q, k = n + q + 1 := ⟨k - n - 1, by omega⟩
 simp only [impl_encodeJob.l0, hlY, e1 q, Option.bind_some]
 rw [if_pos (by omega), if_pos (by omega), if_pos (by omega), if_pos (by omega)]
 exact e2 q

theorem iEncJob_ev (kind f : Int) (A B : List Int) (n : Int) (hA : A.length ≤ 1048576) (hB : B.length ≤ 1048576) : Ev (fun k => impl_EncodeJob.f k kind f A B n) (jobEncV kind f A B n) := by
 unfold jobEncV
 by_cases h : jobB kind f A B n = true
 · obtain ⟨⟨a1, a2⟩, ⟨b1, b2⟩, n0, n1⟩ := job_words h
   have hwn : isWord n := by unfold isWord; omega
   have h3 := put6 hwn
   have h4 := listE_len a2 a1
   have h5 := listE_len b2 b1
   have hend : Ev (fun k => impl_encodeJob.l0 k (jobE kind f A B n) [A, B] (([A, B] : List (List Int)).length : Int) ((2 : Nat) : Int)) (jobE kind f A B n) := ev_now fun k => by
    simp only [impl_encodeJob.l0]
    rw [if_neg (by simp)]
   have k2 := iEncJ_l0 [A, B] 1 (by simp) (by simp) B rfl b1 b2 (([kind % 256, f % 256] ++ put (zz n)) ++ listE A) _ (by rw [List.length_append, List.length_append]; simp only [List.length_cons, List.length_nil]; omega) hend
   have k1 := iEncJ_l0 [A, B] 0 (by simp) (by simp) A rfl a1 a2 ([kind % 256, f % 256] ++ put (zz n)) _ (by rw [List.length_append]; simp only [List.length_cons, List.length_nil]; omega) k2
   obtain ⟨m, e1, e2, e3⟩ := evs3 (iJob_ev kind f A B n hA hB) (iPut_ev n hwn) k1
   refine ⟨m, fun k hk => ?_⟩
   obtain ⟨j, rfl⟩ : ∃ j, k = m + j := ⟨k - m, by omega⟩
   rw [if_pos h]
   have c1 : ([kind % 256, f % 256] : List Int).length + (put (zz n)).length < 140737488355328 := by simp only [List.length_cons, List.length_nil]; omega
   have e3' := e3 j
   have e4 : impl_encodeJob.f (m + j) kind f A B n = some (jobE kind f A B n) := by
    simp only [impl_encodeJob.f, e2 j, Option.bind_some, c1, if_true]
    exact e3'
   simp only [impl_EncodeJob.f, e1 j, h, e4, Option.bind_some, if_true]
 · rw [if_neg h]
   rw [Bool.not_eq_true] at h
   obtain ⟨m, e1⟩ := evs1 (iJob_ev kind f A B n hA hB)
   refine ⟨m, fun k hk => ?_⟩
   obtain ⟨j, rfl⟩ : ∃ j, k = m + j := ⟨k - m, by omega⟩
   simp only [impl_EncodeJob.f, e1, h, Option.bind_some, Bool.false_eq_true, if_false]

theorem drawOnce1 (l : List Int) (hn : l.length ≤ 140737488355328) (i h : Int) (hi : dAt l i) (m : Int) : ∃ b i' h', spec_l01Once.f l i h m = some (b, i', h') ∧ dAt l i' := by
 obtain ⟨b1, i1, h1, e1, r1, d1⟩ := drawBelow l hn i h hi m
 exact ⟨(b1 == 0), i1, h1, by simp only [spec_l01Once.f, e1, Option.bind_some], d1⟩

theorem drawField (l : List Int) (hn : l.length ≤ 140737488355328) (i h : Int) (hi : dAt l i) : ∃ b i' h', spec_l01DrawField.f l i h = some (b, i', h') ∧ dAt l i' := by
 obtain ⟨b1, i1, h1, e1, d1⟩ := drawOnce1 l hn i h hi 20
 obtain ⟨b2, i2, h2, e2, r2, d2⟩ := drawPickInt l hn i1 h1 d1 [(-1), 9, 100] (by simp)
 obtain ⟨b3, i3, h3, e3, r3, d3⟩ := drawBelow l hn i1 h1 d1 9
 cases b1 with
 | true => exact ⟨b2, i2, h2, by simp only [spec_l01DrawField.f, e1, e2, Option.bind_some, if_true], d2⟩
 | false => exact ⟨b3, i3, h3, by simp only [spec_l01DrawField.f, e1, e3, Option.bind_some, Bool.false_eq_true, if_false], d3⟩

theorem drawElem (l : List Int) (hn : l.length ≤ 140737488355328) (i h : Int) (hi : dAt l i) (f : Int) : ∃ b i' h', spec_l01DrawElement.f l i h f = some (b, i', h') ∧ dAt l i' := by
 simp only [spec_l01DrawElement.f, sMod, Option.bind_some]
 by_cases h0 : md f = 0
 · obtain ⟨b1, i1, h1, e1, r1, d1⟩ := drawBelow l hn i h hi 50
   rw [if_pos h0, e1]
   exact ⟨_, _, _, rfl, d1⟩
 · obtain ⟨b1, i1, h1, e1, r1, d1⟩ := drawBelow l hn i h hi 6
   rw [if_neg h0, e1, Option.bind_some]
   by_cases c0 : b1 = 0
   · obtain ⟨b2, i2, h2, e2, r2, d2⟩ := drawBelow l hn i1 h1 d1 3
     rw [if_pos c0, e2]
     exact ⟨_, _, _, rfl, d2⟩
   · rw [if_neg c0]
     by_cases c1 : b1 = 1
     · obtain ⟨b2, i2, h2, e2, r2, d2⟩ := drawBelow l hn i1 h1 d1 3
       rw [if_pos c1, e2]
       exact ⟨_, _, _, rfl, d2⟩
     · rw [if_neg c1]
       by_cases c2 : b1 = 2
       · obtain ⟨b2, i2, h2, e2, r2, d2⟩ := drawBelow l hn i1 h1 d1 16777216
         obtain ⟨b3, i3, h3, e3, r3, d3⟩ := drawBelow l hn i2 h2 d2 256
         rw [if_pos c2, e2, Option.bind_some, e3]
         exact ⟨_, _, _, rfl, d3⟩
       · obtain ⟨b2, i2, h2, e2, r2, d2⟩ := drawBelow l hn i1 h1 d1 30
         rw [if_neg c2, e2]
         exact ⟨_, _, _, rfl, d2⟩

theorem drawList_l (l : List Int) (hn : l.length ≤ 140737488355328) (f : Int) (n : Nat) (hn6 : n ≤ 1048576) : ∀ (d j : Nat) (acc : List Int) (i h : Int), n - j = d → j ≤ n → acc.length = j → dAt l i →
 ∃ out i' h', Ev (fun k => spec_l01DrawList.l0 k f (n : Int) acc (j : Int) l i h) (out, i', h') ∧ out.length = n ∧ dAt l i' := by
 intro d
 induction d with
 | zero =>
  intro j acc i h hd hj ha hi
  refine ⟨acc, i, h, ev_now fun k => ?_, by omega, hi⟩
  simp only [spec_l01DrawList.l0]
  rw [if_neg (by omega)]
 | succ d ih =>
  intro j acc i h hd hj ha hi
  obtain ⟨b1, i1, h1, e1, d1⟩ := drawElem l hn i h hi f
  obtain ⟨out, i', h', k1, k2, k3⟩ := ih (j + 1) (acc ++ [b1]) i1 h1 (by omega) (by omega) (by simp; omega) d1
  refine ⟨out, i', h', Ev.step (fun k => ?_) k1, k2, k3⟩
  simp only [spec_l01DrawList.l0, e1, Option.bind_some]
  rw [if_pos (by omega), if_pos (by omega), wsucc (by omega)]
theorem drawList (l : List Int) (hn : l.length ≤ 140737488355328) (i h : Int) (hi : dAt l i) (f : Int) (n : Nat) (hn6 : n ≤ 1048576) : ∃ out i' h', Ev (fun k => spec_l01DrawList.f k l i h f (n : Int)) (out, i', h') ∧ out.length = n ∧ dAt l i' := by
 obtain ⟨out, i', h', k1, k2, k3⟩ := drawList_l l hn f n hn6 n 0 [] i h rfl (by omega) rfl hi
 exact ⟨out, i', h', Ev.congr (fun k => rfl) k1, k2, k3⟩

theorem fBelow (l : List Int) (hn : l.length ≤ 140737488355328) (i h : Int) (hi : dAt l i) (m : Int) : Fin (fun _ => spec_l01Below.f l i h m) (fun r => (0 ≤ r.1 ∧ (r.1 < m ∨ r.1 = 0)) ∧ dAt l r.2.1) := by
 obtain ⟨b, i1, h1, e, q, d⟩ := drawBelow l hn i h hi m
 exact ⟨_, ev_some fun _ => e, q, d⟩
theorem fPick (l : List Int) (hn : l.length ≤ 140737488355328) (i h : Int) (hi : dAt l i) (xs : List Int) (hx : 0 < xs.length) : Fin (fun _ => spec_l01PickInt.f l i h xs) (fun r => r.1 ∈ xs ∧ dAt l r.2.1) := by
 obtain ⟨b, i1, h1, e, q, d⟩ := drawPickInt l hn i h hi xs hx
 exact ⟨_, ev_some fun _ => e, q, d⟩
theorem fOnce (l : List Int) (hn : l.length ≤ 140737488355328) (i h : Int) (hi : dAt l i) (m : Int) : Fin (fun _ => spec_l01Once.f l i h m) (fun r => dAt l r.2.1) := by
 obtain ⟨b, i1, h1, e, d⟩ := drawOnce1 l hn i h hi m
 exact ⟨_, ev_some fun _ => e, d⟩
theorem fField (l : List Int) (hn : l.length ≤ 140737488355328) (i h : Int) (hi : dAt l i) : Fin (fun _ => spec_l01DrawField.f l i h) (fun r => dAt l r.2.1) := by
 obtain ⟨b, i1, h1, e, d⟩ := drawField l hn i h hi
 exact ⟨_, ev_some fun _ => e, d⟩
theorem fElem (l : List Int) (hn : l.length ≤ 140737488355328) (i h : Int) (hi : dAt l i) (f : Int) : Fin (fun _ => spec_l01DrawElement.f l i h f) (fun r => dAt l r.2.1) := by
 obtain ⟨b, i1, h1, e, d⟩ := drawElem l hn i h hi f
 exact ⟨_, ev_some fun _ => e, d⟩
theorem fList (l : List Int) (hn : l.length ≤ 140737488355328) (i h : Int) (hi : dAt l i) (f n : Int) (h0 : 0 ≤ n) (h1 : n ≤ 1048576) : Fin (fun k => spec_l01DrawList.f k l i h f n) (fun r => (r.1.length : Int) = n ∧ dAt l r.2.1) := by
 obtain ⟨out, i', h', e, q, d⟩ := drawList l hn i h hi f n.toNat (by omega)
 rw [show ((n.toNat : Nat) : Int) = n by omega] at e
 exact ⟨_, e, by show (out.length : Int) = n; omega, d⟩
theorem fMod (f : Int) : Fin (fun _ => spec_Modulus.f f) (fun _ => True) := ⟨_, ev_some fun _ => sMod f, trivial⟩

theorem fAny (l : List Int) (hn : l.length ≤ 140737488355328) (i h : Int) (hi : dAt l i) (f : Int) : Fin (fun _ => spec_l01DrawAny.f l i h f) (fun r => dAt l r.2.1) := by
 simp only [spec_l01DrawAny.f]
 refine Fin.bind (fBelow l hn i h hi 8) fun r1 q1 => ?_
 refine Fin.ite (fun _ => ?_) fun _ => ?_
 · exact Fin.bind (fBelow l hn _ _ q1.2 300) fun r2 q2 => Fin.now _ q2.2
 · refine Fin.ite (fun _ => ?_) fun _ => ?_
   · exact Fin.bind (fPick l hn _ _ q1.2 _ (by simp)) fun r2 q2 => Fin.now _ q2.2
   · refine Fin.ite (fun _ => ?_) fun _ => ?_
     · exact Fin.bind (fMod f) fun _ _ => Fin.bind (fBelow l hn _ _ q1.2 1000) fun r2 q2 => Fin.now _ q2.2
     · refine Fin.ite (fun _ => ?_) fun _ => ?_
       · exact Fin.bind (fBelow l hn _ _ q1.2 _) fun r2 q2 => Fin.bind (fBelow l hn _ _ q2.2 _) fun r3 q3 => Fin.now _ q3.2
       · exact Fin.bind (fElem l hn _ _ q1.2 f) fun r2 q2 => Fin.now _ q2

theorem fTerms (l : List Int) (hn : l.length ≤ 140737488355328) (i h : Int) (hi : dAt l i) (m : Int) (h0 : 0 ≤ m) (h1 : m ≤ 1048575) : Fin (fun k => spec_l05DrawTerms.f k l i h m) (fun r => (r.1.length : Int) ≤ 1048575 ∧ dAt l r.2.1) := by
 obtain ⟨n, rfl⟩ : ∃ n : Nat, m = (n : Int) := ⟨m.toNat, by omega⟩
 have hj1 : ∀ (acc : List Int) (i h : Int) (b : Bool), acc.length = n → dAt l i → (b = true → 0 < n) → Fin (fun k => spec_l05DrawTerms.j1 k (n : Int) acc b l i h) (fun r => (r.1.length : Int) ≤ 1048575 ∧ dAt l r.2.1) := by
  intro acc i h b ha hi hb
  refine Fin.step (fun k => by rw [spec_l05DrawTerms.j1]) ?_
  refine Fin.ite (fun c => ?_) fun c => Fin.now _ ⟨by show (acc.length : Int) ≤ 1048575; omega, hi⟩
  have := hb c
  refine Fin.bind (fBelow l hn i h hi _) fun r1 q1 => Fin.bind (fPick l hn _ _ q1.2 _ (by simp)) fun r2 q2 => ?_
  have := q1.1
  exact Fin.yes (by omega) (Fin.yes (by omega) (Fin.now _ ⟨by show ((acc.set _ _).length : Int) ≤ 1048575; rw [List.length_set]; omega, q2.2⟩))
 have key : ∀ (d j : Nat) (acc : List Int) (i h : Int), n - j = d → j ≤ n → acc.length = j → dAt l i → Fin (fun k => spec_l05DrawTerms.l0 k (n : Int) acc (j : Int) l i h) (fun r => (r.1.length : Int) ≤ 1048575 ∧ dAt l r.2.1) := by
  intro d
  induction d with
  | zero =>
   intro j acc i h hd hj ha hi
   refine Fin.step (fun k => by rw [spec_l05DrawTerms.l0]) ?_
   refine Fin.no (by omega) (Fin.bind (fOnce l hn i h hi _) fun r1 q1 => Fin.ite (fun _ => ?_) fun _ => ?_)
   · exact hj1 acc _ _ _ (by omega) q1 (fun e => by simpa using e)
   · exact hj1 acc _ _ _ (by omega) q1 (fun e => by simp at e)
  | succ d ih =>
   intro j acc i h hd hj ha hi
   refine Fin.step (fun k => by rw [spec_l05DrawTerms.l0]) ?_
   refine Fin.yes (by omega) (Fin.bind (fBelow l hn i h hi _) fun r1 q1 => Fin.bind (fBelow l hn _ _ q1.2 _) fun r2 q2 => Fin.bind (fBelow l hn _ _ q2.2 _) fun r3 q3 => Fin.bind (fPick l hn _ _ q3.2 _ (by simp)) fun r4 q4 => Fin.yes (by omega) ?_)
   rw [wsucc (by omega)]
   exact ih (j + 1) (acc ++ [r4.1]) _ _ (by omega) (by omega) (by simp; omega) q4.2
 exact key n 0 [] i h (by omega) (by omega) rfl hi

theorem fSeries (l : List Int) (hn : l.length ≤ 140737488355328) (i h : Int) (hi : dAt l i) (f n c : Int) (h0 : 0 < n) (h1 : n ≤ 1048575) : Fin (fun k => spec_l06DrawSeries.f k l i h f n c) (fun r => (r.1.length : Int) ≤ 1048575 ∧ dAt l r.2.1) := by
 have hj2 : ∀ (acc : List Int) (i h : Int) (b : Bool), (acc.length : Int) = n → dAt l i → Fin (fun k => spec_l06DrawSeries.j2 k f n acc b l i h) (fun r => (r.1.length : Int) ≤ 1048575 ∧ dAt l r.2.1) := by
  intro acc i h b ha hi
  refine Fin.step (fun k => by rw [spec_l06DrawSeries.j2]) ?_
  refine Fin.ite (fun c => ?_) fun c => Fin.now _ ⟨by show (acc.length : Int) ≤ 1048575; omega, hi⟩
  refine Fin.bind (fBelow l hn i h hi _) fun r1 q1 => Fin.bind (fMod f) fun t _ => Fin.bind (fPick l hn _ _ q1.2 _ (by simp)) fun r2 q2 => ?_
  have := q1.1
  exact Fin.yes (by omega) (Fin.yes (by omega) (Fin.now _ ⟨by show ((acc.set _ _).length : Int) ≤ 1048575; rw [List.length_set]; omega, q2.2⟩))
 have hj1 : ∀ (acc : List Int) (i h : Int), (acc.length : Int) = n → dAt l i → Fin (fun k => spec_l06DrawSeries.j1 k f n acc l i h) (fun r => (r.1.length : Int) ≤ 1048575 ∧ dAt l r.2.1) := by
  intro acc i h ha hi
  refine Fin.step (fun k => by rw [spec_l06DrawSeries.j1]) ?_
  exact Fin.bind (fOnce l hn i h hi _) fun r1 q1 => Fin.ite (fun _ => hj2 acc _ _ _ ha q1) fun _ => hj2 acc _ _ _ ha q1
 have hj0 : ∀ (acc : List Int) (i h : Int) (b : Bool), (acc.length : Int) = n → dAt l i → Fin (fun k => spec_l06DrawSeries.j0 k f n c acc b l i h) (fun r => (r.1.length : Int) ≤ 1048575 ∧ dAt l r.2.1) := by
  intro acc i h b ha hi
  refine Fin.step (fun k => by rw [spec_l06DrawSeries.j0]) ?_
  exact Fin.ite (fun _ => Fin.yes (by omega) (hj1 _ _ _ (by rw [List.length_set]; exact ha) hi)) fun _ => hj1 acc _ _ ha hi
 simp only [spec_l06DrawSeries.f]
 exact Fin.bind (fList l hn i h hi f n (by omega) (by omega)) fun r1 q1 => Fin.ite (fun _ => hj0 _ _ _ _ q1.1 q1.2) fun _ => hj0 _ _ _ _ q1.1 q1.2

theorem fPoints (l : List Int) (hn : l.length ≤ 140737488355328) (i h : Int) (hi : dAt l i) (f m : Int) (h0 : 0 < m) (h1 : m ≤ 1000) : Fin (fun k => spec_l07DrawPoints.f k l i h f m) (fun r => (0 < r.1.length ∧ (r.1.length : Int) ≤ 1000) ∧ dAt l r.2.1) := by
 obtain ⟨n, rfl⟩ : ∃ n : Nat, m = (n : Int) := ⟨m.toNat, by omega⟩
 have hj1 : ∀ (acc : List Int) (i h : Int) (b : Bool), acc.length ≤ n → 0 < acc.length → dAt l i → Fin (fun k => spec_l07DrawPoints.j1 k f acc b l i h) (fun r => (0 < r.1.length ∧ (r.1.length : Int) ≤ 1000) ∧ dAt l r.2.1) := by
  intro acc i h b ha hp hi
  refine Fin.step (fun k => by rw [spec_l07DrawPoints.j1]) ?_
  refine Fin.ite (fun c => ?_) fun c => Fin.now _ ⟨⟨hp, by show (acc.length : Int) ≤ 1000; omega⟩, hi⟩
  refine Fin.bind (fBelow l hn i h hi _) fun r1 q1 => Fin.bind (fMod f) fun t _ => Fin.bind (fPick l hn _ _ q1.2 _ (by simp)) fun r2 q2 => ?_
  have := q1.1
  exact Fin.yes (by omega) (Fin.yes (by omega) (Fin.now _ ⟨⟨by show 0 < (acc.set _ _).length; rw [List.length_set]; omega, by show ((acc.set _ _).length : Int) ≤ 1000; rw [List.length_set]; omega⟩, q2.2⟩))
 have key : ∀ (d j : Nat) (acc : List Int) (i h : Int), n - j = d → j ≤ n → acc.length ≤ j → (0 < j → 0 < acc.length) → dAt l i → Fin (fun k => spec_l07DrawPoints.l0 k f (n : Int) acc (j : Int) l i h) (fun r => (0 < r.1.length ∧ (r.1.length : Int) ≤ 1000) ∧ dAt l r.2.1) := by
  intro d
  induction d with
  | zero =>
   intro j acc i h hd hj ha hp hi
   refine Fin.step (fun k => by rw [spec_l07DrawPoints.l0]) ?_
   have := hp (by omega)
   exact Fin.no (by omega) (Fin.bind (fOnce l hn i h hi _) fun r1 q1 => Fin.ite (fun _ => hj1 acc _ _ _ (by omega) this q1) fun _ => hj1 acc _ _ _ (by omega) this q1)
  | succ d ih =>
   intro j acc i h hd hj ha hp hi
   refine Fin.step (fun k => by rw [spec_l07DrawPoints.l0]) ?_
   refine Fin.yes (by omega) (Fin.bind (fElem l hn i h hi f) fun r1 q1 => Fin.bind (Q := fun b => b = decide (r1.1 ∈ acc)) ⟨_, sHas_ev acc r1.1 (by omega), rfl⟩ fun b hb => ?_)
   simp only [wsucc (show j < 9223372036854775807 by omega)]
   refine Fin.ite (fun c => ?_) fun c => ?_
   · have hm : 0 < acc.length := by
      rw [hb, decide_eq_true_eq] at c
      exact List.length_pos_of_mem c
     refine Fin.bind (fOnce l hn _ _ q1 _) fun r2 q2 => Fin.ite (fun _ => ?_) fun _ => ?_
     · exact Fin.yes (by omega) (ih (j + 1) _ _ _ (by omega) (by omega) (by simp; omega) (fun _ => by simp) q2)
     · exact ih (j + 1) _ _ _ (by omega) (by omega) (by omega) (fun _ => hm) q2
   · exact Fin.yes (by omega) (ih (j + 1) _ _ _ (by omega) (by omega) (by simp; omega) (fun _ => by simp) q1)
 exact key n 0 [] i h (by omega) (by omega) (by simp) (fun e => by omega) hi

theorem fWord (l : List Int) (hn : l.length ≤ 140737488355328) (i h : Int) (hi : dAt l i) : Fin (fun k => spec_l07DrawWord.f k l i h) (fun r => r.2.1.length ≤ 1000 ∧ r.2.2.1.length ≤ 1000 ∧ dAt l r.2.2.2.2.2.1) := by
 have key : ∀ (f : Int) (P D : List Int) (n : Int) (m : Nat), m ≤ 9223372036854775806 → P.length ≤ 1000 → ∀ (d j : Nat) (acc : List Int) (i h : Int), m - j = d → j ≤ m → 0 < acc.length → acc.length ≤ 1000 → dAt l i → Fin (fun k => spec_l07DrawWord.l0 k f P n D acc (m : Int) (j : Int) l i h) (fun r => r.2.1.length ≤ 1000 ∧ r.2.2.1.length ≤ 1000 ∧ dAt l r.2.2.2.2.2.1) := by
  intro f P D n m hm hP d
  induction d with
  | zero =>
   intro j acc i h hd hj ha ha2 hi
   refine Fin.step (fun k => by rw [spec_l07DrawWord.l0]) ?_
   exact Fin.no (by omega) (Fin.now _ ⟨hP, ha2, hi⟩)
  | succ d ih =>
   intro j acc i h hd hj ha ha2 hi
   refine Fin.step (fun k => by rw [spec_l07DrawWord.l0]) ?_
   simp only [wsucc (show j < 9223372036854775807 by omega)]
   refine Fin.yes (by omega) (Fin.bind (fBelow l hn i h hi _) fun r1 q1 => Fin.bind (fElem l hn _ _ q1.2 f) fun r2 q2 => ?_)
   have := q1.1
   exact Fin.yes (by omega) (Fin.yes (by omega) (ih (j + 1) _ _ _ (by omega) (by omega) (by rw [List.length_set]; exact ha) (by rw [List.length_set]; exact ha2) q2))
 have hw63 : ∀ x : Int, wrap64 x ≤ 9223372036854775807 := fun x => by unfold wrap64; omega
 have hj2 : ∀ (f : Int) (P D : List Int) (n x : Int) (acc : List Int) (i h : Int), 0 ≤ x → x ≤ 9223372036854775806 → P.length ≤ 1000 → 0 < acc.length → acc.length ≤ 1000 → dAt l i → Fin (fun k => spec_l07DrawWord.j2 k f P n D acc x l i h) (fun r => r.2.1.length ≤ 1000 ∧ r.2.2.1.length ≤ 1000 ∧ dAt l r.2.2.2.2.2.1) := by
  intro f P D n x acc i h h0 h1 hP ha ha2 hi
  obtain ⟨m, rfl⟩ : ∃ m : Nat, x = (m : Int) := ⟨x.toNat, by omega⟩
  refine Fin.step (fun k => by rw [spec_l07DrawWord.j2]) ?_
  exact key f P D n m (by omega) hP m 0 acc i h (by omega) (by omega) ha ha2 hi
 have hj1 : ∀ (f : Int) (P D : List Int) (n : Int) (acc : List Int) (i h : Int), P.length ≤ 1000 → 0 < acc.length → acc.length ≤ 1000 → dAt l i → Fin (fun k => spec_l07DrawWord.j1 k f P n D acc l i h) (fun r => r.2.1.length ≤ 1000 ∧ r.2.2.1.length ≤ 1000 ∧ dAt l r.2.2.2.2.2.1) := by
  intro f P D n acc i h hP ha ha2 hi
  refine Fin.step (fun k => by rw [spec_l07DrawWord.j1]) ?_
  refine Fin.bind (fBelow l hn i h hi _) fun r1 q1 => Fin.bind (fOnce l hn _ _ q1.2 _) fun r2 q2 => Fin.ite (fun _ => ?_) fun _ => ?_
  · refine Fin.bind (fBelow l hn _ _ q2 _) fun r3 q3 => ?_
    have h1 := hw63 ((P.length : Int) + 1)
    have := q3.1
    exact hj2 f P D n _ acc _ _ (by omega) (by omega) hP ha ha2 q3.2
  · have h1 := hw63 ((wrap64 (Int.tdiv (wrap64 ((P.length : Int) - n)) 2)) + 2)
    have := q1.1
    exact hj2 f P D n _ acc _ _ (by omega) (by omega) hP ha ha2 q2
 have hj0 : ∀ (f : Int) (P : List Int) (n : Int) (i h : Int), P.length ≤ 1000 → 0 < P.length → 0 ≤ n → n ≤ 1048576 → dAt l i → Fin (fun k => spec_l07DrawWord.j0 k f P n l i h) (fun r => r.2.1.length ≤ 1000 ∧ r.2.2.1.length ≤ 1000 ∧ dAt l r.2.2.2.2.2.1) := by
  intro f P n i h hP hp h0 h1 hi
  refine Fin.step (fun k => by rw [spec_l07DrawWord.j0]) ?_
  refine Fin.bind (fList l hn i h hi f n h0 h1) fun r1 q1 => Fin.bind (fEncW f P r1.1 (by omega) (by have := q1.1; omega)) fun W hW => Fin.ite (fun _ => ?_) fun c => ?_
  · refine Fin.bind (fList l hn _ _ q1.2 f _ (by omega) (by omega)) fun r2 q2 => ?_
    have := q2.1
    exact hj1 f P _ n _ _ _ hP (by omega) (by omega) q2.2
  · exact hj1 f P _ n W _ _ hP (by omega) (by omega) q1.2
 simp only [spec_l07DrawWord.f]
 refine Fin.bind (fField l hn i h hi) fun r1 q1 => Fin.bind (fBelow l hn _ _ q1 8) fun r2 q2 => ?_
 have b2 := q2.1
 have e2 : wrap64 (3 + r2.1) = 3 + r2.1 := w64 (by omega) (by omega)
 simp only [e2]
 refine Fin.bind (fPoints l hn _ _ q2.2 r1.1 (3 + r2.1) (by omega) (by omega)) fun r3 q3 => Fin.bind (fBelow l hn _ _ q3.2 _) fun r4 q4 => Fin.bind (fOnce l hn _ _ q4.2 2) fun r5 q5 => ?_
 have b3 := q3.1
 have b4 := q4.1
 have e4 : wrap64 (1 + r4.1) = 1 + r4.1 := w64 (by omega) (by omega)
 refine Fin.ite (fun _ => ?_) fun _ => ?_
 · refine Fin.bind (fBelow l hn _ _ q5 _) fun r6 q6 => ?_
   have b6 := q6.1
   have e5 : wrap64 (Int.tdiv (wrap64 ((r3.1.length : Int) + 1)) 2) ≤ 1001 := by
    rw [w64 (x := (r3.1.length : Int) + 1) (by omega) (by omega), Int.tdiv_eq_ediv_of_nonneg (by omega), w64 (by omega) (by omega)]; omega
   have e6 : wrap64 (1 + r6.1) = 1 + r6.1 := w64 (by omega) (by omega)
   simp only [e6]
   exact hj0 _ _ _ _ _ (by omega) b3.1 (by omega) (by omega) q6.2
 · simp only [e4]
   exact hj0 _ _ _ _ _ (by omega) b3.1 (by omega) (by omega) q5

def jobQ (l : List Int) (r : Int × Int × List Int × List Int × Int × Int × Int) : Prop := (r.2.2.1.length : Int) ≤ 1048576 ∧ (r.2.2.2.1.length : Int) ≤ 1048576 ∧ dAt l r.2.2.2.2.2.1
theorem sh4 (x : Int) (h0 : 0 ≤ x) (h1 : x < 4) : 0 ≤ IntKind.u64.wrap x ∧ 0 ≤ shl .i64 1 (IntKind.u64.wrap x) ∧ shl .i64 1 (IntKind.u64.wrap x) ≤ 8 := by
 rcases (show x = 0 ∨ x = 1 ∨ x = 2 ∨ x = 3 by omega) with rfl | rfl | rfl | rfl <;> decide +kernel
theorem fJob3 (l : List Int) (hn : l.length ≤ 140737488355328) (i h : Int) (hi : dAt l i) (op f : Int) (A B : List Int) (n : Int) (hA : (A.length : Int) ≤ 1048575) (hB : (B.length : Int) ≤ 1048575) : Fin (fun k => spec_l10DrawJob.j3 k l i h op f A B n) (jobQ l) := by
 refine Fin.step (fun k => by rw [spec_l10DrawJob.j3]) ?_
 refine Fin.bind (fOnce l hn i h hi 12) fun r1 q1 => Fin.ite (fun _ => ?_) fun _ => Fin.now _ ⟨by show (A.length : Int) ≤ 1048576; omega, by show (B.length : Int) ≤ 1048576; omega, q1⟩
 refine Fin.bind (fBelow l hn _ _ q1 5) fun r2 q2 => Fin.ite (fun _ => ?_) fun _ => ?_
 · exact Fin.bind (fBelow l hn _ _ q2.2 11) fun r3 q3 => Fin.bind (fPick l hn _ _ q3.2 _ (by simp)) fun r4 q4 => Fin.now _ ⟨by show (A.length : Int) ≤ 1048576; omega, by show (B.length : Int) ≤ 1048576; omega, q4.2⟩
 refine Fin.ite (fun _ => ?_) fun _ => ?_
 · exact Fin.bind (fField l hn _ _ q2.2) fun r3 q3 => Fin.now _ ⟨by show (A.length : Int) ≤ 1048576; omega, by show (B.length : Int) ≤ 1048576; omega, q3⟩
 refine Fin.ite (fun _ => ?_) fun _ => ?_
 · exact Fin.bind (fPick l hn _ _ q2.2 _ (by simp)) fun r3 q3 => Fin.now _ ⟨by show (A.length : Int) ≤ 1048576; omega, by show (B.length : Int) ≤ 1048576; omega, q3.2⟩
 refine Fin.ite (fun _ => ?_) fun _ => ?_
 · refine Fin.bind (Q := fun r => r = B) ⟨_, sCopy_ev B (by omega), rfl⟩ fun t ht => Fin.bind (fAny l hn _ _ q2.2 f) fun r3 q3 => ?_
   subst ht
   exact Fin.yes (by omega) (Fin.now _ ⟨by show (A.length : Int) ≤ 1048576; omega, by show ((t ++ [_]).length : Int) ≤ 1048576; simp; omega, q3⟩)
 refine Fin.ite (fun _ => ?_) fun _ => ?_
 · refine Fin.bind (Q := fun r => r = A) ⟨_, sCopy_ev A (by omega), rfl⟩ fun t ht => Fin.bind (fPick l hn _ _ q2.2 _ (by simp)) fun r3 q3 => ?_
   subst ht
   exact Fin.yes (by omega) (Fin.now _ ⟨by show ((t ++ [_]).length : Int) ≤ 1048576; simp; omega, by show (B.length : Int) ≤ 1048576; omega, q3.2⟩)
 · exact Fin.now _ ⟨by show (A.length : Int) ≤ 1048576; omega, by show (B.length : Int) ≤ 1048576; omega, q2.2⟩
theorem fJob2 (l : List Int) (hn : l.length ≤ 140737488355328) (a : Int) (ha0 : 0 ≤ a) (ha : a ≤ 900) (i h : Int) (hi : dAt l i) (x : Int) (b : Bool) (op f n : Int) : Fin (fun k => spec_l10DrawJob.j2 k a x b l i h op f n) (jobQ l) := by
 have w1 : wrap64 (a + 1) = a + 1 := w64 (by omega) (by omega)
 have w2 : wrap64 (wrap64 (Int.tdiv a 2) + 2) = a / 2 + 2 := by
  rw [Int.tdiv_eq_ediv_of_nonneg ha0, w64 (x := a / 2) (by omega) (by omega), w64 (by omega) (by omega)]
 refine Fin.step (fun k => by rw [spec_l10DrawJob.j2]) ?_
 simp only [w1, w2]
 refine Fin.ite (fun _ => ?_) fun _ => Fin.ite (fun _ => ?_) fun _ => Fin.ite (fun _ => ?_) fun _ => Fin.ite (fun _ => ?_) fun _ => Fin.ite (fun _ => ?_) fun _ => Fin.ite (fun _ => ?_) fun _ => ?_
 · refine Fin.bind (fBelow l hn i h hi _) fun r1 q1 => ?_
   have b1 := q1.1
   refine Fin.bind (fList l hn _ _ q1.2 f _ (by omega) (by omega)) fun r2 q2 => ?_
   have b2 := q2.1
   refine Fin.bind (fCut r2.1 (by omega)) fun c1 k1 => Fin.bind (fBelow l hn _ _ q2.2 _) fun r3 q3 => ?_
   have b3 := q3.1
   refine Fin.bind (fList l hn _ _ q3.2 f _ (by omega) (by omega)) fun r4 q4 => ?_
   have b4 := q4.1
   exact Fin.bind (fCut r4.1 (by omega)) fun c2 k2 => fJob3 l hn _ _ q4.2 _ _ _ _ _ (by omega) (by omega)
 · refine Fin.bind (fBelow l hn i h hi _) fun r1 q1 => ?_
   have b1 := q1.1
   refine Fin.bind (fTerms l hn _ _ q1.2 r1.1 (by omega) (by omega)) fun r2 q2 => Fin.bind (fBelow l hn _ _ q2.2 _) fun r3 q3 => ?_
   have b3 := q3.1
   exact Fin.bind (fTerms l hn _ _ q3.2 r3.1 (by omega) (by omega)) fun r4 q4 => fJob3 l hn _ _ q4.2 _ _ _ _ _ q2.1 q4.1
 · refine Fin.bind (fBelow l hn i h hi _) fun r1 q1 => Fin.bind (fBelow l hn _ _ q1.2 _) fun r2 q2 => ?_
   have b1 := q1.1
   have w3 : wrap64 (1 + r1.1) = 1 + r1.1 := w64 (by omega) (by omega)
   simp only [w3]
   exact Fin.bind (fSeries l hn _ _ q2.2 f (1 + r1.1) _ (by omega) (by omega)) fun r3 q3 => fJob3 l hn _ _ q3.2 _ _ _ _ _ q3.1 (by simp)
 · refine Fin.bind (fBelow l hn i h hi _) fun r1 q1 => ?_
   have b1 := q1.1
   refine Fin.bind (fList l hn _ _ q1.2 f _ (by omega) (by omega)) fun r2 q2 => ?_
   have b2 := q2.1
   refine Fin.bind (fCut r2.1 (by omega)) fun c1 k1 => Fin.bind (fBelow l hn _ _ q2.2 _) fun r3 q3 => ?_
   have b3 := q3.1
   refine Fin.bind (fList l hn _ _ q3.2 f _ (by omega) (by omega)) fun r4 q4 => ?_
   have b4 := q4.1
   exact fJob3 l hn _ _ q4.2 _ _ _ _ _ (by omega) (by omega)
 · refine Fin.bind (fBelow l hn i h hi _) fun r1 q1 => ?_
   have b1 := q1.1
   have w3 : wrap64 (1 + r1.1) = 1 + r1.1 := w64 (by omega) (by omega)
   simp only [w3]
   refine Fin.bind (fPoints l hn _ _ q1.2 f (1 + r1.1) (by omega) (by omega)) fun r2 q2 => ?_
   have b2 := q2.1
   refine Fin.bind (fList l hn _ _ q2.2 f _ (by omega) (by omega)) fun r3 q3 => ?_
   have b3 := q3.1
   exact fJob3 l hn _ _ q3.2 _ _ _ _ _ (by omega) (by omega)
 · exact Fin.bind (fWord l hn i h hi) fun r1 q1 => fJob3 l hn _ _ q1.2.2 _ _ _ _ _ (by have := q1.1; omega) (by have := q1.2.1; omega)
 · exact fJob3 l hn _ _ hi _ _ _ _ _ (by simp) (by simp)
theorem fJob (l : List Int) (hn : l.length ≤ 140737488355328) (a : Int) (ha0 : 0 ≤ a) (ha : a ≤ 900) (i h : Int) (hi : dAt l i) : Fin (fun k => spec_l10DrawJob.f k l i h a) (jobQ l) := by
 have hj1 : ∀ (y x : Int) (b : Bool) (i h op f n : Int), 0 ≤ y → y < 4 → dAt l i → Fin (fun k => spec_l10DrawJob.j1 k a y x b l i h op f n) (jobQ l) := by
  intro y x b i h op f n h0 h1 hi
  have hs := sh4 y h0 h1
  refine Fin.step (fun k => by rw [spec_l10DrawJob.j1]) ?_
  refine Fin.ite (fun _ => Fin.yes hs.1 (Fin.bind (fList l hn i h hi f _ hs.2.1 (by omega)) fun r1 q1 => Fin.bind (fList l hn _ _ q1.2 f _ hs.2.1 (by omega)) fun r2 q2 => ?_)) fun _ => Fin.ite (fun _ => fJob2 l hn a ha0 ha i h hi _ _ _ _ _) fun _ => fJob2 l hn a ha0 ha i h hi _ _ _ _ _
  have b1 := q1.1
  have b2 := q2.1
  exact fJob3 l hn _ _ q2.2 _ _ _ _ _ (by omega) (by omega)
 have hj0 : ∀ (y x : Int) (b : Bool) (i h op f n : Int), 0 ≤ y → y < 4 → dAt l i → Fin (fun k => spec_l10DrawJob.j0 k a y x b l i h op f n) (jobQ l) := by
  intro y x b i h op f n h0 h1 hi
  have hs := sh4 y h0 h1
  refine Fin.step (fun k => by rw [spec_l10DrawJob.j0]) ?_
  refine Fin.ite (fun _ => Fin.yes hs.1 (Fin.bind (fList l hn i h hi f _ hs.2.1 (by omega)) fun r1 q1 => ?_)) fun _ => Fin.ite (fun _ => hj1 _ _ _ _ _ _ _ _ h0 h1 hi) fun _ => hj1 _ _ _ _ _ _ _ _ h0 h1 hi
  have b1 := q1.1
  exact fJob3 l hn _ _ q1.2 _ _ _ _ _ (by omega) (by simp)
 simp only [spec_l10DrawJob.f]
 refine Fin.bind (fBelow l hn i h hi 11) fun r1 q1 => Fin.bind (fBelow l hn _ _ q1.2 9) fun r2 q2 => Fin.bind (fBelow l hn _ _ q2.2 4) fun r3 q3 => ?_
 have b3 := q3.1
 exact Fin.ite (fun _ => hj0 _ _ _ _ _ _ _ _ (by omega) (by omega) q3.2) fun _ => hj0 _ _ _ _ _ _ _ _ (by omega) (by omega) q3.2

theorem putAll_isB : ∀ l : List Int, isB (putAll l) := by
 intro l
 induction l with
 | nil => intro y hy; simp [putAll] at hy
 | cons x r ih => exact isB_append (put_isB _) ih
theorem jobEncV_isB (kind f : Int) (A B : List Int) (n : Int) : isB (jobEncV kind f A B n) := by
 unfold jobEncV
 split
 · unfold jobE listE
   refine isB_append (isB_append (isB_append ?_ (put_isB _)) (isB_append (put_isB _) (putAll_isB _))) (isB_append (put_isB _) (putAll_isB _))
   intro y hy
   simp only [List.mem_cons, List.not_mem_nil, or_false] at hy
   omega
 · intro y hy; simp at hy

end Go.Proofs.Ytogdhclomgafdaa.QFnJobBytes

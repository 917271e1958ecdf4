/- Lemmas on the printed functions of FnExactUnpackJobs: what each comes to. -/
import Derived.Test.YtogdhclomgafdaaZFEUJx13
import Derived.Test.YtogdhclomgafdaaZFEUJV
namespace Go.Proofs.Ytogdhclomgafdaa.QFnExactUnpackJobs
open Go.RowKit Go.Proofs.Ytogdhclomgafdaa.PFnExactUnpackJobs Go.Proofs.YtogdhclomgafdaaW.PrintWords Go.Proofs.YtogdhclomgafdaaW.PrintLast Go.Proofs.Ytogdhclomgafdaa.Math
set_option linter.unusedVariables false
set_option linter.unusedSimpArgs false

-- block toByteS
theorem toByteS_l (l : List Int) (hn : l.length ≤ 140737488355328) : ∀ (d i : Nat), l.length - i = d → i ≤ l.length →
    Ev (fun k => laws_toByteS.l0 k l (l.take i ++ List.replicate (l.length - i) 0) (i : Int)) l := by
  intro d
  induction d with
  | zero =>
    intro i h hi
    refine ev_now fun k => ?_
    simp only [laws_toByteS.l0]
    rw [if_neg (by omega), fill_all l 0 i (by omega)]
  | succ d ih =>
    intro i h hi
    refine Ev.step (fun k => ?_) (ih (i + 1) (by omega) (by omega))
    simp only [laws_toByteS.l0]
    rw [if_pos (by omega), if_pos (by omega), if_pos (by simp; omega), wsucc (by omega), Int.toNat_natCast, set_fill l 0 _ i (by omega) (rd_eq (by omega))]
theorem toByteS_ev (l : List Int) (hn : l.length ≤ 140737488355328) : Ev (fun k => laws_toByteS.f k l) l := by
  refine Ev.congr (fun k => ?_) (toByteS_l l hn l.length 0 (by omega) (by omega))
  simp only [laws_toByteS.f]
  rw [if_pos (by omega), if_pos (by rw [Int.toNat_natCast]; omega), Int.toNat_natCast, fill_zero l 0]
  rfl

-- block eqByteS
theorem eqByteS_l (l : List Int) (hn : l.length ≤ 140737488355328) : ∀ (d i : Nat), l.length - i = d → i ≤ l.length → Ev (fun k => laws_eqByteS.l0 k l l (i : Int)) true := by
  intro d
  induction d with
  | zero =>
    intro i h hi
    refine ev_now fun k => ?_
    simp only [laws_eqByteS.l0]
    rw [if_neg (by omega)]
  | succ d ih =>
    intro i h hi
    refine Ev.step (fun k => ?_) (ih (i + 1) (by omega) (by omega))
    simp only [laws_eqByteS.l0]
    rw [if_pos (by omega), if_pos (by omega), if_pos (by omega), if_pos trivial, wsucc (by omega)]
theorem eqByteS_ev (l : List Int) (hn : l.length ≤ 140737488355328) : Ev (fun k => laws_eqByteS.f k l l) true := by
  refine Ev.congr (fun k => ?_) (eqByteS_l l hn l.length 0 (by omega) (by omega))
  simp only [laws_eqByteS.f]
  rw [if_pos trivial]
  rfl

-- block eqIntS
theorem eqIntS_l (l : List Int) (hn : l.length ≤ 140737488355328) : ∀ (d i : Nat), l.length - i = d → i ≤ l.length → Ev (fun k => laws_eqIntS.l0 k l l (i : Int)) true := by
  intro d
  induction d with
  | zero =>
    intro i h hi
    refine ev_now fun k => ?_
    simp only [laws_eqIntS.l0]
    rw [if_neg (by omega)]
  | succ d ih =>
    intro i h hi
    refine Ev.step (fun k => ?_) (ih (i + 1) (by omega) (by omega))
    simp only [laws_eqIntS.l0]
    rw [if_pos (by omega), if_pos (by omega), if_pos (by omega), if_pos trivial, wsucc (by omega)]
theorem eqIntS_ev (l : List Int) (hn : l.length ≤ 140737488355328) : Ev (fun k => laws_eqIntS.f k l l) true := by
  refine Ev.congr (fun k => ?_) (eqIntS_l l hn l.length 0 (by omega) (by omega))
  simp only [laws_eqIntS.f]
  rw [if_pos trivial]
  rfl

-- block markByteS
theorem markByteS_l (l : List Int) (m : Int) (h0 : 0 ≤ m) (hn : m + l.length ≤ 4611686018427387904) : ∀ (d i : Nat), l.length - i = d → i ≤ l.length →
    Ev (fun k => laws_markByteS.l0 k ((marksB l.length m).take i ++ l.drop i) (m + i) (i : Int)) (m + l.length, marksB l.length m) := by
  have hlen := marksB_len l.length m
  intro d
  induction d with
  | zero =>
    intro i h hi
    refine ev_now fun k => ?_
    simp only [laws_markByteS.l0]
    rw [if_neg (by simp; omega), List.take_of_length_le (by omega), List.drop_eq_nil_of_le (by omega), List.append_nil, show i = l.length by omega]
  | succ d ih =>
    intro i h hi
    refine Ev.step (fun k => ?_) (ih (i + 1) (by omega) (by omega))
    simp only [laws_markByteS.l0]
    rw [if_pos (by simp; omega), if_pos (by omega), wsucc (by omega), Int.toNat_natCast, set_mark hlen (by omega) (by simp [marksB]), w64 (by omega) (by omega)]
    simp only [Int.natCast_add, Int.natCast_one, Int.add_assoc]
theorem markByteS_ev (l : List Int) (m : Int) (h0 : 0 ≤ m) (hn : m + l.length ≤ 4611686018427387904) : Ev (fun k => laws_markByteS.f k l m) (m + l.length, marksB l.length m) := by
  refine Ev.congr (fun k => ?_) (markByteS_l l m h0 hn l.length 0 (by omega) (by omega))
  simp [laws_markByteS.f]

-- block markIntS
theorem markIntS_l (l : List Int) (m : Int) (h0 : 0 ≤ m) (hn : m + l.length ≤ 4611686018427387904) : ∀ (d i : Nat), l.length - i = d → i ≤ l.length →
    Ev (fun k => laws_markIntS.l0 k ((marksI l.length m).take i ++ l.drop i) (m + i) (i : Int)) (m + l.length, marksI l.length m) := by
  have hlen := marksI_len l.length m
  intro d
  induction d with
  | zero =>
    intro i h hi
    refine ev_now fun k => ?_
    simp only [laws_markIntS.l0]
    rw [if_neg (by simp; omega), List.take_of_length_le (by omega), List.drop_eq_nil_of_le (by omega), List.append_nil, show i = l.length by omega]
  | succ d ih =>
    intro i h hi
    refine Ev.step (fun k => ?_) (ih (i + 1) (by omega) (by omega))
    simp only [laws_markIntS.l0]
    rw [if_pos (by simp; omega), if_pos (by omega), wsucc (by omega), Int.toNat_natCast, set_mark hlen (by omega) (by simp [marksI]), w64 (by omega) (by omega)]
    simp only [Int.natCast_add, Int.natCast_one, Int.add_assoc]
theorem markIntS_ev (l : List Int) (m : Int) (h0 : 0 ≤ m) (hn : m + l.length ≤ 4611686018427387904) : Ev (fun k => laws_markIntS.f k l m) (m + l.length, marksI l.length m) := by
  refine Ev.congr (fun k => ?_) (markIntS_l l m h0 hn l.length 0 (by omega) (by omega))
  simp [laws_markIntS.f]

-- block heldIntS
theorem heldIntS_l (n : Nat) (m : Int) (h0 : 0 ≤ m) (hn : m + n ≤ 4611686018427387904) : ∀ (d i : Nat), n - i = d → i ≤ n →
    Ev (fun k => laws_heldIntS.l0 k (marksI n m) (m + i) (i : Int)) (m + n) := by
  have hlen := marksI_len n m
  intro d
  induction d with
  | zero =>
    intro i h hi
    refine ev_now fun k => ?_
    simp only [laws_heldIntS.l0]
    rw [if_neg (by omega), show i = n by omega]
  | succ d ih =>
    intro i h hi
    refine Ev.step (fun k => ?_) (ih (i + 1) (by omega) (by omega))
    simp only [laws_heldIntS.l0]
    rw [if_pos (by omega), if_pos (by omega), if_pos (by rw [rd_eq (by omega)]; simp [marksI]), wsucc (by omega), w64 (by omega) (by omega)]
    simp only [Int.natCast_add, Int.natCast_one, Int.add_assoc]
theorem heldIntS_ev (n : Nat) (m : Int) (h0 : 0 ≤ m) (hn : m + n ≤ 4611686018427387904) : Ev (fun k => laws_heldIntS.f k (marksI n m) m) (m + n) := by
  refine Ev.congr (fun k => ?_) (heldIntS_l n m h0 hn n 0 (by omega) (by omega))
  simp [laws_heldIntS.f]

-- block l01In
theorem in_eq (a b c : Int) : spec_l01In.f a b c = some (decide (b ≤ a ∧ a ≤ c)) := by
  simp only [spec_l01In.f, if_dec]

-- block sPut
theorem sPut_l (u : Nat) : ∀ (acc : List Int), u < 4611686018427387904 → acc.length + (put u).length ≤ 1000000 → Ev (fun k => spec_PutNumber.l0 k acc (u : Int)) (acc ++ put u) := by
  induction u using Nat.strongRecOn with
  | _ u ih =>
    intro acc hu ha
    by_cases h : u < 128
    · refine ev_now fun k => ?_
      simp only [spec_PutNumber.l0]
      rw [if_neg (by omega), if_pos (by omega), put_small h, show ((u : Int)) % 256 = u by omega]
    · rw [put_big (by omega)] at ha ⊢
      refine Ev.step (fun k => ?_) (Ev.congr (fun k => rfl) (ih (u / 128) (by omega) (acc ++ [((u % 128 + 128 : Nat) : Int)]) (by omega) (by simp at ha ⊢; omega))) |> fun h => by simpa using h
      simp only [spec_PutNumber.l0]
      rw [if_pos (by omega), if_pos (by omega), Int.tmod_eq_emod_of_nonneg (by omega), Int.tdiv_eq_ediv_of_nonneg (by omega), w64 (by omega) (by omega), w64 (by omega) (by omega)]
      rw [show (128 + (u : Int) % 128) % 256 = ((u % 128 + 128 : Nat) : Int) by omega, show (u : Int) / 128 = ((u / 128 : Nat) : Int) by omega]
theorem sPut_ev (x : Int) (hx : (Lit.int .i64 x).wf = true) : Ev (fun k => spec_PutNumber.f k x) (putOf x) := by
  unfold putOf
  by_cases h : isWord x
  · have hz := zz_lt h
    have hl := put_len (zz x) 5 (by omega)
    rw [if_pos h]
    have key := sPut_l (zz x) [] (by omega) (by simp; omega)
    unfold isWord at h
    refine Ev.congr (fun k => ?_) (Ev.step (g := fun k => spec_PutNumber.j0 k [] (zz x : Int)) (fun k => rfl) key)
    simp only [spec_PutNumber.f, in_eq, Option.bind_some, decide_eq_true_eq]
    rw [if_pos h]
    by_cases hn : x < 0
    · rw [if_pos hn, w64 (x := -2 * x) (by omega) (by omega), w64 (by omega) (by omega), show -2 * x - 1 = (zz x : Int) by unfold zz; omega]
    · rw [if_neg hn, w64 (by omega) (by omega), show 2 * x = (zz x : Int) by unfold zz; omega]
  · rw [if_neg h]
    refine ev_some fun k => ?_
    unfold isWord at h
    simp only [spec_PutNumber.f, in_eq, Option.bind_some, decide_eq_true_eq]
    rw [if_neg h]

-- block szByteS
theorem szByteS_eq (l : List Int) (m : Int) (h0 : 0 ≤ m) (h1 : m ≤ 1048576) (hl : l.length ≤ maxLen) : laws_szByteS.f l m = some (if m < l.length then -1 else m - l.length) := by
  have hm : maxLen = 9223372036854775807 := rfl
  simp only [laws_szByteS.f]
  rw [w64 (by omega) (by omega)]
  by_cases h : m < l.length
  · rw [if_pos h, if_pos (by omega)]
  · rw [if_neg h, if_neg (by omega)]

-- block szFrame
theorem szFrame_eq (a b : Int) (l : List Int) (m : Int) (h0 : 0 ≤ m) (h1 : m ≤ 1048576) (hl : l.length ≤ maxLen) : laws_szFrame.f a b l m = some (if m < l.length then -1 else m - l.length) := by
  simp only [laws_szFrame.f, szByteS_eq l m h0 h1 hl, Option.bind_some]
  by_cases h : m < l.length
  · simp [h]
  · simp only [h, if_false]
    rw [if_neg (by omega)]

-- block toFrame
theorem toFrame_ev (a b : Int) (l : List Int) (hn : l.length ≤ 140737488355328) : Ev (fun k => laws_toFrame.f k a b l) (a, b, l) :=
  Ev.congr (fun k => rfl) (Ev.bind (toByteS_ev l hn) (f := fun _ t => some (a, b, t)) (Ev.now _))

-- block eqFrame
theorem eqFrame_ev (a b : Int) (l : List Int) (hn : l.length ≤ 140737488355328) : Ev (fun k => laws_eqFrame.f k a b l a b l) true := by
  obtain ⟨K, h⟩ := eqByteS_ev l hn
  exact ⟨K, fun k hk => by simp only [laws_eqFrame.f, h k hk, Option.bind_some, if_true]⟩

-- block frOk
def frOk (a b : Int) (l : List Int) : Prop := 0 ≤ a ∧ a ≤ 99 ∧ 0 ≤ b ∧ b ≤ 2147483647 ∧ l.length ≤ 5000
instance frOk_dec (a b : Int) (l : List Int) : Decidable (frOk a b l) := by unfold frOk; infer_instance

-- block sFrameOk
theorem sFrameOk (a b : Int) (l : List Int) : spec_FrameOk.f a b l = some (decide (frOk a b l)) := by
  simp only [spec_FrameOk.f, in_eq, Option.bind_some, decide_eq_true_eq, if_dec]
  exact congrArg some (decide_eq_decide.2 (by unfold frOk; omega))

-- block iFrame
theorem iFrame (a b : Int) (l : List Int) : impl_isFrame.f a b l = some (decide (frOk a b l)) := by
  simp only [impl_isFrame.f, if_dec]
  exact congrArg some (decide_eq_decide.2 (by unfold frOk; omega))

-- block markFrame
theorem markFrame_ev (a b : Int) (l : List Int) (m : Int) (h0 : 0 ≤ m) (hn : m + l.length ≤ 4611686018427387904) : Ev (fun k => laws_markFrame.f k a b l m) (m + l.length, marksB l.length m) := by
  obtain ⟨K, h⟩ := markByteS_ev l m h0 hn
  exact ⟨K, fun k hk => by simp only [laws_markFrame.f, h k hk, Option.bind_some]⟩

-- block fldOk
def fldOk (f : Int) : Prop := 0 ≤ f ∧ f < 9
instance fldOk_dec (f : Int) : Decidable (fldOk f) := by unfold fldOk; infer_instance
def fP : List Int := [17, 97, 193, 257, 7681, 12289, 998244353, 469762049, 1004535809]
def fG : List Int := [3, 5, 5, 3, 17, 11, 3, 3, 3]
def fT : List Int := [4, 5, 6, 8, 9, 12, 23, 26, 21]
theorem fld_cases {f : Int} (h : fldOk f) {Q : Int → Prop} (h0 : Q 0) (h1 : Q 1) (h2 : Q 2) (h3 : Q 3) (h4 : Q 4) (h5 : Q 5) (h6 : Q 6) (h7 : Q 7) (h8 : Q 8) : Q f := by
  unfold fldOk at h
  have : f = 0 ∨ f = 1 ∨ f = 2 ∨ f = 3 ∨ f = 4 ∨ f = 5 ∨ f = 6 ∨ f = 7 ∨ f = 8 := by omega
  rcases this with rfl | rfl | rfl | rfl | rfl | rfl | rfl | rfl | rfl <;> assumption

-- block sMod
def md (f : Int) : Int := if fldOk f then rd fP f else 0
theorem sMod (f : Int) : spec_Modulus.f f = some (md f) := by
  by_cases h : fldOk f
  · exact fld_cases (Q := fun f => spec_Modulus.f f = some (md f)) h rfl rfl rfl rfl rfl rfl rfl rfl rfl
  · unfold md
    rw [if_neg h]
    unfold fldOk at h
    simp only [spec_Modulus.f]
    rw [if_neg (by omega), if_neg (by omega), if_neg (by omega), if_neg (by omega), if_neg (by omega), if_neg (by omega), if_neg (by omega), if_neg (by omega), if_neg (by omega)]
theorem md_pos {f : Int} (h : fldOk f) : 17 ≤ md f ∧ md f ≤ 1004535809 := fld_cases (Q := fun f => 17 ≤ md f ∧ md f ≤ 1004535809) h (by decide) (by decide) (by decide) (by decide) (by decide) (by decide) (by decide) (by decide) (by decide)
theorem md_zero {f : Int} : md f = 0 ↔ ¬ fldOk f := by
  by_cases h : fldOk f
  · have := md_pos h
    simp [h]; omega
  · simp [md, h]

-- block iFld
theorem iFld (f : Int) : impl_fieldOf.f f = some (if fldOk f then (rd fP f, rd fG f, rd fT f, true) else (0, 0, 0, false)) := by
  by_cases h : fldOk f
  · exact fld_cases (Q := fun f => impl_fieldOf.f f = some (if fldOk f then (rd fP f, rd fG f, rd fT f, true) else (0, 0, 0, false))) h rfl rfl rfl rfl rfl rfl rfl rfl rfl
  · rw [if_neg h]
    unfold fldOk at h
    show Go.Proofs.Ytogdhclomgafdaa.Fld.impl_fieldOf.f f = _
    unfold Go.Proofs.Ytogdhclomgafdaa.Fld.impl_fieldOf.f
    by_cases h1 : f < 0
    · rw [if_pos h1]
    · rw [if_neg h1, if_pos (by omega)]

-- block wordsB
def wordsB (l : List Int) : Bool := decide (l.length ≤ 400) && allF l.length 0 (fun j => decide (isWord (rd l (j : Int))))
theorem wordsB_iff (l : List Int) : wordsB l = true ↔ l.length ≤ 400 ∧ ∀ x ∈ l, isWord x := by
  unfold wordsB
  rw [Bool.and_eq_true, decide_eq_true_eq, allF_iff]
  constructor
  · rintro ⟨h1, h2⟩
    refine ⟨h1, fun x hx => ?_⟩
    obtain ⟨j, hj, rfl⟩ := List.getElem_of_mem hx
    have := h2 j (by omega) (by omega)
    rw [decide_eq_true_eq, rd_eq hj] at this
    exact this
  · rintro ⟨h1, h2⟩
    refine ⟨h1, fun j _ hj => ?_⟩
    rw [decide_eq_true_eq, rd_eq (by omega)]
    exact h2 _ (List.getElem_mem _)

-- block sWords
theorem sWords_l (l : List Int) (hn : l.length ≤ 1048576) : ∀ (d i : Nat), l.length - i = d → i ≤ l.length → Ev (fun k => spec_l10Words.l0 k l (i : Int)) (allF d i (fun j => decide (isWord (rd l (j : Int))))) := by
  intro d
  induction d with
  | zero =>
    intro i h hi
    refine ev_now fun k => ?_
    simp only [spec_l10Words.l0]
    rw [if_neg (by omega)]; rfl
  | succ d ih =>
    intro i h hi
    rw [allF]
    by_cases hq : isWord (rd l (i : Int))
    · rw [decide_eq_true hq, Bool.true_and]
      refine Ev.step (fun k => ?_) (ih (i + 1) (by omega) (by omega))
      unfold isWord at hq
      simp only [spec_l10Words.l0, in_eq, Option.bind_some, decide_eq_true_eq]
      rw [if_pos (by omega), if_pos (by omega), if_pos hq, wsucc (by omega)]
    · rw [decide_eq_false hq, Bool.false_and]
      refine ev_now fun k => ?_
      unfold isWord at hq
      simp only [spec_l10Words.l0, in_eq, Option.bind_some, decide_eq_true_eq]
      rw [if_pos (by omega), if_pos (by omega), if_neg hq]
theorem sWords_ev (l : List Int) (hn : l.length ≤ 1048576) : Ev (fun k => spec_l10Words.f k l) (wordsB l) := by
  unfold wordsB
  by_cases h : l.length ≤ 400
  · rw [decide_eq_true h, Bool.true_and]
    refine Ev.congr (fun k => ?_) (sWords_l l hn l.length 0 (by omega) (by omega))
    simp only [spec_l10Words.f]
    rw [if_neg (by omega)]; rfl
  · rw [decide_eq_false h, Bool.false_and]
    refine ev_some fun k => ?_
    simp only [spec_l10Words.f]
    rw [if_pos (by omega)]

-- block iWords
theorem iWords_l (l : List Int) (hn : l.length ≤ 1048576) : ∀ (d i : Nat), l.length - i = d → i ≤ l.length → Ev (fun k => impl_areWords.l0 k l l (l.length : Int) (i : Int)) (decide (l.length ≤ 400) && allF d i (fun j => decide (isWord (rd l (j : Int))))) := by
  intro d
  induction d with
  | zero =>
    intro i h hi
    refine ev_now fun k => ?_
    simp only [impl_areWords.l0]
    rw [if_neg (by omega), allF, Bool.and_true]
    exact congrArg some (decide_eq_decide.2 (by omega))
  | succ d ih =>
    intro i h hi
    rw [allF]
    by_cases hq : isWord (rd l (i : Int))
    · rw [decide_eq_true hq, Bool.true_and]
      refine Ev.step (fun k => ?_) (ih (i + 1) (by omega) (by omega))
      unfold isWord at hq
      simp only [impl_areWords.l0]
      rw [if_pos (by omega), if_pos (by omega), if_pos (by omega), if_neg (by omega), if_neg (by omega), wsucc (by omega)]
    · rw [decide_eq_false hq, Bool.false_and, Bool.and_false]
      refine ev_now fun k => ?_
      unfold isWord at hq
      simp only [impl_areWords.l0]
      rw [if_pos (by omega), if_pos (by omega), if_pos (by omega)]
      by_cases h1 : rd l (i : Int) < -1099511627776
      · rw [if_pos h1]
      · rw [if_neg h1, if_pos (by omega)]
theorem iWords_ev (l : List Int) (hn : l.length ≤ 1048576) : Ev (fun k => impl_areWords.f k l) (wordsB l) := by
  refine Ev.congr (fun k => ?_) (iWords_l l hn l.length 0 (by omega) (by omega))
  simp [impl_areWords.f]

-- block sHas
theorem sHas_l (l : List Int) (x : Int) (hn : l.length ≤ 1048576) : ∀ (d i : Nat), l.length - i = d → i ≤ l.length → Ev (fun k => spec_l01Has.l0 k l x (i : Int)) (decide (x ∈ l.drop i)) := by
  intro d
  induction d with
  | zero =>
    intro i h hi
    refine ev_now fun k => ?_
    simp only [spec_l01Has.l0]
    rw [if_neg (by omega), List.drop_eq_nil_of_le (by omega)]
    simp
  | succ d ih =>
    intro i h hi
    rw [List.drop_eq_getElem_cons (show i < l.length by omega)]
    by_cases hq : rd l (i : Int) = x
    · refine ev_now fun k => ?_
      simp only [spec_l01Has.l0]
      rw [if_pos (by omega), if_pos (by omega), if_pos hq]
      rw [rd_eq (by omega)] at hq
      simp [hq]
    · have hne : ¬ x = l[i]'(by omega) := fun e => hq (by rw [rd_eq (by omega)]; exact e.symm)
      have := ih (i + 1) (by omega) (by omega)
      simp only [List.mem_cons, hne, false_or]
      refine Ev.step (fun k => ?_) this
      simp only [spec_l01Has.l0]
      rw [if_pos (by omega), if_pos (by omega), if_neg hq, wsucc (by omega)]
theorem sHas_ev (l : List Int) (x : Int) (hn : l.length ≤ 1048576) : Ev (fun k => spec_l01Has.f k l x) (decide (x ∈ l)) := by
  refine Ev.congr (fun k => ?_) (by simpa using sHas_l l x hn l.length 0 (by omega) (by omega))
  simp [spec_l01Has.f]

-- block jobB
def jobHead (kind f : Int) : Prop := 1 ≤ kind ∧ kind ≤ 11 ∧ fldOk f ∧ (kind = 6 → f = 0)
instance jobHead_dec (kind f : Int) : Decidable (jobHead kind f) := by unfold jobHead; infer_instance
def jobTail (kind : Int) (B : List Int) (n : Int) : Prop := 0 ≤ n ∧ n ≤ 400 ∧ ((kind = 1 ∨ kind = 2 ∨ kind = 7) → B.length = 0) ∧ (kind ≠ 11 → n = 0)
instance jobTail_dec (kind : Int) (B : List Int) (n : Int) : Decidable (jobTail kind B n) := by unfold jobTail; infer_instance
def jobB (kind f : Int) (A B : List Int) (n : Int) : Bool := decide (jobHead kind f) && (wordsB A && (wordsB B && decide (jobTail kind B n)))

-- block sJob
theorem sJob_t (kind f : Int) (A B : List Int) (n : Int) (hA : A.length ≤ 1048576) (hB : B.length ≤ 1048576) (h0 : jobHead kind f) : Ev (fun k => spec_JobOk.j0 k false kind f A B n) (wordsB A && (wordsB B && decide (jobTail kind B n))) := by
  obtain ⟨m, h1, h2, h3⟩ := evs3 (sWords_ev A hA) (sWords_ev B hB) (sHas_ev [3, 4, 5, 6, 8, 9, 10, 11] kind (by simp))
  refine ⟨m + 1, fun k hk => ?_⟩
  obtain ⟨j, rfl⟩ : ∃ j, k = m + j + 1 := ⟨k - m - 1, by omega⟩
  simp only [spec_JobOk.j0, spec_l10UsesB.f, h1, h2, h3, in_eq, Option.bind_some, Bool.false_eq_true, if_false, decide_eq_true_eq]
  cases hwA : wordsB A with
  | false => simp
  | true =>
    cases hwB : wordsB B with
    | false => simp
    | true =>
      simp only [if_true, Bool.true_and, List.mem_cons, List.not_mem_nil, or_false]
      unfold jobHead at h0
      by_cases hn : 0 ≤ n ∧ n ≤ 400
      · rw [if_pos hn]
        by_cases hu : kind = 1 ∨ kind = 2 ∨ kind = 7
        · rw [if_neg (by omega)]
          by_cases hl : B.length = 0
          · rw [if_pos (by omega), if_neg (by omega)]
            exact congrArg some (by rw [Bool.eq_iff_iff, beq_iff_eq, decide_eq_true_eq]; unfold jobTail; omega)
          · rw [if_neg (by omega), decide_eq_false (by unfold jobTail; omega)]
        · rw [if_pos (by omega)]
          by_cases he : kind = 11
          · rw [if_pos he, decide_eq_true (by unfold jobTail; omega)]
          · rw [if_neg he]
            exact congrArg some (by rw [Bool.eq_iff_iff, beq_iff_eq, decide_eq_true_eq]; unfold jobTail; omega)
      · rw [if_neg hn, decide_eq_false (by unfold jobTail; omega)]
theorem sJob_ev (kind f : Int) (A B : List Int) (n : Int) (hA : A.length ≤ 1048576) (hB : B.length ≤ 1048576) : Ev (fun k => spec_JobOk.f k kind f A B n) (jobB kind f A B n) := by
  unfold jobB
  by_cases h0 : jobHead kind f
  · rw [decide_eq_true h0, Bool.true_and]
    refine Ev.congr (fun k => ?_) (sJob_t kind f A B n hA hB h0)
    have h1 := h0
    unfold jobHead at h1
    simp only [spec_JobOk.f, in_eq, sMod, Option.bind_some, decide_eq_true_eq, md_zero]
    rw [if_pos (by omega), if_neg (fun hh => hh h1.2.2.1)]
    by_cases h6 : kind = 6
    · rw [if_pos h6, h1.2.2.2 h6]; rfl
    · rw [if_neg h6]
  · rw [decide_eq_false h0, Bool.false_and]
    have key : Ev (fun k => spec_JobOk.j0 k true kind f A B n) false := ev_now fun k => by simp [spec_JobOk.j0]
    refine Ev.congr (fun k => ?_) key
    simp only [spec_JobOk.f, in_eq, sMod, Option.bind_some, decide_eq_true_eq, md_zero]
    by_cases h1 : 1 ≤ kind ∧ kind ≤ 11
    · rw [if_pos h1]
      by_cases h2 : fldOk f
      · rw [if_neg (fun hh => hh h2)]
        have h6 : kind = 6 ∧ f ≠ 0 := Classical.byContradiction fun hh => h0 ⟨h1.1, h1.2, h2, fun e => Classical.byContradiction fun hf => hh ⟨e, hf⟩⟩
        rw [if_pos h6.1, bne_iff_ne.2 h6.2]
      · rw [if_pos h2]
    · rw [if_neg h1]

-- block iJob
theorem iJob_t (kind f : Int) (A B : List Int) (n : Int) (hA : A.length ≤ 1048576) (hB : B.length ≤ 1048576) (h0 : jobHead kind f) : Ev (fun k => impl_isJob.j0 k false kind f A B n) (wordsB A && (wordsB B && decide (jobTail kind B n))) := by
  obtain ⟨m, h1, h2⟩ := evs2 (iWords_ev A hA) (iWords_ev B hB)
  refine ⟨m + 1, fun k hk => ?_⟩
  obtain ⟨j, rfl⟩ : ∃ j, k = m + j + 1 := ⟨k - m - 1, by omega⟩
  have hu : impl_usesB.f kind = some (decide (¬ (kind = 1 ∨ kind = 2 ∨ kind = 7))) := by
    simp only [impl_usesB.f]
    by_cases k1 : kind = 1
    · rw [if_pos k1, decide_eq_false (by omega)]
    · rw [if_neg k1]
      by_cases k2 : kind = 2
      · rw [if_pos k2, decide_eq_false (by omega)]
      · rw [if_neg k2]
        exact congrArg some (by rw [Bool.eq_iff_iff, bne_iff_ne, decide_eq_true_eq]; omega)
  simp only [impl_isJob.j0, h1, h2, hu, Option.bind_some, Bool.false_eq_true, if_false, decide_eq_true_eq]
  cases hwA : wordsB A with
  | false => simp
  | true =>
    cases hwB : wordsB B with
    | false => simp
    | true =>
      simp only [if_true, Bool.true_and]
      unfold jobHead at h0
      by_cases hn : n < 0
      · rw [if_pos hn, decide_eq_false (by unfold jobTail; omega)]
      · rw [if_neg hn]
        by_cases hn2 : n > 400
        · rw [if_pos hn2, decide_eq_false (by unfold jobTail; omega)]
        · rw [if_neg hn2]
          by_cases hu : kind = 1 ∨ kind = 2 ∨ kind = 7
          · rw [if_neg (by omega)]
            by_cases hl : B.length = 0
            · rw [if_pos (by omega), if_neg (by omega)]
              exact congrArg some (by rw [Bool.eq_iff_iff, beq_iff_eq, decide_eq_true_eq]; unfold jobTail; omega)
            · rw [if_neg (by omega), decide_eq_false (by unfold jobTail; omega)]
          · rw [if_pos (by omega)]
            by_cases he : kind = 11
            · rw [if_pos he, decide_eq_true (by unfold jobTail; omega)]
            · rw [if_neg he]
              exact congrArg some (by rw [Bool.eq_iff_iff, beq_iff_eq, decide_eq_true_eq]; unfold jobTail; omega)
theorem iJob_ev (kind f : Int) (A B : List Int) (n : Int) (hA : A.length ≤ 1048576) (hB : B.length ≤ 1048576) : Ev (fun k => impl_isJob.f k kind f A B n) (jobB kind f A B n) := by
  unfold jobB
  by_cases h0 : jobHead kind f
  · rw [decide_eq_true h0, Bool.true_and]
    refine Ev.congr (fun k => ?_) (iJob_t kind f A B n hA hB h0)
    have h1 := h0
    unfold jobHead at h1
    simp only [impl_isJob.f, iFld, if_pos h1.2.2.1, Option.bind_some, if_true]
    rw [if_neg (by omega), if_neg (by omega)]
    by_cases h6 : kind = 6
    · rw [if_pos h6, h1.2.2.2 h6]; rfl
    · rw [if_neg h6]
  · rw [decide_eq_false h0, Bool.false_and]
    have key : Ev (fun k => impl_isJob.j0 k true kind f A B n) false := ev_now fun k => by simp [impl_isJob.j0]
    refine Ev.congr (fun k => ?_) key
    simp only [impl_isJob.f, iFld, Option.bind_some]
    by_cases h2 : fldOk f
    · simp only [if_pos h2, if_true]
      by_cases h1 : kind < 1
      · rw [if_pos h1]
      · rw [if_neg h1]
        by_cases h3 : kind > 11
        · rw [if_pos h3]
        · have h6 : kind = 6 ∧ f ≠ 0 := Classical.byContradiction fun hh => h0 ⟨by omega, by omega, h2, fun e => Classical.byContradiction fun hf => hh ⟨e, hf⟩⟩
          rw [if_neg h3, if_pos h6.1, bne_iff_ne.2 h6.2]
    · simp only [if_neg h2, Bool.false_eq_true, if_false]

-- block eqJob
theorem eqJob_ev (a b c : Int) (A B : List Int) (hA : A.length ≤ 1048576) (hB : B.length ≤ 1048576) : Ev (fun k => laws_eqJob.f k a b A B c a b A B c) true := by
  obtain ⟨m, h1, h2⟩ := evs2 (eqIntS_ev A (by omega)) (eqIntS_ev B (by omega))
  refine ⟨m, fun k hk => ?_⟩
  obtain ⟨j, rfl⟩ : ∃ j, k = m + j := ⟨k - m, by omega⟩
  simp only [laws_eqJob.f, h1, h2, Option.bind_some, if_true]

-- block iTake
theorem iTake_l (l : List Int) (hn : l.length ≤ 140737488355328) (hb : isB l) (p : Nat) (hp : p ≤ 4611686018427387904) : ∀ (d k u : Nat), k + d = 7 → u < 128 ^ k →
    Ev (fun n => impl_takeNumber.l0 n l (p : Int) (u : Int) (k : Int)) (tkR p (tkL d (l.drop (p + k)) k u)) := by
  intro d
  induction d with
  | zero =>
    intro k u hk hu
    refine ⟨2, fun n hn' => ?_⟩
    obtain ⟨n, rfl⟩ : ∃ m, n = m + 2 := ⟨n - 2, by omega⟩
    simp only [impl_takeNumber.l0, impl_takeNumber.j1]
    rw [if_neg (by omega), if_neg (by decide)]
    rfl
  | succ d ih =>
    intro k u hk hu
    have h42 : 128 ^ k ≤ 4398046511104 := Nat.pow_le_pow_right (n := 128) (i := k) (j := 6) (by omega) (by omega)
    have hB : ∀ c : Nat, c < 128 → Go.bits .or .i64 (u : Int) (shl .i64 (c : Int) ((7 * k : Nat) : Int)) = ((128 ^ k * c + u : Nat) : Int) := by
      intro c hc
      have e7 : 128 ^ k = 2 ^ (7 * k) := by rw [Nat.pow_mul]
      rw [e7]
      exact bits_or u c (7 * k) (by omega) (by rw [← e7]; exact hu) hc
    have hI : ∀ c, c < 128 → 128 ^ k * c + u < 128 ^ (k + 1) := by
      intro c hc
      rw [Nat.pow_succ]
      have := Nat.mul_le_mul (Nat.le_refl (128 ^ k)) (show c ≤ 127 by omega)
      omega
    have hJ : ∀ c, c < 128 → 128 ^ k * c + u ≤ 562949953421312 := by
      intro c hc
      have := Nat.mul_le_mul (Nat.le_refl (128 ^ k)) (show c ≤ 127 by omega)
      omega
    clear h42 hu
    by_cases hl : p + k < l.length
    · have hc := isB_at hb hl
      rw [List.drop_eq_getElem_cons hl]
      obtain ⟨c, hce⟩ : ∃ c : Nat, l[p + k] = (c : Int) := ⟨l[p + k].toNat, by omega⟩
      rw [hce] at hc ⊢
      have h1 : wrap64 ((p : Int) + (k : Int)) = ((p + k : Nat) : Int) := by rw [w64 (by omega) (by omega)]; omega
      have h2 : wrap64 (7 * (k : Int)) = ((7 * k : Nat) : Int) := by rw [w64 (by omega) (by omega)]; omega
      have h3 : rd l ((p + k : Nat) : Int) = (c : Int) := by rw [rd_eq hl, hce]
      have h4 : wrap64 (c : Int) = (c : Int) := w64 (by omega) (by omega)
      have h5 : Int.tmod (c : Int) 128 = ((c % 128 : Nat) : Int) := by rw [Int.tmod_eq_emod_of_nonneg (by omega)]; omega
      have h6 := hB (c % 128) (by omega)
      have hv1 := hI (c % 128) (by omega)
      have hv2 := hJ (c % 128) (by omega)
      clear hB hI hJ
      obtain ⟨v, hv⟩ : ∃ v, v = 128 ^ k * (c % 128) + u := ⟨_, rfl⟩
      rw [← hv] at h6 hv1 hv2
      have h8 : (k : Int) < 7 := by omega
      have h9 : ((p + k : Nat) : Int) < (l.length : Int) := by omega
      have h10 : 0 ≤ ((p + k : Nat) : Int) := by omega
      have h11 : 0 ≤ ((7 * k : Nat) : Int) := by omega
      by_cases hbig : 128 ≤ (c : Int)
      · have key := ih (k + 1) v (by omega) hv1
        have et : tkL (d + 1) ((c : Int) :: l.drop (p + k + 1)) k u = tkL d (l.drop (p + (k + 1))) (k + 1) v := by
          simp only [tkL]
          rw [if_pos hbig, Int.toNat_natCast, ← hv]
          rfl
        rw [et]
        refine Ev.step (f := fun n => impl_takeNumber.j1 n l p u k true) (fun n => ?_) (Ev.step (fun n => ?_) key)
        · simp only [impl_takeNumber.l0, h1, h8, h9, decide_true, if_true]
        · simp only [impl_takeNumber.j1, h1, h2, h3, h4, h5, h6, h9, h10, h11, if_true, wsucc (show k < 9223372036854775807 by omega)]
          rw [if_pos hbig]
      · refine Ev.step (f := fun n => impl_takeNumber.j1 n l p u k true) (fun n => ?_) (ev_now fun n => ?_)
        · simp only [impl_takeNumber.l0, h1, h8, h9, decide_true, if_true]
        · simp only [impl_takeNumber.j1, h1, h2, h3, h4, h5, h6, h9, h10, h11, if_true]
          rw [if_neg hbig]
          simp only [tkL]
          rw [if_neg hbig, Int.toNat_natCast, ← hv]
          clear h1 h2 h3 h4 h5 h6 hv hv1 hbig hb ih hce
          have q0 : ((k : Int) > 0) = (0 < k) := by simp
          have q5 : isWord (unzz v) = (¬ unzz v < -1099511627776 ∧ ¬ unzz v > 1099511627776) := by unfold isWord; apply propext; omega
          simp only [q5]
          have g1 : wrap64 ((v : Int) + 1) = ((v + 1 : Nat) : Int) := wsucc (by omega)
          have g2 : wrap64 (((p + k : Nat) : Int) + 1) = ((p + (k + 1) : Nat) : Int) := by rw [w64 (by omega) (by omega)]; omega
          by_cases hodd : v % 2 = 1
          · have g3 : wrap64 (Int.tdiv (wrap64 (-((v + 1 : Nat) : Int))) 2) = unzz v := by
              unfold unzz
              rw [if_pos hodd, w64 (x := -((v + 1 : Nat) : Int)) (by omega) (by omega), Int.neg_tdiv, Int.tdiv_eq_ediv_of_nonneg (by omega), w64 (by omega) (by omega)]
              omega
            have g4 : Int.tmod (v : Int) 2 = 1 := by rw [Int.tmod_eq_emod_of_nonneg (by omega)]; omega
            simp only [g1, g2, g3, g4, q0, if_true]
            clear q0 q5 g1 g2 g3 g4
            by_cases q1 : (c : Int) = 0 <;> by_cases q2 : 0 < k <;> by_cases q3 : unzz v < -1099511627776 <;> by_cases q4 : unzz v > 1099511627776 <;> simp only [q1, q2, q3, q4, if_true, if_false, and_true, and_false, false_and, true_and, not_true, not_false_iff, tkR]
          · have g3 : wrap64 (Int.tdiv (v : Int) 2) = unzz v := by
              unfold unzz
              rw [if_neg hodd, Int.tdiv_eq_ediv_of_nonneg (by omega), w64 (by omega) (by omega)]
              omega
            have g4 : ¬ Int.tmod (v : Int) 2 = 1 := by rw [Int.tmod_eq_emod_of_nonneg (by omega)]; omega
            simp only [g2, g3, g4, q0, if_false]
            clear q0 q5 g1 g2 g3 g4
            by_cases q1 : (c : Int) = 0 <;> by_cases q2 : 0 < k <;> by_cases q3 : unzz v < -1099511627776 <;> by_cases q4 : unzz v > 1099511627776 <;> simp only [q1, q2, q3, q4, if_true, if_false, and_true, and_false, false_and, true_and, not_true, not_false_iff, tkR]
    · rw [List.drop_eq_nil_of_le (by omega)]
      have h1 : ¬ wrap64 ((p : Int) + (k : Int)) < (l.length : Int) := by rw [w64 (by omega) (by omega)]; omega
      refine ⟨2, fun n hn' => ?_⟩
      obtain ⟨n, rfl⟩ : ∃ m, n = m + 2 := ⟨n - 2, by omega⟩
      simp only [impl_takeNumber.l0, impl_takeNumber.j1, h1, decide_false]
      rw [if_pos (by omega), if_neg (by decide)]
      rfl
/-- What is read at a place of a row of bytes. -/
def takeAt (l : List Int) (p : Nat) : Int × Int × Bool := tkR p (tkL 7 (l.drop p) 0 0)
theorem iTake_ev (l : List Int) (hn : l.length ≤ 140737488355328) (hb : isB l) (p : Nat) (hp : p ≤ 4611686018427387904) : Ev (fun n => impl_takeNumber.f n l (p : Int)) (takeAt l p) := by
  refine Ev.congr (fun n => ?_) (iTake_l l hn hb p hp 7 0 0 (by omega) (by omega))
  simp only [impl_takeNumber.f]
  rw [if_neg (by omega)]
  rfl

-- block bitP
def bitF : Nat → Nat → Nat
  | 0, _ => 0
  | d + 1, x => if x = 0 then 0 else 1 + bitF d (x / 2)
/-- How many bits a number has. -/
def bitB (x : Nat) : Nat := bitF 21 x
theorem u64_nat {n : Nat} (h : n < 9223372036854775808) : IntKind.u64.wrap (n : Int) = (n : Int) := by
  unfold IntKind.wrap
  have e : (n : Int) % 2 ^ IntKind.u64.bits = n := by show (n : Int) % 2 ^ 64 = n; omega
  rw [e]
  refine if_neg ?_
  show ¬ ((false && _) = true)
  simp

-- block sSame
theorem sSame_l (a b : List Int) (hn : a.length ≤ 1048576) (hab : a.length = b.length) : ∀ (d i : Nat), a.length - i = d → i ≤ a.length → Ev (fun k => spec_l01Same.l0 k a b (i : Int)) (decide (a.drop i = b.drop i)) := by
  intro d
  induction d with
  | zero =>
    intro i h hi
    refine ev_now fun k => ?_
    simp only [spec_l01Same.l0]
    rw [if_neg (by omega), List.drop_of_length_le (by omega), List.drop_of_length_le (by omega)]
    simp
  | succ d ih =>
    intro i h hi
    have h1 : i < a.length := by omega
    have h2 : i < b.length := by omega
    rw [List.drop_eq_getElem_cons h1, List.drop_eq_getElem_cons h2]
    by_cases he : a[i] = b[i]
    · rw [show decide (a[i] :: a.drop (i + 1) = b[i] :: b.drop (i + 1)) = decide (a.drop (i + 1) = b.drop (i + 1)) from decide_eq_decide.2 ⟨fun h => by injection h, fun h => by rw [he, h]⟩]
      refine Ev.step (fun k => ?_) (ih (i + 1) (by omega) (by omega))
      simp only [spec_l01Same.l0]
      rw [if_pos (by omega), if_pos (by omega), if_pos (by omega), rd_eq h1, rd_eq h2, if_pos he, wsucc (by omega)]
    · rw [decide_eq_false (fun h => he (by injection h))]
      refine ev_now fun k => ?_
      simp only [spec_l01Same.l0]
      rw [if_pos (by omega), if_pos (by omega), if_pos (by omega), rd_eq h1, rd_eq h2, if_neg he]
theorem sSame_ev (a b : List Int) (hn : a.length ≤ 1048576) : Ev (fun k => spec_l01Same.f k a b) (decide (a = b)) := by
  by_cases hab : a.length = b.length
  · refine Ev.congr (fun k => ?_) (sSame_l a b hn hab a.length 0 (by omega) (by omega))
    simp only [spec_l01Same.f]
    rw [if_pos (by omega)]
    rfl
  · rw [decide_eq_false (fun h => hab (by rw [h]))]
    refine ev_some fun k => ?_
    simp only [spec_l01Same.f]
    rw [if_neg (by omega)]

-- block sTake
theorem tk_w {p k n : Nat} (h : p + k < n) (hn : n ≤ 1048576) (hk : k ≤ 6) : wrap64 ((p : Int) + (k : Int)) = ((p + k : Nat) : Int) ∧ wrap64 (7 * (k : Int)) = ((7 * k : Nat) : Int) ∧ IntKind.u64.wrap ((7 * k : Nat) : Int) = ((7 * k : Nat) : Int) ∧ wrap64 ((k : Int) + 1) = ((k + 1 : Nat) : Int) ∧ wrap64 (((p + k : Nat) : Int) + 1) = ((p + k + 1 : Nat) : Int) ∧ wrap64 ((n : Int) - (p : Int)) = ((n - p : Nat) : Int) :=
  ⟨w64n (by omega) (by omega), w64n (by omega) (by omega), u64_nat (by omega), wsucc (by omega), wsucc (by omega), w64n (by omega) (by omega)⟩
theorem tk_c {c : Nat} (h : c ≤ 255) : wrap64 ((c : Nat) : Int) = ((c : Nat) : Int) ∧ Int.tmod ((c : Nat) : Int) 128 = ((c % 128 : Nat) : Int) :=
  ⟨w64n rfl (by omega), by rw [Int.tmod_eq_emod_of_nonneg (by omega)]; omega⟩
theorem tk_v {u a v : Nat} (hv : v = a + u) (h : v ≤ 8796093022208) : wrap64 ((u : Int) + (a : Int)) = (v : Int) := w64n (by rw [hv]; omega) (by omega)
theorem tk_z {v : Nat} (h : v ≤ 8796093022208) : (if Int.tmod (v : Int) 2 = 1 then wrap64 (wrap64 (-(wrap64 (Int.tdiv (v : Int) 2))) - 1) else wrap64 (Int.tdiv (v : Int) 2)) = unzz v := by
  rw [Int.tmod_eq_emod_of_nonneg (by omega), Int.tdiv_eq_ediv_of_nonneg (by omega)]
  unfold unzz
  by_cases ho : v % 2 = 1
  · rw [if_pos (by omega), if_pos ho, w64 (x := (v : Int) / 2) (by omega) (by omega), w64 (x := -((v : Int) / 2)) (by omega) (by omega), w64 (by omega) (by omega)]; omega
  · rw [if_neg (by omega), if_neg ho, w64 (x := (v : Int) / 2) (by omega) (by omega)]; omega
theorem sTake_l (l : List Int) (hn : l.length ≤ 1048576) (hb : isB l) (p : Nat) (hp : p ≤ l.length) : ∀ (d k u : Nat), k + d = 6 → p + k ≤ l.length → u < 128 ^ k → (∀ w, 1 ≤ w → put (128 ^ k * w + u) = (l.drop p).take k ++ put w) →
    Ev (fun n => spec_TakeNumber.l0 n l (p : Int) (u : Int) (k : Int)) (tkR p (tkL (d + 1) (l.drop (p + k)) k u)) := by
  intro d
  induction d with
  | zero =>
    intro k u hk hpk hu hput
    have ek : k = 6 := by omega
    subst ek
    rw [tkL_seven _ (isB_drop hb _)]
    refine ⟨2, fun n hn' => ?_⟩
    obtain ⟨n, rfl⟩ : ∃ m, n = m + 2 := ⟨n - 2, by omega⟩
    simp only [spec_TakeNumber.l0, spec_TakeNumber.j2]
    rw [if_neg (by omega), if_neg (by decide)]
    rfl
  | succ d ih =>
    intro k u hk hpk hu hput
    have h42 : 128 ^ k ≤ 34359738368 := Nat.pow_le_pow_right (n := 128) (i := k) (j := 5) (by omega) (by omega)
    have h27 : 2 ^ (7 * k) = 128 ^ k := by rw [Nat.pow_mul]
    by_cases hl : p + k < l.length
    · obtain ⟨c, hc⟩ := Int.eq_ofNat_of_zero_le (isB_at hb hl).1
      have hc2 := (isB_at hb hl).2
      rw [hc] at hc2
      have hrd : rd l ((p + k : Nat) : Int) = (c : Int) := by rw [rd_eq hl, hc]
      rw [List.drop_eq_getElem_cons hl, hc]
      have hmul : 128 ^ k * (c % 128) ≤ 34359738368 * 127 := Nat.mul_le_mul h42 (by omega)
      have hsh : shl .i64 ((c % 128 : Nat) : Int) ((7 * k : Nat) : Int) = ((128 ^ k * (c % 128) : Nat) : Int) := by rw [shl_mul _ _ (by omega) (by omega), h27]
      obtain ⟨v, hv⟩ : ∃ v, v = 128 ^ k * (c % 128) + u := ⟨_, rfl⟩
      have htk : (l.drop p).take (k + 1) = (l.drop p).take k ++ [(c : Int)] := by
        rw [List.take_add_one, List.getElem?_drop, List.getElem?_eq_getElem hl, hc]; rfl
      have hlen : ((l.drop p).take k).length = k := by rw [List.length_take, List.length_drop]; omega
      obtain ⟨c1, c2, c3, c4, c5⟩ : (k : Int) < 6 ∧ ((k : Int) < ((l.length - p : Nat) : Int)) ∧ 0 ≤ ((p + k : Nat) : Int) ∧ ((p + k : Nat) : Int) < (l.length : Int) ∧ 0 ≤ ((7 * k : Nat) : Int) := by
        exact ⟨by omega, by omega, by omega, by omega, by omega⟩
      have hc2' : c ≤ 255 := by omega
      have hv43 : v ≤ 8796093022208 := by omega
      by_cases hge : 128 ≤ c
      · have key := ih (k + 1) v (by omega) (by omega) (by
            rw [Nat.pow_succ, hv]
            have : 128 ^ k * (c % 128) + u < 128 ^ k * (c % 128) + 128 ^ k := by omega
            have h2 : 128 ^ k * (c % 128) + 128 ^ k = 128 ^ k * (c % 128 + 1) := by rw [Nat.mul_add, Nat.mul_one]
            have h3 : 128 ^ k * (c % 128 + 1) ≤ 128 ^ k * 128 := Nat.mul_le_mul (Nat.le_refl _) (by omega)
            omega) (by
            intro w hw
            have e1 : 128 ^ (k + 1) * w + v = 128 ^ k * (128 * w + c % 128) + u := by
              rw [hv, Nat.pow_succ, Nat.mul_add, Nat.mul_assoc, Nat.add_assoc]
            rw [e1, hput _ (by omega), put_big (by omega), htk, List.append_assoc]
            congr 1
            rw [show (128 * w + c % 128) % 128 + 128 = c by omega, show (128 * w + c % 128) / 128 = w by omega]
            rfl)
        rw [← Nat.add_assoc] at key
        have et : tkL (d + 1 + 1) ((c : Int) :: l.drop (p + k + 1)) k u = tkL (d + 1) (l.drop (p + k + 1)) (k + 1) v := by
          rw [tkL, if_pos (by omega), Int.toNat_natCast, ← hv]
        rw [et]
        have c6 : (c : Int) ≥ 128 := by omega
        obtain ⟨w1, w2, w3, w7, w8, w9⟩ := tk_w (p := p) (k := k) hl hn (by omega)
        obtain ⟨w4, w5⟩ := tk_c hc2'
        have w6 := tk_v hv hv43
        refine Ev.step (fun n => ?_) (Ev.step (g := fun n => spec_TakeNumber.j2 n l (p : Int) (u : Int) (k : Int) true) (fun n => ?_) key)
        · simp only [spec_TakeNumber.l0, w9, c1, if_true, decide_eq_true c2]
        · simp only [spec_TakeNumber.j2, w1, w2, w3, hrd, w4, w5, hsh, w6, w7, c3, c4, c5, c6, if_true]
      · have c6 : ¬ ((c : Int) ≥ 128) := by omega
        have hcm : c % 128 = c := Nat.mod_eq_of_lt (by omega)
        -- whether the bytes are the shortest ones
        have hcan : (put v = (l.drop p).take (k + 1)) ↔ ¬ ((c : Int) = 0 ∧ 0 < k) := by
          rw [htk]
          constructor
          · rintro h ⟨hc0, hk0⟩
            have hc0' : c = 0 := by omega
            rw [hc0', Nat.zero_mod, Nat.mul_zero, Nat.zero_add] at hv
            obtain ⟨q, rfl⟩ : ∃ q, k = q + 1 := ⟨k - 1, by omega⟩
            have := put_len v q (by rw [hv]; exact hu)
            rw [h, List.length_append, hlen] at this
            simp at this
            omega
          · intro h
            by_cases hk0 : k = 0
            · subst hk0
              rw [show v = c by rw [hv, hcm]; simp at hu; rw [hu]; simp, put_small (by omega)]
              simp
            · have hc1 : 1 ≤ c := by
                by_cases hc0 : c = 0
                · exact absurd ⟨by omega, by omega⟩ h
                · omega
              rw [hv, hcm, hput c hc1, put_small (by omega)]
        have et : tkL (d + 1 + 1) ((c : Int) :: l.drop (p + k + 1)) k u = if (c : Int) = 0 ∧ 0 < k then none else if isWord (unzz v) then some (unzz v, k + 1) else none := by
          rw [tkL, if_neg (by omega), Int.toNat_natCast, ← hv]
        rw [et]
        have hzb : -8796093022209 ≤ unzz v ∧ unzz v ≤ 8796093022209 := by
          unfold unzz
          split <;> omega
        have hsl : (l.take (p + k + 1)).drop p = (l.drop p).take (k + 1) := by rw [List.drop_take]; congr 1; omega
        have hcond : (putOf (unzz v) = (l.drop p).take (k + 1)) ↔ (¬ ((c : Int) = 0 ∧ 0 < k) ∧ isWord (unzz v)) := by
          by_cases hw : isWord (unzz v)
          · unfold putOf
            rw [if_pos hw, zz_unzz, hcan]
            exact ⟨fun h => ⟨h, hw⟩, fun h => h.1⟩
          · unfold putOf
            rw [if_neg hw]
            refine ⟨fun h => ?_, fun h => absurd h.2 hw⟩
            rw [htk] at h
            exact absurd h.symm (by simp)
        have hpl : (putOf (unzz v)).length ≤ 1048576 := Nat.le_trans (putOf_len _) (by omega)
        obtain ⟨m, e1, e2⟩ := evs2 (sPut_ev (unzz v) (i64_wf (by omega) (by omega))) (sSame_ev (putOf (unzz v)) ((l.drop p).take (k + 1)) hpl)
        obtain ⟨b1, b2, b3, b4⟩ : 0 ≤ (p : Int) ∧ (p : Int) ≤ ((p + k + 1 : Nat) : Int) ∧ ((p + k + 1 : Nat) : Int) ≤ (l.length : Int) ∧ (p + k + 1 : Nat) = p + (k + 1) := by
          exact ⟨by omega, by omega, by omega, by omega⟩
        refine ⟨m + 3, fun n hn' => ?_⟩
        obtain ⟨n, rfl⟩ : ∃ q, n = m + q + 3 := ⟨n - m - 3, by omega⟩
        obtain ⟨w1, w2, w3, w7, w8, w9⟩ := tk_w (p := p) (k := k) hl hn (by omega)
        obtain ⟨w4, w5⟩ := tk_c hc2'
        have w6 := tk_v hv hv43
        have hz := tk_z hv43
        have hj3 : spec_TakeNumber.j3 (m + n + 1) l (p : Int) (k : Int) (unzz v) = some (tkR p (if (c : Int) = 0 ∧ 0 < k then none else if isWord (unzz v) then some (unzz v, k + 1) else none)) := by
          simp only [spec_TakeNumber.j3, e1 n, Option.bind_some, w1, w8, b1, b2, b3, if_true, Int.toNat_natCast, hsl, e2 n]
          by_cases hx : ¬ ((c : Int) = 0 ∧ 0 < k) ∧ isWord (unzz v)
          · rw [decide_eq_true (hcond.2 hx), if_pos rfl, if_neg hx.1, if_pos hx.2]
            simp only [tkR, b4]
          · rw [decide_eq_false (fun h => hx (hcond.1 h)), if_neg (by decide)]
            by_cases hx1 : (c : Int) = 0 ∧ 0 < k
            · rw [if_pos hx1]; rfl
            · rw [if_neg hx1, if_neg (fun h => hx ⟨hx1, h⟩)]; rfl
        rw [show m + n + 3 = m + n + 1 + 1 + 1 from rfl]
        simp only [spec_TakeNumber.l0, spec_TakeNumber.j2, w9, c1, decide_eq_true c2, w1, w2, w3, hrd, w4, w5, hsh, w6, c3, c4, c5, c6, if_true, if_false]
        rw [← hj3, ← hz]
        split <;> rfl
    · rw [List.drop_eq_nil_of_le (by omega)]
      refine ⟨2, fun n hn' => ?_⟩
      obtain ⟨n, rfl⟩ : ∃ m, n = m + 2 := ⟨n - 2, by omega⟩
      obtain ⟨c1, c2⟩ : (k : Int) < 6 ∧ ¬ ((k : Int) < ((l.length - p : Nat) : Int)) := ⟨by omega, by omega⟩
      have w9 : wrap64 ((l.length : Int) - (p : Int)) = ((l.length - p : Nat) : Int) := w64n (by omega) (by omega)
      simp only [spec_TakeNumber.l0, spec_TakeNumber.j2, w9, c1, if_true, decide_eq_false c2, Bool.false_eq_true, if_false]
      rfl
/-- What is read at any place. -/
def takeI (l : List Int) (a : Int) : Int × Int × Bool := if a < 0 then (0, 0, false) else tkR a.toNat (tkL 7 (l.drop a.toNat) 0 0)
theorem sTake_ev (l : List Int) (hn : l.length ≤ 1048576) (hb : isB l) (a : Int) : Ev (fun n => spec_TakeNumber.f n l a) (takeI l a) := by
  unfold takeI
  by_cases h0 : a < 0
  · rw [if_pos h0]
    refine ev_now fun n => ?_
    simp only [spec_TakeNumber.f, spec_TakeNumber.j0]
    rw [if_pos h0, if_pos trivial]
  · obtain ⟨p, rfl⟩ := Int.eq_ofNat_of_zero_le (show 0 ≤ a by omega)
    rw [if_neg h0, Int.toNat_natCast]
    by_cases h1 : p < l.length
    · have key := sTake_l l hn hb p (by omega) 6 0 0 (by omega) (by omega) (by simp) (by intro w hw; simp)
      refine Ev.congr (f := fun n => spec_TakeNumber.j0 n l (p : Int) false) (fun n => ?_) (Ev.step (fun n => ?_) key)
      · simp only [spec_TakeNumber.f]
        rw [if_neg h0, decide_eq_false (by omega)]
      · simp only [spec_TakeNumber.j0, Bool.false_eq_true, if_false]
        rfl
    · rw [List.drop_eq_nil_of_le (by omega)]
      refine ev_now fun n => ?_
      simp only [spec_TakeNumber.f, spec_TakeNumber.j0]
      rw [if_neg h0, decide_eq_true (by omega), if_pos rfl]
      rfl

-- block lstD
/-- m numbers read one behind the other, from this place on. -/
def lstD (l : List Int) : Nat → Nat → Option (List Int × Nat)
  | 0, p => some ([], p)
  | d + 1, p => (tkL 7 (l.drop p) 0 0).bind fun r => (lstD l d (p + r.2)).bind fun s => some (r.1 :: s.1, s.2)
/-- A count and so many numbers. -/
def oneD (l : List Int) (p : Nat) : Option (List Int × Nat) := (tkL 7 (l.drop p) 0 0).bind fun r => if 0 ≤ r.1 ∧ r.1 ≤ 400 then lstD l r.1.toNat (p + r.2) else none
def dR : Option (List Int × Nat) → List Int × Int × Bool
  | some r => (r.1, (r.2 : Int), true)
  | none => ([], 0, false)
/-- What a reader that fails late may tell. -/
def dOk (o : Option (List Int × Nat)) (r : List Int × Int × Bool) : Prop := match o with
  | some s => r = (s.1, (s.2 : Int), true)
  | none => r.2.2 = false
theorem tkL_le : ∀ (d : Nat) (l : List Int) (k u : Nat) (r : Int × Nat), tkL d l k u = some r → r.2 ≤ k + l.length ∧ k < r.2
  | 0, l, k, u, r, h => by cases l <;> simp [tkL] at h
  | d + 1, [], k, u, r, h => by simp [tkL] at h
  | d + 1, b :: l, k, u, r, h => by
    rw [tkL] at h
    split at h
    · have := tkL_le d l (k + 1) _ r h
      rw [List.length_cons]; omega
    · split at h
      · cases h
      · split at h
        · injection h with h; subst h; rw [List.length_cons]; dsimp only; omega
        · cases h
theorem tk_le {l : List Int} {p : Nat} {r : Int × Nat} (h : tkL 7 (l.drop p) 0 0 = some r) : p + r.2 ≤ l.length ∧ 0 < r.2 := by
  have := tkL_le 7 (l.drop p) 0 0 r h
  rw [List.length_drop] at this
  omega
theorem lstD_le (l : List Int) : ∀ (d p : Nat) (s : List Int × Nat), p ≤ l.length → lstD l d p = some s → s.2 ≤ l.length ∧ s.1.length = d ∧ p ≤ s.2
  | 0, p, s, hp, h => by injection h with h; subst h; exact ⟨hp, rfl, Nat.le_refl _⟩
  | d + 1, p, s, hp, h => by
    rw [lstD] at h
    obtain ⟨r, hr, h⟩ := Option.bind_eq_some_iff.mp h
    obtain ⟨t, ht, h⟩ := Option.bind_eq_some_iff.mp h
    injection h with h
    subst h
    have h1 := tk_le hr
    have h2 := lstD_le l d _ t h1.1 ht
    exact ⟨h2.1, by rw [List.length_cons, h2.2.1], by dsimp only; omega⟩
theorem oneD_le {l : List Int} {p : Nat} {s : List Int × Nat} (h : oneD l p = some s) : s.2 ≤ l.length ∧ s.1.length ≤ 400 ∧ p ≤ s.2 := by
  unfold oneD at h
  obtain ⟨r, hr, h⟩ := Option.bind_eq_some_iff.mp h
  split at h
  · rename_i hc
    have h1 := tk_le hr
    have h2 := lstD_le l _ _ s h1.1 h
    omega
  · cases h

-- block decP
/-- The job that these bytes tell. -/
def decV (l : List Int) : Int × Int × List Int × List Int × Int × Bool :=
  if l.length < 2 then (0, 0, [], [], 0, false) else match tkL 7 (l.drop 2) 0 0 with
  | none => (0, 0, [], [], 0, false)
  | some r => match oneD l (2 + r.2) with
    | none => (0, 0, [], [], 0, false)
    | some s => match oneD l s.2 with
      | none => (0, 0, [], [], 0, false)
      | some t => if t.2 = l.length ∧ jobB (rd l 0) (rd l 1) s.1 t.1 r.1 = true then (rd l 0, rd l 1, s.1, t.1, r.1, true) else (0, 0, [], [], 0, false)
theorem decV_len (l : List Int) : (decV l).2.2.1.length ≤ 400 ∧ (decV l).2.2.2.1.length ≤ 400 := by
  unfold decV
  split
  · simp
  · split
    · simp
    · split
      · simp
      · rename_i s hs
        split
        · simp
        · rename_i t ht
          split
          · exact ⟨(oneD_le hs).2.1, (oneD_le ht).2.1⟩
          · simp
theorem rdByte {l : List Int} (hb : isB l) {i : Nat} (h : i < l.length) : wrap64 (rd l (i : Int)) = rd l (i : Int) := by
  have := isB_at hb h
  rw [rd_eq h]
  exact w64 (by omega) (by omega)

-- block sDecL
theorem takeI_nat (l : List Int) (p : Nat) : takeI l (p : Int) = tkR p (tkL 7 (l.drop p) 0 0) := by
  unfold takeI
  rw [if_neg (by omega), Int.toNat_natCast]
theorem sLst (l : List Int) (hn : l.length ≤ 1048576) (hb : isB l) (m : Nat) (hm : m ≤ 400) : ∀ (d i p : Nat) (xs : List Int), m - i = d → i ≤ m → p ≤ l.length → xs.length ≤ i →
    Ev (fun k => spec_l10TakeList.l0 k l (p : Int) xs (m : Int) (i : Int)) (dR ((lstD l d p).bind fun s => some (xs ++ s.1, s.2))) := by
  intro d
  induction d with
  | zero =>
    intro i p xs h hi hp hx
    refine ev_now fun k => ?_
    simp only [spec_l10TakeList.l0]
    rw [if_neg (by omega)]
    simp [lstD, dR]
  | succ d ih =>
    intro i p xs h hi hp hx
    have ht := sTake_ev l hn hb (p : Int)
    rw [takeI_nat] at ht
    rw [lstD]
    cases hr : tkL 7 (l.drop p) 0 0 with
    | none =>
      rw [hr] at ht
      obtain ⟨n, e⟩ := evs1 ht
      refine ⟨n + 1, fun k hk => ?_⟩
      obtain ⟨j, rfl⟩ : ∃ j, k = n + j + 1 := ⟨k - n - 1, by omega⟩
      simp only [spec_l10TakeList.l0, e, tkR, Option.bind_some, Option.bind_none, Bool.false_eq_true, if_false, dR]
      rw [if_pos (by omega)]
    | some r =>
      rw [hr] at ht
      have h1 := tk_le hr
      have key := ih (i + 1) (p + r.2) (xs ++ [r.1]) (by omega) (by omega) h1.1 (by rw [List.length_append]; simp; omega)
      obtain ⟨n, e, e2⟩ := evs2 ht key
      refine ⟨n + 1, fun k hk => ?_⟩
      obtain ⟨j, rfl⟩ : ∃ j, k = n + j + 1 := ⟨k - n - 1, by omega⟩
      simp only [spec_l10TakeList.l0, e, tkR, Option.bind_some, if_true]
      rw [if_pos (by omega), if_pos (by omega), wsucc (by omega), e2]
      congr 2
      cases lstD l d (p + r.2) with
      | none => rfl
      | some s => simp
theorem sOne (l : List Int) (hn : l.length ≤ 1048576) (hb : isB l) (p : Nat) : Ev (fun k => spec_l10TakeList.f k l (p : Int)) (dR (oneD l p)) := by
  have ht := sTake_ev l hn hb (p : Int)
  rw [takeI_nat] at ht
  unfold oneD
  cases hr : tkL 7 (l.drop p) 0 0 with
  | none =>
    rw [hr] at ht
    obtain ⟨n, e⟩ := evs1 ht
    refine ⟨n + 1, fun k hk => ?_⟩
    obtain ⟨j, rfl⟩ : ∃ j, k = n + (j + 1) := ⟨k - n - 1, by omega⟩
    simp only [spec_l10TakeList.f, e, tkR, Option.bind_some, Option.bind_none, Bool.false_eq_true, if_false]
    rw [show n + (j + 1) = n + j + 1 from rfl]
    simp only [spec_l10TakeList.j0, if_true, dR]
  | some r =>
    rw [hr] at ht
    have h1 := tk_le hr
    simp only [Option.bind_some]
    by_cases hc : 0 ≤ r.1 ∧ r.1 ≤ 400
    · rw [if_pos hc]
      have key := sLst l hn hb r.1.toNat (by omega) r.1.toNat 0 (p + r.2) [] (by omega) (by omega) h1.1 (by simp)
      rw [show ((r.1.toNat : Nat) : Int) = r.1 by omega] at key
      obtain ⟨n, e, e2⟩ := evs2 ht key
      refine ⟨n + 1, fun k hk => ?_⟩
      obtain ⟨j, rfl⟩ : ∃ j, k = n + (j + 1) := ⟨k - n - 1, by omega⟩
      simp only [spec_l10TakeList.f, spec_l01In.f, e, tkR, Option.bind_some, if_true]
      rw [if_pos hc.1, decide_eq_true hc.2]
      simp only [Option.bind_some, Bool.not_true]
      rw [show n + (j + 1) = n + j + 1 from rfl]
      simp only [spec_l10TakeList.j0, Bool.false_eq_true, if_false]
      have e3 := e2 j
      simp only [List.nil_append] at e3
      rw [show ((0 : Nat) : Int) = 0 from rfl] at e3
      rw [e3]
      cases lstD l r.1.toNat (p + r.2) <;> rfl
    · rw [if_neg hc]
      obtain ⟨n, e⟩ := evs1 ht
      refine ⟨n + 1, fun k hk => ?_⟩
      obtain ⟨j, rfl⟩ : ∃ j, k = n + (j + 1) := ⟨k - n - 1, by omega⟩
      simp only [spec_l10TakeList.f, spec_l01In.f, e, tkR, Option.bind_some, if_true]
      have hj : spec_l10TakeList.j0 (n + (j + 1)) l ((p + r.2 : Nat) : Int) [] r.1 true = some ([], 0, false) := by
        rw [show n + (j + 1) = n + j + 1 from rfl]
        simp only [spec_l10TakeList.j0, if_true]
      by_cases h0 : 0 ≤ r.1
      · rw [if_pos h0, decide_eq_false (fun h => hc ⟨h0, h⟩)]
        simp only [Option.bind_some, Bool.not_false]
        exact hj
      · rw [if_neg h0]
        simp only [Option.bind_some, Bool.not_false]
        exact hj

-- block sDecJ
theorem sDecode_ev (l : List Int) (hn : l.length ≤ 1048576) (hb : isB l) : Ev (fun k => spec_DecodeJob.f k l) (decV l) := by
  unfold decV
  by_cases h2 : l.length < 2
  · rw [if_pos h2]
    refine ev_some fun k => ?_
    simp only [spec_DecodeJob.f]
    rw [if_pos (by omega)]
  · rw [if_neg h2]
    have ht := sTake_ev l hn hb ((2 : Nat) : Int)
    rw [takeI_nat] at ht
    have w0 : wrap64 (rd l 0) = rd l 0 := rdByte hb (i := 0) (by omega)
    have w1 : wrap64 (rd l 1) = rd l 1 := rdByte hb (i := 1) (by omega)
    cases hr : tkL 7 (l.drop 2) 0 0 with
    | none =>
      rw [hr] at ht
      refine Ev.congr (fun k => rfl) ?_
      obtain ⟨n, e⟩ := evs1 ht
      refine ⟨n, fun k hk => ?_⟩
      obtain ⟨j, rfl⟩ : ∃ j, k = n + j := ⟨k - n, by omega⟩
      have e' : spec_TakeNumber.f (n + j) l 2 = some (0, 0, false) := e j
      simp only [spec_DecodeJob.f, e', Option.bind_some, Bool.false_eq_true, if_false]
      rw [if_neg (by omega), if_pos (by omega), if_pos (by omega)]
    | some r =>
      rw [hr] at ht
      dsimp only
      have hs := sOne l hn hb (2 + r.2)
      cases ho : oneD l (2 + r.2) with
      | none =>
        rw [ho] at hs
        obtain ⟨n, e, e2⟩ := evs2 ht hs
        refine ⟨n, fun k hk => ?_⟩
        obtain ⟨j, rfl⟩ : ∃ j, k = n + j := ⟨k - n, by omega⟩
        have e' : spec_TakeNumber.f (n + j) l 2 = some (r.1, ((2 + r.2 : Nat) : Int), true) := e j
        simp only [spec_DecodeJob.f, e', e2, dR, Option.bind_some, if_true, Bool.false_eq_true, if_false]
        rw [if_neg (by omega), if_pos (by omega), if_pos (by omega)]
      | some s =>
        rw [ho] at hs
        dsimp only
        have hu := sOne l hn hb s.2
        cases hq : oneD l s.2 with
        | none =>
          rw [hq] at hu
          obtain ⟨n, e, e2, e3⟩ := evs3 ht hs hu
          refine ⟨n, fun k hk => ?_⟩
          obtain ⟨j, rfl⟩ : ∃ j, k = n + j := ⟨k - n, by omega⟩
          have e' : spec_TakeNumber.f (n + j) l 2 = some (r.1, ((2 + r.2 : Nat) : Int), true) := e j
          simp only [spec_DecodeJob.f, e', e2, e3, dR, Option.bind_some, if_true, Bool.false_eq_true, if_false]
          rw [if_neg (by omega), if_pos (by omega), if_pos (by omega)]
        | some t =>
          rw [hq] at hu
          dsimp only
          have hl1 := (oneD_le ho).2.1
          have hl2 := (oneD_le hq).2.1
          obtain ⟨n, e, e2, e3, e4⟩ := evs4 ht hs hu (sJob_ev (rd l 0) (rd l 1) s.1 t.1 r.1 (by omega) (by omega))
          refine ⟨n, fun k hk => ?_⟩
          obtain ⟨j, rfl⟩ : ∃ j, k = n + j := ⟨k - n, by omega⟩
          have e' : spec_TakeNumber.f (n + j) l 2 = some (r.1, ((2 + r.2 : Nat) : Int), true) := e j
          simp only [spec_DecodeJob.f, e', e2, e3, dR, Option.bind_some, if_true, w0, w1, e4]
          rw [if_neg (by omega), if_pos (by omega), if_pos (by omega)]
          by_cases hc : t.2 = l.length
          · rw [if_pos (by omega)]
            by_cases hj : jobB (rd l 0) (rd l 1) s.1 t.1 r.1 = true
            · rw [if_pos hj, if_pos ⟨hc, hj⟩]
            · rw [if_neg hj, if_neg (fun hh => hj hh.2)]
          · rw [if_neg (by omega), if_neg (fun hh => hc hh.1)]

-- block iDecL
theorem iLst (l : List Int) (hn : l.length ≤ 1048576) (hb : isB l) (m : Nat) (hm : m ≤ 400) : ∀ (d i p : Nat) (xs : List Int), m - i = d → i ≤ m → p ≤ l.length → xs.length ≤ i →
    ∃ r, Ev (fun k => impl_DecodeJob.l1 k l xs (m : Int) (p : Int) true (i : Int)) r ∧ dOk ((lstD l d p).bind fun s => some (xs ++ s.1, s.2)) r := by
  intro d
  induction d with
  | zero =>
    intro i p xs h hi hp hx
    refine ⟨(xs, (p : Int), true), ev_now fun k => ?_, ?_⟩
    · simp only [impl_DecodeJob.l1, if_true]
      rw [if_neg (by omega)]
    · simp [lstD, dOk]
  | succ d ih =>
    intro i p xs h hi hp hx
    have ht := iTake_ev l (by omega) hb p (by omega)
    unfold takeAt at ht
    rw [lstD]
    cases hr : tkL 7 (l.drop p) 0 0 with
    | none =>
      rw [hr] at ht
      obtain ⟨n, e⟩ := evs1 ht
      refine ⟨(xs ++ [0], 0, false), ⟨n + 2, fun k hk => ?_⟩, rfl⟩
      obtain ⟨j, rfl⟩ : ∃ j, k = n + (j + 1) + 1 := ⟨k - n - 2, by omega⟩
      simp only [impl_DecodeJob.l1, if_true]
      rw [if_pos (by omega), e (j + 1)]
      simp only [tkR, Option.bind_some]
      rw [if_pos (by omega)]
      simp only [impl_DecodeJob.l1, Bool.false_eq_true, if_false]
    | some r =>
      rw [hr] at ht
      have h1 := tk_le hr
      obtain ⟨v, key, hv⟩ := ih (i + 1) (p + r.2) (xs ++ [r.1]) (by omega) (by omega) h1.1 (by rw [List.length_append]; simp; omega)
      obtain ⟨n, e, e2⟩ := evs2 ht key
      refine ⟨v, ⟨n + 1, fun k hk => ?_⟩, ?_⟩
      · obtain ⟨j, rfl⟩ : ∃ j, k = n + j + 1 := ⟨k - n - 1, by omega⟩
        simp only [impl_DecodeJob.l1, e, tkR, Option.bind_some, if_true]
        rw [if_pos (by omega), if_pos (by omega), wsucc (by omega), e2]
      · rw [Option.bind_some]
        cases hq : lstD l d (p + r.2) with
        | none => rw [hq] at hv; exact hv
        | some s => rw [hq] at hv; simpa [dOk] using hv
theorem iOne (l : List Int) (hn : l.length ≤ 1048576) (hb : isB l) (p : Nat) (hp : p ≤ l.length) : ∃ r, Ev (fun k => impl_DecodeJob.one k l (p : Int) true) r ∧ dOk (oneD l p) r := by
  have ht := iTake_ev l (by omega) hb p (by omega)
  unfold takeAt at ht
  unfold oneD
  have off : ∀ (m a : Int), Ev (fun k => impl_DecodeJob.l1 k l [] m a false 0) (([] : List Int), a, false) := fun m a => ev_now fun k => by simp only [impl_DecodeJob.l1, Bool.false_eq_true, if_false]
  cases hr : tkL 7 (l.drop p) 0 0 with
  | none =>
    rw [hr] at ht
    obtain ⟨n, e, e2⟩ := evs2 ht (off 0 0)
    refine ⟨([], 0, false), ⟨n, fun k hk => ?_⟩, rfl⟩
    obtain ⟨j, rfl⟩ : ∃ j, k = n + j := ⟨k - n, by omega⟩
    simp only [impl_DecodeJob.one, e, tkR, Option.bind_some, Bool.true_and, Bool.false_and]
    exact e2 j
  | some r =>
    rw [hr] at ht
    have h1 := tk_le hr
    simp only [Option.bind_some]
    by_cases hc : 0 ≤ r.1 ∧ r.1 ≤ 400
    · rw [if_pos hc]
      obtain ⟨v, key, hv⟩ := iLst l hn hb r.1.toNat (by omega) r.1.toNat 0 (p + r.2) [] (by omega) (by omega) h1.1 (by simp)
      rw [show ((r.1.toNat : Nat) : Int) = r.1 by omega] at key
      obtain ⟨n, e, e2⟩ := evs2 ht key
      refine ⟨v, ⟨n, fun k hk => ?_⟩, ?_⟩
      · obtain ⟨j, rfl⟩ : ∃ j, k = n + j := ⟨k - n, by omega⟩
        simp only [impl_DecodeJob.one, e, tkR, Option.bind_some, Bool.true_and]
        rw [decide_eq_true hc.1, decide_eq_true hc.2]
        exact e2 j
      · cases hq : lstD l r.1.toNat (p + r.2) with
        | none => rw [hq] at hv; exact hv
        | some s => rw [hq] at hv; simpa [dOk] using hv
    · rw [if_neg hc]
      obtain ⟨n, e, e2⟩ := evs2 ht (off r.1 ((p + r.2 : Nat) : Int))
      refine ⟨([], ((p + r.2 : Nat) : Int), false), ⟨n, fun k hk => ?_⟩, rfl⟩
      obtain ⟨j, rfl⟩ : ∃ j, k = n + j := ⟨k - n, by omega⟩
      simp only [impl_DecodeJob.one, e, tkR, Option.bind_some, Bool.true_and]
      have hf : (decide (0 ≤ r.1) && decide (r.1 ≤ 400)) = false := by
        rw [Bool.eq_false_iff]
        intro hh
        rw [Bool.and_eq_true, decide_eq_true_eq, decide_eq_true_eq] at hh
        exact hc hh
      rw [hf]
      exact e2 j
theorem iOneNo (l : List Int) (hn : l.length ≤ 1048576) (hb : isB l) (p : Nat) (hp : p ≤ l.length) : ∃ r, Ev (fun k => impl_DecodeJob.one k l (p : Int) false) r ∧ r.2.2 = false := by
  have ht := iTake_ev l (by omega) hb p (by omega)
  obtain ⟨n, e, e2⟩ := evs2 ht (show Ev (fun k => impl_DecodeJob.l1 k l [] (takeAt l p).1 (takeAt l p).2.1 false 0) (([] : List Int), (takeAt l p).2.1, false) from ev_now fun k => by simp only [impl_DecodeJob.l1, Bool.false_eq_true, if_false])
  refine ⟨([], (takeAt l p).2.1, false), ⟨n, fun k hk => ?_⟩, rfl⟩
  obtain ⟨j, rfl⟩ : ∃ j, k = n + j := ⟨k - n, by omega⟩
  simp only [impl_DecodeJob.one, e, Option.bind_some, Bool.false_and]
  exact e2 j

-- block iDecJ
theorem iDecode_ev (l : List Int) (hn : l.length ≤ 1048576) (hb : isB l) : Ev (fun k => impl_DecodeJob.f k l) (decV l) := by
  unfold decV
  by_cases h2 : l.length < 2
  · rw [if_pos h2]
    refine ev_some fun k => ?_
    simp only [impl_DecodeJob.f]
    rw [if_pos (by omega)]
  · rw [if_neg h2]
    have ht := iTake_ev l (by omega) hb 2 (by omega)
    unfold takeAt at ht
    have w0 : wrap64 (rd l 0) = rd l 0 := rdByte hb (i := 0) (by omega)
    have w1 : wrap64 (rd l 1) = rd l 1 := rdByte hb (i := 1) (by omega)
    cases hr : tkL 7 (l.drop 2) 0 0 with
    | none =>
      rw [hr] at ht
      obtain ⟨v, hv, hf⟩ := iOneNo l hn hb 0 (by omega)
      obtain ⟨n, e, e2⟩ := evs2 ht hv
      refine ⟨n, fun k hk => ?_⟩
      obtain ⟨j, rfl⟩ : ∃ j, k = n + j := ⟨k - n, by omega⟩
      have e' : impl_takeNumber.f (n + j) l 2 = some (0, 0, false) := e j
      have e2' : impl_DecodeJob.one (n + j) l 0 false = some v := e2 j
      simp only [impl_DecodeJob.f, e', impl_DecodeJob.g0, e2', hf, Option.bind_some, Bool.false_eq_true, if_false]
      rw [if_neg (by omega), if_pos (by omega), if_pos (by omega)]
    | some r =>
      rw [hr] at ht
      dsimp only
      have h1 := tk_le hr
      obtain ⟨v, hv, hd⟩ := iOne l hn hb (2 + r.2) h1.1
      cases ho : oneD l (2 + r.2) with
      | none =>
        rw [ho] at hd
        have hd' : v.2.2 = false := hd
        obtain ⟨n, e, e2⟩ := evs2 ht hv
        refine ⟨n, fun k hk => ?_⟩
        obtain ⟨j, rfl⟩ : ∃ j, k = n + j := ⟨k - n, by omega⟩
        have e' : impl_takeNumber.f (n + j) l 2 = some (r.1, ((2 + r.2 : Nat) : Int), true) := e j
        simp only [impl_DecodeJob.f, impl_DecodeJob.g0, e', e2, hd', Option.bind_some, Bool.false_eq_true, if_false]
        rw [if_neg (by omega), if_pos (by omega), if_pos (by omega)]
      | some s =>
        rw [ho] at hd
        have hd' : v = (s.1, (s.2 : Int), true) := hd
        subst hd'
        dsimp only
        have hl1 := oneD_le ho
        obtain ⟨u, hu, hd2⟩ := iOne l hn hb s.2 hl1.1
        cases hq : oneD l s.2 with
        | none =>
          rw [hq] at hd2
          have hd' : u.2.2 = false := hd2
          obtain ⟨n, e, e2, e3⟩ := evs3 ht hv hu
          refine ⟨n, fun k hk => ?_⟩
          obtain ⟨j, rfl⟩ : ∃ j, k = n + j := ⟨k - n, by omega⟩
          have e' : impl_takeNumber.f (n + j) l 2 = some (r.1, ((2 + r.2 : Nat) : Int), true) := e j
          simp only [impl_DecodeJob.f, impl_DecodeJob.g0, impl_DecodeJob.g1, e', e2, e3, hd', Option.bind_some, if_true, Bool.false_eq_true, if_false]
          rw [if_neg (by omega), if_pos (by omega), if_pos (by omega)]
        | some t =>
          rw [hq] at hd2
          have hd' : u = (t.1, (t.2 : Int), true) := hd2
          subst hd'
          dsimp only
          have hl2 := (oneD_le hq).2.1
          obtain ⟨n, e, e2, e3, e4⟩ := evs4 ht hv hu (iJob_ev (rd l 0) (rd l 1) s.1 t.1 r.1 (by omega) (by omega))
          refine ⟨n, fun k hk => ?_⟩
          obtain ⟨j, rfl⟩ : ∃ j, k = n + j := ⟨k - n, by omega⟩
          have e' : impl_takeNumber.f (n + j) l 2 = some (r.1, ((2 + r.2 : Nat) : Int), true) := e j
          simp only [impl_DecodeJob.f, impl_DecodeJob.g0, impl_DecodeJob.g1, impl_DecodeJob.g2, e', e2, e3, e4, Option.bind_some, if_true, w0, w1]
          rw [if_neg (by omega), if_pos (by omega), if_pos (by omega)]
          by_cases hc : t.2 = l.length
          · rw [if_pos (by omega)]
            by_cases hj : jobB (rd l 0) (rd l 1) s.1 t.1 r.1 = true
            · rw [if_pos hj, if_pos ⟨hc, hj⟩]
            · rw [if_neg hj, if_neg (fun hh => hj hh.2)]
          · rw [if_neg (by omega), if_neg (fun hh => hc hh.1)]

-- block heldJob
theorem heldJob_ev (a b c : Int) (n1 n2 : Nat) (m : Int) (h0 : 0 ≤ m) (hn : m + n1 + n2 ≤ 4611686018427387904) : Ev (fun k => laws_heldJob.f k a b (marksI n1 m) (marksI n2 (m + n1)) c m) (m + n1 + n2) := by
  obtain ⟨n, h1, h2⟩ := evs2 (heldIntS_ev n1 m h0 (by omega)) (heldIntS_ev n2 (m + n1) (by omega) (by omega))
  refine ⟨n, fun k hk => ?_⟩
  obtain ⟨j, rfl⟩ : ∃ j, k = n + j := ⟨k - n, by omega⟩
  have e1 : ¬ (m + (n1 : Int) < 0) := by omega
  have e2 : ¬ (m + (n1 : Int) + n2 < 0) := by omega
  simp only [laws_heldJob.f, h1, h2, e1, e2, Option.bind_some, if_false]

-- block unpP
/-- The job in a frame. -/
def unpV (a b : Int) (l : List Int) : Int × Int × List Int × List Int × Int × Bool := if frOk a b l then decV l else (0, 0, [], [], 0, false)
theorem unpV_len (a b : Int) (l : List Int) : (unpV a b l).2.2.1.length ≤ 400 ∧ (unpV a b l).2.2.2.1.length ≤ 400 := by
  unfold unpV
  split
  · exact decV_len l
  · simp

-- block sUnpack
theorem sUnpack_ev (a b : Int) (l : List Int) (hn : l.length ≤ 1048576) (hb : isB l) : Ev (fun k => spec_UnpackJobs.f k a b l) (unpV a b l) := by
  obtain ⟨n, e⟩ := evs1 (sDecode_ev l hn hb)
  unfold unpV
  refine ⟨n, fun k hk => ?_⟩
  obtain ⟨j, rfl⟩ : ∃ j, k = n + j := ⟨k - n, by omega⟩
  by_cases h : frOk a b l
  · simp only [spec_UnpackJobs.f, sFrameOk, e, Option.bind_some, decide_eq_true h, if_true, if_pos h]
  · simp only [spec_UnpackJobs.f, sFrameOk, Option.bind_some, decide_eq_false h, Bool.false_eq_true, if_false, if_neg h]

-- block iUnpack
theorem iUnpack_ev (a b : Int) (l : List Int) (hn : l.length ≤ 1048576) (hb : isB l) : Ev (fun k => impl_UnpackJobs.f k a b l) (unpV a b l) := by
  obtain ⟨n, e⟩ := evs1 (iDecode_ev l hn hb)
  unfold unpV
  refine ⟨n, fun k hk => ?_⟩
  obtain ⟨j, rfl⟩ : ∃ j, k = n + j := ⟨k - n, by omega⟩
  by_cases h : frOk a b l
  · simp only [impl_UnpackJobs.f, iFrame, e, Option.bind_some, decide_eq_true h, if_true, if_pos h]
  · simp only [impl_UnpackJobs.f, iFrame, Option.bind_some, decide_eq_false h, Bool.false_eq_true, if_false, if_neg h]

-- block markJobP
theorem markJob_ev (a b c : Int) (A B : List Int) (m : Int) (h0 : 0 ≤ m) (hn : m + A.length + B.length ≤ 4611686018427387904) : Ev (fun k => laws_markJob.f k a b A B c m) (m + A.length + B.length, marksI A.length m, marksI B.length (m + A.length)) := by
  obtain ⟨n, e1, e2⟩ := evs2 (markIntS_ev A m h0 (by omega)) (markIntS_ev B (m + A.length) (by omega) (by omega))
  refine ⟨n, fun k hk => ?_⟩
  obtain ⟨j, rfl⟩ : ∃ j, k = n + j := ⟨k - n, by omega⟩
  simp only [laws_markJob.f, e1 j, e2 j, Option.bind_some]

end Go.Proofs.Ytogdhclomgafdaa.QFnExactUnpackJobs

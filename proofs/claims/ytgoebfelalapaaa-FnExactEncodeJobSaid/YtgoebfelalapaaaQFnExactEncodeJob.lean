/- Lemmas on the printed functions of FnExactEncodeJob: what each comes to. -/
import Derived.Test.YtgoebfelalapaaaPFnExactEncodeJobx
import Derived.Test.YtgoebfelalapaaaNtt
namespace Go.Proofs.Ytgoebfelalapaaa.QFnExactEncodeJob
open Go.RowKit Go.Proofs.Ytgoebfelalapaaa.PFnExactEncodeJob Go.Proofs.YtgoebfelalapaaaW.PrintWords Go.Proofs.YtgoebfelalapaaaW.PrintLast Go.Proofs.Ytgoebfelalapaaa.Math
set_option linter.unusedVariables false
set_option linter.unusedSimpArgs false

-- block toIntS
theorem toIntS_l (l : List Int) (hn : l.length ≤ 35184372088832) : ∀ (d i : Nat), l.length - i = d → i ≤ l.length →
    Ev (fun k => laws_toIntS.l0 k l (l.take i ++ List.replicate (l.length - i) 0) (i : Int)) l := by
  intro d
  induction d with
  | zero =>
    intro i h hi
    refine ev_now fun k => ?_
    simp only [laws_toIntS.l0]
    rw [if_neg (by omega), fill_all l 0 i (by omega)]
  | succ d ih =>
    intro i h hi
    refine Ev.step (fun k => ?_) (ih (i + 1) (by omega) (by omega))
    simp only [laws_toIntS.l0]
    rw [if_pos (by omega), if_pos (by omega), if_pos (by simp; omega), wsucc (by omega), Int.toNat_natCast, set_fill l 0 _ i (by omega) (rd_eq (by omega))]
theorem toIntS_ev (l : List Int) (hn : l.length ≤ 35184372088832) : Ev (fun k => laws_toIntS.f k l) l := by
  refine Ev.congr (fun k => ?_) (toIntS_l l hn l.length 0 (by omega) (by omega))
  simp only [laws_toIntS.f]
  rw [if_pos (by omega), if_pos (by rw [Int.toNat_natCast]; omega), Int.toNat_natCast, fill_zero l 0]
  rfl

-- block eqByteS
theorem eqByteS_l (l : List Int) (hn : l.length ≤ 140737488355328) : ∀ (d i : Nat), l.length - i = d → i ≤ l.length → Ev (fun k => laws_eqByteS.l0 k l l (i : Int)) true := by
  intro d
  induction d with
  | zero =>
    intro i h hi
    refine ev_now fun k => ?_
    simp only [laws_eqByteS.l0]
    rw [if_neg (by omega)]
  | succ d ih =>
    intro i h hi
    refine Ev.step (fun k => ?_) (ih (i + 1) (by omega) (by omega))
    simp only [laws_eqByteS.l0]
    rw [if_pos (by omega), if_pos (by omega), if_pos (by omega), if_pos trivial, wsucc (by omega)]
theorem eqByteS_ev (l : List Int) (hn : l.length ≤ 140737488355328) : Ev (fun k => laws_eqByteS.f k l l) true := by
  refine Ev.congr (fun k => ?_) (eqByteS_l l hn l.length 0 (by omega) (by omega))
  simp only [laws_eqByteS.f]
  rw [if_pos trivial]
  rfl

-- block eqIntS
theorem eqIntS_l (l : List Int) (hn : l.length ≤ 140737488355328) : ∀ (d i : Nat), l.length - i = d → i ≤ l.length → Ev (fun k => laws_eqIntS.l0 k l l (i : Int)) true := by
  intro d
  induction d with
  | zero =>
    intro i h hi
    refine ev_now fun k => ?_
    simp only [laws_eqIntS.l0]
    rw [if_neg (by omega)]
  | succ d ih =>
    intro i h hi
    refine Ev.step (fun k => ?_) (ih (i + 1) (by omega) (by omega))
    simp only [laws_eqIntS.l0]
    rw [if_pos (by omega), if_pos (by omega), if_pos (by omega), if_pos trivial, wsucc (by omega)]
theorem eqIntS_ev (l : List Int) (hn : l.length ≤ 140737488355328) : Ev (fun k => laws_eqIntS.f k l l) true := by
  refine Ev.congr (fun k => ?_) (eqIntS_l l hn l.length 0 (by omega) (by omega))
  simp only [laws_eqIntS.f]
  rw [if_pos trivial]
  rfl

-- block markByteS
theorem markByteS_l (l : List Int) (m : Int) (h0 : 0 ≤ m) (hn : m + l.length ≤ 4611686018427387904) : ∀ (d i : Nat), l.length - i = d → i ≤ l.length →
    Ev (fun k => laws_markByteS.l0 k ((marksB l.length m).take i ++ l.drop i) (m + i) (i : Int)) (m + l.length, marksB l.length m) := by
  have hlen := marksB_len l.length m
  intro d
  induction d with
  | zero =>
    intro i h hi
    refine ev_now fun k => ?_
    simp only [laws_markByteS.l0]
    rw [if_neg (by simp; omega), List.take_of_length_le (by omega), List.drop_eq_nil_of_le (by omega), List.append_nil, show i = l.length by omega]
  | succ d ih =>
    intro i h hi
    refine Ev.step (fun k => ?_) (ih (i + 1) (by omega) (by omega))
    simp only [laws_markByteS.l0]
    rw [if_pos (by simp; omega), if_pos (by omega), wsucc (by omega), Int.toNat_natCast, set_mark hlen (by omega) (by simp [marksB]), w64 (by omega) (by omega)]
    simp only [Int.natCast_add, Int.natCast_one, Int.add_assoc]
theorem markByteS_ev (l : List Int) (m : Int) (h0 : 0 ≤ m) (hn : m + l.length ≤ 4611686018427387904) : Ev (fun k => laws_markByteS.f k l m) (m + l.length, marksB l.length m) := by
  refine Ev.congr (fun k => ?_) (markByteS_l l m h0 hn l.length 0 (by omega) (by omega))
  simp [laws_markByteS.f]

-- block heldByteS
theorem heldByteS_l (n : Nat) (m : Int) (h0 : 0 ≤ m) (hn : m + n ≤ 4611686018427387904) : ∀ (d i : Nat), n - i = d → i ≤ n →
    Ev (fun k => laws_heldByteS.l0 k (marksB n m) (m + i) (i : Int)) (m + n) := by
  have hlen := marksB_len n m
  intro d
  induction d with
  | zero =>
    intro i h hi
    refine ev_now fun k => ?_
    simp only [laws_heldByteS.l0]
    rw [if_neg (by omega), show i = n by omega]
  | succ d ih =>
    intro i h hi
    refine Ev.step (fun k => ?_) (ih (i + 1) (by omega) (by omega))
    simp only [laws_heldByteS.l0]
    rw [if_pos (by omega), if_pos (by omega), if_pos (by rw [rd_eq (by omega)]; simp [marksB]), wsucc (by omega), w64 (by omega) (by omega)]
    simp only [Int.natCast_add, Int.natCast_one, Int.add_assoc]
theorem heldByteS_ev (n : Nat) (m : Int) (h0 : 0 ≤ m) (hn : m + n ≤ 4611686018427387904) : Ev (fun k => laws_heldByteS.f k (marksB n m) m) (m + n) := by
  refine Ev.congr (fun k => ?_) (heldByteS_l n m h0 hn n 0 (by omega) (by omega))
  simp [laws_heldByteS.f]

-- block markIntS
theorem markIntS_l (l : List Int) (m : Int) (h0 : 0 ≤ m) (hn : m + l.length ≤ 4611686018427387904) : ∀ (d i : Nat), l.length - i = d → i ≤ l.length →
    Ev (fun k => laws_markIntS.l0 k ((marksI l.length m).take i ++ l.drop i) (m + i) (i : Int)) (m + l.length, marksI l.length m) := by
  have hlen := marksI_len l.length m
  intro d
  induction d with
  | zero =>
    intro i h hi
    refine ev_now fun k => ?_
    simp only [laws_markIntS.l0]
    rw [if_neg (by simp; omega), List.take_of_length_le (by omega), List.drop_eq_nil_of_le (by omega), List.append_nil, show i = l.length by omega]
  | succ d ih =>
    intro i h hi
    refine Ev.step (fun k => ?_) (ih (i + 1) (by omega) (by omega))
    simp only [laws_markIntS.l0]
    rw [if_pos (by simp; omega), if_pos (by omega), wsucc (by omega), Int.toNat_natCast, set_mark hlen (by omega) (by simp [marksI]), w64 (by omega) (by omega)]
    simp only [Int.natCast_add, Int.natCast_one, Int.add_assoc]
theorem markIntS_ev (l : List Int) (m : Int) (h0 : 0 ≤ m) (hn : m + l.length ≤ 4611686018427387904) : Ev (fun k => laws_markIntS.f k l m) (m + l.length, marksI l.length m) := by
  refine Ev.congr (fun k => ?_) (markIntS_l l m h0 hn l.length 0 (by omega) (by omega))
  simp [laws_markIntS.f]

-- block l01In
theorem in_eq (a b c : Int) : spec_l01In.f a b c = some (decide (b ≤ a ∧ a ≤ c)) := by
  simp only [spec_l01In.f, if_dec]

-- block sPut
theorem sPut_l (u : Nat) : ∀ (acc : List Int), u < 4611686018427387904 → acc.length + (put u).length ≤ 1000000 → Ev (fun k => spec_PutNumber.l0 k acc (u : Int)) (acc ++ put u) := by
  induction u using Nat.strongRecOn with
  | _ u ih =>
    intro acc hu ha
    by_cases h : u < 128
    · refine ev_now fun k => ?_
      simp only [spec_PutNumber.l0]
      rw [if_neg (by omega), if_pos (by omega), put_small h, show ((u : Int)) % 256 = u by omega]
    · rw [put_big (by omega)] at ha ⊢
      refine Ev.step (fun k => ?_) (Ev.congr (fun k => rfl) (ih (u / 128) (by omega) (acc ++ [((u % 128 + 128 : Nat) : Int)]) (by omega) (by simp at ha ⊢; omega))) |> fun h => by simpa using h
      simp only [spec_PutNumber.l0]
      rw [if_pos (by omega), if_pos (by omega), Int.tmod_eq_emod_of_nonneg (by omega), Int.tdiv_eq_ediv_of_nonneg (by omega), w64 (by omega) (by omega), w64 (by omega) (by omega)]
      rw [show (128 + (u : Int) % 128) % 256 = ((u % 128 + 128 : Nat) : Int) by omega, show (u : Int) / 128 = ((u / 128 : Nat) : Int) by omega]
theorem sPut_ev (x : Int) (hx : (Lit.int .i64 x).wf = true) : Ev (fun k => spec_PutNumber.f k x) (putOf x) := by
  unfold putOf
  by_cases h : isWord x
  · have hz := zz_lt h
    have hl := put_len (zz x) 5 (by omega)
    rw [if_pos h]
    have key := sPut_l (zz x) [] (by omega) (by simp; omega)
    unfold isWord at h
    refine Ev.congr (fun k => ?_) (Ev.step (g := fun k => spec_PutNumber.j0 k [] (zz x : Int)) (fun k => rfl) key)
    simp only [spec_PutNumber.f, in_eq, Option.bind_some, decide_eq_true_eq]
    rw [if_pos h]
    by_cases hn : x < 0
    · rw [if_pos hn, w64 (x := -2 * x) (by omega) (by omega), w64 (by omega) (by omega), show -2 * x - 1 = (zz x : Int) by unfold zz; omega]
    · rw [if_neg hn, w64 (by omega) (by omega), show 2 * x = (zz x : Int) by unfold zz; omega]
  · rw [if_neg h]
    refine ev_some fun k => ?_
    unfold isWord at h
    simp only [spec_PutNumber.f, in_eq, Option.bind_some, decide_eq_true_eq]
    rw [if_neg h]

-- block iPut
theorem iPut_l (u : Nat) : ∀ (acc : List Int), u < 4611686018427387904 → acc.length + (put u).length ≤ 1000000 → Ev (fun k => impl_putNumber.l0 k (u : Int) acc) (acc ++ put u) := by
  induction u using Nat.strongRecOn with
  | _ u ih =>
    intro acc hu ha
    by_cases h : u < 128
    · refine ev_now fun k => ?_
      simp only [impl_putNumber.l0]
      rw [if_neg (by omega), if_pos (by omega), put_small h, show ((u : Int)) % 256 = u by omega]
    · rw [put_big (by omega)] at ha ⊢
      refine Ev.step (fun k => ?_) (Ev.congr (fun k => rfl) (ih (u / 128) (by omega) (acc ++ [((u % 128 + 128 : Nat) : Int)]) (by omega) (by simp at ha ⊢; omega))) |> fun h => by simpa using h
      simp only [impl_putNumber.l0]
      rw [if_pos (by omega), if_pos (by omega), Int.tmod_eq_emod_of_nonneg (by omega), Int.tdiv_eq_ediv_of_nonneg (by omega), w64 (x := (u : Int) / 128) (by omega) (by omega), w64 (by omega) (by omega)]
      rw [show ((u : Int) % 128 + 128) % 256 = ((u % 128 + 128 : Nat) : Int) by omega, show (u : Int) / 128 = ((u / 128 : Nat) : Int) by omega]
theorem iPut_ev (x : Int) (h : isWord x) : Ev (fun k => impl_putNumber.f k x) (put (zz x)) := by
  have hz := zz_lt h
  have hl := put_len (zz x) 5 (by omega)
  have key := iPut_l (zz x) [] (by omega) (by simp; omega)
  unfold isWord at h
  refine Ev.congr (fun k => ?_) (Ev.step (g := fun k => impl_putNumber.j0 k (zz x : Int)) (fun k => rfl) key)
  simp only [impl_putNumber.f]
  by_cases hn : x < 0
  · rw [if_pos hn, w64 (x := -2 * x) (by omega) (by omega), w64 (by omega) (by omega), show -2 * x - 1 = (zz x : Int) by unfold zz; omega]
  · rw [if_neg hn, w64 (by omega) (by omega), show 2 * x = (zz x : Int) by unfold zz; omega]

-- block fldOk
def fldOk (f : Int) : Prop := 0 ≤ f ∧ f < 9
instance fldOk_dec (f : Int) : Decidable (fldOk f) := by unfold fldOk; infer_instance
def fP : List Int := [17, 97, 193, 257, 7681, 12289, 998244353, 469762049, 1004535809]
def fG : List Int := [3, 5, 5, 3, 17, 11, 3, 3, 3]
def fT : List Int := [4, 5, 6, 8, 9, 12, 23, 26, 21]
theorem fld_cases {f : Int} (h : fldOk f) {Q : Int → Prop} (h0 : Q 0) (h1 : Q 1) (h2 : Q 2) (h3 : Q 3) (h4 : Q 4) (h5 : Q 5) (h6 : Q 6) (h7 : Q 7) (h8 : Q 8) : Q f := by
  unfold fldOk at h
  have : f = 0 ∨ f = 1 ∨ f = 2 ∨ f = 3 ∨ f = 4 ∨ f = 5 ∨ f = 6 ∨ f = 7 ∨ f = 8 := by omega
  rcases this with rfl | rfl | rfl | rfl | rfl | rfl | rfl | rfl | rfl <;> assumption

-- block sMod
def md (f : Int) : Int := if fldOk f then rd fP f else 0
theorem sMod (f : Int) : spec_Modulus.f f = some (md f) := by
  by_cases h : fldOk f
  · exact fld_cases (Q := fun f => spec_Modulus.f f = some (md f)) h rfl rfl rfl rfl rfl rfl rfl rfl rfl
  · unfold md
    rw [if_neg h]
    unfold fldOk at h
    simp only [spec_Modulus.f]
    rw [if_neg (by omega), if_neg (by omega), if_neg (by omega), if_neg (by omega), if_neg (by omega), if_neg (by omega), if_neg (by omega), if_neg (by omega), if_neg (by omega)]
theorem md_pos {f : Int} (h : fldOk f) : 17 ≤ md f ∧ md f ≤ 1004535809 := fld_cases (Q := fun f => 17 ≤ md f ∧ md f ≤ 1004535809) h (by decide) (by decide) (by decide) (by decide) (by decide) (by decide) (by decide) (by decide) (by decide)
theorem md_zero {f : Int} : md f = 0 ↔ ¬ fldOk f := by
  by_cases h : fldOk f
  · have := md_pos h
    simp [h]; omega
  · simp [md, h]

-- block iFld
theorem iFld (f : Int) : impl_fieldOf.f f = some (if fldOk f then (rd fP f, rd fG f, rd fT f, true) else (0, 0, 0, false)) := by
  by_cases h : fldOk f
  · exact fld_cases (Q := fun f => impl_fieldOf.f f = some (if fldOk f then (rd fP f, rd fG f, rd fT f, true) else (0, 0, 0, false))) h rfl rfl rfl rfl rfl rfl rfl rfl rfl
  · rw [if_neg h]
    unfold fldOk at h
    show Go.Proofs.Ytgoebfelalapaaa.Fld.impl_fieldOf.f f = _
    unfold Go.Proofs.Ytgoebfelalapaaa.Fld.impl_fieldOf.f
    by_cases h1 : f < 0
    · rw [if_pos h1]
    · rw [if_neg h1, if_pos (by omega)]

-- block wordsB
def wordsB (l : List Int) : Bool := decide (l.length ≤ 400) && allF l.length 0 (fun j => decide (isWord (rd l (j : Int))))
theorem wordsB_iff (l : List Int) : wordsB l = true ↔ l.length ≤ 400 ∧ ∀ x ∈ l, isWord x := by
  unfold wordsB
  rw [Bool.and_eq_true, decide_eq_true_eq, allF_iff]
  constructor
  · rintro ⟨h1, h2⟩
    refine ⟨h1, fun x hx => ?_⟩
    obtain ⟨j, hj, rfl⟩ := List.getElem_of_mem hx
    have := h2 j (by omega) (by omega)
    rw [decide_eq_true_eq, rd_eq hj] at this
    exact this
  · rintro ⟨h1, h2⟩
    refine ⟨h1, fun j _ hj => ?_⟩
    rw [decide_eq_true_eq, rd_eq (by omega)]
    exact h2 _ (List.getElem_mem _)

-- block sWords
theorem sWords_l (l : List Int) (hn : l.length ≤ 1048576) : ∀ (d i : Nat), l.length - i = d → i ≤ l.length → Ev (fun k => spec_l10Words.l0 k l (i : Int)) (allF d i (fun j => decide (isWord (rd l (j : Int))))) := by
  intro d
  induction d with
  | zero =>
    intro i h hi
    refine ev_now fun k => ?_
    simp only [spec_l10Words.l0]
    rw [if_neg (by omega)]; rfl
  | succ d ih =>
    intro i h hi
    rw [allF]
    by_cases hq : isWord (rd l (i : Int))
    · rw [decide_eq_true hq, Bool.true_and]
      refine Ev.step (fun k => ?_) (ih (i + 1) (by omega) (by omega))
      unfold isWord at hq
      simp only [spec_l10Words.l0, in_eq, Option.bind_some, decide_eq_true_eq]
      rw [if_pos (by omega), if_pos (by omega), if_pos hq, wsucc (by omega)]
    · rw [decide_eq_false hq, Bool.false_and]
      refine ev_now fun k => ?_
      unfold isWord at hq
      simp only [spec_l10Words.l0, in_eq, Option.bind_some, decide_eq_true_eq]
      rw [if_pos (by omega), if_pos (by omega), if_neg hq]
theorem sWords_ev (l : List Int) (hn : l.length ≤ 1048576) : Ev (fun k => spec_l10Words.f k l) (wordsB l) := by
  unfold wordsB
  by_cases h : l.length ≤ 400
  · rw [decide_eq_true h, Bool.true_and]
    refine Ev.congr (fun k => ?_) (sWords_l l hn l.length 0 (by omega) (by omega))
    simp only [spec_l10Words.f]
    rw [if_neg (by omega)]; rfl
  · rw [decide_eq_false h, Bool.false_and]
    refine ev_some fun k => ?_
    simp only [spec_l10Words.f]
    rw [if_pos (by omega)]

-- block iWords
theorem iWords_l (l : List Int) (hn : l.length ≤ 1048576) : ∀ (d i : Nat), l.length - i = d → i ≤ l.length → Ev (fun k => impl_areWords.l0 k l l (l.length : Int) (i : Int)) (decide (l.length ≤ 400) && allF d i (fun j => decide (isWord (rd l (j : Int))))) := by
  intro d
  induction d with
  | zero =>
    intro i h hi
    refine ev_now fun k => ?_
    simp only [impl_areWords.l0]
    rw [if_neg (by omega), allF, Bool.and_true]
    exact congrArg some (decide_eq_decide.2 (by omega))
  | succ d ih =>
    intro i h hi
    rw [allF]
    by_cases hq : isWord (rd l (i : Int))
    · rw [decide_eq_true hq, Bool.true_and]
      refine Ev.step (fun k => ?_) (ih (i + 1) (by omega) (by omega))
      unfold isWord at hq
      simp only [impl_areWords.l0]
      rw [if_pos (by omega), if_pos (by omega), if_pos (by omega), if_neg (by omega), if_neg (by omega), wsucc (by omega)]
    · rw [decide_eq_false hq, Bool.false_and, Bool.and_false]
      refine ev_now fun k => ?_
      unfold isWord at hq
      simp only [impl_areWords.l0]
      rw [if_pos (by omega), if_pos (by omega), if_pos (by omega)]
      by_cases h1 : rd l (i : Int) < -1099511627776
      · rw [if_pos h1]
      · rw [if_neg h1, if_pos (by omega)]
theorem iWords_ev (l : List Int) (hn : l.length ≤ 1048576) : Ev (fun k => impl_areWords.f k l) (wordsB l) := by
  refine Ev.congr (fun k => ?_) (iWords_l l hn l.length 0 (by omega) (by omega))
  simp [impl_areWords.f]

-- block sHas
theorem sHas_l (l : List Int) (x : Int) (hn : l.length ≤ 1048576) : ∀ (d i : Nat), l.length - i = d → i ≤ l.length → Ev (fun k => spec_l01Has.l0 k l x (i : Int)) (decide (x ∈ l.drop i)) := by
  intro d
  induction d with
  | zero =>
    intro i h hi
    refine ev_now fun k => ?_
    simp only [spec_l01Has.l0]
    rw [if_neg (by omega), List.drop_eq_nil_of_le (by omega)]
    simp
  | succ d ih =>
    intro i h hi
    rw [List.drop_eq_getElem_cons (show i < l.length by omega)]
    by_cases hq : rd l (i : Int) = x
    · refine ev_now fun k => ?_
      simp only [spec_l01Has.l0]
      rw [if_pos (by omega), if_pos (by omega), if_pos hq]
      rw [rd_eq (by omega)] at hq
      simp [hq]
    · have hne : ¬ x = l[i]'(by omega) := fun e => hq (by rw [rd_eq (by omega)]; exact e.symm)
      have := ih (i + 1) (by omega) (by omega)
      simp only [List.mem_cons, hne, false_or]
      refine Ev.step (fun k => ?_) this
      simp only [spec_l01Has.l0]
      rw [if_pos (by omega), if_pos (by omega), if_neg hq, wsucc (by omega)]
theorem sHas_ev (l : List Int) (x : Int) (hn : l.length ≤ 1048576) : Ev (fun k => spec_l01Has.f k l x) (decide (x ∈ l)) := by
  refine Ev.congr (fun k => ?_) (by simpa using sHas_l l x hn l.length 0 (by omega) (by omega))
  simp [spec_l01Has.f]

-- block jobB
def jobHead (kind f : Int) : Prop := 1 ≤ kind ∧ kind ≤ 11 ∧ fldOk f ∧ (kind = 6 → f = 0)
instance jobHead_dec (kind f : Int) : Decidable (jobHead kind f) := by unfold jobHead; infer_instance
def jobTail (kind : Int) (B : List Int) (n : Int) : Prop := 0 ≤ n ∧ n ≤ 400 ∧ ((kind = 1 ∨ kind = 2 ∨ kind = 7) → B.length = 0) ∧ (kind ≠ 11 → n = 0)
instance jobTail_dec (kind : Int) (B : List Int) (n : Int) : Decidable (jobTail kind B n) := by unfold jobTail; infer_instance
def jobB (kind f : Int) (A B : List Int) (n : Int) : Bool := decide (jobHead kind f) && (wordsB A && (wordsB B && decide (jobTail kind B n)))

-- block sJob
theorem sJob_t (kind f : Int) (A B : List Int) (n : Int) (hA : A.length ≤ 1048576) (hB : B.length ≤ 1048576) (h0 : jobHead kind f) : Ev (fun k => spec_JobOk.j0 k false kind f A B n) (wordsB A && (wordsB B && decide (jobTail kind B n))) := by
  obtain ⟨m, h1, h2, h3⟩ := evs3 (sWords_ev A hA) (sWords_ev B hB) (sHas_ev [3, 4, 5, 6, 8, 9, 10, 11] kind (by simp))
  refine ⟨m + 1, fun k hk => ?_⟩
  obtain ⟨j, rfl⟩ : ∃ j, k = m + j + 1 := ⟨k - m - 1, by omega⟩
  simp only [spec_JobOk.j0, spec_l10UsesB.f, h1, h2, h3, in_eq, Option.bind_some, Bool.false_eq_true, if_false, decide_eq_true_eq]
  cases hwA : wordsB A with
  | false => simp
  | true =>
    cases hwB : wordsB B with
    | false => simp
    | true =>
      simp only [if_true, Bool.true_and, List.mem_cons, List.not_mem_nil, or_false]
      unfold jobHead at h0
      by_cases hn : 0 ≤ n ∧ n ≤ 400
      · rw [if_pos hn]
        by_cases hu : kind = 1 ∨ kind = 2 ∨ kind = 7
        · rw [if_neg (by omega)]
          by_cases hl : B.length = 0
          · rw [if_pos (by omega), if_neg (by omega)]
            exact congrArg some (by rw [Bool.eq_iff_iff, beq_iff_eq, decide_eq_true_eq]; unfold jobTail; omega)
          · rw [if_neg (by omega), decide_eq_false (by unfold jobTail; omega)]
        · rw [if_pos (by omega)]
          by_cases he : kind = 11
          · rw [if_pos he, decide_eq_true (by unfold jobTail; omega)]
          · rw [if_neg he]
            exact congrArg some (by rw [Bool.eq_iff_iff, beq_iff_eq, decide_eq_true_eq]; unfold jobTail; omega)
      · rw [if_neg hn, decide_eq_false (by unfold jobTail; omega)]
theorem sJob_ev (kind f : Int) (A B : List Int) (n : Int) (hA : A.length ≤ 1048576) (hB : B.length ≤ 1048576) : Ev (fun k => spec_JobOk.f k kind f A B n) (jobB kind f A B n) := by
  unfold jobB
  by_cases h0 : jobHead kind f
  · rw [decide_eq_true h0, Bool.true_and]
    refine Ev.congr (fun k => ?_) (sJob_t kind f A B n hA hB h0)
    have h1 := h0
    unfold jobHead at h1
    simp only [spec_JobOk.f, in_eq, sMod, Option.bind_some, decide_eq_true_eq, md_zero]
    rw [if_pos (by omega), if_neg (fun hh => hh h1.2.2.1)]
    by_cases h6 : kind = 6
    · rw [if_pos h6, h1.2.2.2 h6]; rfl
    · rw [if_neg h6]
  · rw [decide_eq_false h0, Bool.false_and]
    have key : Ev (fun k => spec_JobOk.j0 k true kind f A B n) false := ev_now fun k => by simp [spec_JobOk.j0]
    refine Ev.congr (fun k => ?_) key
    simp only [spec_JobOk.f, in_eq, sMod, Option.bind_some, decide_eq_true_eq, md_zero]
    by_cases h1 : 1 ≤ kind ∧ kind ≤ 11
    · rw [if_pos h1]
      by_cases h2 : fldOk f
      · rw [if_neg (fun hh => hh h2)]
        have h6 : kind = 6 ∧ f ≠ 0 := Classical.byContradiction fun hh => h0 ⟨h1.1, h1.2, h2, fun e => Classical.byContradiction fun hf => hh ⟨e, hf⟩⟩
        rw [if_pos h6.1, bne_iff_ne.2 h6.2]
      · rw [if_pos h2]
    · rw [if_neg h1]

-- block iJob
theorem iJob_t (kind f : Int) (A B : List Int) (n : Int) (hA : A.length ≤ 1048576) (hB : B.length ≤ 1048576) (h0 : jobHead kind f) : Ev (fun k => impl_isJob.j0 k false kind f A B n) (wordsB A && (wordsB B && decide (jobTail kind B n))) := by
  obtain ⟨m, h1, h2⟩ := evs2 (iWords_ev A hA) (iWords_ev B hB)
  refine ⟨m + 1, fun k hk => ?_⟩
  obtain ⟨j, rfl⟩ : ∃ j, k = m + j + 1 := ⟨k - m - 1, by omega⟩
  have hu : impl_usesB.f kind = some (decide (¬ (kind = 1 ∨ kind = 2 ∨ kind = 7))) := by
    simp only [impl_usesB.f]
    by_cases k1 : kind = 1
    · rw [if_pos k1, decide_eq_false (by omega)]
    · rw [if_neg k1]
      by_cases k2 : kind = 2
      · rw [if_pos k2, decide_eq_false (by omega)]
      · rw [if_neg k2]
        exact congrArg some (by rw [Bool.eq_iff_iff, bne_iff_ne, decide_eq_true_eq]; omega)
  simp only [impl_isJob.j0, h1, h2, hu, Option.bind_some, Bool.false_eq_true, if_false, decide_eq_true_eq]
  cases hwA : wordsB A with
  | false => simp
  | true =>
    cases hwB : wordsB B with
    | false => simp
    | true =>
      simp only [if_true, Bool.true_and]
      unfold jobHead at h0
      by_cases hn : n < 0
      · rw [if_pos hn, decide_eq_false (by unfold jobTail; omega)]
      · rw [if_neg hn]
        by_cases hn2 : n > 400
        · rw [if_pos hn2, decide_eq_false (by unfold jobTail; omega)]
        · rw [if_neg hn2]
          by_cases hu : kind = 1 ∨ kind = 2 ∨ kind = 7
          · rw [if_neg (by omega)]
            by_cases hl : B.length = 0
            · rw [if_pos (by omega), if_neg (by omega)]
              exact congrArg some (by rw [Bool.eq_iff_iff, beq_iff_eq, decide_eq_true_eq]; unfold jobTail; omega)
            · rw [if_neg (by omega), decide_eq_false (by unfold jobTail; omega)]
          · rw [if_pos (by omega)]
            by_cases he : kind = 11
            · rw [if_pos he, decide_eq_true (by unfold jobTail; omega)]
            · rw [if_neg he]
              exact congrArg some (by rw [Bool.eq_iff_iff, beq_iff_eq, decide_eq_true_eq]; unfold jobTail; omega)
theorem iJob_ev (kind f : Int) (A B : List Int) (n : Int) (hA : A.length ≤ 1048576) (hB : B.length ≤ 1048576) : Ev (fun k => impl_isJob.f k kind f A B n) (jobB kind f A B n) := by
  unfold jobB
  by_cases h0 : jobHead kind f
  · rw [decide_eq_true h0, Bool.true_and]
    refine Ev.congr (fun k => ?_) (iJob_t kind f A B n hA hB h0)
    have h1 := h0
    unfold jobHead at h1
    simp only [impl_isJob.f, iFld, if_pos h1.2.2.1, Option.bind_some, if_true]
    rw [if_neg (by omega), if_neg (by omega)]
    by_cases h6 : kind = 6
    · rw [if_pos h6, h1.2.2.2 h6]; rfl
    · rw [if_neg h6]
  · rw [decide_eq_false h0, Bool.false_and]
    have key : Ev (fun k => impl_isJob.j0 k true kind f A B n) false := ev_now fun k => by simp [impl_isJob.j0]
    refine Ev.congr (fun k => ?_) key
    simp only [impl_isJob.f, iFld, Option.bind_some]
    by_cases h2 : fldOk f
    · simp only [if_pos h2, if_true]
      by_cases h1 : kind < 1
      · rw [if_pos h1]
      · rw [if_neg h1]
        by_cases h3 : kind > 11
        · rw [if_pos h3]
        · have h6 : kind = 6 ∧ f ≠ 0 := Classical.byContradiction fun hh => h0 ⟨by omega, by omega, h2, fun e => Classical.byContradiction fun hf => hh ⟨e, hf⟩⟩
          rw [if_neg h3, if_pos h6.1, bne_iff_ne.2 h6.2]
    · simp only [if_neg h2, Bool.false_eq_true, if_false]

-- block szIntS
theorem szIntS_eq (l : List Int) (m : Int) (h0 : 0 ≤ m) (h1 : m ≤ 1048576) (hl : l.length ≤ maxLen) : laws_szIntS.f l m = some (if m < l.length then -1 else m - l.length) := by
  have hm : maxLen = 9223372036854775807 := rfl
  simp only [laws_szIntS.f]
  rw [w64 (by omega) (by omega)]
  by_cases h : m < l.length
  · rw [if_pos h, if_pos (by omega)]
  · rw [if_neg h, if_neg (by omega)]

-- block szJob
theorem szJob_eq (a b c : Int) (A B : List Int) (m : Int) (h0 : 0 ≤ m) (h1 : m ≤ 1048576) (hA : A.length ≤ maxLen) (hB : B.length ≤ maxLen) : laws_szJob.f a b A B c m = some (if m < A.length + B.length then -1 else m - (A.length + B.length)) := by
  have hs := szIntS_eq A m h0 h1 hA
  simp only [laws_szJob.f, hs, Option.bind_some]
  by_cases h : m < A.length
  · simp only [if_pos h]
    rw [if_pos (by omega), if_pos (by omega)]
  · simp only [if_neg h]
    rw [if_neg (by omega), szIntS_eq B (m - A.length) (by omega) (by omega) hB]
    simp only [Option.bind_some]
    by_cases h2 : m - A.length < B.length
    · rw [if_pos h2, if_pos (by omega), if_pos (by omega)]
    · rw [if_neg h2, if_neg (by omega), if_neg (by omega)]
      exact congrArg some (by omega)

-- block toJob
theorem toJob_ev (a b c : Int) (A B : List Int) (hA : A.length ≤ 1048576) (hB : B.length ≤ 1048576) : Ev (fun k => laws_toJob.f k a b A B c) (a, b, A, B, c) := by
  obtain ⟨m, h1, h2⟩ := evs2 (toIntS_ev A (by omega)) (toIntS_ev B (by omega))
  refine ⟨m, fun k hk => ?_⟩
  obtain ⟨j, rfl⟩ : ∃ j, k = m + j := ⟨k - m, by omega⟩
  simp only [laws_toJob.f, h1, h2, Option.bind_some]

-- block eqJob
theorem eqJob_ev (a b c : Int) (A B : List Int) (hA : A.length ≤ 1048576) (hB : B.length ≤ 1048576) : Ev (fun k => laws_eqJob.f k a b A B c a b A B c) true := by
  obtain ⟨m, h1, h2⟩ := evs2 (eqIntS_ev A (by omega)) (eqIntS_ev B (by omega))
  refine ⟨m, fun k hk => ?_⟩
  obtain ⟨j, rfl⟩ : ∃ j, k = m + j := ⟨k - m, by omega⟩
  simp only [laws_eqJob.f, h1, h2, Option.bind_some, if_true]

-- block sBytes
theorem sBytes_l (l : List Int) (hn : l.length < 140737488355328) : ∀ (d i : Nat), l.length - i = d → i ≤ l.length →
    Ev (fun k => spec_l01Bytes.l0 k l (l.take i) (i : Int)) l := by
  intro d
  induction d with
  | zero =>
    intro i h hi
    refine ev_now fun k => ?_
    simp only [spec_l01Bytes.l0]
    rw [if_neg (by omega), List.take_of_length_le (by omega)]
  | succ d ih =>
    intro i h hi
    refine Ev.step (fun k => ?_) (ih (i + 1) (by omega) (by omega))
    simp only [spec_l01Bytes.l0]
    rw [if_pos (by omega), if_pos (by omega), if_pos (by simp; omega), wsucc (by omega), rd_eq (by omega), List.take_append_getElem (by omega)]
theorem sBytes_ev (l : List Int) (hn : l.length < 140737488355328) : Ev (fun k => spec_l01Bytes.f k l) l :=
  Ev.congr (fun k => rfl) (sBytes_l l hn l.length 0 (by omega) (by omega))

-- block sJoinB
theorem sJoinB_l (b : List Int) (a : List Int) (hn : a.length + b.length < 140737488355328) : ∀ (d i : Nat), b.length - i = d → i ≤ b.length → Ev (fun k => spec_l01Join.l0 k b (a ++ b.take i) (i : Int)) (a ++ b) := by
  intro d
  induction d with
  | zero =>
    intro i h hi
    refine ev_now fun k => ?_
    simp only [spec_l01Join.l0]
    rw [if_neg (by omega), List.take_of_length_le (by omega)]
  | succ d ih =>
    intro i h hi
    have key := ih (i + 1) (by omega) (by omega)
    refine Ev.step (fun k => ?_) key
    simp only [spec_l01Join.l0]
    rw [if_pos (by omega), if_pos (by omega), if_pos (by simp; omega), wsucc (by omega), rd_eq (by omega), List.append_assoc, List.take_append_getElem (by omega)]
theorem sJoinB_ev (a b : List Int) (hn : a.length + b.length < 140737488355328) : Ev (fun k => spec_l01Join.f k a b) (a ++ b) := by
  have key := sJoinB_l b a hn b.length 0 (by omega) (by omega)
  rw [List.take_zero, List.append_nil] at key
  obtain ⟨n, e1, e2⟩ := evs2 (sBytes_ev a (by omega)) key
  refine ⟨n, fun k hk => ?_⟩
  obtain ⟨j, rfl⟩ : ∃ j, k = n + j := ⟨k - n, by omega⟩
  simp only [spec_l01Join.f, e1 j, Option.bind_some]
  exact e2 j

-- block putAll
def putAll : List Int → List Int
  | [] => []
  | x :: r => put (zz x) ++ putAll r
def listE (l : List Int) : List Int := put (zz (l.length : Int)) ++ putAll l
def jobE (kind f : Int) (A B : List Int) (n : Int) : List Int := (([kind % 256, f % 256] ++ put (zz n)) ++ listE A) ++ listE B
theorem put6 {x : Int} (h : isWord x) : (put (zz x)).length ≤ 6 := put_len _ 5 (by have := zz_lt h; omega)
theorem putAll_len : ∀ l : List Int, (∀ x ∈ l, isWord x) → (putAll l).length ≤ 6 * l.length := by
  intro l
  induction l with
  | nil => intro _; simp [putAll]
  | cons x r ih =>
    intro h
    have h1 := put6 (h x (List.mem_cons_self ..))
    have h2 := ih (fun y hy => h y (List.mem_cons_of_mem _ hy))
    rw [putAll, List.length_append, List.length_cons]; omega
theorem word_small {n : Nat} (h : n ≤ 1000) : isWord (n : Int) := by unfold isWord; omega
theorem listE_len {l : List Int} (h : ∀ x ∈ l, isWord x) (hl : l.length ≤ 400) : (listE l).length ≤ 2406 := by
  have h1 := put6 (word_small (n := l.length) (by omega))
  have h2 := putAll_len l h
  rw [listE, List.length_append]; omega
theorem putAll_at {l : List Int} {i : Nat} (h : i < l.length) : putAll (l.drop i) = put (zz l[i]) ++ putAll (l.drop (i + 1)) := by
  rw [List.drop_eq_getElem_cons h, putAll]
theorem putAll_drop_len {l : List Int} (h : ∀ x ∈ l, isWord x) (i : Nat) : (putAll (l.drop i)).length ≤ 6 * l.length := by
  have h1 := putAll_len (l.drop i) (fun x hx => h x (List.mem_of_mem_drop hx))
  rw [List.length_drop] at h1
  omega

-- block jobEncP
def jobEncV (kind f : Int) (A B : List Int) (n : Int) : List Int := if jobB kind f A B n = true then jobE kind f A B n else []
theorem job_words {kind f n : Int} {A B : List Int} (h : jobB kind f A B n = true) : (A.length ≤ 400 ∧ ∀ x ∈ A, isWord x) ∧ (B.length ≤ 400 ∧ ∀ x ∈ B, isWord x) ∧ 0 ≤ n ∧ n ≤ 400 := by
  unfold jobB at h
  rw [Bool.and_eq_true, Bool.and_eq_true, Bool.and_eq_true, wordsB_iff, wordsB_iff, decide_eq_true_eq, decide_eq_true_eq] at h
  exact ⟨h.2.1, h.2.2.1, h.2.2.2.1, h.2.2.2.2.1⟩
theorem jobEncV_len (kind f : Int) (A B : List Int) (n : Int) : (jobEncV kind f A B n).length ≤ 5000 := by
  unfold jobEncV
  split
  · rename_i h
    obtain ⟨⟨a1, a2⟩, ⟨b1, b2⟩, n0, n1⟩ := job_words h
    have h1 := listE_len a2 a1
    have h2 := listE_len b2 b1
    have h3 := put6 (x := n) (by unfold isWord; omega)
    rw [jobE, List.length_append, List.length_append, List.length_append]
    simp only [List.length_cons, List.length_nil]; omega
  · simp

-- block sPutList
theorem sPutW_ev {x : Int} (h : isWord x) : Ev (fun k => spec_PutNumber.f k x) (put (zz x)) := by
  have := sPut_ev x (i64_wf (by unfold isWord at h; omega) (by unfold isWord at h; omega))
  unfold putOf at this
  rwa [if_pos h] at this
theorem sPutList_l1 (l : List Int) (j : Nat) (t : List Int) (acc r : List Int) (ha : acc.length + t.length ≤ 1000000) (hr : Ev (fun k => spec_l10PutList.l0 k (acc ++ t) l ((j + 1 : Nat) : Int)) r) (hj : j ≤ 1000000) : ∀ (d i : Nat), t.length - i = d → i ≤ t.length →
    Ev (fun k => spec_l10PutList.l1 k (acc ++ t.take i) l (j : Int) t (t.length : Int) (i : Int)) r := by
  intro d
  induction d with
  | zero =>
    intro i h hi
    refine Ev.step (fun k => ?_) hr
    simp only [spec_l10PutList.l1]
    rw [if_neg (by omega), List.take_of_length_le (by omega), wsucc (by omega)]
  | succ d ih =>
    intro i h hi
    have key := ih (i + 1) (by omega) (by omega)
    refine Ev.step (fun k => ?_) key
    simp only [spec_l10PutList.l1]
    rw [if_pos (by omega), if_pos (by omega), if_pos (by omega), if_pos (by rw [List.length_append, List.length_take]; omega), wsucc (by omega), rd_eq (by omega), List.append_assoc, List.take_append_getElem (by omega)]
theorem sPutList_l0 (l : List Int) (hl : l.length ≤ 400) (hw : ∀ x ∈ l, isWord x) : ∀ (d i : Nat) (acc : List Int), l.length - i = d → i ≤ l.length → acc.length ≤ 10000 + 6 * i →
    Ev (fun k => spec_l10PutList.l0 k acc l (i : Int)) (acc ++ putAll (l.drop i)) := by
  intro d
  induction d with
  | zero =>
    intro i acc h hi ha
    refine ev_now fun k => ?_
    simp only [spec_l10PutList.l0]
    rw [if_neg (by omega), List.drop_of_length_le (by omega), putAll, List.append_nil]
  | succ d ih =>
    intro i acc h hi ha
    have hil : i < l.length := by omega
    have hwi := hw l[i] (List.getElem_mem hil)
    have h6 := put6 hwi
    have key := ih (i + 1) (acc ++ put (zz l[i])) (by omega) (by omega) (by rw [List.length_append]; omega)
    rw [List.append_assoc, ← putAll_at hil] at key
    have k1 := sPutList_l1 l i (put (zz l[i])) acc _ (by omega) key (by omega) (put (zz l[i])).length 0 (by omega) (by omega)
    rw [List.take_zero, List.append_nil] at k1
    obtain ⟨n, e1, e2⟩ := evs2 (sPutW_ev hwi) k1
    refine ⟨n + 1, fun k hk => ?_⟩
    obtain ⟨j, rfl⟩ : ∃ j, k = n + j + 1 := ⟨k - n - 1, by omega⟩
    simp only [spec_l10PutList.l0, rd_eq hil, e1 j, Option.bind_some]
    rw [if_pos (by omega), if_pos (by omega)]
    exact e2 j
theorem sPutList_ev (acc l : List Int) (hl : l.length ≤ 400) (hw : ∀ x ∈ l, isWord x) (ha : acc.length ≤ 5000) : Ev (fun k => spec_l10PutList.f k acc l) (acc ++ listE l) := by
  have hwl := word_small (n := l.length) (by omega)
  have h6 := put6 hwl
  have key := sPutList_l0 l hl hw l.length 0 (acc ++ put (zz (l.length : Int))) (by omega) (by omega) (by rw [List.length_append]; omega)
  rw [List.drop_zero, List.append_assoc] at key
  obtain ⟨n, e1, e2, e3⟩ := evs3 (sPutW_ev hwl) (sJoinB_ev acc (put (zz (l.length : Int))) (by omega)) key
  refine ⟨n, fun k hk => ?_⟩
  obtain ⟨j, rfl⟩ : ∃ j, k = n + j := ⟨k - n, by omega⟩
  simp only [spec_l10PutList.f, e1 j, e2 j, Option.bind_some]
  exact e3 j

-- block sEncJob
theorem sEncJob_ev (kind f : Int) (A B : List Int) (n : Int) (hA : A.length ≤ 1048576) (hB : B.length ≤ 1048576) : Ev (fun k => spec_EncodeJob.f k kind f A B n) (jobEncV kind f A B n) := by
  unfold jobEncV
  by_cases h : jobB kind f A B n = true
  · obtain ⟨⟨a1, a2⟩, ⟨b1, b2⟩, n0, n1⟩ := job_words h
    have hwn : isWord n := by unfold isWord; omega
    have h3 := put6 hwn
    have h4 := listE_len a2 a1
    obtain ⟨m, e1, e2, e3, e4, e5⟩ := evs5 (sJob_ev kind f A B n hA hB) (sPutW_ev hwn) (sJoinB_ev [kind % 256, f % 256] (put (zz n)) (by simp only [List.length_cons, List.length_nil]; omega)) (sPutList_ev ([kind % 256, f % 256] ++ put (zz n)) A a1 a2 (by rw [List.length_append]; simp only [List.length_cons, List.length_nil]; omega)) (sPutList_ev (([kind % 256, f % 256] ++ put (zz n)) ++ listE A) B b1 b2 (by rw [List.length_append, List.length_append]; simp only [List.length_cons, List.length_nil]; omega))
    refine ⟨m, fun k hk => ?_⟩
    obtain ⟨j, rfl⟩ : ∃ j, k = m + j := ⟨k - m, by omega⟩
    rw [if_pos h]
    simp only [spec_EncodeJob.f, e1 j, h, e2 j, e3 j, e4 j, e5 j, Option.bind_some, if_true]
    rfl
  · rw [if_neg h]
    rw [Bool.not_eq_true] at h
    obtain ⟨m, e1⟩ := evs1 (sJob_ev kind f A B n hA hB)
    refine ⟨m, fun k hk => ?_⟩
    obtain ⟨j, rfl⟩ : ∃ j, k = m + j := ⟨k - m, by omega⟩
    simp only [spec_EncodeJob.f, e1, h, Option.bind_some, Bool.false_eq_true, if_false]

-- block iEncJ
theorem iEncJ_l1 (Y : List (List Int)) (m : Int) (j : Nat) (l : List Int) (hl : l.length ≤ 400) (hw : ∀ x ∈ l, isWord x) (hj : j ≤ 1000) (r : List Int) : ∀ (d i : Nat) (acc : List Int), l.length - i = d → i ≤ l.length → acc.length ≤ 10000 + 6 * i →
    Ev (fun k => impl_encodeJob.l0 k (acc ++ putAll (l.drop i)) Y m ((j + 1 : Nat) : Int)) r →
    Ev (fun k => impl_encodeJob.l1 k acc Y m (j : Int) l (l.length : Int) (i : Int)) r := by
  intro d
  induction d with
  | zero =>
    intro i acc h hi ha hr
    rw [List.drop_of_length_le (by omega), putAll, List.append_nil] at hr
    refine Ev.step (fun k => ?_) hr
    simp only [impl_encodeJob.l1]
    rw [if_neg (by omega), wsucc (by omega)]
  | succ d ih =>
    intro i acc h hi ha hr
    have hil : i < l.length := by omega
    have hwi := hw l[i] (List.getElem_mem hil)
    have h6 := put6 hwi
    rw [putAll_at hil, ← List.append_assoc] at hr
    have key := ih (i + 1) (acc ++ put (zz l[i])) (by omega) (by omega) (by rw [List.length_append]; omega) hr
    obtain ⟨n, e1, e2⟩ := evs2 (iPut_ev l[i] hwi) key
    refine ⟨n + 1, fun k hk => ?_⟩
    obtain ⟨q, rfl⟩ : ∃ q, k = n + q + 1 := ⟨k - n - 1, by omega⟩
    simp only [impl_encodeJob.l1, rd_eq hil, e1 q, Option.bind_some]
    rw [if_pos (by omega), if_pos (by omega), if_pos (by omega), if_pos (by omega), wsucc (by omega)]
    exact e2 q
theorem iEncJ_l0 (Y : List (List Int)) (j : Nat) (hj : j < Y.length) (hY : Y.length ≤ 10) (l : List Int) (hlY : rd_L2 Y (j : Int) = l) (hl : l.length ≤ 400) (hw : ∀ x ∈ l, isWord x) (acc r : List Int) (ha : acc.length ≤ 9000) (hr : Ev (fun k => impl_encodeJob.l0 k (acc ++ listE l) Y (Y.length : Int) ((j + 1 : Nat) : Int)) r) :
    Ev (fun k => impl_encodeJob.l0 k acc Y (Y.length : Int) (j : Int)) r := by
  have hwl := word_small (n := l.length) (by omega)
  have h6 := put6 hwl
  have k1 := iEncJ_l1 Y (Y.length : Int) j l hl hw (by omega) r l.length 0 (acc ++ put (zz (l.length : Int))) (by omega) (by omega) (by rw [List.length_append]; omega) (by rw [List.drop_zero, List.append_assoc]; exact hr)
  obtain ⟨n, e1, e2⟩ := evs2 (iPut_ev (l.length : Int) hwl) k1
  refine ⟨n + 1, fun k hk => ?_⟩
  obtain ⟨q, rfl⟩ : ∃ q, k = n + q + 1 := ⟨k - n - 1, by omega⟩
  simp only [impl_encodeJob.l0, hlY, e1 q, Option.bind_some]
  rw [if_pos (by omega), if_pos (by omega), if_pos (by omega), if_pos (by omega)]
  exact e2 q

-- block iEncJob
theorem iEncJob_ev (kind f : Int) (A B : List Int) (n : Int) (hA : A.length ≤ 1048576) (hB : B.length ≤ 1048576) : Ev (fun k => impl_EncodeJob.f k kind f A B n) (jobEncV kind f A B n) := by
  unfold jobEncV
  by_cases h : jobB kind f A B n = true
  · obtain ⟨⟨a1, a2⟩, ⟨b1, b2⟩, n0, n1⟩ := job_words h
    have hwn : isWord n := by unfold isWord; omega
    have h3 := put6 hwn
    have h4 := listE_len a2 a1
    have h5 := listE_len b2 b1
    have hend : Ev (fun k => impl_encodeJob.l0 k (jobE kind f A B n) [A, B] (([A, B] : List (List Int)).length : Int) ((2 : Nat) : Int)) (jobE kind f A B n) := ev_now fun k => by
      simp only [impl_encodeJob.l0]
      rw [if_neg (by simp)]
    have k2 := iEncJ_l0 [A, B] 1 (by simp) (by simp) B rfl b1 b2 (([kind % 256, f % 256] ++ put (zz n)) ++ listE A) _ (by rw [List.length_append, List.length_append]; simp only [List.length_cons, List.length_nil]; omega) hend
    have k1 := iEncJ_l0 [A, B] 0 (by simp) (by simp) A rfl a1 a2 ([kind % 256, f % 256] ++ put (zz n)) _ (by rw [List.length_append]; simp only [List.length_cons, List.length_nil]; omega) k2
    obtain ⟨m, e1, e2, e3⟩ := evs3 (iJob_ev kind f A B n hA hB) (iPut_ev n hwn) k1
    refine ⟨m, fun k hk => ?_⟩
    obtain ⟨j, rfl⟩ : ∃ j, k = m + j := ⟨k - m, by omega⟩
    rw [if_pos h]
    have c1 : ([kind % 256, f % 256] : List Int).length + (put (zz n)).length < 140737488355328 := by simp only [List.length_cons, List.length_nil]; omega
    have e3' := e3 j
    have e4 : impl_encodeJob.f (m + j) kind f A B n = some (jobE kind f A B n) := by
      simp only [impl_encodeJob.f, e2 j, Option.bind_some, c1, if_true]
      exact e3'
    simp only [impl_EncodeJob.f, e1 j, h, e4, Option.bind_some, if_true]
  · rw [if_neg h]
    rw [Bool.not_eq_true] at h
    obtain ⟨m, e1⟩ := evs1 (iJob_ev kind f A B n hA hB)
    refine ⟨m, fun k hk => ?_⟩
    obtain ⟨j, rfl⟩ : ∃ j, k = m + j := ⟨k - m, by omega⟩
    simp only [impl_EncodeJob.f, e1, h, Option.bind_some, Bool.false_eq_true, if_false]

-- block markJobP
theorem markJob_ev (a b c : Int) (A B : List Int) (m : Int) (h0 : 0 ≤ m) (hn : m + A.length + B.length ≤ 4611686018427387904) : Ev (fun k => laws_markJob.f k a b A B c m) (m + A.length + B.length, marksI A.length m, marksI B.length (m + A.length)) := by
  obtain ⟨n, e1, e2⟩ := evs2 (markIntS_ev A m h0 (by omega)) (markIntS_ev B (m + A.length) (by omega) (by omega))
  refine ⟨n, fun k hk => ?_⟩
  obtain ⟨j, rfl⟩ : ∃ j, k = n + j := ⟨k - n, by omega⟩
  simp only [laws_markJob.f, e1 j, e2 j, Option.bind_some]

end Go.Proofs.Ytgoebfelalapaaa.QFnExactEncodeJob

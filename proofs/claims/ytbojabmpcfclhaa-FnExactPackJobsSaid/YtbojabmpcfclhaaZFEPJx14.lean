/- Lemmas on the printed functions of FnExactPackJobs: what each comes to. -/
import Derived.Test.YtbojabmpcfclhaaZFEPJx13
namespace Go.Proofs.Ytbojabmpcfclhaa.QFnExactPackJobs
open Go.RowKit Go.Proofs.Ytbojabmpcfclhaa.PFnExactPackJobs Go.Proofs.YtbojabmpcfclhaaW.PrintWords Go.Proofs.YtbojabmpcfclhaaW.PrintLast Go.Proofs.Ytbojabmpcfclhaa.Math
set_option linter.unusedVariables false
set_option linter.unusedSimpArgs false

theorem toIntS_l (l : List Int) (hn : l.length ≤ 35184372088832) : ∀ (d i : Nat), l.length - i = d → i ≤ l.length →
 Ev (fun k => laws_toIntS.l0 k l (l.take i ++ List.replicate (l.length - i) 0) (i : Int)) l := by
 intro d
 induction d with
 | zero =>
  intro i h hi
  refine ev_now fun k => ?_
  simp only [laws_toIntS.l0]
  rw [if_neg (by omega), fill_all l 0 i (by omega)]
 | succ d ih =>
  intro i h hi
  refine Ev.step (fun k => ?_) (ih (i + 1) (by omega) (by omega))
  simp only [laws_toIntS.l0]
  rw [if_pos (by omega), if_pos (by omega), if_pos (by simp; omega), wsucc (by omega), Int.toNat_natCast, set_fill l 0 _ i (by omega) (rd_eq (by omega))]
theorem toIntS_ev (l : List Int) (hn : l.length ≤ 35184372088832) : Ev (fun k => laws_toIntS.f k l) l := by
 refine Ev.congr (fun k => ?_) (toIntS_l l hn l.length 0 (by omega) (by omega))
 simp only [laws_toIntS.f]
 rw [if_pos (by omega), if_pos (by rw [Int.toNat_natCast]; omega), Int.toNat_natCast, fill_zero l 0]
 rfl

theorem eqByteS_l (l : List Int) (hn : l.length ≤ 140737488355328) : ∀ (d i : Nat), l.length - i = d → i ≤ l.length → Ev (fun k => laws_eqByteS.l0 k l l (i : Int)) true := by
 intro d
 induction d with
 | zero =>
  intro i h hi
  refine ev_now fun k => ?_
  simp only [laws_eqByteS.l0]
  rw [if_neg (by omega)]
 | succ d ih =>
  intro i h hi
  refine Ev.step (fun k => ?_) (ih (i + 1) (by omega) (by omega))
  simp only [laws_eqByteS.l0]
  rw [if_pos (by omega), if_pos (by omega), if_pos (by omega), if_pos trivial, wsucc (by omega)]
theorem eqByteS_ev (l : List Int) (hn : l.length ≤ 140737488355328) : Ev (fun k => laws_eqByteS.f k l l) true := by
 refine Ev.congr (fun k => ?_) (eqByteS_l l hn l.length 0 (by omega) (by omega))
 simp only [laws_eqByteS.f]
 rw [if_pos trivial]
 rfl

theorem eqIntS_l (l : List Int) (hn : l.length ≤ 140737488355328) : ∀ (d i : Nat), l.length - i = d → i ≤ l.length → Ev (fun k => laws_eqIntS.l0 k l l (i : Int)) true := by
 intro d
 induction d with
 | zero =>
  intro i h hi
  refine ev_now fun k => ?_
  simp only [laws_eqIntS.l0]
  rw [if_neg (by omega)]
 | succ d ih =>
  intro i h hi
  refine Ev.step (fun k => ?_) (ih (i + 1) (by omega) (by omega))
  simp only [laws_eqIntS.l0]
  rw [if_pos (by omega), if_pos (by omega), if_pos (by omega), if_pos trivial, wsucc (by omega)]
theorem eqIntS_ev (l : List Int) (hn : l.length ≤ 140737488355328) : Ev (fun k => laws_eqIntS.f k l l) true := by
 refine Ev.congr (fun k => ?_) (eqIntS_l l hn l.length 0 (by omega) (by omega))
 simp only [laws_eqIntS.f]
 rw [if_pos trivial]
 rfl

theorem markByteS_l (l : List Int) (m : Int) (h0 : 0 ≤ m) (hn : m + l.length ≤ 4611686018427387904) : ∀ (d i : Nat), l.length - i = d → i ≤ l.length →
 Ev (fun k => laws_markByteS.l0 k ((marksB l.length m).take i ++ l.drop i) (m + i) (i : Int)) (m + l.length, marksB l.length m) := by
 have hlen := marksB_len l.length m
 intro d
 induction d with
 | zero =>
  intro i h hi
  refine ev_now fun k => ?_
  simp only [laws_markByteS.l0]
  rw [if_neg (by simp; omega), List.take_of_length_le (by omega), List.drop_eq_nil_of_le (by omega), List.append_nil, show i = l.length by omega]
 | succ d ih =>
  intro i h hi
  refine Ev.step (fun k => ?_) (ih (i + 1) (by omega) (by omega))
  simp only [laws_markByteS.l0]
  rw [if_pos (by simp; omega), if_pos (by omega), wsucc (by omega), Int.toNat_natCast, set_mark hlen (by omega) (by simp [marksB]), w64 (by omega) (by omega)]
  simp only [Int.natCast_add, Int.natCast_one, Int.add_assoc]
theorem markByteS_ev (l : List Int) (m : Int) (h0 : 0 ≤ m) (hn : m + l.length ≤ 4611686018427387904) : Ev (fun k => laws_markByteS.f k l m) (m + l.length, marksB l.length m) := by
 refine Ev.congr (fun k => ?_) (markByteS_l l m h0 hn l.length 0 (by omega) (by omega))
 simp [laws_markByteS.f]

theorem heldByteS_l (n : Nat) (m : Int) (h0 : 0 ≤ m) (hn : m + n ≤ 4611686018427387904) : ∀ (d i : Nat), n - i = d → i ≤ n →
 Ev (fun k => laws_heldByteS.l0 k (marksB n m) (m + i) (i : Int)) (m + n) := by
 have hlen := marksB_len n m
 intro d
 induction d with
 | zero =>
  intro i h hi
  refine ev_now fun k => ?_
  simp only [laws_heldByteS.l0]
  rw [if_neg (by omega), show i = n by omega]
 | succ d ih =>
  intro i h hi
  refine Ev.step (fun k => ?_) (ih (i + 1) (by omega) (by omega))
  simp only [laws_heldByteS.l0]
  rw [if_pos (by omega), if_pos (by omega), if_pos (by rw [rd_eq (by omega)]; simp [marksB]), wsucc (by omega), w64 (by omega) (by omega)]
  simp only [Int.natCast_add, Int.natCast_one, Int.add_assoc]
theorem heldByteS_ev (n : Nat) (m : Int) (h0 : 0 ≤ m) (hn : m + n ≤ 4611686018427387904) : Ev (fun k => laws_heldByteS.f k (marksB n m) m) (m + n) := by
 refine Ev.congr (fun k => ?_) (heldByteS_l n m h0 hn n 0 (by omega) (by omega))
 simp [laws_heldByteS.f]

theorem markIntS_l (l : List Int) (m : Int) (h0 : 0 ≤ m) (hn : m + l.length ≤ 4611686018427387904) : ∀ (d i : Nat), l.length - i = d → i ≤ l.length →
 Ev (fun k => laws_markIntS.l0 k ((marksI l.length m).take i ++ l.drop i) (m + i) (i : Int)) (m + l.length, marksI l.length m) := by
 have hlen := marksI_len l.length m
 intro d
 induction d with
 | zero =>
  intro i h hi
  refine ev_now fun k => ?_
  simp only [laws_markIntS.l0]
  rw [if_neg (by simp; omega), List.take_of_length_le (by omega), List.drop_eq_nil_of_le (by omega), List.append_nil, show i = l.length by omega]
 | succ d ih =>
  intro i h hi
  refine Ev.step (fun k => ?_) (ih (i + 1) (by omega) (by omega))
  simp only [laws_markIntS.l0]
  rw [if_pos (by simp; omega), if_pos (by omega), wsucc (by omega), Int.toNat_natCast, set_mark hlen (by omega) (by simp [marksI]), w64 (by omega) (by omega)]
  simp only [Int.natCast_add, Int.natCast_one, Int.add_assoc]
theorem markIntS_ev (l : List Int) (m : Int) (h0 : 0 ≤ m) (hn : m + l.length ≤ 4611686018427387904) : Ev (fun k => laws_markIntS.f k l m) (m + l.length, marksI l.length m) := by
 refine Ev.congr (fun k => ?_) (markIntS_l l m h0 hn l.length 0 (by omega) (by omega))
 simp [laws_markIntS.f]

theorem in_eq (a b c : Int) : spec_l01In.f a b c = some (decide (b ≤ a ∧ a ≤ c)) := by
 simp only [spec_l01In.f, if_dec]

theorem sPut_l (u : Nat) : ∀ (acc : List Int), u < 4611686018427387904 → acc.length + (put u).length ≤ 1000000 → Ev (fun k => spec_PutNumber.l0 k acc (u : Int)) (acc ++ put u) := by
 induction u using Nat.strongRecOn with
 | _ u ih =>
  intro acc hu ha
  by_cases h : u < 128
  · refine ev_now fun k => ?_
    simp only [spec_PutNumber.l0]
    rw [if_neg (by omega), if_pos (by omega), put_small h, show ((u : Int)) % 256 = u by omega]
  · rw [put_big (by omega)] at ha ⊢
    refine Ev.step (fun k => ?_) (Ev.congr (fun k => rfl) (ih (u / 128) (by omega) (acc ++ [((u % 128 + 128 : Nat) : Int)]) (by omega) (by simp at ha ⊢; omega))) |> fun h => by simpa using h
    simp only [spec_PutNumber.l0]
    rw [if_pos (by omega), if_pos (by omega), Int.tmod_eq_emod_of_nonneg (by omega), Int.tdiv_eq_ediv_of_nonneg (by omega), w64 (by omega) (by omega), w64 (by omega) (by omega)]
    rw [show (128 + (u : Int) % 128) % 256 = ((u % 128 + 128 : Nat) : Int) by omega, show (u : Int) / 128 = ((u / 128 : Nat) : Int) by omega]
theorem sPut_ev (x : Int) (hx : (Lit.int .i64 x).wf = true) : Ev (fun k => spec_PutNumber.f k x) (putOf x) := by
 unfold putOf
 by_cases h : isWord x
 · have hz := zz_lt h
   have hl := put_len (zz x) 5 (by omega)
   rw [if_pos h]
   have key := sPut_l (zz x) [] (by omega) (by simp; omega)
   unfold isWord at h
   refine Ev.congr (fun k => ?_) (Ev.step (g := fun k => spec_PutNumber.j0 k [] (zz x : Int)) (fun k => rfl) key)
   simp only [spec_PutNumber.f, in_eq, Option.bind_some, decide_eq_true_eq]
   rw [if_pos h]
   by_cases hn : x < 0
   · rw [if_pos hn, w64 (x := -2 * x) (by omega) (by omega), w64 (by omega) (by omega), show -2 * x - 1 = (zz x : Int) by unfold zz; omega]
   · rw [if_neg hn, w64 (by omega) (by omega), show 2 * x = (zz x : Int) by unfold zz; omega]
 · rw [if_neg h]
   refine ev_some fun k => ?_
   unfold isWord at h
   simp only [spec_PutNumber.f, in_eq, Option.bind_some, decide_eq_true_eq]
   rw [if_neg h]

theorem iPut_l (u : Nat) : ∀ (acc : List Int), u < 4611686018427387904 → acc.length + (put u).length ≤ 1000000 → Ev (fun k => impl_putNumber.l0 k (u : Int) acc) (acc ++ put u) := by
 induction u using Nat.strongRecOn with
 | _ u ih =>
  intro acc hu ha
  by_cases h : u < 128
  · refine ev_now fun k => ?_
    simp only [impl_putNumber.l0]
    rw [if_neg (by omega), if_pos (by omega), put_small h, show ((u : Int)) % 256 = u by omega]
  · rw [put_big (by omega)] at ha ⊢
    refine Ev.step (fun k => ?_) (Ev.congr (fun k => rfl) (ih (u / 128) (by omega) (acc ++ [((u % 128 + 128 : Nat) : Int)]) (by omega) (by simp at ha ⊢; omega))) |> fun h => by simpa using h
    simp only [impl_putNumber.l0]
    rw [if_pos (by omega), if_pos (by omega), Int.tmod_eq_emod_of_nonneg (by omega), Int.tdiv_eq_ediv_of_nonneg (by omega), w64 (x := (u : Int) / 128) (by omega) (by omega), w64 (by omega) (by omega)]
    rw [show ((u : Int) % 128 + 128) % 256 = ((u % 128 + 128 : Nat) : Int) by omega, show (u : Int) / 128 = ((u / 128 : Nat) : Int) by omega]
theorem iPut_ev (x : Int) (h : isWord x) : Ev (fun k => impl_putNumber.f k x) (put (zz x)) := by
 have hz := zz_lt h
 have hl := put_len (zz x) 5 (by omega)
 have key := iPut_l (zz x) [] (by omega) (by simp; omega)
 unfold isWord at h
 refine Ev.congr (fun k => ?_) (Ev.step (g := fun k => impl_putNumber.j0 k (zz x : Int)) (fun k => rfl) key)
 simp only [impl_putNumber.f]
 by_cases hn : x < 0
 · rw [if_pos hn, w64 (x := -2 * x) (by omega) (by omega), w64 (by omega) (by omega), show -2 * x - 1 = (zz x : Int) by unfold zz; omega]
 · rw [if_neg hn, w64 (by omega) (by omega), show 2 * x = (zz x : Int) by unfold zz; omega]

theorem sCks_l (l : List Int) (hn : l.length ≤ 140737488355328) (hb : isB l) : ∀ (d i : Nat) (x y : Int), l.length - i = d → 0 ≤ x → x ≤ 65520 → 0 ≤ y → y ≤ 65520 →
 Ev (fun k => spec_CheckSum.l0 k l x y (i : Int)) (cks (l.drop i) x y) := by
 intro d
 induction d with
 | zero =>
  intro i x y h h1 h2 h3 h4
  refine ev_now fun k => ?_
  simp only [spec_CheckSum.l0]
  rw [if_neg (by omega), List.drop_eq_nil_of_le (by omega), w64 (x := 65536 * y) (by omega) (by omega), w64 (by omega) (by omega), cks]
 | succ d ih =>
  intro i x y h h1 h2 h3 h4
  have hc := isB_at hb (show i < l.length by omega)
  rw [cks_at (by omega)]
  refine Ev.step (fun k => ?_) (ih (i + 1) _ _ (by omega) (by omega) (by omega) (by omega) (by omega))
  simp only [spec_CheckSum.l0]
  rw [if_pos (by omega), if_pos (by omega), rd_eq (by omega), w64 (x := l[i]) (by omega) (by omega), w64 (x := x + l[i]) (by omega) (by omega), Int.tmod_eq_emod_of_nonneg (a := x + l[i]) (by omega), w64 (x := y + _) (by omega) (by omega), Int.tmod_eq_emod_of_nonneg (by omega), wsucc (by omega)]
theorem sCks_ev (l : List Int) (hn : l.length ≤ 140737488355328) (hb : isB l) : Ev (fun k => spec_CheckSum.f k l) (cks l 1 0) := by
 refine Ev.congr (fun k => ?_) (sCks_l l hn hb l.length 0 1 0 (by omega) (by omega) (by omega) (by omega) (by omega))
 simp [spec_CheckSum.f]

theorem iCks_l (l : List Int) (hn : l.length ≤ 140737488355328) (hb : isB l) : ∀ (d i : Nat) (x y : Int), l.length - i = d → 0 ≤ x → x ≤ 65520 → 0 ≤ y → y ≤ 65520 →
 Ev (fun k => impl_checkSum.l0 k x y l (l.length : Int) (i : Int)) (cks (l.drop i) x y) := by
 intro d
 induction d with
 | zero =>
  intro i x y h h1 h2 h3 h4
  refine ev_now fun k => ?_
  simp only [impl_checkSum.l0]
  rw [if_neg (by omega), List.drop_eq_nil_of_le (by omega), w64 (x := 65536 * y) (by omega) (by omega), w64 (by omega) (by omega), cks]
 | succ d ih =>
  intro i x y h h1 h2 h3 h4
  have hc := isB_at hb (show i < l.length by omega)
  rw [cks_at (by omega)]
  refine Ev.step (fun k => ?_) (ih (i + 1) _ _ (by omega) (by omega) (by omega) (by omega) (by omega))
  simp only [impl_checkSum.l0]
  rw [if_pos (by omega), if_pos (by omega), if_pos (by omega), rd_eq (by omega), w64 (x := l[i]) (by omega) (by omega), w64 (x := x + l[i]) (by omega) (by omega), Int.tmod_eq_emod_of_nonneg (a := x + l[i]) (by omega), w64 (x := y + _) (by omega) (by omega), Int.tmod_eq_emod_of_nonneg (by omega), wsucc (by omega)]
theorem iCks_ev (l : List Int) (hn : l.length ≤ 140737488355328) (hb : isB l) : Ev (fun k => impl_checkSum.f k l) (cks l 1 0) := by
 refine Ev.congr (fun k => ?_) (iCks_l l hn hb l.length 0 1 0 (by omega) (by omega) (by omega) (by omega) (by omega))
 simp [impl_checkSum.f]

def frOk (a b : Int) (l : List Int) : Prop := 0 ≤ a ∧ a ≤ 99 ∧ 0 ≤ b ∧ b ≤ 2147483647 ∧ l.length ≤ 5000
instance frOk_dec (a b : Int) (l : List Int) : Decidable (frOk a b l) := by unfold frOk; infer_instance

theorem sFrameOk (a b : Int) (l : List Int) : spec_FrameOk.f a b l = some (decide (frOk a b l)) := by
 simp only [spec_FrameOk.f, in_eq, Option.bind_some, decide_eq_true_eq, if_dec]
 exact congrArg some (decide_eq_decide.2 (by unfold frOk; omega))

theorem iFrame (a b : Int) (l : List Int) : impl_isFrame.f a b l = some (decide (frOk a b l)) := by
 simp only [impl_isFrame.f, if_dec]
 exact congrArg some (decide_eq_decide.2 (by unfold frOk; omega))

def fldOk (f : Int) : Prop := 0 ≤ f ∧ f < 9
instance fldOk_dec (f : Int) : Decidable (fldOk f) := by unfold fldOk; infer_instance
def fP : List Int := [17, 97, 193, 257, 7681, 12289, 998244353, 469762049, 1004535809]
def fG : List Int := [3, 5, 5, 3, 17, 11, 3, 3, 3]
def fT : List Int := [4, 5, 6, 8, 9, 12, 23, 26, 21]
theorem fld_cases {f : Int} (h : fldOk f) {Q : Int → Prop} (h0 : Q 0) (h1 : Q 1) (h2 : Q 2) (h3 : Q 3) (h4 : Q 4) (h5 : Q 5) (h6 : Q 6) (h7 : Q 7) (h8 : Q 8) : Q f := by
 unfold fldOk at h
 have : f = 0 ∨ f = 1 ∨ f = 2 ∨ f = 3 ∨ f = 4 ∨ f = 5 ∨ f = 6 ∨ f = 7 ∨ f = 8 := by omega
 rcases this with rfl | rfl | rfl | rfl | rfl | rfl | rfl | rfl | rfl <;> assumption

def md (f : Int) : Int := if fldOk f then rd fP f else 0
theorem sMod (f : Int) : spec_Modulus.f f = some (md f) := by
 by_cases h : fldOk f
 · exact fld_cases (Q := fun f => spec_Modulus.f f = some (md f)) h rfl rfl rfl rfl rfl rfl rfl rfl rfl
 · unfold md
   rw [if_neg h]
   unfold fldOk at h
   simp only [spec_Modulus.f]
   rw [if_neg (by omega), if_neg (by omega), if_neg (by omega), if_neg (by omega), if_neg (by omega), if_neg (by omega), if_neg (by omega), if_neg (by omega), if_neg (by omega)]
theorem md_pos {f : Int} (h : fldOk f) : 17 ≤ md f ∧ md f ≤ 1004535809 := fld_cases (Q := fun f => 17 ≤ md f ∧ md f ≤ 1004535809) h (by decide) (by decide) (by decide) (by decide) (by decide) (by decide) (by decide) (by decide) (by decide)
theorem md_zero {f : Int} : md f = 0 ↔ ¬ fldOk f := by
 by_cases h : fldOk f
 · have := md_pos h
   simp [h]; omega
 · simp [md, h]

theorem iFld (f : Int) : impl_fieldOf.f f = some (if fldOk f then (rd fP f, rd fG f, rd fT f, true) else (0, 0, 0, false)) := by
 by_cases h : fldOk f
 · exact fld_cases (Q := fun f => impl_fieldOf.f f = some (if fldOk f then (rd fP f, rd fG f, rd fT f, true) else (0, 0, 0, false))) h rfl rfl rfl rfl rfl rfl rfl rfl rfl
 · rw [if_neg h]
   unfold fldOk at h
   show Go.Proofs.Ytbojabmpcfclhaa.Fld.impl_fieldOf.f f = _
   unfold Go.Proofs.Ytbojabmpcfclhaa.Fld.impl_fieldOf.f
   by_cases h1 : f < 0
   · rw [if_pos h1]
   · rw [if_neg h1, if_pos (by omega)]

def wordsB (l : List Int) : Bool := decide (l.length ≤ 400) && allF l.length 0 (fun j => decide (isWord (rd l (j : Int))))
theorem wordsB_iff (l : List Int) : wordsB l = true ↔ l.length ≤ 400 ∧ ∀ x ∈ l, isWord x := by
 unfold wordsB
 rw [Bool.and_eq_true, decide_eq_true_eq, allF_iff]
 constructor
 · rintro ⟨h1, h2⟩
   refine ⟨h1, fun x hx => ?_⟩
   obtain ⟨j, hj, rfl⟩ := List.getElem_of_mem hx
   have := h2 j (by omega) (by omega)
   rw [decide_eq_true_eq, rd_eq hj] at this
   exact this
 · rintro ⟨h1, h2⟩
   refine ⟨h1, fun j _ hj => ?_⟩
   rw [decide_eq_true_eq, rd_eq (by omega)]
   exact h2 _ (List.getElem_mem _)

theorem sWords_l (l : List Int) (hn : l.length ≤ 1048576) : ∀ (d i : Nat), l.length - i = d → i ≤ l.length → Ev (fun k => spec_l10Words.l0 k l (i : Int)) (allF d i (fun j => decide (isWord (rd l (j : Int))))) := by
 intro d
 induction d with
 | zero =>
  intro i h hi
  refine ev_now fun k => ?_
  simp only [spec_l10Words.l0]
  rw [if_neg (by omega)]; rfl
 | succ d ih =>
  intro i h hi
  rw [allF]
  by_cases hq : isWord (rd l (i : Int))
  · rw [decide_eq_true hq, Bool.true_and]
    refine Ev.step (fun k => ?_) (ih (i + 1) (by omega) (by omega))
    unfold isWord at hq
    simp only [spec_l10Words.l0, in_eq, Option.bind_some, decide_eq_true_eq]
    rw [if_pos (by omega), if_pos (by omega), if_pos hq, wsucc (by omega)]
  · rw [decide_eq_false hq, Bool.false_and]
    refine ev_now fun k => ?_
    unfold isWord at hq
    simp only [spec_l10Words.l0, in_eq, Option.bind_some, decide_eq_true_eq]
    rw [if_pos (by omega), if_pos (by omega), if_neg hq]
theorem sWords_ev (l : List Int) (hn : l.length ≤ 1048576) : Ev (fun k => spec_l10Words.f k l) (wordsB l) := by
 unfold wordsB
 by_cases h : l.length ≤ 400
 · rw [decide_eq_true h, Bool.true_and]
   refine Ev.congr (fun k => ?_) (sWords_l l hn l.length 0 (by omega) (by omega))
   simp only [spec_l10Words.f]
   rw [if_neg (by omega)]; rfl
 · rw [decide_eq_false h, Bool.false_and]
   refine ev_some fun k => ?_
   simp only [spec_l10Words.f]
   rw [if_pos (by omega)]

theorem iWords_l (l : List Int) (hn : l.length ≤ 1048576) : ∀ (d i : Nat), l.length - i = d → i ≤ l.length → Ev (fun k => impl_areWords.l0 k l l (l.length : Int) (i : Int)) (decide (l.length ≤ 400) && allF d i (fun j => decide (isWord (rd l (j : Int))))) := by
 intro d
 induction d with
 | zero =>
  intro i h hi
  refine ev_now fun k => ?_
  simp only [impl_areWords.l0]
  rw [if_neg (by omega), allF, Bool.and_true]
  exact congrArg some (decide_eq_decide.2 (by omega))
 | succ d ih =>
  intro i h hi
  rw [allF]
  by_cases hq : isWord (rd l (i : Int))
  · rw [decide_eq_true hq, Bool.true_and]
    refine Ev.step (fun k => ?_) (ih (i + 1) (by omega) (by omega))
    unfold isWord at hq
    simp only [impl_areWords.l0]
    rw [if_pos (by omega), if_pos (by omega), if_pos (by omega), if_neg (by omega), if_neg (by omega), wsucc (by omega)]
  · rw [decide_eq_false hq, Bool.false_and, Bool.and_false]
    refine ev_now fun k => ?_
    unfold isWord at hq
    simp only [impl_areWords.l0]
    rw [if_pos (by omega), if_pos (by omega), if_pos (by omega)]
    by_cases h1 : rd l (i : Int) < -1099511627776
    · rw [if_pos h1]
    · rw [if_neg h1, if_pos (by omega)]
theorem iWords_ev (l : List Int) (hn : l.length ≤ 1048576) : Ev (fun k => impl_areWords.f k l) (wordsB l) := by
 refine Ev.congr (fun k => ?_) (iWords_l l hn l.length 0 (by omega) (by omega))
 simp [impl_areWords.f]

theorem sHas_l (l : List Int) (x : Int) (hn : l.length ≤ 1048576) : ∀ (d i : Nat), l.length - i = d → i ≤ l.length → Ev (fun k => spec_l01Has.l0 k l x (i : Int)) (decide (x ∈ l.drop i)) := by
 intro d
 induction d with
 | zero =>
  intro i h hi
  refine ev_now fun k => ?_
  simp only [spec_l01Has.l0]
  rw [if_neg (by omega), List.drop_eq_nil_of_le (by omega)]
  simp
 | succ d ih =>
  intro i h hi
  rw [List.drop_eq_getElem_cons (show i < l.length by omega)]
  by_cases hq : rd l (i : Int) = x
  · refine ev_now fun k => ?_
    simp only [spec_l01Has.l0]
    rw [if_pos (by omega), if_pos (by omega), if_pos hq]
    rw [rd_eq (by omega)] at hq
    simp [hq]
  · have hne : ¬ x = l[i]'(by omega) := fun e => hq (by rw [rd_eq (by omega)]; exact e.symm)
    have := ih (i + 1) (by omega) (by omega)
    simp only [List.mem_cons, hne, false_or]
    refine Ev.step (fun k => ?_) this
    simp only [spec_l01Has.l0]
    rw [if_pos (by omega), if_pos (by omega), if_neg hq, wsucc (by omega)]
theorem sHas_ev (l : List Int) (x : Int) (hn : l.length ≤ 1048576) : Ev (fun k => spec_l01Has.f k l x) (decide (x ∈ l)) := by
 refine Ev.congr (fun k => ?_) (by simpa using sHas_l l x hn l.length 0 (by omega) (by omega))
 simp [spec_l01Has.f]

def jobHead (kind f : Int) : Prop := 1 ≤ kind ∧ kind ≤ 11 ∧ fldOk f ∧ (kind = 6 → f = 0)
instance jobHead_dec (kind f : Int) : Decidable (jobHead kind f) := by unfold jobHead; infer_instance
def jobTail (kind : Int) (B : List Int) (n : Int) : Prop := 0 ≤ n ∧ n ≤ 400 ∧ ((kind = 1 ∨ kind = 2 ∨ kind = 7) → B.length = 0) ∧ (kind ≠ 11 → n = 0)
instance jobTail_dec (kind : Int) (B : List Int) (n : Int) : Decidable (jobTail kind B n) := by unfold jobTail; infer_instance
def jobB (kind f : Int) (A B : List Int) (n : Int) : Bool := decide (jobHead kind f) && (wordsB A && (wordsB B && decide (jobTail kind B n)))

theorem sJob_t (kind f : Int) (A B : List Int) (n : Int) (hA : A.length ≤ 1048576) (hB : B.length ≤ 1048576) (h0 : jobHead kind f) : Ev (fun k => spec_JobOk.j0 k false kind f A B n) (wordsB A && (wordsB B && decide (jobTail kind B n))) := by
 obtain ⟨m, h1, h2, h3⟩ := evs3 (sWords_ev A hA) (sWords_ev B hB) (sHas_ev [3, 4, 5, 6, 8, 9, 10, 11] kind (by simp))
 refine ⟨m + 1, fun k hk => ?_⟩
 obtain ⟨j, rfl⟩ : ∃ j, k = m + j + 1 := ⟨k - m - 1, by omega⟩
 simp only [spec_JobOk.j0, spec_l10UsesB.f, h1, h2, h3, in_eq, Option.bind_some, Bool.false_eq_true, if_false, decide_eq_true_eq]
 cases hwA : wordsB A with
 | false => simp
 | true =>
  cases hwB : wordsB B with
  | false => simp
  | true =>
   simp only [if_true, Bool.true_and, List.mem_cons, List.not_mem_nil, or_false]
   unfold jobHead at h0
   by_cases hn : 0 ≤ n ∧ n ≤ 400
   · rw [if_pos hn]
     by_cases hu : kind = 1 ∨ kind = 2 ∨ kind = 7
     · rw [if_neg (by omega)]
       by_cases hl : B.length = 0
       · rw [if_pos (by omega), if_neg (by omega)]
         exact congrArg some (by rw [Bool.eq_iff_iff, beq_iff_eq, decide_eq_true_eq]; unfold jobTail; omega)
       · rw [if_neg (by omega), decide_eq_false (by unfold jobTail; omega)]
     · rw [if_pos (by omega)]
       by_cases he : kind = 11
       · rw [if_pos he, decide_eq_true (by unfold jobTail; omega)]
       · rw [if_neg he]
         exact congrArg some (by rw [Bool.eq_iff_iff, beq_iff_eq, decide_eq_true_eq]; unfold jobTail; omega)
   · rw [if_neg hn, decide_eq_false (by unfold jobTail; omega)]
theorem sJob_ev (kind f : Int) (A B : List Int) (n : Int) (hA : A.length ≤ 1048576) (hB : B.length ≤ 1048576) : Ev (fun k => spec_JobOk.f k kind f A B n) (jobB kind f A B n) := by
 unfold jobB
 by_cases h0 : jobHead kind f
 · rw [decide_eq_true h0, Bool.true_and]
   refine Ev.congr (fun k => ?_) (sJob_t kind f A B n hA hB h0)
   have h1 := h0
   unfold jobHead at h1
   simp only [spec_JobOk.f, in_eq, sMod, Option.bind_some, decide_eq_true_eq, md_zero]
   rw [if_pos (by omega), if_neg (fun hh => hh h1.2.2.1)]
   by_cases h6 : kind = 6
   · rw [if_pos h6, h1.2.2.2 h6]; rfl
   · rw [if_neg h6]
 · rw [decide_eq_false h0, Bool.false_and]
   have key : Ev (fun k => spec_JobOk.j0 k true kind f A B n) false := ev_now fun k => by simp [spec_JobOk.j0]
   refine Ev.congr (fun k => ?_) key
   simp only [spec_JobOk.f, in_eq, sMod, Option.bind_some, decide_eq_true_eq, md_zero]
   by_cases h1 : 1 ≤ kind ∧ kind ≤ 11
   · rw [if_pos h1]
     by_cases h2 : fldOk f
     · rw [if_neg (fun hh => hh h2)]
       have h6 : kind = 6 ∧ f ≠ 0 := Classical.byContradiction fun hh => h0 ⟨h1.1, h1.2, h2, fun e => Classical.byContradiction fun hf => hh ⟨e, hf⟩⟩
       rw [if_pos h6.1, bne_iff_ne.2 h6.2]
     · rw [if_pos h2]
   · rw [if_neg h1]

theorem iJob_t (kind f : Int) (A B : List Int) (n : Int) (hA : A.length ≤ 1048576) (hB : B.length ≤ 1048576) (h0 : jobHead kind f) : Ev (fun k => impl_isJob.j0 k false kind f A B n) (wordsB A && (wordsB B && decide (jobTail kind B n))) := by
 obtain ⟨m, h1, h2⟩ := evs2 (iWords_ev A hA) (iWords_ev B hB)
 refine ⟨m + 1, fun k hk => ?_⟩
 obtain ⟨j, rfl⟩ : ∃ j, k = m + j + 1 := ⟨k - m - 1, by omega⟩
 have hu : impl_usesB.f kind = some (decide (¬ (kind = 1 ∨ kind = 2 ∨ kind = 7))) := by
  simp only [impl_usesB.f]
  by_cases k1 : kind = 1
  · rw [if_pos k1, decide_eq_false (by omega)]
  · rw [if_neg k1]
    by_cases k2 : kind = 2
    · rw [if_pos k2, decide_eq_false (by omega)]
    · rw [if_neg k2]
      exact congrArg some (by rw [Bool.eq_iff_iff, bne_iff_ne, decide_eq_true_eq]; omega)
 simp only [impl_isJob.j0, h1, h2, hu, Option.bind_some, Bool.false_eq_true, if_false, decide_eq_true_eq]
 cases hwA : wordsB A with
 | false => simp
 | true =>
  cases hwB : wordsB B with
  | false => simp
  | true =>
   simp only [if_true, Bool.true_and]
   unfold jobHead at h0
   by_cases hn : n < 0
   · rw [if_pos hn, decide_eq_false (by unfold jobTail; omega)]
   · rw [if_neg hn]
     by_cases hn2 : n > 400
     · rw [if_pos hn2, decide_eq_false (by unfold jobTail; omega)]
     · rw [if_neg hn2]
       by_cases hu : kind = 1 ∨ kind = 2 ∨ kind = 7
       · rw [if_neg (by omega)]
         by_cases hl : B.length = 0
         · rw [if_pos (by omega), if_neg (by omega)]
           exact congrArg some (by rw [Bool.eq_iff_iff, beq_iff_eq, decide_eq_true_eq]; unfold jobTail; omega)
         · rw [if_neg (by omega), decide_eq_false (by unfold jobTail; omega)]
       · rw [if_pos (by omega)]
         by_cases he : kind = 11
         · rw [if_pos he, decide_eq_true (by unfold jobTail; omega)]
         · rw [if_neg he]
           exact congrArg some (by rw [Bool.eq_iff_iff, beq_iff_eq, decide_eq_true_eq]; unfold jobTail; omega)
theorem iJob_ev (kind f : Int) (A B : List Int) (n : Int) (hA : A.length ≤ 1048576) (hB : B.length ≤ 1048576) : Ev (fun k => impl_isJob.f k kind f A B n) (jobB kind f A B n) := by
 unfold jobB
 by_cases h0 : jobHead kind f
 · rw [decide_eq_true h0, Bool.true_and]
   refine Ev.congr (fun k => ?_) (iJob_t kind f A B n hA hB h0)
   have h1 := h0
   unfold jobHead at h1
   simp only [impl_isJob.f, iFld, if_pos h1.2.2.1, Option.bind_some, if_true]
   rw [if_neg (by omega), if_neg (by omega)]
   by_cases h6 : kind = 6
   · rw [if_pos h6, h1.2.2.2 h6]; rfl
   · rw [if_neg h6]
 · rw [decide_eq_false h0, Bool.false_and]
   have key : Ev (fun k => impl_isJob.j0 k true kind f A B n) false := ev_now fun k => by simp [impl_isJob.j0]
   refine Ev.congr (fun k => ?_) key
   simp only [impl_isJob.f, iFld, Option.bind_some]
   by_cases h2 : fldOk f
   · simp only [if_pos h2, if_true]
     by_cases h1 : kind < 1
     · rw [if_pos h1]
     · rw [if_neg h1]
       by_cases h3 : kind > 11
       · rw [if_pos h3]
       · have h6 : kind = 6 ∧ f ≠ 0 := Classical.byContradiction fun hh => h0 ⟨by omega, by omega, h2, fun e => Classical.byContradiction fun hf => hh ⟨e, hf⟩⟩
         rw [if_neg h3, if_pos h6.1, bne_iff_ne.2 h6.2]
   · simp only [if_neg h2, Bool.false_eq_true, if_false]

theorem szIntS_eq (l : List Int) (m : Int) (h0 : 0 ≤ m) (h1 : m ≤ 1048576) (hl : l.length ≤ maxLen) : laws_szIntS.f l m = some (if m < l.length then -1 else m - l.length) := by
 have hm : maxLen = 9223372036854775807 := rfl
 simp only [laws_szIntS.f]
 rw [w64 (by omega) (by omega)]
 by_cases h : m < l.length
 · rw [if_pos h, if_pos (by omega)]
 · rw [if_neg h, if_neg (by omega)]

theorem szJob_eq (a b c : Int) (A B : List Int) (m : Int) (h0 : 0 ≤ m) (h1 : m ≤ 1048576) (hA : A.length ≤ maxLen) (hB : B.length ≤ maxLen) : laws_szJob.f a b A B c m = some (if m < A.length + B.length then -1 else m - (A.length + B.length)) := by
 have hs := szIntS_eq A m h0 h1 hA
 simp only [laws_szJob.f, hs, Option.bind_some]
 by_cases h : m < A.length
 · simp only [if_pos h]
   rw [if_pos (by omega), if_pos (by omega)]
 · simp only [if_neg h]
   rw [if_neg (by omega), szIntS_eq B (m - A.length) (by omega) (by omega) hB]
   simp only [Option.bind_some]
   by_cases h2 : m - A.length < B.length
   · rw [if_pos h2, if_pos (by omega), if_pos (by omega)]
   · rw [if_neg h2, if_neg (by omega), if_neg (by omega)]
     exact congrArg some (by omega)

theorem toJob_ev (a b c : Int) (A B : List Int) (hA : A.length ≤ 1048576) (hB : B.length ≤ 1048576) : Ev (fun k => laws_toJob.f k a b A B c) (a, b, A, B, c) := by
 obtain ⟨m, h1, h2⟩ := evs2 (toIntS_ev A (by omega)) (toIntS_ev B (by omega))
 refine ⟨m, fun k hk => ?_⟩
 obtain ⟨j, rfl⟩ : ∃ j, k = m + j := ⟨k - m, by omega⟩
 simp only [laws_toJob.f, h1, h2, Option.bind_some]

theorem eqJob_ev (a b c : Int) (A B : List Int) (hA : A.length ≤ 1048576) (hB : B.length ≤ 1048576) : Ev (fun k => laws_eqJob.f k a b A B c a b A B c) true := by
 obtain ⟨m, h1, h2⟩ := evs2 (eqIntS_ev A (by omega)) (eqIntS_ev B (by omega))
 refine ⟨m, fun k hk => ?_⟩
 obtain ⟨j, rfl⟩ : ∃ j, k = m + j := ⟨k - m, by omega⟩
 simp only [laws_eqJob.f, h1, h2, Option.bind_some, if_true]

theorem sBytes_l (l : List Int) (hn : l.length < 140737488355328) : ∀ (d i : Nat), l.length - i = d → i ≤ l.length →
 Ev (fun k => spec_l01Bytes.l0 k l (l.take i) (i : Int)) l := by
 intro d
 induction d with
 | zero =>
  intro i h hi
  refine ev_now fun k => ?_
  simp only [spec_l01Bytes.l0]
  rw [if_neg (by omega), List.take_of_length_le (by omega)]
 | succ d ih =>
  intro i h hi
  refine Ev.step (fun k => ?_) (ih (i + 1) (by omega) (by omega))
  simp only [spec_l01Bytes.l0]
  rw [if_pos (by omega), if_pos (by omega), if_pos (by simp; omega), wsucc (by omega), rd_eq (by omega), List.take_append_getElem (by omega)]
theorem sBytes_ev (l : List Int) (hn : l.length < 140737488355328) : Ev (fun k => spec_l01Bytes.f k l) l :=
 Ev.congr (fun k => rfl) (sBytes_l l hn l.length 0 (by omega) (by omega))

def be4 (c : Int) : List Int := [c / 16777216 % 256, c / 65536 % 256, c / 256 % 256, c % 256]

theorem sWide_ev (c : Int) (h0 : 0 ≤ c) (h1 : c ≤ 4294967295) : Ev (fun k => spec_l11Wide.f k c 4) (be4 c) := by
 have e : ∀ n : Nat, n < 9223372036854775808 → Go.bits .and .i64 (n : Int) 255 % 256 = ((n % 256 : Nat) : Int) := by
  intro n hn
  rw [show (255 : Int) = ((255 : Nat) : Int) by rfl, bits_and255 n hn]
  omega
 have s0 : shr .i64 c 0 = ((c.toNat : Nat) : Int) := by show c / 2 ^ 0 = _; omega
 have s1 : shr .i64 c 8 = ((c.toNat / 256 : Nat) : Int) := by show c / 2 ^ 8 = _; omega
 have s2 : shr .i64 c 16 = ((c.toNat / 65536 : Nat) : Int) := by show c / 2 ^ 16 = _; omega
 have s3 : shr .i64 c 24 = ((c.toNat / 16777216 : Nat) : Int) := by show c / 2 ^ 24 = _; omega
 have w0 : IntKind.u64.wrap (wrap64 (8 * 0)) = 0 := by decide +kernel
 have w1 : IntKind.u64.wrap (wrap64 (8 * 1)) = 8 := by decide +kernel
 have w2 : IntKind.u64.wrap (wrap64 (8 * 2)) = 16 := by decide +kernel
 have w3 : IntKind.u64.wrap (wrap64 (8 * 3)) = 24 := by decide +kernel
 have v3 : wrap64 (4 - 1) = 3 := by decide +kernel
 have v2 : wrap64 (3 - 1) = 2 := by decide +kernel
 have v1 : wrap64 (2 - 1) = 1 := by decide +kernel
 have v0 : wrap64 (1 - 1) = 0 := by decide +kernel
 have vn : wrap64 (0 - 1) = -1 := by decide +kernel
 refine ⟨6, fun k hk => ?_⟩
 obtain ⟨j, rfl⟩ : ∃ j, k = j + 1 + 1 + 1 + 1 + 1 := ⟨k - 5, by omega⟩
 simp only [spec_l11Wide.f, spec_l11Wide.l0, v3, v2, v1, v0, vn, w0, w1, w2, w3, s0, s1, s2, s3]
 rw [e _ (by omega), e _ (by omega), e _ (by omega), e _ (by omega)]
 simp only [List.nil_append, List.length_nil, List.cons_append, List.length_cons]
 rw [if_pos (by omega), if_pos (by omega), if_pos (by omega), if_pos (by omega), if_pos (by omega), if_pos (by omega), if_pos (by omega), if_pos (by omega), if_pos (by omega), if_pos (by omega), if_pos (by omega), if_pos (by omega), if_neg (by omega)]
 unfold be4
 rw [show ((c.toNat / 16777216 % 256 : Nat) : Int) = c / 16777216 % 256 by omega, show ((c.toNat / 65536 % 256 : Nat) : Int) = c / 65536 % 256 by omega, show ((c.toNat / 256 % 256 : Nat) : Int) = c / 256 % 256 by omega, show ((c.toNat % 256 : Nat) : Int) = c % 256 by omega]

theorem iWide_ev (c : Int) (h0 : 0 ≤ c) (h1 : c ≤ 4294967295) : Ev (fun k => impl_bigEndian.f k c 4) (be4 c) := by
 have v3 : wrap64 (4 - 1) = 3 := by decide +kernel
 have v2 : wrap64 (3 - 1) = 2 := by decide +kernel
 have v1 : wrap64 (2 - 1) = 1 := by decide +kernel
 have v0 : wrap64 (1 - 1) = 0 := by decide +kernel
 have vn : wrap64 (0 - 1) = -1 := by decide +kernel
 have t4 : ((4 : Int)).toNat = 4 := rfl
 have t3 : ((3 : Int)).toNat = 3 := rfl
 have t2 : ((2 : Int)).toNat = 2 := rfl
 have t1 : ((1 : Int)).toNat = 1 := rfl
 have t0 : ((0 : Int)).toNat = 0 := rfl
 have r : List.replicate 4 (0 : Int) = [0, 0, 0, 0] := rfl
 refine ⟨6, fun k hk => ?_⟩
 obtain ⟨j, rfl⟩ : ∃ j, k = j + 1 + 1 + 1 + 1 + 1 := ⟨k - 5, by omega⟩
 simp only [impl_bigEndian.f, impl_bigEndian.l0, v3, v2, v1, v0, vn, t4, t3, t2, t1, t0, r, List.set_cons_zero, List.set_cons_succ, List.length_cons, List.length_nil]
 rw [if_pos (by omega), if_pos (by omega), if_pos (by omega), if_pos (by omega), if_pos (by omega), if_pos (by omega), if_pos (by omega), if_pos (by omega), if_pos (by omega), if_pos (by omega), if_pos (by omega), if_pos (by omega), if_pos (by omega), if_pos (by omega), if_neg (by omega)]
 unfold be4
 rw [show c / 256 / 256 / 256 % 256 = c / 16777216 % 256 by omega, show c / 256 / 256 % 256 = c / 65536 % 256 by omega]

def be2 (c : Int) : List Int := [c / 256 % 256, c % 256]

theorem sWide2_ev (c : Int) (h0 : 0 ≤ c) (h1 : c ≤ 4294967295) : Ev (fun k => spec_l11Wide.f k c 2) (be2 c) := by
 have e : ∀ n : Nat, n < 9223372036854775808 → Go.bits .and .i64 (n : Int) 255 % 256 = ((n % 256 : Nat) : Int) := by
  intro n hn
  rw [show (255 : Int) = ((255 : Nat) : Int) by rfl, bits_and255 n hn]
  omega
 have s0 : shr .i64 c 0 = ((c.toNat : Nat) : Int) := by show c / 2 ^ 0 = _; omega
 have s1 : shr .i64 c 8 = ((c.toNat / 256 : Nat) : Int) := by show c / 2 ^ 8 = _; omega
 have w0 : IntKind.u64.wrap (wrap64 (8 * 0)) = 0 := by decide +kernel
 have w1 : IntKind.u64.wrap (wrap64 (8 * 1)) = 8 := by decide +kernel
 have v1 : wrap64 (2 - 1) = 1 := by decide +kernel
 have v0 : wrap64 (1 - 1) = 0 := by decide +kernel
 have vn : wrap64 (0 - 1) = -1 := by decide +kernel
 refine ⟨6, fun k hk => ?_⟩
 obtain ⟨j, rfl⟩ : ∃ j, k = j + 1 + 1 + 1 := ⟨k - 3, by omega⟩
 simp only [spec_l11Wide.f, spec_l11Wide.l0, v1, v0, vn, w0, w1, s0, s1]
 rw [e _ (by omega), e _ (by omega)]
 simp only [List.nil_append, List.length_nil, List.cons_append, List.length_cons]
 rw [if_pos (by omega), if_pos (by omega), if_pos (by omega), if_pos (by omega), if_pos (by omega), if_pos (by omega), if_neg (by omega)]
 unfold be2
 rw [show ((c.toNat / 256 % 256 : Nat) : Int) = c / 256 % 256 by omega, show ((c.toNat % 256 : Nat) : Int) = c % 256 by omega]

theorem iWide2_ev (c : Int) (h0 : 0 ≤ c) (h1 : c ≤ 4294967295) : Ev (fun k => impl_bigEndian.f k c 2) (be2 c) := by
 have v1 : wrap64 (2 - 1) = 1 := by decide +kernel
 have v0 : wrap64 (1 - 1) = 0 := by decide +kernel
 have vn : wrap64 (0 - 1) = -1 := by decide +kernel
 have t2 : ((2 : Int)).toNat = 2 := rfl
 have t1 : ((1 : Int)).toNat = 1 := rfl
 have t0 : ((0 : Int)).toNat = 0 := rfl
 have r : List.replicate 2 (0 : Int) = [0, 0] := rfl
 refine ⟨6, fun k hk => ?_⟩
 obtain ⟨j, rfl⟩ : ∃ j, k = j + 1 + 1 + 1 := ⟨k - 3, by omega⟩
 simp only [impl_bigEndian.f, impl_bigEndian.l0, v1, v0, vn, t2, t1, t0, r, List.set_cons_zero, List.set_cons_succ, List.length_cons, List.length_nil]
 rw [if_pos (by omega), if_pos (by omega), if_pos (by omega), if_pos (by omega), if_pos (by omega), if_pos (by omega), if_pos (by omega), if_pos (by omega), if_neg (by omega)]
 rfl

theorem sJoinB_l (b : List Int) (a : List Int) (hn : a.length + b.length < 140737488355328) : ∀ (d i : Nat), b.length - i = d → i ≤ b.length → Ev (fun k => spec_l01Join.l0 k b (a ++ b.take i) (i : Int)) (a ++ b) := by
 intro d
 induction d with
 | zero =>
  intro i h hi
  refine ev_now fun k => ?_
  simp only [spec_l01Join.l0]
  rw [if_neg (by omega), List.take_of_length_le (by omega)]
 | succ d ih =>
  intro i h hi
  have key := ih (i + 1) (by omega) (by omega)
  refine Ev.step (fun k => ?_) key
  simp only [spec_l01Join.l0]
  rw [if_pos (by omega), if_pos (by omega), if_pos (by simp; omega), wsucc (by omega), rd_eq (by omega), List.append_assoc, List.take_append_getElem (by omega)]
theorem sJoinB_ev (a b : List Int) (hn : a.length + b.length < 140737488355328) : Ev (fun k => spec_l01Join.f k a b) (a ++ b) := by
 have key := sJoinB_l b a hn b.length 0 (by omega) (by omega)
 rw [List.take_zero, List.append_nil] at key
 obtain ⟨n, e1, e2⟩ := evs2 (sBytes_ev a (by omega)) key
 refine ⟨n, fun k hk => ?_⟩
 obtain ⟨j, rfl⟩ : ∃ j, k = n + j := ⟨k - n, by omega⟩
 simp only [spec_l01Join.f, e1 j, Option.bind_some]
 exact e2 j

def encMid (a b : Int) (l : List Int) : List Int := (([a % 256] ++ be4 b) ++ be2 (l.length : Int)) ++ l
def encB (a b : Int) (l : List Int) : List Int := if frOk a b l then ([199, 77] ++ encMid a b l) ++ be4 (cks (encMid a b l) 1 0) else []
theorem encMid_len (a b : Int) (l : List Int) : (encMid a b l).length = l.length + 7 := by simp [encMid, be4, be2]
theorem encB_len (a b : Int) (l : List Int) : (encB a b l).length ≤ 5013 := by
 unfold encB
 split
 · rename_i h
   have := h.2.2.2.2
   rw [List.length_append, List.length_append, encMid_len]
   simp [be4]; omega
 · simp
theorem be_isB4 (c : Int) : isB (be4 c) := by
 intro x hx
 simp [be4] at hx
 omega
theorem be_isB2 (c : Int) : isB (be2 c) := by
 intro x hx
 simp [be2] at hx
 omega
theorem encMid_isB (a b : Int) (l : List Int) (hl : isB l) : isB (encMid a b l) := by
 refine isB_append (isB_append (isB_append (fun x hx => ?_) (be_isB4 b)) (be_isB2 _)) hl
 simp at hx
 omega

theorem sEncF_ev (a b : Int) (l : List Int) (hb : isB l) : Ev (fun k => spec_EncodeFrame.f k a b l) (encB a b l) := by
 unfold encB
 by_cases h : frOk a b l
 · have hl := h.2.2.2.2
   have hmid := encMid_len a b l
   have hc := cks_range (encMid a b l) 1 0 (by omega) (by omega) (by omega) (by omega)
   have h4 : ∀ c : Int, (be4 c).length = 4 := fun c => rfl
   have h2 : ∀ c : Int, (be2 c).length = 2 := fun c => rfl
   obtain ⟨n, e1, e2, e3, e4, e5, e6, e7, e8, e9⟩ := evs9 (sWide_ev b h.2.2.1 (by have := h.2.2.2.1; omega)) (sJoinB_ev [a % 256] (be4 b) (by simp [be4])) (sWide2_ev (l.length : Int) (by omega) (by omega)) (sJoinB_ev ([a % 256] ++ be4 b) (be2 (l.length : Int)) (by simp [be4, be2])) (sJoinB_ev (([a % 256] ++ be4 b) ++ be2 (l.length : Int)) l (by simp [be4, be2]; omega)) (sJoinB_ev [199, 77] (encMid a b l) (by rw [hmid]; simp; omega)) (sCks_ev (encMid a b l) (by omega) (encMid_isB a b l hb)) (sWide_ev (cks (encMid a b l) 1 0) hc.1 (by omega)) (sJoinB_ev ([199, 77] ++ encMid a b l) (be4 (cks (encMid a b l) 1 0)) (by rw [List.length_append, hmid, h4]; simp; omega))
   refine ⟨n, fun k hk => ?_⟩
   obtain ⟨j, rfl⟩ : ∃ j, k = n + j := ⟨k - n, by omega⟩
   have e5' : spec_l01Join.f (n + j) (([a % 256] ++ be4 b) ++ be2 (l.length : Int)) l = some (encMid a b l) := e5 j
   rw [if_pos h]
   simp only [spec_EncodeFrame.f, sFrameOk, decide_eq_true h, e1 j, e2 j, e3 j, e4 j, e5', e6 j, e7 j, e8 j, e9 j, Option.bind_some, if_true]
 · rw [if_neg h]
   refine ev_some fun k => ?_
   simp only [spec_EncodeFrame.f, sFrameOk, decide_eq_false h, Option.bind_some, Bool.false_eq_true, if_false]

theorem iEnc_ev (a b : Int) (l : List Int) (hb : isB l) (h : frOk a b l) : Ev (fun k => impl_encodeFrame.f k a b l) (([199, 77] ++ encMid a b l) ++ be4 (cks (encMid a b l) 1 0)) := by
 have hl := h.2.2.2.2
 have hmid := encMid_len a b l
 have hc := cks_range (encMid a b l) 1 0 (by omega) (by omega) (by omega) (by omega)
 have h4 : ∀ c : Int, (be4 c).length = 4 := fun c => rfl
 have h2 : ∀ c : Int, (be2 c).length = 2 := fun c => rfl
 obtain ⟨n, e1, e2, e3, e4⟩ := evs4 (iWide_ev b h.2.2.1 (by have := h.2.2.2.1; omega)) (iWide2_ev (l.length : Int) (by omega) (by omega)) (iCks_ev (encMid a b l) (by omega) (encMid_isB a b l hb)) (iWide_ev (cks (encMid a b l) 1 0) hc.1 (by omega))
 refine ⟨n, fun k hk => ?_⟩
 obtain ⟨j, rfl⟩ : ∃ j, k = n + j := ⟨k - n, by omega⟩
 have ey : (([199, 77, a % 256] ++ be4 b) ++ be2 (l.length : Int)) ++ l = [199, 77] ++ encMid a b l := by simp [encMid]
 have ed : ([199, 77] ++ encMid a b l).drop 2 = encMid a b l := rfl
 have c1 : ([199, 77, a % 256] : List Int).length + (be4 b).length < 140737488355328 := by simp [be4]
 have c2 : ([199, 77, a % 256] ++ be4 b).length + (be2 (l.length : Int)).length < 140737488355328 := by simp [be4, be2]
 have c3 : (([199, 77, a % 256] ++ be4 b) ++ be2 (l.length : Int)).length + l.length < 140737488355328 := by simp [be4, be2]; omega
 have c4 : (2 : Int) ≤ (([199, 77] ++ encMid a b l).length : Int) := by rw [List.length_append, hmid]; simp; omega
 have c5 : ([199, 77] ++ encMid a b l).length + (be4 (cks (encMid a b l) 1 0)).length < 140737488355328 := by rw [List.length_append, hmid, h4]; simp; omega
 simp only [impl_encodeFrame.f, Option.bind_some, e1 j, e2 j, c1, c2, c3, if_true]
 simp only [ey, ed, c4, c5, e3 j, e4 j, Option.bind_some, if_true]

def putAll : List Int → List Int
 | [] => []
 | x :: r => put (zz x) ++ putAll r
def listE (l : List Int) : List Int := put (zz (l.length : Int)) ++ putAll l
def jobE (kind f : Int) (A B : List Int) (n : Int) : List Int := (([kind % 256, f % 256] ++ put (zz n)) ++ listE A) ++ listE B
theorem put6 {x : Int} (h : isWord x) : (put (zz x)).length ≤ 6 := put_len _ 5 (by have := zz_lt h; omega)
theorem putAll_len : ∀ l : List Int, (∀ x ∈ l, isWord x) → (putAll l).length ≤ 6 * l.length := by
 intro l
 induction l with
 | nil => intro _; simp [putAll]
 | cons x r ih =>
  intro h
  have h1 := put6 (h x (List.mem_cons_self ..))
  have h2 := ih (fun y hy => h y (List.mem_cons_of_mem _ hy))
  rw [putAll, List.length_append, List.length_cons]; omega
theorem word_small {n : Nat} (h : n ≤ 1000) : isWord (n : Int) := by unfold isWord; omega
theorem listE_len {l : List Int} (h : ∀ x ∈ l, isWord x) (hl : l.length ≤ 400) : (listE l).length ≤ 2406 := by
 have h1 := put6 (word_small (n := l.length) (by omega))
 have h2 := putAll_len l h
 rw [listE, List.length_append]; omega
theorem putAll_at {l : List Int} {i : Nat} (h : i < l.length) : putAll (l.drop i) = put (zz l[i]) ++ putAll (l.drop (i + 1)) := by
 rw [List.drop_eq_getElem_cons h, putAll]
theorem putAll_drop_len {l : List Int} (h : ∀ x ∈ l, isWord x) (i : Nat) : (putAll (l.drop i)).length ≤ 6 * l.length := by
 have h1 := putAll_len (l.drop i) (fun x hx => h x (List.mem_of_mem_drop hx))
 rw [List.length_drop] at h1
 omega

def jobEncV (kind f : Int) (A B : List Int) (n : Int) : List Int := if jobB kind f A B n = true then jobE kind f A B n else []
theorem job_words {kind f n : Int} {A B : List Int} (h : jobB kind f A B n = true) : (A.length ≤ 400 ∧ ∀ x ∈ A, isWord x) ∧ (B.length ≤ 400 ∧ ∀ x ∈ B, isWord x) ∧ 0 ≤ n ∧ n ≤ 400 := by
 unfold jobB at h
 rw [Bool.and_eq_true, Bool.and_eq_true, Bool.and_eq_true, wordsB_iff, wordsB_iff, decide_eq_true_eq, decide_eq_true_eq] at h
 exact ⟨h.2.1, h.2.2.1, h.2.2.2.1, h.2.2.2.2.1⟩
theorem jobEncV_len (kind f : Int) (A B : List Int) (n : Int) : (jobEncV kind f A B n).length ≤ 5000 := by
 unfold jobEncV
 split
 · rename_i h
   obtain ⟨⟨a1, a2⟩, ⟨b1, b2⟩, n0, n1⟩ := job_words h
   have h1 := listE_len a2 a1
   have h2 := listE_len b2 b1
   have h3 := put6 (x := n) (by unfold isWord; omega)
   rw [jobE, List.length_append, List.length_append, List.length_append]
   simp only [List.length_cons, List.length_nil]; omega
 · simp

theorem sPutW_ev {x : Int} (h : isWord x) : Ev (fun k => spec_PutNumber.f k x) (put (zz x)) := by
 have := sPut_ev x (i64_wf (by unfold isWord at h; omega) (by unfold isWord at h; omega))
 unfold putOf at this
 rwa [if_pos h] at this
theorem sPutList_l1 (l : List Int) (j : Nat) (t : List Int) (acc r : List Int) (ha : acc.length + t.length ≤ 1000000) (hr : Ev (fun k => spec_l10PutList.l0 k (acc ++ t) l ((j + 1 : Nat) : Int)) r) (hj : j ≤ 1000000) : ∀ (d i : Nat), t.length - i = d → i ≤ t.length →
 Ev (fun k => spec_l10PutList.l1 k (acc ++ t.take i) l (j : Int) t (t.length : Int) (i : Int)) r := by
 intro d
 induction d with
 | zero =>
  intro i h hi
  refine Ev.step (fun k => ?_) hr
  simp only [spec_l10PutList.l1]
  rw [if_neg (by omega), List.take_of_length_le (by omega), wsucc (by omega)]
 | succ d ih =>
  intro i h hi
  have key := ih (i + 1) (by omega) (by omega)
  refine Ev.step (fun k => ?_) key
  simp only [spec_l10PutList.l1]
  rw [if_pos (by omega), if_pos (by omega), if_pos (by omega), if_pos (by rw [List.length_append, List.length_take]; omega), wsucc (by omega), rd_eq (by omega), List.append_assoc, List.take_append_getElem (by omega)]
theorem sPutList_l0 (l : List Int) (hl : l.length ≤ 400) (hw : ∀ x ∈ l, isWord x) : ∀ (d i : Nat) (acc : List Int), l.length - i = d → i ≤ l.length → acc.length ≤ 10000 + 6 * i →
 Ev (fun k => spec_l10PutList.l0 k acc l (i : Int)) (acc ++ putAll (l.drop i)) := by
 intro d
 induction d with
 | zero =>
  intro i acc h hi ha
  refine ev_now fun k => ?_
  simp only [spec_l10PutList.l0]
  rw [if_neg (by omega), List.drop_of_length_le (by omega), putAll, List.append_nil]
 | succ d ih =>
  intro i acc h hi ha
  have hil : i < l.length := by omega
  have hwi := hw l[i] (List.getElem_mem hil)
  have h6 := put6 hwi
  have key := ih (i + 1) (acc ++ put (zz l[i])) (by omega) (by omega) (by rw [List.length_append]; omega)
  rw [List.append_assoc, ← putAll_at hil] at key
  have k1 := sPutList_l1 l i (put (zz l[i])) acc _ (by omega) key (by omega) (put (zz l[i])).length 0 (by omega) (by omega)
  rw [List.take_zero, List.append_nil] at k1
  obtain ⟨n, e1, e2⟩ := evs2 (sPutW_ev hwi) k1
  refine ⟨n + 1, fun k hk => ?_⟩
  obtain ⟨j, rfl⟩ : ∃ j, k = n + j + 1 := ⟨k - n - 1, by omega⟩
  simp only [spec_l10PutList.l0, rd_eq hil, e1 j, Option.bind_some]
  rw [if_pos (by omega), if_pos (by omega)]
  exact e2 j
theorem sPutList_ev (acc l : List Int) (hl : l.length ≤ 400) (hw : ∀ x ∈ l, isWord x) (ha : acc.length ≤ 5000) : Ev (fun k => spec_l10PutList.f k acc l) (acc ++ listE l) := by
 have hwl := word_small (n := l.length) (by omega)
 have h6 := put6 hwl
 have key := sPutList_l0 l hl hw l.length 0 (acc ++ put (zz (l.length : Int))) (by omega) (by omega) (by rw [List.length_append]; omega)
 rw [List.drop_zero, List.append_assoc] at key
 obtain ⟨n, e1, e2, e3⟩ := evs3 (sPutW_ev hwl) (sJoinB_ev acc (put (zz (l.length : Int))) (by omega)) key
 refine ⟨n, fun k hk => ?_⟩
 obtain ⟨j, rfl⟩ : ∃ j, k = n + j := ⟨k - n, by omega⟩
 simp only [spec_l10PutList.f, e1 j, e2 j, Option.bind_some]
 exact e3 j

theorem sEncJob_ev (kind f : Int) (A B : List Int) (n : Int) (hA : A.length ≤ 1048576) (hB : B.length ≤ 1048576) : Ev (fun k => spec_EncodeJob.f k kind f A B n) (jobEncV kind f A B n) := by
 unfold jobEncV
 by_cases h : jobB kind f A B n = true
 · obtain ⟨⟨a1, a2⟩, ⟨b1, b2⟩, n0, n1⟩ := job_words h
   have hwn : isWord n := by unfold isWord; omega
   have h3 := put6 hwn
   have h4 := listE_len a2 a1
   obtain ⟨m, e1, e2, e3, e4, e5⟩ := evs5 (sJob_ev kind f A B n hA hB) (sPutW_ev hwn) (sJoinB_ev [kind % 256, f % 256] (put (zz n)) (by simp only [List.length_cons, List.length_nil]; omega)) (sPutList_ev ([kind % 256, f % 256] ++ put (zz n)) A a1 a2 (by rw [List.length_append]; simp only [List.length_cons, List.length_nil]; omega)) (sPutList_ev (([kind % 256, f % 256] ++ put (zz n)) ++ listE A) B b1 b2 (by rw [List.length_append, List.length_append]; simp only [List.length_cons, List.length_nil]; omega))
   refine ⟨m, fun k hk => ?_⟩
   obtain ⟨j, rfl⟩ : ∃ j, k = m + j := ⟨k - m, by omega⟩
   rw [if_pos h]
   simp only [spec_EncodeJob.f, e1 j, h, e2 j, e3 j, e4 j, e5 j, Option.bind_some, if_true]
   rfl
 · rw [if_neg h]
   rw [Bool.not_eq_true] at h
   obtain ⟨m, e1⟩ := evs1 (sJob_ev kind f A B n hA hB)
   refine ⟨m, fun k hk => ?_⟩
   obtain ⟨j, rfl⟩ : ∃ j, k = m + j := ⟨k - m, by omega⟩
   simp only [spec_EncodeJob.f, e1, h, Option.bind_some, Bool.false_eq_true, if_false]

theorem iEncJ_l1 (Y : List (List Int)) (m : Int) (j : Nat) (l : List Int) (hl : l.length ≤ 400) (hw : ∀ x ∈ l, isWord x) (hj : j ≤ 1000) (r : List Int) : ∀ (d i : Nat) (acc : List Int), l.length - i = d → i ≤ l.length → acc.length ≤ 10000 + 6 * i →
 Ev (fun k => impl_encodeJob.l0 k (acc ++ putAll (l.drop i)) Y m ((j + 1 : Nat) : Int)) r →
 Ev (fun k => impl_encodeJob.l1 k acc Y m (j : Int) l (l.length : Int) (i : Int)) r := by
 intro d
 induction d with
 | zero =>
  intro i acc h hi ha hr
  rw [List.drop_of_length_le (by omega), putAll, List.append_nil] at hr
  refine Ev.step (fun k => ?_) hr
  simp only [impl_encodeJob.l1]
  rw [if_neg (by omega), wsucc (by omega)]
 | succ d ih =>
  intro i acc h hi ha hr
  have hil : i < l.length := by omega
  have hwi := hw l[i] (List.getElem_mem hil)
  have h6 := put6 hwi
  rw [putAll_at hil, ← List.append_assoc] at hr
  have key := ih (i + 1) (acc ++ put (zz l[i])) (by omega) (by omega) (by rw [List.length_append]; omega) hr
  obtain ⟨n, e1, e2⟩ := evs2 (iPut_ev l[i] hwi) key
  refine ⟨n + 1, fun k hk => ?_⟩
  obtain ⟨q, rfl⟩ : ∃ q, k = n + q + 1 := ⟨k - n - 1, by omega⟩
  simp only [impl_encodeJob.l1, rd_eq hil, e1 q, Option.bind_some]
  rw [if_pos (by omega), if_pos (by omega), if_pos (by omega), if_pos (by omega), wsucc (by omega)]
  exact e2 q
theorem iEncJ_l0 (Y : List (List Int)) (j : Nat) (hj : j < Y.length) (hY : Y.length ≤ 10) (l : List Int) (hlY : rd_L1 Y (j : Int) = l) (hl : l.length ≤ 400) (hw : ∀ x ∈ l, isWord x) (acc r : List Int) (ha : acc.length ≤ 9000) (hr : Ev (fun k => impl_encodeJob.l0 k (acc ++ listE l) Y (Y.length : Int) ((j + 1 : Nat) : Int)) r) :
 Ev (fun k => impl_encodeJob.l0 k acc Y (Y.length : Int) (j : Int)) r := by
 have hwl := word_small (n := l.length) (by omega)
 have h6 := put6 hwl
 have k1 := iEncJ_l1 Y (Y.length : Int) j l hl hw (by omega) r l.length 0 (acc ++ put (zz (l.length : Int))) (by omega) (by omega) (by rw [List.length_append]; omega) (by rw [List.drop_zero, List.append_assoc]; exact hr)
 obtain ⟨n, e1, e2⟩ := evs2 (iPut_ev (l.length : Int) hwl) k1
 refine ⟨n + 1, fun k hk => ?_⟩
 obtain ⟨q, rfl⟩ : ∃ q, k = n + q + 1 := ⟨k - n - 1, by omega⟩
 simp only [impl_encodeJob.l0, hlY, e1 q, Option.bind_some]
 rw [if_pos (by omega), if_pos (by omega), if_pos (by omega), if_pos (by omega)]
 exact e2 q

def totJ : List S104 → Nat
 | [] => 0
 | r :: rs => 3 + r.f2.length + r.f3.length + totJ rs
theorem rd_midJ (A : List S104) (r : S104) (rs : List S104) : rd_T104 (A ++ r :: rs) (A.length : Int) = r := by simp [rd_T104, List.getD_eq_getElem?_getD]
theorem set_midJ {α : Type} (A : List α) (r r' : α) (rs : List α) : (A ++ r :: rs).set A.length r' = A ++ r' :: rs := by simp

def cvJ (x : S102) : S104 := ⟨x.f0, x.f1, x.f2, x.f3, x.f4⟩
def totW : List S102 → Nat
 | [] => 0
 | r :: rs => r.f2.length + r.f3.length + totW rs
theorem rdJL {l : List S102} {i : Nat} (h : i < l.length) : rd_T102 l (i : Int) = l[i] := by simp [rd_T102, List.getD_eq_getElem?_getD, h]
theorem totW_mem : ∀ (l : List S102) (c : S102), c ∈ l → c.f2.length + c.f3.length ≤ totW l := by
 intro l
 induction l with
 | nil => intro c h; simp at h
 | cons r rs ih =>
  intro c h
  rw [totW]
  rcases List.mem_cons.1 h with rfl | h
  · omega
  · have := ih c h; omega
theorem totJ_cv : ∀ l : List S102, totJ (l.map cvJ) = 3 * l.length + totW l := by
 intro l
 induction l with
 | nil => rfl
 | cons r rs ih => simp only [List.map_cons, totJ, totW, ih, List.length_cons, cvJ]; omega

theorem toJobS_ev (cs : List S102) (hl : cs.length ≤ 1048576) (hc : ∀ c ∈ cs, c.f2.length ≤ 1048576 ∧ c.f3.length ≤ 1048576) : Ev (fun k => laws_toJobS.f k cs) (cs.map cvJ) := by
 have hlen0 : (cs.map cvJ).length = cs.length := List.length_map _
 have key : ∀ (d i : Nat), cs.length - i = d → i ≤ cs.length → Ev (fun k => laws_toJobS.l0 k cs ((cs.map cvJ).take i ++ List.replicate ((cs.map cvJ).length - i) z104) (i : Int)) (cs.map cvJ) := by
  intro d
  induction d with
  | zero =>
   intro i hd hi
   refine ev_now fun k => ?_
   simp only [laws_toJobS.l0]
   rw [if_neg (by omega), fill_all (cs.map cvJ) z104 i (by omega)]
  | succ d ih =>
   intro i hd hi
   have hi2 : i < cs.length := by omega
   obtain ⟨q1, q2⟩ := hc _ (List.getElem_mem hi2)
   refine Ev.step (f := fun k => (laws_toJob.f k cs[i].f0 cs[i].f1 cs[i].f2 cs[i].f3 cs[i].f4).bind fun t => laws_toJobS.l0 k cs (((cs.map cvJ).take i ++ List.replicate ((cs.map cvJ).length - i) z104).set i (⟨t.1, t.2.1, t.2.2.1, t.2.2.2.1, t.2.2.2.2⟩ : S104)) ((i + 1 : Nat) : Int)) (fun k => ?_) (Ev.bind (toJob_ev cs[i].f0 cs[i].f1 cs[i].f4 cs[i].f2 cs[i].f3 q1 q2) ?_)
   · have hlen : ((cs.map cvJ).take i ++ List.replicate ((cs.map cvJ).length - i) z104).length = cs.length := by rw [List.length_append, List.length_take, List.length_replicate]; omega
     simp only [laws_toJobS.l0, rdJL hi2, hlen, Int.toNat_natCast]
     rw [if_pos (by omega), if_pos (by omega), wsucc (by omega)]
     congr 1
     funext t
     rw [if_pos (by omega)]
   · rw [set_fill (cs.map cvJ) z104 _ i (by omega) (by rw [List.getElem_map]; rfl)]
     exact ih (i + 1) (by omega) (by omega)
 have k0 := key cs.length 0 (by omega) (by omega)
 rw [← fill_zero (cs.map cvJ) z104, hlen0] at k0
 refine Ev.congr (fun k => ?_) k0
 simp only [laws_toJobS.f]
 rw [if_pos (by omega), if_pos (by rw [Int.toNat_natCast]; omega), Int.toNat_natCast]
 rfl

theorem szJobS_l (L : List S102) (hl : L.length ≤ maxLen) (hc : ∀ c ∈ L, c.f2.length ≤ maxLen ∧ c.f3.length ≤ maxLen) : ∀ (rs A : List S102) (m : Int), A ++ rs = L → 0 ≤ m → m ≤ 1048576 → ∃ r, Ev (fun k => laws_szJobS.l0 k L m (A.length : Int)) r ∧ (0 ≤ r → totW rs ≤ m) := by
 have hml : L.length ≤ 9223372036854775807 := hl
 intro rs
 induction rs with
 | nil =>
  intro A m e h0 h1
  rw [List.append_nil] at e
  refine ⟨m, ev_now fun k => ?_, fun _ => by simp only [totW]; omega⟩
  simp only [laws_szJobS.l0]
  rw [if_neg (by rw [e]; omega)]
 | cons r rs ih =>
  intro A m e h0 h1
  have hlt : A.length < L.length := by rw [← e]; simp
  obtain ⟨q1, q2⟩ := hc r (by rw [← e]; simp)
  have hs := szJob_eq r.f0 r.f1 r.f4 r.f2 r.f3 m h0 h1 q1 q2
  have hrd : rd_T102 L (A.length : Int) = r := by rw [rdJL hlt]; simp only [← e]; simp
  by_cases hm : m < (r.f2.length : Int) + r.f3.length
  · rw [if_pos hm] at hs
    refine ⟨-1, ev_now fun k => ?_, fun h => by omega⟩
    simp only [laws_szJobS.l0, hrd, hs, Option.bind_some]
    rw [if_pos (by omega), if_pos (by omega), if_pos (by omega)]
  · rw [if_neg hm] at hs
    obtain ⟨x, ex, hx⟩ := ih (A ++ [r]) (m - ((r.f2.length : Int) + r.f3.length)) (by rw [List.append_assoc, List.singleton_append]; exact e) (by omega) (by omega)
    rw [List.length_append, List.length_singleton] at ex
    refine ⟨x, Ev.step (fun k => ?_) ex, fun h => by have := hx h; simp only [totW]; omega⟩
    simp only [laws_szJobS.l0, hrd, hs, Option.bind_some]
    rw [if_pos (by omega), if_pos (by omega), if_neg (by omega), wsucc (by omega)]
theorem szJobS_ev (L : List S102) (hl : L.length ≤ maxLen) (hc : ∀ c ∈ L, c.f2.length ≤ maxLen ∧ c.f3.length ≤ maxLen) : ∃ r, Ev (fun k => laws_szJobS.f k L 1048576) r ∧ (0 ≤ r → L.length ≤ 1048576 ∧ totW L ≤ 1048576) := by
 have hml : L.length ≤ 9223372036854775807 := hl
 have hw : wrap64 (1048576 - (L.length : Int)) = 1048576 - (L.length : Int) := w64 (by omega) (by omega)
 by_cases h : (1048576 : Int) - (L.length : Int) < 0
 · refine ⟨-1, ev_some fun k => ?_, fun h => by omega⟩
   simp only [laws_szJobS.f, hw]
   rw [if_pos h]
 · obtain ⟨r, e, hr⟩ := szJobS_l L hl hc L [] (1048576 - (L.length : Int)) rfl (by omega) (by omega)
   refine ⟨r, Ev.congr (fun k => ?_) e, fun h0 => ⟨by omega, by have := hr h0; omega⟩⟩
   simp only [laws_szJobS.f, hw]
   rw [if_neg h]
   rfl

theorem eqJobS_l (L : List S104) (hn : L.length ≤ 1048576) (hr : ∀ r ∈ L, r.f2.length ≤ 1048576 ∧ r.f3.length ≤ 1048576) : ∀ (rs A : List S104), A ++ rs = L → Ev (fun k => laws_eqJobS.l0 k L L (A.length : Int)) true := by
 intro rs
 induction rs with
 | nil =>
  intro A e
  rw [List.append_nil] at e
  refine ev_now fun k => ?_
  simp only [laws_eqJobS.l0]
  rw [if_neg (by rw [e]; omega)]
 | cons r rs ih =>
  intro A e
  obtain ⟨q1, q2⟩ := hr r (by rw [← e]; simp)
  have hlt : A.length < L.length := by rw [← e]; simp
  have key := ih (A ++ [r]) (by rw [List.append_assoc, List.singleton_append]; exact e)
  rw [List.length_append, List.length_singleton] at key
  have hrd : rd_T104 L (A.length : Int) = r := by rw [← e]; exact rd_midJ A r rs
  obtain ⟨m, e1, e2⟩ := evs2 (eqJob_ev r.f0 r.f1 r.f4 r.f2 r.f3 q1 q2) key
  refine ⟨m + 1, fun k hk => ?_⟩
  obtain ⟨j, rfl⟩ : ∃ j, k = m + j + 1 := ⟨k - m - 1, by omega⟩
  simp only [laws_eqJobS.l0, hrd, e1 j, Option.bind_some, if_true]
  rw [if_pos (by omega), if_pos (by omega), if_pos (by omega), wsucc (by omega)]
  exact e2 j
theorem eqJobS_ev (L : List S104) (hn : L.length ≤ 1048576) (hr : ∀ r ∈ L, r.f2.length ≤ 1048576 ∧ r.f3.length ≤ 1048576) : Ev (fun k => laws_eqJobS.f k L L) true := by
 refine Ev.congr (fun k => ?_) (eqJobS_l L hn hr L [] rfl)
 simp only [laws_eqJobS.f]
 rw [if_pos trivial]
 rfl

theorem markJobS_l : ∀ (rs A : List S104) (m : Int), 0 ≤ m → m + totJ rs ≤ 4611686018427387904 → A.length + rs.length ≤ 1048576 → ∃ X, Ev (fun k => laws_markJobS.l0 k (A ++ rs) m (A.length : Int)) (m + totJ rs, X) := by
 intro rs
 induction rs with
 | nil =>
  intro A m h0 hm hl
  refine ⟨A, ev_now fun k => ?_⟩
  simp only [laws_markJobS.l0]
  rw [if_neg (by simp)]
  simp [totJ]
 | cons r rs ih =>
  intro A m h0 hm hl
  rw [totJ] at hm
  rw [List.length_cons] at hl
  obtain ⟨X, key⟩ := ih (A ++ [(⟨m, m + 1, marksI r.f2.length (m + 2), marksI r.f3.length (m + 2 + r.f2.length), m + 2 + r.f2.length + r.f3.length⟩ : S104)]) (m + 3 + r.f2.length + r.f3.length) (by omega) (by omega) (by rw [List.length_append, List.length_singleton]; omega)
  rw [List.length_append, List.length_singleton, List.append_assoc, List.singleton_append] at key
  obtain ⟨n, e1, e2, e3⟩ := evs3 (markIntS_ev r.f2 (m + 2) (by omega) (by omega)) (markIntS_ev r.f3 (m + 2 + r.f2.length) (by omega) (by omega)) key
  refine ⟨X, n + 1, fun k hk => ?_⟩
  obtain ⟨j, rfl⟩ : ∃ j, k = n + j + 1 := ⟨k - n - 1, by omega⟩
  have w1 : wrap64 (m + 1) = m + 1 := w64 (by omega) (by omega)
  have w2 : wrap64 (m + 1 + 1) = m + 2 := by rw [w64 (by omega) (by omega)]; omega
  have w3 : wrap64 (m + 2 + (r.f2.length : Int) + r.f3.length + 1) = m + 3 + r.f2.length + r.f3.length := by rw [w64 (by omega) (by omega)]; omega
  simp only [laws_markJobS.l0, Int.toNat_natCast, rd_midJ, set_midJ, Option.bind_some, w1, w2, e1 j, e2 j, w3]
  rw [if_pos (by rw [List.length_append, List.length_cons]; omega), if_pos (by omega), wsucc (by omega), totJ]
  have e4 := e3 j
  rw [show m + 3 + (r.f2.length : Int) + r.f3.length + (totJ rs : Int) = m + ((3 + r.f2.length + r.f3.length + totJ rs : Nat) : Int) by omega] at e4
  exact e4
theorem markJobS_ev (L : List S104) (m : Int) (h0 : 0 ≤ m) (hm : m + totJ L ≤ 4611686018427387904) (hl : L.length ≤ 1048576) : ∃ X, Ev (fun k => laws_markJobS.f k L m) (m + totJ L, X) := by
 obtain ⟨X, h⟩ := markJobS_l L [] m h0 hm (by simpa using hl)
 exact ⟨X, Ev.congr (fun k => rfl) h⟩

theorem iEncJ_ev (kind f : Int) (A B : List Int) (n : Int) (h : jobB kind f A B n = true) : Ev (fun k => impl_encodeJob.f k kind f A B n) (jobEncV kind f A B n) := by
 unfold jobEncV
 rw [if_pos h]
 obtain ⟨⟨a1, a2⟩, ⟨b1, b2⟩, n0, n1⟩ := job_words h
 have hwn : isWord n := by unfold isWord; omega
 have h3 := put6 hwn
 have h4 := listE_len a2 a1
 have h5 := listE_len b2 b1
 have hend : Ev (fun k => impl_encodeJob.l0 k (jobE kind f A B n) [A, B] (([A, B] : List (List Int)).length : Int) ((2 : Nat) : Int)) (jobE kind f A B n) := ev_now fun k => by
  simp only [impl_encodeJob.l0]
  rw [if_neg (by simp)]
 have k2 := iEncJ_l0 [A, B] 1 (by simp) (by simp) B rfl b1 b2 (([kind % 256, f % 256] ++ put (zz n)) ++ listE A) _ (by rw [List.length_append, List.length_append]; simp only [List.length_cons, List.length_nil]; omega) hend
 have k1 := iEncJ_l0 [A, B] 0 (by simp) (by simp) A rfl a1 a2 ([kind % 256, f % 256] ++ put (zz n)) _ (by rw [List.length_append]; simp only [List.length_cons, List.length_nil]; omega) k2
 obtain ⟨m, e2, e3⟩ := evs2 (iPut_ev n hwn) k1
 refine ⟨m, fun k hk => ?_⟩
 obtain ⟨j, rfl⟩ : ∃ j, k = m + j := ⟨k - m, by omega⟩
 have c1 : ([kind % 256, f % 256] : List Int).length + (put (zz n)).length < 140737488355328 := by simp only [List.length_cons, List.length_nil]; omega
 have e3' := e3 j
 simp only [impl_encodeJob.f, e2 j, Option.bind_some, c1, if_true]
 exact e3'

theorem putAll_isB : ∀ l : List Int, isB (putAll l) := by
 intro l
 induction l with
 | nil => intro y hy; simp [putAll] at hy
 | cons x r ih => exact isB_append (put_isB _) ih
theorem jobEncV_isB (kind f : Int) (A B : List Int) (n : Int) : isB (jobEncV kind f A B n) := by
 unfold jobEncV
 split
 · unfold jobE listE
   refine isB_append (isB_append (isB_append ?_ (put_isB _)) (isB_append (put_isB _) (putAll_isB _))) (isB_append (put_isB _) (putAll_isB _))
   intro y hy
   simp only [List.mem_cons, List.not_mem_nil, or_false] at hy
   omega
 · intro y hy; simp at hy

def packOk (t s : Int) (i : Nat) (j : S104) : Bool := jobB j.f0 j.f1 j.f2 j.f3 j.f4 && (decide (0 ≤ s ∧ s ≤ 2147483647 - i) && decide (0 ≤ t ∧ t ≤ 99))
def packL (t s : Int) : List S104 → Nat → List Int → List Int × Bool
 | [], _, acc => (acc, true)
 | j :: r, i, acc => if packOk t s i j = true then packL t s r (i + 1) (acc ++ encB t (s + i) (jobEncV j.f0 j.f1 j.f2 j.f3 j.f4)) else ([], false)
def packV (t s : Int) (js : List S104) : List Int × Bool := if (js.length : Int) > 50 then ([], false) else packL t s js 0 []
theorem packL_len (t s : Int) : ∀ (rs : List S104) (i : Nat) (acc : List Int), (packL t s rs i acc).1.length ≤ acc.length + 5013 * rs.length := by
 intro rs
 induction rs with
 | nil => intro i acc; simp [packL]
 | cons r rs ih =>
  intro i acc
  rw [packL]
  split
  · refine Nat.le_trans (ih _ _) ?_
    have := encB_len t (s + i) (jobEncV r.f0 r.f1 r.f2 r.f3 r.f4)
    rw [List.length_append, List.length_cons]
    omega
  · simp
theorem packV_len (t s : Int) (js : List S104) : (packV t s js).1.length ≤ 250650 := by
 unfold packV
 split
 · simp
 · refine Nat.le_trans (packL_len t s js 0 []) ?_
   rw [List.length_nil]
   omega

theorem sPack_l (t s : Int) (L : List S104) (hn : L.length ≤ 50) (hr : ∀ r ∈ L, r.f2.length ≤ 1048576 ∧ r.f3.length ≤ 1048576) : ∀ (rs A : List S104) (acc : List Int), A ++ rs = L → acc.length ≤ 6000 * A.length → Ev (fun k => spec_PackJobs.l0 k t s L acc (A.length : Int)) (packL t s rs A.length acc) := by
 intro rs
 induction rs with
 | nil =>
  intro A acc e ha
  rw [List.append_nil] at e
  refine ev_now fun k => ?_
  simp only [spec_PackJobs.l0]
  rw [if_neg (by rw [e]; omega)]
  rfl
 | cons r rs ih =>
  intro A acc e ha
  obtain ⟨q1, q2⟩ := hr r (by rw [← e]; simp)
  have hlt : A.length < L.length := by rw [← e]; simp
  have hrd : rd_T104 L (A.length : Int) = r := by rw [← e]; exact rd_midJ A r rs
  have c1 : (A.length : Int) < (L.length : Int) := by omega
  have c2 : (0 : Int) ≤ (A.length : Int) := by omega
  have wM : wrap64 (2147483647 - (A.length : Int)) = 2147483647 - (A.length : Int) := w64 (by omega) (by omega)
  have hJ := sJob_ev r.f0 r.f1 r.f2 r.f3 r.f4 q1 q2
  have hl5 := jobEncV_len r.f0 r.f1 r.f2 r.f3 r.f4
  rw [packL]
  by_cases h1 : jobB r.f0 r.f1 r.f2 r.f3 r.f4 = true
  · by_cases h2 : 0 ≤ s ∧ s ≤ 2147483647 - (A.length : Int)
    · by_cases h3 : 0 ≤ t ∧ t ≤ 99
      · have hp : packOk t s A.length r = true := by unfold packOk; rw [h1, decide_eq_true h2, decide_eq_true h3]; rfl
        rw [if_pos hp]
        have wS : wrap64 (s + (A.length : Int)) = s + A.length := w64 (by omega) (by omega)
        have hl6 := encB_len t (s + A.length) (jobEncV r.f0 r.f1 r.f2 r.f3 r.f4)
        have key := ih (A ++ [r]) (acc ++ encB t (s + A.length) (jobEncV r.f0 r.f1 r.f2 r.f3 r.f4)) (by rw [List.append_assoc, List.singleton_append]; exact e) (by rw [List.length_append, List.length_append, List.length_singleton]; omega)
        rw [List.length_append, List.length_singleton] at key
        obtain ⟨n, e1, e2, e3, e4, e5⟩ := evs5 hJ (sEncJob_ev r.f0 r.f1 r.f2 r.f3 r.f4 q1 q2) (sEncF_ev t (s + A.length) (jobEncV r.f0 r.f1 r.f2 r.f3 r.f4) (jobEncV_isB _ _ _ _ _)) (sJoinB_ev acc (encB t (s + A.length) (jobEncV r.f0 r.f1 r.f2 r.f3 r.f4)) (by omega)) key
        refine ⟨n + 2, fun k hk => ?_⟩
        obtain ⟨j, rfl⟩ : ∃ j, k = n + j + 1 + 1 := ⟨k - n - 2, by omega⟩
        have e1' := e1 (j + 1)
        rw [show n + (j + 1) = n + j + 1 by omega] at e1'
        simp only [spec_PackJobs.l0, c1, c2, hrd, e1', h1, in_eq, wM, decide_eq_true h2, decide_eq_true h3, Option.bind_some, if_true, Bool.not_true]
        simp only [spec_PackJobs.j1, c1, c2, hrd, e2 j, wS, e3 j, e4 j, Option.bind_some, if_true, Bool.false_eq_true, if_false]
        rw [wsucc (by omega)]
        exact e5 j
      · have hp : ¬ packOk t s A.length r = true := by unfold packOk; rw [decide_eq_false h3]; simp
        rw [if_neg hp]
        obtain ⟨n, e1⟩ := evs1 hJ
        refine ⟨n + 2, fun k hk => ?_⟩
        obtain ⟨j, rfl⟩ : ∃ j, k = n + j + 1 + 1 := ⟨k - n - 2, by omega⟩
        have e1' := e1 (j + 1)
        rw [show n + (j + 1) = n + j + 1 by omega] at e1'
        simp only [spec_PackJobs.l0, c1, c2, hrd, e1', h1, in_eq, wM, decide_eq_true h2, decide_eq_false h3, Option.bind_some, if_true, Bool.not_false]
        simp only [spec_PackJobs.j1, if_true]
    · have hp : ¬ packOk t s A.length r = true := by unfold packOk; rw [decide_eq_false h2]; simp
      rw [if_neg hp]
      obtain ⟨n, e1⟩ := evs1 hJ
      refine ⟨n + 2, fun k hk => ?_⟩
      obtain ⟨j, rfl⟩ : ∃ j, k = n + j + 1 + 1 := ⟨k - n - 2, by omega⟩
      have e1' := e1 (j + 1)
      rw [show n + (j + 1) = n + j + 1 by omega] at e1'
      simp only [spec_PackJobs.l0, c1, c2, hrd, e1', h1, in_eq, wM, decide_eq_false h2, Option.bind_some, if_true, Bool.false_eq_true, if_false]
      simp only [spec_PackJobs.j1, if_true]
  · rw [Bool.not_eq_true] at h1
    have hp : ¬ packOk t s A.length r = true := by unfold packOk; rw [h1]; simp
    rw [if_neg hp]
    obtain ⟨n, e1⟩ := evs1 hJ
    refine ⟨n + 2, fun k hk => ?_⟩
    obtain ⟨j, rfl⟩ : ∃ j, k = n + j + 1 + 1 := ⟨k - n - 2, by omega⟩
    have e1' := e1 (j + 1)
    rw [show n + (j + 1) = n + j + 1 by omega] at e1'
    simp only [spec_PackJobs.l0, c1, c2, hrd, e1', h1, Option.bind_some, if_true, Bool.false_eq_true, if_false]
    simp only [spec_PackJobs.j1, if_true]
theorem sPack_ev (t s : Int) (L : List S104) (hr : ∀ r ∈ L, r.f2.length ≤ 1048576 ∧ r.f3.length ≤ 1048576) : Ev (fun k => spec_PackJobs.f k t s L) (packV t s L) := by
 unfold packV
 by_cases h : (L.length : Int) > 50
 · rw [if_pos h]
   refine ev_some fun k => ?_
   simp only [spec_PackJobs.f]
   rw [if_pos h]
 · rw [if_neg h]
   refine Ev.congr (fun k => ?_) (sPack_l t s L (by omega) hr L [] [] rfl (by simp))
   simp only [spec_PackJobs.f]
   rw [if_neg h]
   rfl

theorem iPack_l (t s : Int) (hs : -9223372036854775808 ≤ s) (L : List S104) (hn : L.length ≤ 50) (hr : ∀ r ∈ L, r.f2.length ≤ 1048576 ∧ r.f3.length ≤ 1048576) : ∀ (rs A : List S104) (acc : List Int), A ++ rs = L → acc.length ≤ 6000 * A.length → (A = [] ∨ 0 ≤ s) → Ev (fun k => impl_PackJobs.l0 k t s acc L (L.length : Int) (A.length : Int)) (packL t s rs A.length acc) := by
 intro rs
 induction rs with
 | nil =>
  intro A acc e ha hz
  rw [List.append_nil] at e
  refine ev_now fun k => ?_
  simp only [impl_PackJobs.l0]
  rw [if_neg (by rw [e]; omega)]
  rfl
 | cons r rs ih =>
  intro A acc e ha hz
  obtain ⟨q1, q2⟩ := hr r (by rw [← e]; simp)
  have hlt : A.length < L.length := by rw [← e]; simp
  have hrd : rd_T104 L (A.length : Int) = r := by rw [← e]; exact rd_midJ A r rs
  have c1 : (A.length : Int) < (L.length : Int) := by omega
  have c2 : (0 : Int) ≤ (A.length : Int) := by omega
  have wM : wrap64 (2147483647 - (A.length : Int)) = 2147483647 - (A.length : Int) := w64 (by omega) (by omega)
  have hJ := iJob_ev r.f0 r.f1 r.f2 r.f3 r.f4 q1 q2
  have hl5 := jobEncV_len r.f0 r.f1 r.f2 r.f3 r.f4
  have hA0 : A = [] → A.length = 0 := fun h => by rw [h]; rfl
  rw [packL]
  by_cases h1 : jobB r.f0 r.f1 r.f2 r.f3 r.f4 = true
  · by_cases h2 : s ≤ 2147483647 - (A.length : Int)
    · have d2 : decide (s > 2147483647 - (A.length : Int)) = false := decide_eq_false (by omega)
      have wS : wrap64 (s + (A.length : Int)) = s + A.length := w64 (by omega) (by omega)
      by_cases h3 : 0 ≤ s ∧ 0 ≤ t ∧ t ≤ 99
      · have hp : packOk t s A.length r = true := by unfold packOk; rw [h1, decide_eq_true ⟨h3.1, h2⟩, decide_eq_true h3.2]; rfl
        rw [if_pos hp]
        have hf : frOk t (s + A.length) (jobEncV r.f0 r.f1 r.f2 r.f3 r.f4) := by unfold frOk; omega
        have hl6 := encB_len t (s + A.length) (jobEncV r.f0 r.f1 r.f2 r.f3 r.f4)
        have key := ih (A ++ [r]) (acc ++ encB t (s + A.length) (jobEncV r.f0 r.f1 r.f2 r.f3 r.f4)) (by rw [List.append_assoc, List.singleton_append]; exact e) (by rw [List.length_append, List.length_append, List.length_singleton]; omega) (.inr h3.1)
        rw [List.length_append, List.length_singleton] at key
        have hE := iEnc_ev t (s + A.length) (jobEncV r.f0 r.f1 r.f2 r.f3 r.f4) (jobEncV_isB _ _ _ _ _) hf
        rw [show (([199, 77] ++ encMid t (s + A.length) (jobEncV r.f0 r.f1 r.f2 r.f3 r.f4)) ++ be4 (cks (encMid t (s + A.length) (jobEncV r.f0 r.f1 r.f2 r.f3 r.f4)) 1 0)) = encB t (s + A.length) (jobEncV r.f0 r.f1 r.f2 r.f3 r.f4) by unfold encB; rw [if_pos hf]] at hE
        obtain ⟨n, e1, e2, e3, e4⟩ := evs4 hJ (iEncJ_ev r.f0 r.f1 r.f2 r.f3 r.f4 h1) hE key
        refine ⟨n + 2, fun k hk => ?_⟩
        obtain ⟨j, rfl⟩ : ∃ j, k = n + j + 1 + 1 := ⟨k - n - 2, by omega⟩
        have e1' := e1 (j + 1)
        rw [show n + (j + 1) = n + j + 1 by omega] at e1'
        have c3 : acc.length + (encB t (s + A.length) (jobEncV r.f0 r.f1 r.f2 r.f3 r.f4)).length < 140737488355328 := by omega
        simp only [impl_PackJobs.l0, c1, c2, hrd, e1', h1, wM, d2, Option.bind_some, if_true]
        simp only [impl_PackJobs.j1, e2 j, wS, iFrame, decide_eq_true hf, e3 j, c3, Option.bind_some, if_true, Bool.false_eq_true, if_false]
        rw [wsucc (by omega)]
        exact e4 j
      · have hp : ¬ packOk t s A.length r = true := by
         unfold packOk
         intro hh
         rw [Bool.and_eq_true, Bool.and_eq_true] at hh
         have g1 := of_decide_eq_true hh.2.1
         have g2 := of_decide_eq_true hh.2.2
         omega
        rw [if_neg hp]
        have hf : ¬ frOk t (s + A.length) (jobEncV r.f0 r.f1 r.f2 r.f3 r.f4) := by
         unfold frOk
         rcases hz with hz | hz
         · have := hA0 hz
           omega
         · omega
        obtain ⟨n, e1, e2⟩ := evs2 hJ (iEncJ_ev r.f0 r.f1 r.f2 r.f3 r.f4 h1)
        refine ⟨n + 2, fun k hk => ?_⟩
        obtain ⟨j, rfl⟩ : ∃ j, k = n + j + 1 + 1 := ⟨k - n - 2, by omega⟩
        have e1' := e1 (j + 1)
        rw [show n + (j + 1) = n + j + 1 by omega] at e1'
        simp only [impl_PackJobs.l0, c1, c2, hrd, e1', h1, wM, d2, Option.bind_some, if_true]
        simp only [impl_PackJobs.j1, e2 j, wS, iFrame, decide_eq_false hf, Option.bind_some, Bool.false_eq_true, if_false]
    · have d2 : decide (s > 2147483647 - (A.length : Int)) = true := decide_eq_true (by omega)
      have hp : ¬ packOk t s A.length r = true := by
       unfold packOk
       intro hh
       rw [Bool.and_eq_true, Bool.and_eq_true] at hh
       have g1 := of_decide_eq_true hh.2.1
       omega
      rw [if_neg hp]
      obtain ⟨n, e1⟩ := evs1 hJ
      refine ⟨n + 2, fun k hk => ?_⟩
      obtain ⟨j, rfl⟩ : ∃ j, k = n + j + 1 + 1 := ⟨k - n - 2, by omega⟩
      have e1' := e1 (j + 1)
      rw [show n + (j + 1) = n + j + 1 by omega] at e1'
      simp only [impl_PackJobs.l0, c1, c2, hrd, e1', h1, wM, d2, Option.bind_some, if_true]
      simp only [impl_PackJobs.j1, if_true]
  · rw [Bool.not_eq_true] at h1
    have hp : ¬ packOk t s A.length r = true := by unfold packOk; rw [h1]; simp
    rw [if_neg hp]
    obtain ⟨n, e1⟩ := evs1 hJ
    refine ⟨n + 2, fun k hk => ?_⟩
    obtain ⟨j, rfl⟩ : ∃ j, k = n + j + 1 + 1 := ⟨k - n - 2, by omega⟩
    have e1' := e1 (j + 1)
    rw [show n + (j + 1) = n + j + 1 by omega] at e1'
    simp only [impl_PackJobs.l0, c1, c2, hrd, e1', h1, Option.bind_some, if_true, Bool.false_eq_true, if_false]
    simp only [impl_PackJobs.j1, if_true]
theorem iPack_ev (t s : Int) (hs : -9223372036854775808 ≤ s) (L : List S104) (hr : ∀ r ∈ L, r.f2.length ≤ 1048576 ∧ r.f3.length ≤ 1048576) : Ev (fun k => impl_PackJobs.f k t s L) (packV t s L) := by
 unfold packV
 by_cases h : (L.length : Int) > 50
 · rw [if_pos h]
   refine ev_some fun k => ?_
   simp only [impl_PackJobs.f]
   rw [if_pos h]
 · rw [if_neg h]
   refine Ev.congr (fun k => ?_) (iPack_l t s hs L (by omega) hr L [] [] rfl (by simp) (.inl rfl))
   simp only [impl_PackJobs.f]
   rw [if_neg h]
   rfl

end Go.Proofs.Ytbojabmpcfclhaa.QFnExactPackJobs

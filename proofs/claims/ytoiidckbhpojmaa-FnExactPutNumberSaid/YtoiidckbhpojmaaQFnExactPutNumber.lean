/- Lemmas on the printed functions of FnExactPutNumber: what each comes to. -/
import Derived.Test.YtoiidckbhpojmaaPFnExactPutNumberx
import Derived.Test.YtoiidckbhpojmaaMath
namespace Go.Proofs.Ytoiidckbhpojmaa.QFnExactPutNumber
open Go.RowKit Go.Proofs.Ytoiidckbhpojmaa.PFnExactPutNumber Go.Proofs.YtoiidckbhpojmaaW.PrintWords Go.Proofs.YtoiidckbhpojmaaW.PrintLast Go.Proofs.Ytoiidckbhpojmaa.Math
set_option linter.unusedVariables false
set_option linter.unusedSimpArgs false

-- block eqByteS
theorem eqByteS_l (l : List Int) (hn : l.length ≤ 140737488355328) : ∀ (d i : Nat), l.length - i = d → i ≤ l.length → Ev (fun k => laws_eqByteS.l0 k l l (i : Int)) true := by
  intro d
  induction d with
  | zero =>
    intro i h hi
    refine ev_now fun k => ?_
    simp only [laws_eqByteS.l0]
    rw [if_neg (by omega)]
  | succ d ih =>
    intro i h hi
    refine Ev.step (fun k => ?_) (ih (i + 1) (by omega) (by omega))
    simp only [laws_eqByteS.l0]
    rw [if_pos (by omega), if_pos (by omega), if_pos (by omega), if_pos trivial, wsucc (by omega)]
theorem eqByteS_ev (l : List Int) (hn : l.length ≤ 140737488355328) : Ev (fun k => laws_eqByteS.f k l l) true := by
  refine Ev.congr (fun k => ?_) (eqByteS_l l hn l.length 0 (by omega) (by omega))
  simp only [laws_eqByteS.f]
  rw [if_pos trivial]
  rfl

-- block markByteS
theorem markByteS_l (l : List Int) (m : Int) (h0 : 0 ≤ m) (hn : m + l.length ≤ 4611686018427387904) : ∀ (d i : Nat), l.length - i = d → i ≤ l.length →
    Ev (fun k => laws_markByteS.l0 k ((marksB l.length m).take i ++ l.drop i) (m + i) (i : Int)) (m + l.length, marksB l.length m) := by
  have hlen := marksB_len l.length m
  intro d
  induction d with
  | zero =>
    intro i h hi
    refine ev_now fun k => ?_
    simp only [laws_markByteS.l0]
    rw [if_neg (by simp; omega), List.take_of_length_le (by omega), List.drop_eq_nil_of_le (by omega), List.append_nil, show i = l.length by omega]
  | succ d ih =>
    intro i h hi
    refine Ev.step (fun k => ?_) (ih (i + 1) (by omega) (by omega))
    simp only [laws_markByteS.l0]
    rw [if_pos (by simp; omega), if_pos (by omega), wsucc (by omega), Int.toNat_natCast, set_mark hlen (by omega) (by simp [marksB]), w64 (by omega) (by omega)]
    simp only [Int.natCast_add, Int.natCast_one, Int.add_assoc]
theorem markByteS_ev (l : List Int) (m : Int) (h0 : 0 ≤ m) (hn : m + l.length ≤ 4611686018427387904) : Ev (fun k => laws_markByteS.f k l m) (m + l.length, marksB l.length m) := by
  refine Ev.congr (fun k => ?_) (markByteS_l l m h0 hn l.length 0 (by omega) (by omega))
  simp [laws_markByteS.f]

-- block heldByteS
theorem heldByteS_l (n : Nat) (m : Int) (h0 : 0 ≤ m) (hn : m + n ≤ 4611686018427387904) : ∀ (d i : Nat), n - i = d → i ≤ n →
    Ev (fun k => laws_heldByteS.l0 k (marksB n m) (m + i) (i : Int)) (m + n) := by
  have hlen := marksB_len n m
  intro d
  induction d with
  | zero =>
    intro i h hi
    refine ev_now fun k => ?_
    simp only [laws_heldByteS.l0]
    rw [if_neg (by omega), show i = n by omega]
  | succ d ih =>
    intro i h hi
    refine Ev.step (fun k => ?_) (ih (i + 1) (by omega) (by omega))
    simp only [laws_heldByteS.l0]
    rw [if_pos (by omega), if_pos (by omega), if_pos (by rw [rd_eq (by omega)]; simp [marksB]), wsucc (by omega), w64 (by omega) (by omega)]
    simp only [Int.natCast_add, Int.natCast_one, Int.add_assoc]
theorem heldByteS_ev (n : Nat) (m : Int) (h0 : 0 ≤ m) (hn : m + n ≤ 4611686018427387904) : Ev (fun k => laws_heldByteS.f k (marksB n m) m) (m + n) := by
  refine Ev.congr (fun k => ?_) (heldByteS_l n m h0 hn n 0 (by omega) (by omega))
  simp [laws_heldByteS.f]

-- block l01In
theorem in_eq (a b c : Int) : spec_l01In.f a b c = some (decide (b ≤ a ∧ a ≤ c)) := by
  simp only [spec_l01In.f, if_dec]

-- block sPut
theorem sPut_l (u : Nat) : ∀ (acc : List Int), u < 4611686018427387904 → acc.length + (put u).length ≤ 1000000 → Ev (fun k => spec_PutNumber.l0 k acc (u : Int)) (acc ++ put u) := by
  induction u using Nat.strongRecOn with
  | _ u ih =>
    intro acc hu ha
    by_cases h : u < 128
    · refine ev_now fun k => ?_
      simp only [spec_PutNumber.l0]
      rw [if_neg (by omega), if_pos (by omega), put_small h, show ((u : Int)) % 256 = u by omega]
    · rw [put_big (by omega)] at ha ⊢
      refine Ev.step (fun k => ?_) (Ev.congr (fun k => rfl) (ih (u / 128) (by omega) (acc ++ [((u % 128 + 128 : Nat) : Int)]) (by omega) (by simp at ha ⊢; omega))) |> fun h => by simpa using h
      simp only [spec_PutNumber.l0]
      rw [if_pos (by omega), if_pos (by omega), Int.tmod_eq_emod_of_nonneg (by omega), Int.tdiv_eq_ediv_of_nonneg (by omega), w64 (by omega) (by omega), w64 (by omega) (by omega)]
      rw [show (128 + (u : Int) % 128) % 256 = ((u % 128 + 128 : Nat) : Int) by omega, show (u : Int) / 128 = ((u / 128 : Nat) : Int) by omega]
theorem sPut_ev (x : Int) (hx : (Lit.int .i64 x).wf = true) : Ev (fun k => spec_PutNumber.f k x) (putOf x) := by
  unfold putOf
  by_cases h : isWord x
  · have hz := zz_lt h
    have hl := put_len (zz x) 5 (by omega)
    rw [if_pos h]
    have key := sPut_l (zz x) [] (by omega) (by simp; omega)
    unfold isWord at h
    refine Ev.congr (fun k => ?_) (Ev.step (g := fun k => spec_PutNumber.j0 k [] (zz x : Int)) (fun k => rfl) key)
    simp only [spec_PutNumber.f, in_eq, Option.bind_some, decide_eq_true_eq]
    rw [if_pos h]
    by_cases hn : x < 0
    · rw [if_pos hn, w64 (x := -2 * x) (by omega) (by omega), w64 (by omega) (by omega), show -2 * x - 1 = (zz x : Int) by unfold zz; omega]
    · rw [if_neg hn, w64 (by omega) (by omega), show 2 * x = (zz x : Int) by unfold zz; omega]
  · rw [if_neg h]
    refine ev_some fun k => ?_
    unfold isWord at h
    simp only [spec_PutNumber.f, in_eq, Option.bind_some, decide_eq_true_eq]
    rw [if_neg h]

-- block iPut
theorem iPut_l (u : Nat) : ∀ (acc : List Int), u < 4611686018427387904 → acc.length + (put u).length ≤ 1000000 → Ev (fun k => impl_putNumber.l0 k (u : Int) acc) (acc ++ put u) := by
  induction u using Nat.strongRecOn with
  | _ u ih =>
    intro acc hu ha
    by_cases h : u < 128
    · refine ev_now fun k => ?_
      simp only [impl_putNumber.l0]
      rw [if_neg (by omega), if_pos (by omega), put_small h, show ((u : Int)) % 256 = u by omega]
    · rw [put_big (by omega)] at ha ⊢
      refine Ev.step (fun k => ?_) (Ev.congr (fun k => rfl) (ih (u / 128) (by omega) (acc ++ [((u % 128 + 128 : Nat) : Int)]) (by omega) (by simp at ha ⊢; omega))) |> fun h => by simpa using h
      simp only [impl_putNumber.l0]
      rw [if_pos (by omega), if_pos (by omega), Int.tmod_eq_emod_of_nonneg (by omega), Int.tdiv_eq_ediv_of_nonneg (by omega), w64 (x := (u : Int) / 128) (by omega) (by omega), w64 (by omega) (by omega)]
      rw [show ((u : Int) % 128 + 128) % 256 = ((u % 128 + 128 : Nat) : Int) by omega, show (u : Int) / 128 = ((u / 128 : Nat) : Int) by omega]
theorem iPut_ev (x : Int) (h : isWord x) : Ev (fun k => impl_putNumber.f k x) (put (zz x)) := by
  have hz := zz_lt h
  have hl := put_len (zz x) 5 (by omega)
  have key := iPut_l (zz x) [] (by omega) (by simp; omega)
  unfold isWord at h
  refine Ev.congr (fun k => ?_) (Ev.step (g := fun k => impl_putNumber.j0 k (zz x : Int)) (fun k => rfl) key)
  simp only [impl_putNumber.f]
  by_cases hn : x < 0
  · rw [if_pos hn, w64 (x := -2 * x) (by omega) (by omega), w64 (by omega) (by omega), show -2 * x - 1 = (zz x : Int) by unfold zz; omega]
  · rw [if_neg hn, w64 (by omega) (by omega), show 2 * x = (zz x : Int) by unfold zz; omega]

-- block iPutN
theorem iPutN_ev (x : Int) : Ev (fun k => impl_PutNumber.f k x) (putOf x) := by
  unfold putOf
  by_cases h : isWord x
  · rw [if_pos h]
    have key := iPut_ev x h
    unfold isWord at h
    refine Ev.congr (fun k => ?_) key
    simp only [impl_PutNumber.f]
    rw [if_neg (by omega), if_neg (by omega)]
    simp
  · rw [if_neg h]
    refine ev_some fun k => ?_
    unfold isWord at h
    simp only [impl_PutNumber.f]
    by_cases h1 : x < -1099511627776
    · rw [if_pos h1]
    · rw [if_neg h1, if_pos (by omega)]

end Go.Proofs.Ytoiidckbhpojmaa.QFnExactPutNumber

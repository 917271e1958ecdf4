/- Lemmas on the printed functions of FnExactEncodeFrame: what each comes to. -/
import Derived.Test.YtgoebfelalapaaaPFnExactEncodeFramex
import Derived.Test.YtgoebfelalapaaaNtt
namespace Go.Proofs.Ytgoebfelalapaaa.QFnExactEncodeFrame
open Go.RowKit Go.Proofs.Ytgoebfelalapaaa.PFnExactEncodeFrame Go.Proofs.YtgoebfelalapaaaW.PrintWords Go.Proofs.YtgoebfelalapaaaW.PrintLast Go.Proofs.Ytgoebfelalapaaa.Math
set_option linter.unusedVariables false
set_option linter.unusedSimpArgs false

-- block toByteS
theorem toByteS_l (l : List Int) (hn : l.length ≤ 140737488355328) : ∀ (d i : Nat), l.length - i = d → i ≤ l.length →
    Ev (fun k => laws_toByteS.l0 k l (l.take i ++ List.replicate (l.length - i) 0) (i : Int)) l := by
  intro d
  induction d with
  | zero =>
    intro i h hi
    refine ev_now fun k => ?_
    simp only [laws_toByteS.l0]
    rw [if_neg (by omega), fill_all l 0 i (by omega)]
  | succ d ih =>
    intro i h hi
    refine Ev.step (fun k => ?_) (ih (i + 1) (by omega) (by omega))
    simp only [laws_toByteS.l0]
    rw [if_pos (by omega), if_pos (by omega), if_pos (by simp; omega), wsucc (by omega), Int.toNat_natCast, set_fill l 0 _ i (by omega) (rd_eq (by omega))]
theorem toByteS_ev (l : List Int) (hn : l.length ≤ 140737488355328) : Ev (fun k => laws_toByteS.f k l) l := by
  refine Ev.congr (fun k => ?_) (toByteS_l l hn l.length 0 (by omega) (by omega))
  simp only [laws_toByteS.f]
  rw [if_pos (by omega), if_pos (by rw [Int.toNat_natCast]; omega), Int.toNat_natCast, fill_zero l 0]
  rfl

-- block eqByteS
theorem eqByteS_l (l : List Int) (hn : l.length ≤ 140737488355328) : ∀ (d i : Nat), l.length - i = d → i ≤ l.length → Ev (fun k => laws_eqByteS.l0 k l l (i : Int)) true := by
  intro d
  induction d with
  | zero =>
    intro i h hi
    refine ev_now fun k => ?_
    simp only [laws_eqByteS.l0]
    rw [if_neg (by omega)]
  | succ d ih =>
    intro i h hi
    refine Ev.step (fun k => ?_) (ih (i + 1) (by omega) (by omega))
    simp only [laws_eqByteS.l0]
    rw [if_pos (by omega), if_pos (by omega), if_pos (by omega), if_pos trivial, wsucc (by omega)]
theorem eqByteS_ev (l : List Int) (hn : l.length ≤ 140737488355328) : Ev (fun k => laws_eqByteS.f k l l) true := by
  refine Ev.congr (fun k => ?_) (eqByteS_l l hn l.length 0 (by omega) (by omega))
  simp only [laws_eqByteS.f]
  rw [if_pos trivial]
  rfl

-- block markByteS
theorem markByteS_l (l : List Int) (m : Int) (h0 : 0 ≤ m) (hn : m + l.length ≤ 4611686018427387904) : ∀ (d i : Nat), l.length - i = d → i ≤ l.length →
    Ev (fun k => laws_markByteS.l0 k ((marksB l.length m).take i ++ l.drop i) (m + i) (i : Int)) (m + l.length, marksB l.length m) := by
  have hlen := marksB_len l.length m
  intro d
  induction d with
  | zero =>
    intro i h hi
    refine ev_now fun k => ?_
    simp only [laws_markByteS.l0]
    rw [if_neg (by simp; omega), List.take_of_length_le (by omega), List.drop_eq_nil_of_le (by omega), List.append_nil, show i = l.length by omega]
  | succ d ih =>
    intro i h hi
    refine Ev.step (fun k => ?_) (ih (i + 1) (by omega) (by omega))
    simp only [laws_markByteS.l0]
    rw [if_pos (by simp; omega), if_pos (by omega), wsucc (by omega), Int.toNat_natCast, set_mark hlen (by omega) (by simp [marksB]), w64 (by omega) (by omega)]
    simp only [Int.natCast_add, Int.natCast_one, Int.add_assoc]
theorem markByteS_ev (l : List Int) (m : Int) (h0 : 0 ≤ m) (hn : m + l.length ≤ 4611686018427387904) : Ev (fun k => laws_markByteS.f k l m) (m + l.length, marksB l.length m) := by
  refine Ev.congr (fun k => ?_) (markByteS_l l m h0 hn l.length 0 (by omega) (by omega))
  simp [laws_markByteS.f]

-- block heldByteS
theorem heldByteS_l (n : Nat) (m : Int) (h0 : 0 ≤ m) (hn : m + n ≤ 4611686018427387904) : ∀ (d i : Nat), n - i = d → i ≤ n →
    Ev (fun k => laws_heldByteS.l0 k (marksB n m) (m + i) (i : Int)) (m + n) := by
  have hlen := marksB_len n m
  intro d
  induction d with
  | zero =>
    intro i h hi
    refine ev_now fun k => ?_
    simp only [laws_heldByteS.l0]
    rw [if_neg (by omega), show i = n by omega]
  | succ d ih =>
    intro i h hi
    refine Ev.step (fun k => ?_) (ih (i + 1) (by omega) (by omega))
    simp only [laws_heldByteS.l0]
    rw [if_pos (by omega), if_pos (by omega), if_pos (by rw [rd_eq (by omega)]; simp [marksB]), wsucc (by omega), w64 (by omega) (by omega)]
    simp only [Int.natCast_add, Int.natCast_one, Int.add_assoc]
theorem heldByteS_ev (n : Nat) (m : Int) (h0 : 0 ≤ m) (hn : m + n ≤ 4611686018427387904) : Ev (fun k => laws_heldByteS.f k (marksB n m) m) (m + n) := by
  refine Ev.congr (fun k => ?_) (heldByteS_l n m h0 hn n 0 (by omega) (by omega))
  simp [laws_heldByteS.f]

-- block l01In
theorem in_eq (a b c : Int) : spec_l01In.f a b c = some (decide (b ≤ a ∧ a ≤ c)) := by
  simp only [spec_l01In.f, if_dec]

-- block sCks
theorem sCks_l (l : List Int) (hn : l.length ≤ 140737488355328) (hb : isB l) : ∀ (d i : Nat) (x y : Int), l.length - i = d → 0 ≤ x → x ≤ 65520 → 0 ≤ y → y ≤ 65520 →
    Ev (fun k => spec_CheckSum.l0 k l x y (i : Int)) (cks (l.drop i) x y) := by
  intro d
  induction d with
  | zero =>
    intro i x y h h1 h2 h3 h4
    refine ev_now fun k => ?_
    simp only [spec_CheckSum.l0]
    rw [if_neg (by omega), List.drop_eq_nil_of_le (by omega), w64 (x := 65536 * y) (by omega) (by omega), w64 (by omega) (by omega), cks]
  | succ d ih =>
    intro i x y h h1 h2 h3 h4
    have hc := isB_at hb (show i < l.length by omega)
    rw [cks_at (by omega)]
    refine Ev.step (fun k => ?_) (ih (i + 1) _ _ (by omega) (by omega) (by omega) (by omega) (by omega))
    simp only [spec_CheckSum.l0]
    rw [if_pos (by omega), if_pos (by omega), rd_eq (by omega), w64 (x := l[i]) (by omega) (by omega), w64 (x := x + l[i]) (by omega) (by omega), Int.tmod_eq_emod_of_nonneg (a := x + l[i]) (by omega), w64 (x := y + _) (by omega) (by omega), Int.tmod_eq_emod_of_nonneg (by omega), wsucc (by omega)]
theorem sCks_ev (l : List Int) (hn : l.length ≤ 140737488355328) (hb : isB l) : Ev (fun k => spec_CheckSum.f k l) (cks l 1 0) := by
  refine Ev.congr (fun k => ?_) (sCks_l l hn hb l.length 0 1 0 (by omega) (by omega) (by omega) (by omega) (by omega))
  simp [spec_CheckSum.f]

-- block iCks
theorem iCks_l (l : List Int) (hn : l.length ≤ 140737488355328) (hb : isB l) : ∀ (d i : Nat) (x y : Int), l.length - i = d → 0 ≤ x → x ≤ 65520 → 0 ≤ y → y ≤ 65520 →
    Ev (fun k => impl_checkSum.l0 k x y l (l.length : Int) (i : Int)) (cks (l.drop i) x y) := by
  intro d
  induction d with
  | zero =>
    intro i x y h h1 h2 h3 h4
    refine ev_now fun k => ?_
    simp only [impl_checkSum.l0]
    rw [if_neg (by omega), List.drop_eq_nil_of_le (by omega), w64 (x := 65536 * y) (by omega) (by omega), w64 (by omega) (by omega), cks]
  | succ d ih =>
    intro i x y h h1 h2 h3 h4
    have hc := isB_at hb (show i < l.length by omega)
    rw [cks_at (by omega)]
    refine Ev.step (fun k => ?_) (ih (i + 1) _ _ (by omega) (by omega) (by omega) (by omega) (by omega))
    simp only [impl_checkSum.l0]
    rw [if_pos (by omega), if_pos (by omega), if_pos (by omega), rd_eq (by omega), w64 (x := l[i]) (by omega) (by omega), w64 (x := x + l[i]) (by omega) (by omega), Int.tmod_eq_emod_of_nonneg (a := x + l[i]) (by omega), w64 (x := y + _) (by omega) (by omega), Int.tmod_eq_emod_of_nonneg (by omega), wsucc (by omega)]
theorem iCks_ev (l : List Int) (hn : l.length ≤ 140737488355328) (hb : isB l) : Ev (fun k => impl_checkSum.f k l) (cks l 1 0) := by
  refine Ev.congr (fun k => ?_) (iCks_l l hn hb l.length 0 1 0 (by omega) (by omega) (by omega) (by omega) (by omega))
  simp [impl_checkSum.f]

-- block szByteS
theorem szByteS_eq (l : List Int) (m : Int) (h0 : 0 ≤ m) (h1 : m ≤ 1048576) (hl : l.length ≤ maxLen) : laws_szByteS.f l m = some (if m < l.length then -1 else m - l.length) := by
  have hm : maxLen = 9223372036854775807 := rfl
  simp only [laws_szByteS.f]
  rw [w64 (by omega) (by omega)]
  by_cases h : m < l.length
  · rw [if_pos h, if_pos (by omega)]
  · rw [if_neg h, if_neg (by omega)]

-- block szFrame
theorem szFrame_eq (a b : Int) (l : List Int) (m : Int) (h0 : 0 ≤ m) (h1 : m ≤ 1048576) (hl : l.length ≤ maxLen) : laws_szFrame.f a b l m = some (if m < l.length then -1 else m - l.length) := by
  simp only [laws_szFrame.f, szByteS_eq l m h0 h1 hl, Option.bind_some]
  by_cases h : m < l.length
  · simp [h]
  · simp only [h, if_false]
    rw [if_neg (by omega)]

-- block toFrame
theorem toFrame_ev (a b : Int) (l : List Int) (hn : l.length ≤ 140737488355328) : Ev (fun k => laws_toFrame.f k a b l) (a, b, l) :=
  Ev.congr (fun k => rfl) (Ev.bind (toByteS_ev l hn) (f := fun _ t => some (a, b, t)) (Ev.now _))

-- block eqFrame
theorem eqFrame_ev (a b : Int) (l : List Int) (hn : l.length ≤ 140737488355328) : Ev (fun k => laws_eqFrame.f k a b l a b l) true := by
  obtain ⟨K, h⟩ := eqByteS_ev l hn
  exact ⟨K, fun k hk => by simp only [laws_eqFrame.f, h k hk, Option.bind_some, if_true]⟩

-- block frOk
def frOk (a b : Int) (l : List Int) : Prop := 0 ≤ a ∧ a ≤ 99 ∧ 0 ≤ b ∧ b ≤ 2147483647 ∧ l.length ≤ 5000
instance frOk_dec (a b : Int) (l : List Int) : Decidable (frOk a b l) := by unfold frOk; infer_instance

-- block sFrameOk
theorem sFrameOk (a b : Int) (l : List Int) : spec_FrameOk.f a b l = some (decide (frOk a b l)) := by
  simp only [spec_FrameOk.f, in_eq, Option.bind_some, decide_eq_true_eq, if_dec]
  exact congrArg some (decide_eq_decide.2 (by unfold frOk; omega))

-- block iFrame
theorem iFrame (a b : Int) (l : List Int) : impl_isFrame.f a b l = some (decide (frOk a b l)) := by
  simp only [impl_isFrame.f, if_dec]
  exact congrArg some (decide_eq_decide.2 (by unfold frOk; omega))

-- block markFrame
theorem markFrame_ev (a b : Int) (l : List Int) (m : Int) (h0 : 0 ≤ m) (hn : m + l.length ≤ 4611686018427387904) : Ev (fun k => laws_markFrame.f k a b l m) (m + l.length, marksB l.length m) := by
  obtain ⟨K, h⟩ := markByteS_ev l m h0 hn
  exact ⟨K, fun k hk => by simp only [laws_markFrame.f, h k hk, Option.bind_some]⟩

-- block sBytes
theorem sBytes_l (l : List Int) (hn : l.length < 140737488355328) : ∀ (d i : Nat), l.length - i = d → i ≤ l.length →
    Ev (fun k => spec_l01Bytes.l0 k l (l.take i) (i : Int)) l := by
  intro d
  induction d with
  | zero =>
    intro i h hi
    refine ev_now fun k => ?_
    simp only [spec_l01Bytes.l0]
    rw [if_neg (by omega), List.take_of_length_le (by omega)]
  | succ d ih =>
    intro i h hi
    refine Ev.step (fun k => ?_) (ih (i + 1) (by omega) (by omega))
    simp only [spec_l01Bytes.l0]
    rw [if_pos (by omega), if_pos (by omega), if_pos (by simp; omega), wsucc (by omega), rd_eq (by omega), List.take_append_getElem (by omega)]
theorem sBytes_ev (l : List Int) (hn : l.length < 140737488355328) : Ev (fun k => spec_l01Bytes.f k l) l :=
  Ev.congr (fun k => rfl) (sBytes_l l hn l.length 0 (by omega) (by omega))

-- block be4
def be4 (c : Int) : List Int := [c / 16777216 % 256, c / 65536 % 256, c / 256 % 256, c % 256]

-- block sWide
theorem sWide_ev (c : Int) (h0 : 0 ≤ c) (h1 : c ≤ 4294967295) : Ev (fun k => spec_l11Wide.f k c 4) (be4 c) := by
  have e : ∀ n : Nat, n < 9223372036854775808 → Go.bits .and .i64 (n : Int) 255 % 256 = ((n % 256 : Nat) : Int) := by
    intro n hn
    rw [show (255 : Int) = ((255 : Nat) : Int) by rfl, bits_and255 n hn]
    omega
  have s0 : shr .i64 c 0 = ((c.toNat : Nat) : Int) := by show c / 2 ^ 0 = _; omega
  have s1 : shr .i64 c 8 = ((c.toNat / 256 : Nat) : Int) := by show c / 2 ^ 8 = _; omega
  have s2 : shr .i64 c 16 = ((c.toNat / 65536 : Nat) : Int) := by show c / 2 ^ 16 = _; omega
  have s3 : shr .i64 c 24 = ((c.toNat / 16777216 : Nat) : Int) := by show c / 2 ^ 24 = _; omega
  have w0 : IntKind.u64.wrap (wrap64 (8 * 0)) = 0 := by decide +kernel
  have w1 : IntKind.u64.wrap (wrap64 (8 * 1)) = 8 := by decide +kernel
  have w2 : IntKind.u64.wrap (wrap64 (8 * 2)) = 16 := by decide +kernel
  have w3 : IntKind.u64.wrap (wrap64 (8 * 3)) = 24 := by decide +kernel
  have v3 : wrap64 (4 - 1) = 3 := by decide +kernel
  have v2 : wrap64 (3 - 1) = 2 := by decide +kernel
  have v1 : wrap64 (2 - 1) = 1 := by decide +kernel
  have v0 : wrap64 (1 - 1) = 0 := by decide +kernel
  have vn : wrap64 (0 - 1) = -1 := by decide +kernel
  refine ⟨6, fun k hk => ?_⟩
  obtain ⟨j, rfl⟩ : ∃ j, k = j + 1 + 1 + 1 + 1 + 1 := ⟨k - 5, by omega⟩
  simp only [spec_l11Wide.f, spec_l11Wide.l0, v3, v2, v1, v0, vn, w0, w1, w2, w3, s0, s1, s2, s3]
  rw [e _ (by omega), e _ (by omega), e _ (by omega), e _ (by omega)]
  simp only [List.nil_append, List.length_nil, List.cons_append, List.length_cons]
  rw [if_pos (by omega), if_pos (by omega), if_pos (by omega), if_pos (by omega), if_pos (by omega), if_pos (by omega), if_pos (by omega), if_pos (by omega), if_pos (by omega), if_pos (by omega), if_pos (by omega), if_pos (by omega), if_neg (by omega)]
  unfold be4
  rw [show ((c.toNat / 16777216 % 256 : Nat) : Int) = c / 16777216 % 256 by omega, show ((c.toNat / 65536 % 256 : Nat) : Int) = c / 65536 % 256 by omega, show ((c.toNat / 256 % 256 : Nat) : Int) = c / 256 % 256 by omega, show ((c.toNat % 256 : Nat) : Int) = c % 256 by omega]

-- block iWide
theorem iWide_ev (c : Int) (h0 : 0 ≤ c) (h1 : c ≤ 4294967295) : Ev (fun k => impl_bigEndian.f k c 4) (be4 c) := by
  have v3 : wrap64 (4 - 1) = 3 := by decide +kernel
  have v2 : wrap64 (3 - 1) = 2 := by decide +kernel
  have v1 : wrap64 (2 - 1) = 1 := by decide +kernel
  have v0 : wrap64 (1 - 1) = 0 := by decide +kernel
  have vn : wrap64 (0 - 1) = -1 := by decide +kernel
  have t4 : ((4 : Int)).toNat = 4 := rfl
  have t3 : ((3 : Int)).toNat = 3 := rfl
  have t2 : ((2 : Int)).toNat = 2 := rfl
  have t1 : ((1 : Int)).toNat = 1 := rfl
  have t0 : ((0 : Int)).toNat = 0 := rfl
  have r : List.replicate 4 (0 : Int) = [0, 0, 0, 0] := rfl
  refine ⟨6, fun k hk => ?_⟩
  obtain ⟨j, rfl⟩ : ∃ j, k = j + 1 + 1 + 1 + 1 + 1 := ⟨k - 5, by omega⟩
  simp only [impl_bigEndian.f, impl_bigEndian.l0, v3, v2, v1, v0, vn, t4, t3, t2, t1, t0, r, List.set_cons_zero, List.set_cons_succ, List.length_cons, List.length_nil]
  rw [if_pos (by omega), if_pos (by omega), if_pos (by omega), if_pos (by omega), if_pos (by omega), if_pos (by omega), if_pos (by omega), if_pos (by omega), if_pos (by omega), if_pos (by omega), if_pos (by omega), if_pos (by omega), if_pos (by omega), if_pos (by omega), if_neg (by omega)]
  unfold be4
  rw [show c / 256 / 256 / 256 % 256 = c / 16777216 % 256 by omega, show c / 256 / 256 % 256 = c / 65536 % 256 by omega]

-- block be2
def be2 (c : Int) : List Int := [c / 256 % 256, c % 256]

-- block sWide2
theorem sWide2_ev (c : Int) (h0 : 0 ≤ c) (h1 : c ≤ 4294967295) : Ev (fun k => spec_l11Wide.f k c 2) (be2 c) := by
  have e : ∀ n : Nat, n < 9223372036854775808 → Go.bits .and .i64 (n : Int) 255 % 256 = ((n % 256 : Nat) : Int) := by
    intro n hn
    rw [show (255 : Int) = ((255 : Nat) : Int) by rfl, bits_and255 n hn]
    omega
  have s0 : shr .i64 c 0 = ((c.toNat : Nat) : Int) := by show c / 2 ^ 0 = _; omega
  have s1 : shr .i64 c 8 = ((c.toNat / 256 : Nat) : Int) := by show c / 2 ^ 8 = _; omega
  have w0 : IntKind.u64.wrap (wrap64 (8 * 0)) = 0 := by decide +kernel
  have w1 : IntKind.u64.wrap (wrap64 (8 * 1)) = 8 := by decide +kernel
  have v1 : wrap64 (2 - 1) = 1 := by decide +kernel
  have v0 : wrap64 (1 - 1) = 0 := by decide +kernel
  have vn : wrap64 (0 - 1) = -1 := by decide +kernel
  refine ⟨6, fun k hk => ?_⟩
  obtain ⟨j, rfl⟩ : ∃ j, k = j + 1 + 1 + 1 := ⟨k - 3, by omega⟩
  simp only [spec_l11Wide.f, spec_l11Wide.l0, v1, v0, vn, w0, w1, s0, s1]
  rw [e _ (by omega), e _ (by omega)]
  simp only [List.nil_append, List.length_nil, List.cons_append, List.length_cons]
  rw [if_pos (by omega), if_pos (by omega), if_pos (by omega), if_pos (by omega), if_pos (by omega), if_pos (by omega), if_neg (by omega)]
  unfold be2
  rw [show ((c.toNat / 256 % 256 : Nat) : Int) = c / 256 % 256 by omega, show ((c.toNat % 256 : Nat) : Int) = c % 256 by omega]

-- block iWide2
theorem iWide2_ev (c : Int) (h0 : 0 ≤ c) (h1 : c ≤ 4294967295) : Ev (fun k => impl_bigEndian.f k c 2) (be2 c) := by
  have v1 : wrap64 (2 - 1) = 1 := by decide +kernel
  have v0 : wrap64 (1 - 1) = 0 := by decide +kernel
  have vn : wrap64 (0 - 1) = -1 := by decide +kernel
  have t2 : ((2 : Int)).toNat = 2 := rfl
  have t1 : ((1 : Int)).toNat = 1 := rfl
  have t0 : ((0 : Int)).toNat = 0 := rfl
  have r : List.replicate 2 (0 : Int) = [0, 0] := rfl
  refine ⟨6, fun k hk => ?_⟩
  obtain ⟨j, rfl⟩ : ∃ j, k = j + 1 + 1 + 1 := ⟨k - 3, by omega⟩
  simp only [impl_bigEndian.f, impl_bigEndian.l0, v1, v0, vn, t2, t1, t0, r, List.set_cons_zero, List.set_cons_succ, List.length_cons, List.length_nil]
  rw [if_pos (by omega), if_pos (by omega), if_pos (by omega), if_pos (by omega), if_pos (by omega), if_pos (by omega), if_pos (by omega), if_pos (by omega), if_neg (by omega)]
  rfl

-- block sJoinB
theorem sJoinB_l (b : List Int) (a : List Int) (hn : a.length + b.length < 140737488355328) : ∀ (d i : Nat), b.length - i = d → i ≤ b.length → Ev (fun k => spec_l01Join.l0 k b (a ++ b.take i) (i : Int)) (a ++ b) := by
  intro d
  induction d with
  | zero =>
    intro i h hi
    refine ev_now fun k => ?_
    simp only [spec_l01Join.l0]
    rw [if_neg (by omega), List.take_of_length_le (by omega)]
  | succ d ih =>
    intro i h hi
    have key := ih (i + 1) (by omega) (by omega)
    refine Ev.step (fun k => ?_) key
    simp only [spec_l01Join.l0]
    rw [if_pos (by omega), if_pos (by omega), if_pos (by simp; omega), wsucc (by omega), rd_eq (by omega), List.append_assoc, List.take_append_getElem (by omega)]
theorem sJoinB_ev (a b : List Int) (hn : a.length + b.length < 140737488355328) : Ev (fun k => spec_l01Join.f k a b) (a ++ b) := by
  have key := sJoinB_l b a hn b.length 0 (by omega) (by omega)
  rw [List.take_zero, List.append_nil] at key
  obtain ⟨n, e1, e2⟩ := evs2 (sBytes_ev a (by omega)) key
  refine ⟨n, fun k hk => ?_⟩
  obtain ⟨j, rfl⟩ : ∃ j, k = n + j := ⟨k - n, by omega⟩
  simp only [spec_l01Join.f, e1 j, Option.bind_some]
  exact e2 j

-- block encP
/-- What lies between a frame's mark and its sum. -/
def encMid (a b : Int) (l : List Int) : List Int := (([a % 256] ++ be4 b) ++ be2 (l.length : Int)) ++ l
def encB (a b : Int) (l : List Int) : List Int := if frOk a b l then ([199, 77] ++ encMid a b l) ++ be4 (cks (encMid a b l) 1 0) else []
theorem encMid_len (a b : Int) (l : List Int) : (encMid a b l).length = l.length + 7 := by simp [encMid, be4, be2]
theorem encB_len (a b : Int) (l : List Int) : (encB a b l).length ≤ 5013 := by
  unfold encB
  split
  · rename_i h
    have := h.2.2.2.2
    rw [List.length_append, List.length_append, encMid_len]
    simp [be4]; omega
  · simp
theorem be_isB4 (c : Int) : isB (be4 c) := by
  intro x hx
  simp [be4] at hx
  omega
theorem be_isB2 (c : Int) : isB (be2 c) := by
  intro x hx
  simp [be2] at hx
  omega
theorem encMid_isB (a b : Int) (l : List Int) (hl : isB l) : isB (encMid a b l) := by
  refine isB_append (isB_append (isB_append (fun x hx => ?_) (be_isB4 b)) (be_isB2 _)) hl
  simp at hx
  omega

-- block sEncF
theorem sEncF_ev (a b : Int) (l : List Int) (hb : isB l) : Ev (fun k => spec_EncodeFrame.f k a b l) (encB a b l) := by
  unfold encB
  by_cases h : frOk a b l
  · have hl := h.2.2.2.2
    have hmid := encMid_len a b l
    have hc := cks_range (encMid a b l) 1 0 (by omega) (by omega) (by omega) (by omega)
    have h4 : ∀ c : Int, (be4 c).length = 4 := fun c => rfl
    have h2 : ∀ c : Int, (be2 c).length = 2 := fun c => rfl
    obtain ⟨n, e1, e2, e3, e4, e5, e6, e7, e8, e9⟩ := evs9 (sWide_ev b h.2.2.1 (by have := h.2.2.2.1; omega)) (sJoinB_ev [a % 256] (be4 b) (by simp [be4])) (sWide2_ev (l.length : Int) (by omega) (by omega)) (sJoinB_ev ([a % 256] ++ be4 b) (be2 (l.length : Int)) (by simp [be4, be2])) (sJoinB_ev (([a % 256] ++ be4 b) ++ be2 (l.length : Int)) l (by simp [be4, be2]; omega)) (sJoinB_ev [199, 77] (encMid a b l) (by rw [hmid]; simp; omega)) (sCks_ev (encMid a b l) (by omega) (encMid_isB a b l hb)) (sWide_ev (cks (encMid a b l) 1 0) hc.1 (by omega)) (sJoinB_ev ([199, 77] ++ encMid a b l) (be4 (cks (encMid a b l) 1 0)) (by rw [List.length_append, hmid, h4]; simp; omega))
    refine ⟨n, fun k hk => ?_⟩
    obtain ⟨j, rfl⟩ : ∃ j, k = n + j := ⟨k - n, by omega⟩
    have e5' : spec_l01Join.f (n + j) (([a % 256] ++ be4 b) ++ be2 (l.length : Int)) l = some (encMid a b l) := e5 j
    rw [if_pos h]
    simp only [spec_EncodeFrame.f, sFrameOk, decide_eq_true h, e1 j, e2 j, e3 j, e4 j, e5', e6 j, e7 j, e8 j, e9 j, Option.bind_some, if_true]
  · rw [if_neg h]
    refine ev_some fun k => ?_
    simp only [spec_EncodeFrame.f, sFrameOk, decide_eq_false h, Option.bind_some, Bool.false_eq_true, if_false]

-- block iEncF
theorem iEnc_ev (a b : Int) (l : List Int) (hb : isB l) (h : frOk a b l) : Ev (fun k => impl_encodeFrame.f k a b l) (([199, 77] ++ encMid a b l) ++ be4 (cks (encMid a b l) 1 0)) := by
  have hl := h.2.2.2.2
  have hmid := encMid_len a b l
  have hc := cks_range (encMid a b l) 1 0 (by omega) (by omega) (by omega) (by omega)
  have h4 : ∀ c : Int, (be4 c).length = 4 := fun c => rfl
  have h2 : ∀ c : Int, (be2 c).length = 2 := fun c => rfl
  obtain ⟨n, e1, e2, e3, e4⟩ := evs4 (iWide_ev b h.2.2.1 (by have := h.2.2.2.1; omega)) (iWide2_ev (l.length : Int) (by omega) (by omega)) (iCks_ev (encMid a b l) (by omega) (encMid_isB a b l hb)) (iWide_ev (cks (encMid a b l) 1 0) hc.1 (by omega))
  refine ⟨n, fun k hk => ?_⟩
  obtain ⟨j, rfl⟩ : ∃ j, k = n + j := ⟨k - n, by omega⟩
  have ey : (([199, 77, a % 256] ++ be4 b) ++ be2 (l.length : Int)) ++ l = [199, 77] ++ encMid a b l := by simp [encMid]
  have ed : ([199, 77] ++ encMid a b l).drop 2 = encMid a b l := rfl
  have c1 : ([199, 77, a % 256] : List Int).length + (be4 b).length < 140737488355328 := by simp [be4]
  have c2 : ([199, 77, a % 256] ++ be4 b).length + (be2 (l.length : Int)).length < 140737488355328 := by simp [be4, be2]
  have c3 : (([199, 77, a % 256] ++ be4 b) ++ be2 (l.length : Int)).length + l.length < 140737488355328 := by simp [be4, be2]; omega
  have c4 : (2 : Int) ≤ (([199, 77] ++ encMid a b l).length : Int) := by rw [List.length_append, hmid]; simp; omega
  have c5 : ([199, 77] ++ encMid a b l).length + (be4 (cks (encMid a b l) 1 0)).length < 140737488355328 := by rw [List.length_append, hmid, h4]; simp; omega
  simp only [impl_encodeFrame.f, Option.bind_some, e1 j, e2 j, c1, c2, c3, if_true]
  simp only [ey, ed, c4, c5, e3 j, e4 j, Option.bind_some, if_true]
theorem iEncF_ev (a b : Int) (l : List Int) (hb : isB l) : Ev (fun k => impl_EncodeFrame.f k a b l) (encB a b l) := by
  unfold encB
  by_cases h : frOk a b l
  · obtain ⟨n, e1⟩ := evs1 (iEnc_ev a b l hb h)
    refine ⟨n, fun k hk => ?_⟩
    obtain ⟨j, rfl⟩ : ∃ j, k = n + j := ⟨k - n, by omega⟩
    rw [if_pos h]
    simp only [impl_EncodeFrame.f, iFrame, decide_eq_true h, e1 j, Option.bind_some, if_true]
  · rw [if_neg h]
    refine ev_some fun k => ?_
    simp only [impl_EncodeFrame.f, iFrame, decide_eq_false h, Option.bind_some, Bool.false_eq_true, if_false]

end Go.Proofs.Ytgoebfelalapaaa.QFnExactEncodeFrame

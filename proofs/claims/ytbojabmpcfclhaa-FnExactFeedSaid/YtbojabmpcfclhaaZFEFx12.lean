/- Lemmas on the printed functions of FnExactFeed: what each comes to. -/
import Derived.Test.YtbojabmpcfclhaaZFEFx11
import Derived.Test.YtbojabmpcfclhaaZFEFV
namespace Go.Proofs.Ytbojabmpcfclhaa.QFnExactFeed
open Go.RowKit Go.Proofs.Ytbojabmpcfclhaa.PFnExactFeed Go.Proofs.YtbojabmpcfclhaaW.PrintWords Go.Proofs.YtbojabmpcfclhaaW.PrintLast Go.Proofs.Ytbojabmpcfclhaa.Math
set_option linter.unusedVariables false
set_option linter.unusedSimpArgs false

-- block toByteS
theorem toByteS_l (l : List Int) (hn : l.length ≤ 140737488355328) : ∀ (d i : Nat), l.length - i = d → i ≤ l.length →
    Ev (fun k => laws_toByteS.l0 k l (l.take i ++ List.replicate (l.length - i) 0) (i : Int)) l := by
  intro d
  induction d with
  | zero =>
    intro i h hi
    refine ev_now fun k => ?_
    simp only [laws_toByteS.l0]
    rw [if_neg (by omega), fill_all l 0 i (by omega)]
  | succ d ih =>
    intro i h hi
    refine Ev.step (fun k => ?_) (ih (i + 1) (by omega) (by omega))
    simp only [laws_toByteS.l0]
    rw [if_pos (by omega), if_pos (by omega), if_pos (by simp; omega), wsucc (by omega), Int.toNat_natCast, set_fill l 0 _ i (by omega) (rd_eq (by omega))]
theorem toByteS_ev (l : List Int) (hn : l.length ≤ 140737488355328) : Ev (fun k => laws_toByteS.f k l) l := by
  refine Ev.congr (fun k => ?_) (toByteS_l l hn l.length 0 (by omega) (by omega))
  simp only [laws_toByteS.f]
  rw [if_pos (by omega), if_pos (by rw [Int.toNat_natCast]; omega), Int.toNat_natCast, fill_zero l 0]
  rfl

-- block eqByteS
theorem eqByteS_l (l : List Int) (hn : l.length ≤ 140737488355328) : ∀ (d i : Nat), l.length - i = d → i ≤ l.length → Ev (fun k => laws_eqByteS.l0 k l l (i : Int)) true := by
  intro d
  induction d with
  | zero =>
    intro i h hi
    refine ev_now fun k => ?_
    simp only [laws_eqByteS.l0]
    rw [if_neg (by omega)]
  | succ d ih =>
    intro i h hi
    refine Ev.step (fun k => ?_) (ih (i + 1) (by omega) (by omega))
    simp only [laws_eqByteS.l0]
    rw [if_pos (by omega), if_pos (by omega), if_pos (by omega), if_pos trivial, wsucc (by omega)]
theorem eqByteS_ev (l : List Int) (hn : l.length ≤ 140737488355328) : Ev (fun k => laws_eqByteS.f k l l) true := by
  refine Ev.congr (fun k => ?_) (eqByteS_l l hn l.length 0 (by omega) (by omega))
  simp only [laws_eqByteS.f]
  rw [if_pos trivial]
  rfl

-- block markByteS
theorem markByteS_l (l : List Int) (m : Int) (h0 : 0 ≤ m) (hn : m + l.length ≤ 4611686018427387904) : ∀ (d i : Nat), l.length - i = d → i ≤ l.length →
    Ev (fun k => laws_markByteS.l0 k ((marksB l.length m).take i ++ l.drop i) (m + i) (i : Int)) (m + l.length, marksB l.length m) := by
  have hlen := marksB_len l.length m
  intro d
  induction d with
  | zero =>
    intro i h hi
    refine ev_now fun k => ?_
    simp only [laws_markByteS.l0]
    rw [if_neg (by simp; omega), List.take_of_length_le (by omega), List.drop_eq_nil_of_le (by omega), List.append_nil, show i = l.length by omega]
  | succ d ih =>
    intro i h hi
    refine Ev.step (fun k => ?_) (ih (i + 1) (by omega) (by omega))
    simp only [laws_markByteS.l0]
    rw [if_pos (by simp; omega), if_pos (by omega), wsucc (by omega), Int.toNat_natCast, set_mark hlen (by omega) (by simp [marksB]), w64 (by omega) (by omega)]
    simp only [Int.natCast_add, Int.natCast_one, Int.add_assoc]
theorem markByteS_ev (l : List Int) (m : Int) (h0 : 0 ≤ m) (hn : m + l.length ≤ 4611686018427387904) : Ev (fun k => laws_markByteS.f k l m) (m + l.length, marksB l.length m) := by
  refine Ev.congr (fun k => ?_) (markByteS_l l m h0 hn l.length 0 (by omega) (by omega))
  simp [laws_markByteS.f]

-- block heldByteS
theorem heldByteS_l (n : Nat) (m : Int) (h0 : 0 ≤ m) (hn : m + n ≤ 4611686018427387904) : ∀ (d i : Nat), n - i = d → i ≤ n →
    Ev (fun k => laws_heldByteS.l0 k (marksB n m) (m + i) (i : Int)) (m + n) := by
  have hlen := marksB_len n m
  intro d
  induction d with
  | zero =>
    intro i h hi
    refine ev_now fun k => ?_
    simp only [laws_heldByteS.l0]
    rw [if_neg (by omega), show i = n by omega]
  | succ d ih =>
    intro i h hi
    refine Ev.step (fun k => ?_) (ih (i + 1) (by omega) (by omega))
    simp only [laws_heldByteS.l0]
    rw [if_pos (by omega), if_pos (by omega), if_pos (by rw [rd_eq (by omega)]; simp [marksB]), wsucc (by omega), w64 (by omega) (by omega)]
    simp only [Int.natCast_add, Int.natCast_one, Int.add_assoc]
theorem heldByteS_ev (n : Nat) (m : Int) (h0 : 0 ≤ m) (hn : m + n ≤ 4611686018427387904) : Ev (fun k => laws_heldByteS.f k (marksB n m) m) (m + n) := by
  refine Ev.congr (fun k => ?_) (heldByteS_l n m h0 hn n 0 (by omega) (by omega))
  simp [laws_heldByteS.f]

-- block l01In
theorem in_eq (a b c : Int) : spec_l01In.f a b c = some (decide (b ≤ a ∧ a ≤ c)) := by
  simp only [spec_l01In.f, if_dec]

-- block sCks
theorem sCks_l (l : List Int) (hn : l.length ≤ 140737488355328) (hb : isB l) : ∀ (d i : Nat) (x y : Int), l.length - i = d → 0 ≤ x → x ≤ 65520 → 0 ≤ y → y ≤ 65520 →
    Ev (fun k => spec_CheckSum.l0 k l x y (i : Int)) (cks (l.drop i) x y) := by
  intro d
  induction d with
  | zero =>
    intro i x y h h1 h2 h3 h4
    refine ev_now fun k => ?_
    simp only [spec_CheckSum.l0]
    rw [if_neg (by omega), List.drop_eq_nil_of_le (by omega), w64 (x := 65536 * y) (by omega) (by omega), w64 (by omega) (by omega), cks]
  | succ d ih =>
    intro i x y h h1 h2 h3 h4
    have hc := isB_at hb (show i < l.length by omega)
    rw [cks_at (by omega)]
    refine Ev.step (fun k => ?_) (ih (i + 1) _ _ (by omega) (by omega) (by omega) (by omega) (by omega))
    simp only [spec_CheckSum.l0]
    rw [if_pos (by omega), if_pos (by omega), rd_eq (by omega), w64 (x := l[i]) (by omega) (by omega), w64 (x := x + l[i]) (by omega) (by omega), Int.tmod_eq_emod_of_nonneg (a := x + l[i]) (by omega), w64 (x := y + _) (by omega) (by omega), Int.tmod_eq_emod_of_nonneg (by omega), wsucc (by omega)]
theorem sCks_ev (l : List Int) (hn : l.length ≤ 140737488355328) (hb : isB l) : Ev (fun k => spec_CheckSum.f k l) (cks l 1 0) := by
  refine Ev.congr (fun k => ?_) (sCks_l l hn hb l.length 0 1 0 (by omega) (by omega) (by omega) (by omega) (by omega))
  simp [spec_CheckSum.f]

-- block iCks
theorem iCks_l (l : List Int) (hn : l.length ≤ 140737488355328) (hb : isB l) : ∀ (d i : Nat) (x y : Int), l.length - i = d → 0 ≤ x → x ≤ 65520 → 0 ≤ y → y ≤ 65520 →
    Ev (fun k => impl_checkSum.l0 k x y l (l.length : Int) (i : Int)) (cks (l.drop i) x y) := by
  intro d
  induction d with
  | zero =>
    intro i x y h h1 h2 h3 h4
    refine ev_now fun k => ?_
    simp only [impl_checkSum.l0]
    rw [if_neg (by omega), List.drop_eq_nil_of_le (by omega), w64 (x := 65536 * y) (by omega) (by omega), w64 (by omega) (by omega), cks]
  | succ d ih =>
    intro i x y h h1 h2 h3 h4
    have hc := isB_at hb (show i < l.length by omega)
    rw [cks_at (by omega)]
    refine Ev.step (fun k => ?_) (ih (i + 1) _ _ (by omega) (by omega) (by omega) (by omega) (by omega))
    simp only [impl_checkSum.l0]
    rw [if_pos (by omega), if_pos (by omega), if_pos (by omega), rd_eq (by omega), w64 (x := l[i]) (by omega) (by omega), w64 (x := x + l[i]) (by omega) (by omega), Int.tmod_eq_emod_of_nonneg (a := x + l[i]) (by omega), w64 (x := y + _) (by omega) (by omega), Int.tmod_eq_emod_of_nonneg (by omega), wsucc (by omega)]
theorem iCks_ev (l : List Int) (hn : l.length ≤ 140737488355328) (hb : isB l) : Ev (fun k => impl_checkSum.f k l) (cks l 1 0) := by
  refine Ev.congr (fun k => ?_) (iCks_l l hn hb l.length 0 1 0 (by omega) (by omega) (by omega) (by omega) (by omega))
  simp [impl_checkSum.f]

-- block szByteS
theorem szByteS_eq (l : List Int) (m : Int) (h0 : 0 ≤ m) (h1 : m ≤ 1048576) (hl : l.length ≤ maxLen) : laws_szByteS.f l m = some (if m < l.length then -1 else m - l.length) := by
  have hm : maxLen = 9223372036854775807 := rfl
  simp only [laws_szByteS.f]
  rw [w64 (by omega) (by omega)]
  by_cases h : m < l.length
  · rw [if_pos h, if_pos (by omega)]
  · rw [if_neg h, if_neg (by omega)]

-- block eqFrame
theorem eqFrame_ev (a b : Int) (l : List Int) (hn : l.length ≤ 140737488355328) : Ev (fun k => laws_eqFrame.f k a b l a b l) true := by
  obtain ⟨K, h⟩ := eqByteS_ev l hn
  exact ⟨K, fun k hk => by simp only [laws_eqFrame.f, h k hk, Option.bind_some, if_true]⟩

-- block rdN
/-- The number that bytes tell, the greatest first. -/
def rdN (l : List Int) : Int → Int := fun a => l.foldl (fun x c => 256 * x + c) a
theorem rdN_range (l : List Int) (hb : isB l) : ∀ a : Int, 0 ≤ a → 0 ≤ rdN l a ∧ rdN l a < (a + 1) * 256 ^ l.length := by
  induction l with
  | nil => intro a ha; unfold rdN; simp; omega
  | cons c l ih =>
    intro a ha
    have hc := hb c (List.mem_cons_self ..)
    have h := ih (fun x hx => hb x (List.mem_cons_of_mem _ hx)) (256 * a + c) (by omega)
    have e : rdN (c :: l) a = rdN l (256 * a + c) := rfl
    rw [e]
    refine ⟨h.1, Int.lt_of_lt_of_le h.2 ?_⟩
    rw [List.length_cons, Int.pow_succ, Int.mul_comm (256 ^ l.length), ← Int.mul_assoc]
    exact Int.mul_le_mul_of_nonneg_right (by omega) (Int.pow_nonneg (by omega))
theorem rdN_at {l : List Int} {i : Nat} (h : i < l.length) (a : Int) : rdN (l.drop i) a = rdN (l.drop (i + 1)) (256 * a + l[i]) := by
  rw [List.drop_eq_getElem_cons h]; rfl
theorem rdN_nil (a : Int) : rdN [] a = a := rfl

-- block sRead
theorem sRead_l (l : List Int) (hl : l.length ≤ 4) (hb : isB l) : ∀ (d i : Nat) (a : Int), l.length - i = d → 0 ≤ a → a < 256 ^ i → Ev (fun k => spec_l11Read.l0 k l a (i : Int)) (rdN (l.drop i) a) := by
  intro d
  induction d with
  | zero =>
    intro i a h h1 h2
    refine ev_now fun k => ?_
    simp only [spec_l11Read.l0]
    rw [if_neg (by omega), List.drop_eq_nil_of_le (by omega), rdN_nil]
  | succ d ih =>
    intro i a h h1 h2
    have hc := isB_at hb (show i < l.length by omega)
    have h3 : (256 : Int) ^ i ≤ 16777216 := p256 (by omega)
    rw [rdN_at (by omega)]
    refine Ev.step (fun k => ?_) (ih (i + 1) _ (by omega) (by omega) (by rw [Int.pow_succ]; omega))
    simp only [spec_l11Read.l0]
    rw [if_pos (by omega), if_pos (by omega), rd_eq (by omega), w64 (x := l[i]) (by omega) (by omega), w64 (x := 256 * a) (by omega) (by omega), w64 (by omega) (by omega), wsucc (by omega)]
theorem sRead_ev (l : List Int) (hl : l.length ≤ 4) (hb : isB l) : Ev (fun k => spec_l11Read.f k l) (rdN l 0) :=
  Ev.congr (fun k => rfl) (sRead_l l hl hb l.length 0 0 (by omega) (by omega) (by decide))

-- block iRead
theorem iRead_l (l : List Int) (hl : l.length ≤ 4) (hb : isB l) : ∀ (d i : Nat) (a : Int), l.length - i = d → 0 ≤ a → a < 256 ^ i → Ev (fun k => impl_numberIn.l0 k a l (l.length : Int) (i : Int)) (rdN (l.drop i) a) := by
  intro d
  induction d with
  | zero =>
    intro i a h h1 h2
    refine ev_now fun k => ?_
    simp only [impl_numberIn.l0]
    rw [if_neg (by omega), List.drop_eq_nil_of_le (by omega), rdN_nil]
  | succ d ih =>
    intro i a h h1 h2
    have hc := isB_at hb (show i < l.length by omega)
    have h3 : (256 : Int) ^ i ≤ 16777216 := p256 (by omega)
    rw [rdN_at (by omega)]
    refine Ev.step (fun k => ?_) (ih (i + 1) _ (by omega) (by omega) (by rw [Int.pow_succ]; omega))
    simp only [impl_numberIn.l0]
    rw [if_pos (by omega), if_pos (by omega), if_pos (by omega), rd_eq (by omega), w64 (x := l[i]) (by omega) (by omega), w64 (x := a * 256) (by omega) (by omega), wsucc (by omega)]
    have e := bits_join8 a.toNat l[i].toNat (by omega) (by omega)
    rw [show ((a.toNat * 256 : Nat) : Int) = a * 256 by omega, show ((l[i].toNat : Nat) : Int) = l[i] by omega] at e
    rw [e, show ((256 * a.toNat + l[i].toNat : Nat) : Int) = 256 * a + l[i] by omega]
theorem iRead_ev (l : List Int) (hl : l.length ≤ 4) (hb : isB l) : Ev (fun k => impl_numberIn.f k l) (rdN l 0) :=
  Ev.congr (fun k => rfl) (iRead_l l hl hb l.length 0 0 (by omega) (by omega) (by decide))

-- block sBytes
theorem sBytes_l (l : List Int) (hn : l.length < 140737488355328) : ∀ (d i : Nat), l.length - i = d → i ≤ l.length →
    Ev (fun k => spec_l01Bytes.l0 k l (l.take i) (i : Int)) l := by
  intro d
  induction d with
  | zero =>
    intro i h hi
    refine ev_now fun k => ?_
    simp only [spec_l01Bytes.l0]
    rw [if_neg (by omega), List.take_of_length_le (by omega)]
  | succ d ih =>
    intro i h hi
    refine Ev.step (fun k => ?_) (ih (i + 1) (by omega) (by omega))
    simp only [spec_l01Bytes.l0]
    rw [if_pos (by omega), if_pos (by omega), if_pos (by simp; omega), wsucc (by omega), rd_eq (by omega), List.take_append_getElem (by omega)]
theorem sBytes_ev (l : List Int) (hn : l.length < 140737488355328) : Ev (fun k => spec_l01Bytes.f k l) l :=
  Ev.congr (fun k => rfl) (sBytes_l l hn l.length 0 (by omega) (by omega))

-- block be4
def be4 (c : Int) : List Int := [c / 16777216 % 256, c / 65536 % 256, c / 256 % 256, c % 256]

-- block sWide
theorem sWide_ev (c : Int) (h0 : 0 ≤ c) (h1 : c ≤ 4294967295) : Ev (fun k => spec_l11Wide.f k c 4) (be4 c) := by
  have e : ∀ n : Nat, n < 9223372036854775808 → Go.bits .and .i64 (n : Int) 255 % 256 = ((n % 256 : Nat) : Int) := by
    intro n hn
    rw [show (255 : Int) = ((255 : Nat) : Int) by rfl, bits_and255 n hn]
    omega
  have s0 : shr .i64 c 0 = ((c.toNat : Nat) : Int) := by show c / 2 ^ 0 = _; omega
  have s1 : shr .i64 c 8 = ((c.toNat / 256 : Nat) : Int) := by show c / 2 ^ 8 = _; omega
  have s2 : shr .i64 c 16 = ((c.toNat / 65536 : Nat) : Int) := by show c / 2 ^ 16 = _; omega
  have s3 : shr .i64 c 24 = ((c.toNat / 16777216 : Nat) : Int) := by show c / 2 ^ 24 = _; omega
  have w0 : IntKind.u64.wrap (wrap64 (8 * 0)) = 0 := by decide +kernel
  have w1 : IntKind.u64.wrap (wrap64 (8 * 1)) = 8 := by decide +kernel
  have w2 : IntKind.u64.wrap (wrap64 (8 * 2)) = 16 := by decide +kernel
  have w3 : IntKind.u64.wrap (wrap64 (8 * 3)) = 24 := by decide +kernel
  have v3 : wrap64 (4 - 1) = 3 := by decide +kernel
  have v2 : wrap64 (3 - 1) = 2 := by decide +kernel
  have v1 : wrap64 (2 - 1) = 1 := by decide +kernel
  have v0 : wrap64 (1 - 1) = 0 := by decide +kernel
  have vn : wrap64 (0 - 1) = -1 := by decide +kernel
  refine ⟨6, fun k hk => ?_⟩
  obtain ⟨j, rfl⟩ : ∃ j, k = j + 1 + 1 + 1 + 1 + 1 := ⟨k - 5, by omega⟩
  simp only [spec_l11Wide.f, spec_l11Wide.l0, v3, v2, v1, v0, vn, w0, w1, w2, w3, s0, s1, s2, s3]
  rw [e _ (by omega), e _ (by omega), e _ (by omega), e _ (by omega)]
  simp only [List.nil_append, List.length_nil, List.cons_append, List.length_cons]
  rw [if_pos (by omega), if_pos (by omega), if_pos (by omega), if_pos (by omega), if_pos (by omega), if_pos (by omega), if_pos (by omega), if_pos (by omega), if_pos (by omega), if_pos (by omega), if_pos (by omega), if_pos (by omega), if_neg (by omega)]
  unfold be4
  rw [show ((c.toNat / 16777216 % 256 : Nat) : Int) = c / 16777216 % 256 by omega, show ((c.toNat / 65536 % 256 : Nat) : Int) = c / 65536 % 256 by omega, show ((c.toNat / 256 % 256 : Nat) : Int) = c / 256 % 256 by omega, show ((c.toNat % 256 : Nat) : Int) = c % 256 by omega]

-- block iWide
theorem iWide_ev (c : Int) (h0 : 0 ≤ c) (h1 : c ≤ 4294967295) : Ev (fun k => impl_bigEndian.f k c 4) (be4 c) := by
  have v3 : wrap64 (4 - 1) = 3 := by decide +kernel
  have v2 : wrap64 (3 - 1) = 2 := by decide +kernel
  have v1 : wrap64 (2 - 1) = 1 := by decide +kernel
  have v0 : wrap64 (1 - 1) = 0 := by decide +kernel
  have vn : wrap64 (0 - 1) = -1 := by decide +kernel
  have t4 : ((4 : Int)).toNat = 4 := rfl
  have t3 : ((3 : Int)).toNat = 3 := rfl
  have t2 : ((2 : Int)).toNat = 2 := rfl
  have t1 : ((1 : Int)).toNat = 1 := rfl
  have t0 : ((0 : Int)).toNat = 0 := rfl
  have r : List.replicate 4 (0 : Int) = [0, 0, 0, 0] := rfl
  refine ⟨6, fun k hk => ?_⟩
  obtain ⟨j, rfl⟩ : ∃ j, k = j + 1 + 1 + 1 + 1 + 1 := ⟨k - 5, by omega⟩
  simp only [impl_bigEndian.f, impl_bigEndian.l0, v3, v2, v1, v0, vn, t4, t3, t2, t1, t0, r, List.set_cons_zero, List.set_cons_succ, List.length_cons, List.length_nil]
  rw [if_pos (by omega), if_pos (by omega), if_pos (by omega), if_pos (by omega), if_pos (by omega), if_pos (by omega), if_pos (by omega), if_pos (by omega), if_pos (by omega), if_pos (by omega), if_pos (by omega), if_pos (by omega), if_pos (by omega), if_pos (by omega), if_neg (by omega)]
  unfold be4
  rw [show c / 256 / 256 / 256 % 256 = c / 16777216 % 256 by omega, show c / 256 / 256 % 256 = c / 65536 % 256 by omega]

-- block decF
/-- A frame's answer, as the five values that are told. -/
abbrev FrT := Int × Int × List Int × Int × Int
def frMore : FrT := (0, 0, [], 0, 1)
def frBad : FrT := (0, 0, [], 0, 2)
def frDone (l : List Int) (n : Nat) : FrT := (rd l 2, rdN ((l.take 7).drop 3) 0, (l.take (9 + n)).drop 9, ((13 + n : Nat) : Int), 0)
def cmpR (l : List Int) (n : Nat) : List Int → List Int → FrT
  | _, [] => frDone l n
  | [], _ :: _ => frMore
  | a :: t, b :: s => if a = b then cmpR l n t s else frBad
def frN (l : List Int) : Int := rdN ((l.take 9).drop 7) 0
def hAt (l : List Int) (i : Nat) : Prop := (i = 0 → rd l 0 = 199) ∧ (i = 1 → rd l 1 = 77) ∧ (i = 2 → rd l 2 ≤ 99) ∧ (i = 3 → rd l 3 ≤ 127) ∧ (i = 7 → rd l 7 ≤ 19) ∧ (i = 8 → frN l ≤ 5000)
instance hAt_dec (l : List Int) (i : Nat) : Decidable (hAt l i) := by unfold hAt; infer_instance
def headB (l : List Int) : Bool := allF (min 9 l.length) 0 (fun j => decide (hAt l j))
def frSum (l : List Int) : List Int := be4 (cks ((l.take (9 + (frN l).toNat)).drop 2) 1 0)
def decF (l : List Int) : FrT := if headB l = true then (if l.length < 9 then frMore else if (l.length : Int) < 9 + frN l then frMore else cmpR l (frN l).toNat (l.drop (9 + (frN l).toNat)) (frSum l)) else frBad
theorem head_iff (l : List Int) : headB l = true ↔ (0 < l.length → rd l 0 = 199) ∧ (1 < l.length → rd l 1 = 77) ∧ (2 < l.length → rd l 2 ≤ 99) ∧ (3 < l.length → rd l 3 ≤ 127) ∧ (7 < l.length → rd l 7 ≤ 19) ∧ (8 < l.length → frN l ≤ 5000) := by
  unfold headB
  rw [allF_iff]
  constructor
  · intro h
    have g : ∀ j, j < 9 → j < l.length → hAt l j := fun j h1 h2 => of_decide_eq_true (h j (by omega) (by omega))
    exact ⟨fun q => (g 0 (by omega) q).1 rfl, fun q => (g 1 (by omega) q).2.1 rfl, fun q => (g 2 (by omega) q).2.2.1 rfl, fun q => (g 3 (by omega) q).2.2.2.1 rfl, fun q => (g 7 (by omega) q).2.2.2.2.1 rfl, fun q => (g 8 (by omega) q).2.2.2.2.2 rfl⟩
  · rintro ⟨g0, g1, g2, g3, g7, g8⟩ j h1 h2
    apply decide_eq_true
    exact ⟨fun e => g0 (by omega), fun e => g1 (by omega), fun e => g2 (by omega), fun e => g3 (by omega), fun e => g7 (by omega), fun e => g8 (by omega)⟩
theorem rd_B {l : List Int} (hb : isB l) (i : Nat) : 0 ≤ rd l (i : Int) ∧ rd l (i : Int) ≤ 255 := by
  by_cases h : i < l.length
  · exact hb _ (rd_mem h)
  · rw [show rd l (i : Int) = 0 by simp [rd, List.getD_eq_getElem?_getD, List.getElem?_eq_none (by omega : l.length ≤ i)]]; omega
theorem frN_range {l : List Int} (hb : isB l) : 0 ≤ frN l ∧ frN l ≤ 65535 := by
  have h := rdN_range ((l.take 9).drop 7) (isB_drop (isB_take hb _) _) 0 (by omega)
  have h2 : ((l.take 9).drop 7).length ≤ 2 := by simp; omega
  have h3 : (256 : Int) ^ ((l.take 9).drop 7).length ≤ 65536 := p256b h2
  unfold frN
  omega
theorem frSum_range {l : List Int} (hb : isB l) : 0 ≤ cks ((l.take (9 + (frN l).toNat)).drop 2) 1 0 ∧ cks ((l.take (9 + (frN l).toNat)).drop 2) 1 0 ≤ 4294967295 := by
  have := cks_range ((l.take (9 + (frN l).toNat)).drop 2) 1 0 (by omega) (by omega) (by omega) (by omega)
  omega

-- block sHead
theorem sHead_l (l : List Int) (hn : l.length ≤ 140737488355328) (hb : isB l) : ∀ (d i : Nat), min 9 l.length - i = d → i ≤ 9 → Ev (fun k => spec_l11Head.l0 k l (i : Int)) (allF d i (fun j => decide (hAt l j))) := by
  intro d
  induction d with
  | zero =>
    intro i h hi
    by_cases hl : (i : Int) < (l.length : Int)
    · refine ⟨2, fun k hk => ?_⟩
      obtain ⟨k, rfl⟩ : ∃ j, k = j + 2 := ⟨k - 2, by omega⟩
      simp only [spec_l11Head.l0, spec_l11Head.j1]
      rw [if_pos hl, decide_eq_false (by omega), if_neg (by decide)]
      rfl
    · refine ⟨2, fun k hk => ?_⟩
      obtain ⟨k, rfl⟩ : ∃ j, k = j + 2 := ⟨k - 2, by omega⟩
      simp only [spec_l11Head.l0, spec_l11Head.j1]
      rw [if_neg hl, if_neg (by decide)]
      rfl
  | succ d ih =>
    intro i h hi
    have hc := rd_B hb i
    have key := ih (i + 1) (by omega) (by omega)
    obtain ⟨K, hK⟩ := key
    obtain ⟨n, hR⟩ := evs1 (sRead_ev ((l.take 9).drop 7) (by simp; omega) (isB_drop (isB_take hb _) _))
    refine ⟨K + n + 2, fun k hk => ?_⟩
    obtain ⟨m, rfl⟩ : ∃ j, k = n + j + 1 + 1 := ⟨k - n - 2, by omega⟩
    have hK : spec_l11Head.l0 (n + m) l ((i + 1 : Nat) : Int) = some _ := hK (n + m) (by omega)
    have hR := hR m
    simp only [spec_l11Head.l0]
    rw [if_pos (by omega), decide_eq_true (by omega : (i : Int) < 9)]
    simp only [spec_l11Head.j1, if_true, hR, Option.bind_some]
    rw [if_pos (by omega), if_pos (by omega), w64 (x := rd l (i : Int)) (by omega) (by omega), wsucc (by omega), hK, allF]
    have hfr : rdN ((l.take 9).drop 7) 0 = frN l := rfl
    rw [hfr]
    clear hK hR hfr ih
    have hi9 : i = 0 ∨ i = 1 ∨ i = 2 ∨ i = 3 ∨ i = 7 ∨ i = 8 ∨ (i = 4 ∨ i = 5 ∨ i = 6) := by omega
    rcases hi9 with rfl | rfl | rfl | rfl | rfl | rfl | hi9
    · have e : hAt l 0 ↔ rd l ((0 : Nat) : Int) = 199 := by unfold hAt; simp
      by_cases q : rd l ((0 : Nat) : Int) = 199
      · rw [if_pos (by omega), if_pos q, decide_eq_true (e.2 q), Bool.true_and]
      · rw [if_pos (by omega), if_neg q, decide_eq_false (fun x => q (e.1 x)), Bool.false_and]
    · have e : hAt l 1 ↔ rd l ((1 : Nat) : Int) = 77 := by unfold hAt; simp
      by_cases q : rd l ((1 : Nat) : Int) = 77
      · rw [if_neg (by omega), if_pos (by omega), if_pos q, decide_eq_true (e.2 q), Bool.true_and]
      · rw [if_neg (by omega), if_pos (by omega), if_neg q, decide_eq_false (fun x => q (e.1 x)), Bool.false_and]
    · have e : hAt l 2 ↔ rd l ((2 : Nat) : Int) ≤ 99 := by unfold hAt; simp
      by_cases q : rd l ((2 : Nat) : Int) ≤ 99
      · rw [if_neg (by omega), if_neg (by omega), if_pos (by omega), if_neg (by omega), decide_eq_true (e.2 q), Bool.true_and]
      · rw [if_neg (by omega), if_neg (by omega), if_pos (by omega), if_pos (by omega), decide_eq_false (fun x => q (e.1 x)), Bool.false_and]
    · have e : hAt l 3 ↔ rd l ((3 : Nat) : Int) ≤ 127 := by unfold hAt; simp
      by_cases q : rd l ((3 : Nat) : Int) ≤ 127
      · rw [if_neg (by omega), if_neg (by omega), if_neg (by omega), if_pos (by omega), if_neg (by omega), decide_eq_true (e.2 q), Bool.true_and]
      · rw [if_neg (by omega), if_neg (by omega), if_neg (by omega), if_pos (by omega), if_pos (by omega), decide_eq_false (fun x => q (e.1 x)), Bool.false_and]
    · have e : hAt l 7 ↔ rd l ((7 : Nat) : Int) ≤ 19 := by unfold hAt; simp
      by_cases q : rd l ((7 : Nat) : Int) ≤ 19
      · rw [if_neg (by omega), if_neg (by omega), if_neg (by omega), if_neg (by omega), if_pos (by omega), if_neg (by omega), decide_eq_true (e.2 q), Bool.true_and]
      · rw [if_neg (by omega), if_neg (by omega), if_neg (by omega), if_neg (by omega), if_pos (by omega), if_pos (by omega), decide_eq_false (fun x => q (e.1 x)), Bool.false_and]
    · have e : hAt l 8 ↔ frN l ≤ 5000 := by unfold hAt; simp
      rw [if_neg (by omega), if_neg (by omega), if_neg (by omega), if_neg (by omega), if_neg (by omega), if_pos (by omega), if_pos (by omega), if_pos (by omega)]
      by_cases q : frN l ≤ 5000
      · rw [if_neg (by omega), decide_eq_true (e.2 q), Bool.true_and]
      · rw [if_pos (by omega), decide_eq_false (fun x => q (e.1 x)), Bool.false_and]
    · have e : hAt l i := by unfold hAt; omega
      rw [if_neg (by omega), if_neg (by omega), if_neg (by omega), if_neg (by omega), if_neg (by omega), if_neg (by omega), decide_eq_true e, Bool.true_and]
theorem sHead_ev (l : List Int) (hn : l.length ≤ 140737488355328) (hb : isB l) : Ev (fun k => spec_l11Head.f k l) (headB l) :=
  Ev.congr (fun k => rfl) (sHead_l l hn hb (min 9 l.length) 0 (by omega) (by omega))

-- block sDec
theorem sDec_l (l : List Int) (hn : l.length ≤ 140737488355327) (hb : isB l) (n : Nat) (hl : 9 + n ≤ l.length) (s : List Int) (hs : s.length = 4) : ∀ (d i : Nat), 4 - i = d → i ≤ 4 → 9 + n + i ≤ l.length →
    Ev (fun k => spec_DecodeFrame.l0 k l ((9 + n : Nat) : Int) s (i : Int) 0 0) (cmpR l n (l.drop (9 + n + i)) (s.drop i)) := by
  intro d
  induction d with
  | zero =>
    intro i h hi hli
    obtain ⟨K, h1, h2⟩ := evs2 (sRead_ev ((l.take 7).drop 3) (by simp; omega) (isB_drop (isB_take hb _) _)) (sBytes_ev ((l.take (9 + n)).drop 9) (by simp; omega))
    have hc := rd_B hb 2
    simp only [show ((2 : Nat) : Int) = 2 from rfl] at hc
    refine ⟨K + 1, fun k hk => ?_⟩
    obtain ⟨j, rfl⟩ : ∃ j, k = K + j + 1 := ⟨k - K - 1, by omega⟩
    simp only [spec_DecodeFrame.l0, Int.toNat_natCast, h1, h2, Option.bind_some]
    rw [if_neg (by omega), if_pos (by omega), if_pos (by omega), if_pos (by omega), if_pos (by omega), if_pos (by omega), (List.drop_eq_nil_of_le (by omega) : s.drop i = []), w64 (x := rd l 2) (by omega) (by omega), w64 (x := ((9 + n : Nat) : Int) + 4) (by omega) (by omega)]
    have e : cmpR l n (l.drop (9 + n + i)) [] = frDone l n := by unfold cmpR; rfl
    rw [e, frDone, show ((9 + n : Nat) : Int) + 4 = ((13 + n : Nat) : Int) by omega]
  | succ d ih =>
    intro i h hi hli
    have h1 : wrap64 (((9 + n : Nat) : Int) + (i : Int)) = ((9 + n + i : Nat) : Int) := by rw [w64 (by omega) (by omega)]; omega
    rw [List.drop_eq_getElem_cons (show i < s.length by omega)]
    by_cases hend : 9 + n + i = l.length
    · rw [List.drop_eq_nil_of_le (by omega)]
      refine ev_now fun k => ?_
      simp only [spec_DecodeFrame.l0, h1]
      rw [if_pos (by omega), if_pos (by omega)]
      rfl
    · rw [List.drop_eq_getElem_cons (show 9 + n + i < l.length by omega)]
      by_cases hq : l[9 + n + i] = s[i]
      · have e : cmpR l n (l[9 + n + i] :: l.drop (9 + n + i + 1)) (s[i] :: s.drop (i + 1)) = cmpR l n (l.drop (9 + n + (i + 1))) (s.drop (i + 1)) := by
          rw [cmpR, if_pos hq]; rfl
        rw [e]
        refine Ev.step (fun k => ?_) (ih (i + 1) (by omega) (by omega) (by omega))
        simp only [spec_DecodeFrame.l0, h1]
        rw [if_pos (by omega), if_neg (by omega), if_pos (by omega), if_pos (by omega), if_pos (by omega), if_pos (by omega), rd_eq (by omega), rd_eq (by omega), if_pos hq, wsucc (by omega)]
      · have e : cmpR l n (l[9 + n + i] :: l.drop (9 + n + i + 1)) (s[i] :: s.drop (i + 1)) = frBad := by
          rw [cmpR, if_neg hq]
        rw [e]
        refine ev_now fun k => ?_
        simp only [spec_DecodeFrame.l0, h1]
        rw [if_pos (by omega), if_neg (by omega), if_pos (by omega), if_pos (by omega), if_pos (by omega), if_pos (by omega), rd_eq (by omega), rd_eq (by omega), if_neg hq]
        rfl
theorem sDec_ev (l : List Int) (hn : l.length ≤ 140737488355327) (hb : isB l) : Ev (fun k => spec_DecodeFrame.f k l) (decF l) := by
  have hr := frN_range hb
  obtain ⟨N, hN⟩ : ∃ N : Nat, frN l = (N : Int) := ⟨(frN l).toNat, by omega⟩
  obtain ⟨F, hF⟩ : ∃ F : Int, rdN ((l.take 9).drop 7) 0 = F := ⟨_, rfl⟩
  have hFN : F = (N : Int) := by rw [← hF]; exact hN
  have hE := sRead_ev ((l.take 9).drop 7) (by simp; omega) (isB_drop (isB_take hb _) _)
  rw [hF] at hE
  obtain ⟨K, h1, h2⟩ := evs2 (sHead_ev l (by omega) hb) hE
  unfold decF
  by_cases hh : headB l = true
  · rw [if_pos hh]
    by_cases h9 : l.length < 9
    · rw [if_pos h9]
      refine ⟨K, fun k hk => ?_⟩
      obtain ⟨j, rfl⟩ : ∃ j, k = K + j := ⟨k - K, by omega⟩
      simp only [spec_DecodeFrame.f, h1, hh, Option.bind_some, if_true]
      rw [if_pos (by omega)]; rfl
    · rw [if_neg h9]
      have hw : wrap64 (9 + F) = ((9 + N : Nat) : Int) := by rw [w64 (by omega) (by omega)]; omega
      by_cases hlt : (l.length : Int) < 9 + frN l
      · rw [if_pos hlt]
        refine ⟨K, fun k hk => ?_⟩
        obtain ⟨j, rfl⟩ : ∃ j, k = K + j := ⟨k - K, by omega⟩
        simp only [spec_DecodeFrame.f, h1, h2, hh, hw, Option.bind_some, if_true]
        rw [if_neg (by omega), if_pos (by omega), if_pos (by omega), if_pos (by omega)]; rfl
      · rw [if_neg hlt, hN, Int.toNat_natCast]
        have hsr := frSum_range hb
        have hS : frSum l = be4 (cks ((l.take (9 + N)).drop 2) 1 0) := by unfold frSum; rw [hN, Int.toNat_natCast]
        rw [hN, Int.toNat_natCast] at hsr
        obtain ⟨M, g1, g2, g3⟩ := evs3 (sCks_ev ((l.take (9 + N)).drop 2) (by simp; omega) (isB_drop (isB_take hb _) _)) (sWide_ev _ hsr.1 hsr.2) (sDec_l l hn hb N (by omega) (be4 (cks ((l.take (9 + N)).drop 2) 1 0)) (by simp [be4]) 4 0 (by omega) (by omega) (by omega))
        rw [hS]
        refine ⟨K + M, fun k hk => ?_⟩
        have h1 := h1 (k - K)
        have h2 := h2 (k - K)
        have g1 := g1 (k - M)
        have g2 := g2 (k - M)
        have g3 := g3 (k - M)
        rw [show K + (k - K) = k by omega] at h1 h2
        rw [show M + (k - M) = k by omega] at g1 g2 g3
        rw [List.drop_zero, Nat.add_zero, show ((0 : Nat) : Int) = 0 from rfl] at g3
        simp only [spec_DecodeFrame.f, h1, h2, hh, hw, g1, g2, Int.toNat_natCast, Option.bind_some, if_true]
        rw [if_neg (by omega), if_pos (by omega), if_pos (by omega), if_neg (by omega), if_pos (by omega), if_pos (by omega)]
        exact g3
  · rw [if_neg hh]
    refine ⟨K, fun k hk => ?_⟩
    obtain ⟨j, rfl⟩ : ∃ j, k = K + j := ⟨k - K, by omega⟩
    simp only [spec_DecodeFrame.f, h1, Option.bind_some]
    rw [if_neg hh]; rfl

-- block iDec
theorem iDec_l (l : List Int) (hn : l.length ≤ 140737488355327) (hb : isB l) (n : Nat) (hn5 : n ≤ 65535) (hl : 9 + n ≤ l.length) (s : List Int) (hs : s.length = 4) : ∀ (d i : Nat), 4 - i = d → i ≤ 4 → 9 + n + i ≤ l.length →
    Ev (fun k => impl_decodeFrame.l0 k l (l.length : Int) (n : Int) s (s.length : Int) (i : Int)) (cmpR l n (l.drop (9 + n + i)) (s.drop i)) := by
  intro d
  induction d with
  | zero =>
    intro i h hi hli
    obtain ⟨K, h1⟩ := evs1 (iRead_ev ((l.take 7).drop 3) (by simp; omega) (isB_drop (isB_take hb _) _))
    have hc := rd_B hb 2
    simp only [show ((2 : Nat) : Int) = 2 from rfl] at hc
    have hw : wrap64 (9 + (n : Int)) = ((9 + n : Nat) : Int) := by rw [w64 (by omega) (by omega)]; omega
    refine ⟨K + 1, fun k hk => ?_⟩
    obtain ⟨j, rfl⟩ : ∃ j, k = K + j + 1 := ⟨k - K - 1, by omega⟩
    simp only [impl_decodeFrame.l0, hw, Int.toNat_natCast, h1, Option.bind_some]
    rw [if_neg (by omega), if_pos (by omega), if_pos (by omega), if_pos (by omega), if_pos (by omega), if_pos (by omega), if_pos (by simp; omega), (List.drop_eq_nil_of_le (by omega) : s.drop i = []), w64 (x := rd l 2) (by omega) (by omega), w64 (x := 13 + (n : Int)) (by omega) (by omega)]
    have e : cmpR l n (l.drop (9 + n + i)) [] = frDone l n := by unfold cmpR; rfl
    rw [e, frDone, show 13 + (n : Int) = ((13 + n : Nat) : Int) by omega]
    rfl
  | succ d ih =>
    intro i h hi hli
    have hw : wrap64 (9 + (n : Int)) = ((9 + n : Nat) : Int) := by rw [w64 (by omega) (by omega)]; omega
    have h1 : wrap64 (((9 + n : Nat) : Int) + (i : Int)) = ((9 + n + i : Nat) : Int) := by rw [w64 (by omega) (by omega)]; omega
    rw [List.drop_eq_getElem_cons (show i < s.length by omega)]
    by_cases hend : 9 + n + i = l.length
    · rw [List.drop_eq_nil_of_le (by omega)]
      refine ev_now fun k => ?_
      simp only [impl_decodeFrame.l0, hw, h1]
      rw [if_pos (by omega), if_pos (by omega), if_pos (by omega), if_pos (by omega)]
      rfl
    · rw [List.drop_eq_getElem_cons (show 9 + n + i < l.length by omega)]
      by_cases hq : l[9 + n + i] = s[i]
      · have e : cmpR l n (l[9 + n + i] :: l.drop (9 + n + i + 1)) (s[i] :: s.drop (i + 1)) = cmpR l n (l.drop (9 + n + (i + 1))) (s.drop (i + 1)) := by
          rw [cmpR, if_pos hq]; rfl
        rw [e]
        refine Ev.step (fun k => ?_) (ih (i + 1) (by omega) (by omega) (by omega))
        simp only [impl_decodeFrame.l0, hw, h1]
        rw [if_pos (by omega), if_pos (by omega), if_pos (by omega), if_neg (by omega), if_pos (by omega), if_pos (by omega), rd_eq (by omega), rd_eq (by omega), if_pos hq, wsucc (by omega)]
      · have e : cmpR l n (l[9 + n + i] :: l.drop (9 + n + i + 1)) (s[i] :: s.drop (i + 1)) = frBad := by
          rw [cmpR, if_neg hq]
        rw [e]
        refine ev_now fun k => ?_
        simp only [impl_decodeFrame.l0, hw, h1]
        rw [if_pos (by omega), if_pos (by omega), if_pos (by omega), if_neg (by omega), if_pos (by omega), if_pos (by omega), rd_eq (by omega), rd_eq (by omega), if_neg hq]
        rfl
/-- The head's bytes but the last are as they must be. -/
def head7 (l : List Int) : Prop := (0 < l.length → rd l 0 = 199) ∧ (1 < l.length → rd l 1 = 77) ∧ (2 < l.length → rd l 2 ≤ 99) ∧ (3 < l.length → rd l 3 ≤ 127) ∧ (7 < l.length → rd l 7 ≤ 19)
instance head7_dec (l : List Int) : Decidable (head7 l) := by unfold head7; infer_instance
theorem head7_iff (l : List Int) : headB l = true ↔ head7 l ∧ (8 < l.length → frN l ≤ 5000) := by
  rw [head_iff]; unfold head7
  constructor
  · rintro ⟨a, b, c, d, e, f⟩; exact ⟨⟨a, b, c, d, e⟩, f⟩
  · rintro ⟨⟨a, b, c, d, e⟩, f⟩; exact ⟨a, b, c, d, e, f⟩
theorem iDec_head (l : List Int) (hb : isB l) (r : FrT) (hr : Ev (fun k => impl_decodeFrame.j3 k l (l.length : Int) (decide (¬ head7 l))) r) : Ev (fun k => impl_decodeFrame.f k l) r := by
  have c7 := rd_B hb 7
  simp only [show ((7 : Nat) : Int) = 7 from rfl] at c7
  have w7 : wrap64 (rd l 7) = rd l 7 := w64 (by omega) (by omega)
  by_cases b0 : 0 < l.length ∧ rd l 0 ≠ 199
  · have q : ¬ head7 l := fun x => b0.2 (x.1 b0.1)
    rw [decide_eq_true q] at hr
    refine Ev.congr (fun k => ?_) (Ev.step (g := fun k => impl_decodeFrame.j0 k l (l.length : Int) true) (fun k => ?_) hr)
    · simp only [impl_decodeFrame.f]
      rw [if_pos (by omega), if_pos (by omega), bne_iff_ne.2 b0.2]
    · simp only [impl_decodeFrame.j0, if_true]
  · have e0 : ∀ k, impl_decodeFrame.f k l = impl_decodeFrame.j0 k l (l.length : Int) false := by
      intro k
      simp only [impl_decodeFrame.f]
      split
      · rw [show (rd l 0 != 199) = false by simp only [bne_eq_false_iff_eq]; exact Classical.byContradiction fun x => b0 ⟨by omega, x⟩]
      · rfl
    refine Ev.congr e0 ?_
    by_cases b1 : 1 < l.length ∧ rd l 1 ≠ 77
    · have q : ¬ head7 l := fun x => b1.2 (x.2.1 b1.1)
      rw [decide_eq_true q] at hr
      refine Ev.step (f := fun k => impl_decodeFrame.j1 k l (l.length : Int) true) (fun k => ?_) (Ev.step (fun k => ?_) hr)
      · simp only [impl_decodeFrame.j0]
        rw [if_neg (by decide), if_pos (by omega), if_pos (by omega), bne_iff_ne.2 b1.2]
      · simp only [impl_decodeFrame.j1, if_true]
    · refine Ev.step (f := fun k => impl_decodeFrame.j1 k l (l.length : Int) false) (fun k => ?_) ?_
      · simp only [impl_decodeFrame.j0]
        rw [if_neg (by decide)]
        split
        · rw [show (rd l 1 != 77) = false by simp only [bne_eq_false_iff_eq]; exact Classical.byContradiction fun x => b1 ⟨by omega, x⟩]
        · rfl
      by_cases b2 : 2 < l.length ∧ rd l 2 > 99
      · have q : ¬ head7 l := fun x => by have := x.2.2.1 b2.1; omega
        rw [decide_eq_true q] at hr
        refine Ev.step (f := fun k => impl_decodeFrame.j2 k l (l.length : Int) true) (fun k => ?_) (Ev.step (fun k => ?_) hr)
        · simp only [impl_decodeFrame.j1]
          rw [if_neg (by decide), if_pos (by omega), if_pos (by omega), decide_eq_true b2.2]
        · simp only [impl_decodeFrame.j2, if_true]
      · refine Ev.step (f := fun k => impl_decodeFrame.j2 k l (l.length : Int) false) (fun k => ?_) ?_
        · simp only [impl_decodeFrame.j1]
          rw [if_neg (by decide)]
          split
          · rw [decide_eq_false (by omega)]
          · rfl
        · refine Ev.step (fun k => ?_) hr
          have hq : (¬ head7 l) = ((3 < l.length ∧ rd l 3 > 127) ∨ (7 < l.length ∧ rd l 7 > 19)) := by
            apply propext
            unfold head7
            constructor
            · intro x
              exact Classical.byContradiction fun y => x ⟨by omega, by omega, by omega, by omega, by omega⟩
            · rintro x ⟨_, _, _, x3, x7⟩
              omega
          simp only [hq, impl_decodeFrame.j2, w7]
          rw [if_neg (by decide)]
          by_cases q3 : 3 < l.length
          · rw [if_pos (by omega), if_pos (by omega)]
            by_cases q4 : rd l 3 > 127
            · rw [if_pos q4, decide_eq_true q4, decide_eq_true (by omega)]
            · rw [if_neg q4]
              by_cases q7 : 7 < l.length
              · rw [if_pos (by omega), if_pos (by omega)]
                by_cases q8 : rd l 7 > 19
                · rw [decide_eq_true q8, decide_eq_true (by omega)]
                · rw [decide_eq_false q8, decide_eq_false (by omega)]
              · rw [if_neg (by omega), decide_eq_false (by omega)]
          · rw [if_neg (by omega), if_neg (by omega), decide_eq_false (by omega)]
theorem iDec_ev (l : List Int) (hn : l.length ≤ 140737488355327) (hb : isB l) : Ev (fun k => impl_decodeFrame.f k l) (decF l) := by
  refine iDec_head l hb _ ?_
  have hr := frN_range hb
  obtain ⟨N, hN⟩ : ∃ N : Nat, frN l = (N : Int) := ⟨(frN l).toNat, by omega⟩
  obtain ⟨F, hF⟩ : ∃ F : Int, rdN ((l.take 9).drop 7) 0 = F := ⟨_, rfl⟩
  have hFN : F = (N : Int) := by rw [← hF]; exact hN
  have hh := head7_iff l
  unfold decF
  by_cases h7 : head7 l
  · rw [decide_eq_false (by simp only [h7, not_true, not_false_iff])]
    by_cases h9 : l.length < 9
    · rw [if_pos (hh.2 ⟨h7, by omega⟩), if_pos h9]
      refine ev_now fun k => ?_
      simp only [impl_decodeFrame.j3]
      rw [if_neg (by decide), if_pos (by omega)]; rfl
    · have hE := iRead_ev ((l.take 9).drop 7) (by simp; omega) (isB_drop (isB_take hb _) _)
      rw [hF] at hE
      obtain ⟨K, h2⟩ := evs1 hE
      by_cases h5 : frN l ≤ 5000
      · rw [if_pos (hh.2 ⟨h7, fun _ => h5⟩), if_neg h9]
        have hw : wrap64 (9 + F) = ((9 + N : Nat) : Int) := by rw [w64 (by omega) (by omega)]; omega
        by_cases hlt : (l.length : Int) < 9 + frN l
        · rw [if_pos hlt]
          refine ⟨K + 1, fun k hk => ?_⟩
          obtain ⟨j, rfl⟩ : ∃ j, k = K + j + 1 := ⟨k - K - 1, by omega⟩
          simp only [impl_decodeFrame.j3, h2, hw, Option.bind_some]
          rw [if_neg (by decide), if_neg (by omega), if_pos (by omega), if_pos (by omega), if_neg (by omega), if_pos (by omega)]; rfl
        · rw [if_neg hlt, hN, Int.toNat_natCast]
          have hsr := frSum_range hb
          have hS : frSum l = be4 (cks ((l.take (9 + N)).drop 2) 1 0) := by unfold frSum; rw [hN, Int.toNat_natCast]
          rw [hN, Int.toNat_natCast] at hsr
          obtain ⟨M, g1, g2, g3⟩ := evs3 (iCks_ev ((l.take (9 + N)).drop 2) (by simp; omega) (isB_drop (isB_take hb _) _)) (iWide_ev _ hsr.1 hsr.2) (iDec_l l hn hb N (by omega) (by omega) (be4 (cks ((l.take (9 + N)).drop 2) 1 0)) (by simp [be4]) 4 0 (by omega) (by omega) (by omega))
          rw [hS]
          refine ⟨K + M + 1, fun k hk => ?_⟩
          obtain ⟨k, rfl⟩ : ∃ j, k = j + 1 := ⟨k - 1, by omega⟩
          have h2 := h2 (k - K)
          have g1 := g1 (k - M)
          have g2 := g2 (k - M)
          have g3 := g3 (k - M)
          rw [show K + (k - K) = k by omega] at h2
          rw [show M + (k - M) = k by omega] at g1 g2 g3
          rw [List.drop_zero, Nat.add_zero, show ((0 : Nat) : Int) = 0 from rfl] at g3
          simp only [impl_decodeFrame.j3, h2, hw, g1, g2, Int.toNat_natCast, Option.bind_some]
          rw [if_neg (by decide), if_neg (by omega), if_pos (by omega), if_pos (by omega), if_neg (by omega), if_neg (by omega), if_pos (by omega), if_pos (by omega), hFN]
          exact g3
      · rw [if_neg (fun x => h5 ((hh.1 x).2 (by omega)))]
        refine ⟨K + 1, fun k hk => ?_⟩
        obtain ⟨j, rfl⟩ : ∃ j, k = K + j + 1 := ⟨k - K - 1, by omega⟩
        simp only [impl_decodeFrame.j3, h2, Option.bind_some]
        rw [if_neg (by decide), if_neg (by omega), if_pos (by omega), if_pos (by omega), if_pos (by omega)]; rfl
  · rw [if_neg (fun x => h7 (hh.1 x).1), decide_eq_true h7]
    refine ev_now fun k => ?_
    simp only [impl_decodeFrame.j3, if_true]
    rfl

-- block szStream
theorem szStream_eq (l : List Int) (a m : Int) (h0 : 0 ≤ m) (h1 : m ≤ 1048576) (hl : l.length ≤ maxLen) : laws_szStream.f l a m = some (if m < l.length then -1 else m - l.length) := by
  simp only [laws_szStream.f, szByteS_eq l m h0 h1 hl, Option.bind_some]
  by_cases h : m < l.length
  · simp [h]
  · simp only [h, if_false]
    rw [if_neg (by omega)]

-- block toStream
theorem toStream_ev (l : List Int) (a : Int) (hn : l.length ≤ 140737488355328) : Ev (fun k => laws_toStream.f k l a) (l, a) :=
  Ev.congr (fun k => rfl) (Ev.bind (toByteS_ev l hn) (f := fun _ t => some (t, a)) (Ev.now _))

-- block eqStream
theorem eqStream_ev (l : List Int) (a : Int) (hn : l.length ≤ 140737488355328) : Ev (fun k => laws_eqStream.f k l a l a) true := by
  obtain ⟨K, h⟩ := eqByteS_ev l hn
  exact ⟨K, fun k hk => by simp only [laws_eqStream.f, h k hk, Option.bind_some, if_true]⟩

-- block streamOk
def streamOk (l : List Int) (a : Int) : Prop := 0 ≤ a ∧ a ≤ 2147483647 ∧ (decF l).2.2.2.2 = 1
instance streamOk_dec (l : List Int) (a : Int) : Decidable (streamOk l a) := by unfold streamOk; infer_instance

-- block sStream
theorem sStream_ev (l : List Int) (a : Int) (hn : l.length ≤ 140737488355327) (hb : isB l) : Ev (fun k => spec_StreamOk.f k l a) (decide (streamOk l a)) := by
  obtain ⟨K, h⟩ := sDec_ev l hn hb
  refine ⟨K, fun k hk => ?_⟩
  simp only [spec_StreamOk.f, in_eq, h k hk, Option.bind_some, decide_eq_true_eq]
  by_cases q : 0 ≤ a ∧ a ≤ 2147483647
  · rw [if_pos q]
    by_cases q2 : (decF l).2.2.2.2 = 1
    · rw [decide_eq_true (show streamOk l a from ⟨q.1, q.2, q2⟩), q2]; rfl
    · rw [beq_eq_false_iff_ne.2 q2, decide_eq_false (show ¬ streamOk l a from fun x => q2 x.2.2)]
  · rw [if_neg q, decide_eq_false (show ¬ streamOk l a from fun x => q ⟨x.1, x.2.1⟩)]

-- block iStream
theorem iStream_ev (l : List Int) (a : Int) (hn : l.length ≤ 140737488355327) (hb : isB l) : Ev (fun k => impl_isStream.f k l a) (decide (streamOk l a)) := by
  obtain ⟨K, h⟩ := iDec_ev l hn hb
  refine ⟨K, fun k hk => ?_⟩
  simp only [impl_isStream.f, h k hk, Option.bind_some]
  by_cases q2 : (decF l).2.2.2.2 = 1
  · rw [if_pos q2]
    by_cases q : a ≥ 0
    · rw [if_pos q]
      exact congrArg some (decide_eq_decide.2 ⟨fun x => ⟨q, x, q2⟩, fun x => x.2.1⟩)
    · rw [if_neg q, decide_eq_false (show ¬ streamOk l a from fun x => q x.1)]
  · rw [if_neg q2, decide_eq_false (show ¬ streamOk l a from fun x => q2 x.2.2)]

-- block sJoinB
theorem sJoinB_l (b : List Int) (a : List Int) (hn : a.length + b.length < 140737488355328) : ∀ (d i : Nat), b.length - i = d → i ≤ b.length → Ev (fun k => spec_l01Join.l0 k b (a ++ b.take i) (i : Int)) (a ++ b) := by
  intro d
  induction d with
  | zero =>
    intro i h hi
    refine ev_now fun k => ?_
    simp only [spec_l01Join.l0]
    rw [if_neg (by omega), List.take_of_length_le (by omega)]
  | succ d ih =>
    intro i h hi
    have key := ih (i + 1) (by omega) (by omega)
    refine Ev.step (fun k => ?_) key
    simp only [spec_l01Join.l0]
    rw [if_pos (by omega), if_pos (by omega), if_pos (by simp; omega), wsucc (by omega), rd_eq (by omega), List.append_assoc, List.take_append_getElem (by omega)]
theorem sJoinB_ev (a b : List Int) (hn : a.length + b.length < 140737488355328) : Ev (fun k => spec_l01Join.f k a b) (a ++ b) := by
  have key := sJoinB_l b a hn b.length 0 (by omega) (by omega)
  rw [List.take_zero, List.append_nil] at key
  obtain ⟨n, e1, e2⟩ := evs2 (sBytes_ev a (by omega)) key
  refine ⟨n, fun k hk => ?_⟩
  obtain ⟨j, rfl⟩ : ∃ j, k = n + j := ⟨k - n, by omega⟩
  simp only [spec_l01Join.f, e1 j, Option.bind_some]
  exact e2 j

-- block decC
theorem cmpR_cases (l : List Int) (n : Nat) : ∀ s t, cmpR l n t s = frMore ∨ cmpR l n t s = frBad ∨ (cmpR l n t s = frDone l n ∧ s.length ≤ t.length) := by
  intro s
  induction s with
  | nil => intro t; right; right; exact ⟨by unfold cmpR; rfl, by simp⟩
  | cons b s ih =>
    intro t
    cases t with
    | nil => left; rfl
    | cons a t =>
      unfold cmpR
      split
      · rcases ih t with h | h | ⟨h, h2⟩
        · exact Or.inl h
        · exact Or.inr (Or.inl h)
        · exact Or.inr (Or.inr ⟨h, by simp only [List.length_cons]; omega⟩)
      · exact Or.inr (Or.inl rfl)
theorem be4_len (x : Int) : (be4 x).length = 4 := by simp [be4]
theorem decF_cases {l : List Int} (hb : isB l) : decF l = frMore ∨ (decF l = frBad ∧ 1 ≤ l.length) ∨ (∃ n : Nat, decF l = frDone l n ∧ 13 + n ≤ l.length) := by
  have hr := frN_range hb
  unfold decF
  by_cases h : headB l = true
  · rw [if_pos h]
    by_cases h9 : l.length < 9
    · rw [if_pos h9]; exact Or.inl rfl
    · rw [if_neg h9]
      by_cases h2 : (l.length : Int) < 9 + frN l
      · rw [if_pos h2]; exact Or.inl rfl
      · rw [if_neg h2]
        rcases cmpR_cases l (frN l).toNat (frSum l) (l.drop (9 + (frN l).toNat)) with c | c | ⟨c, c2⟩
        · exact Or.inl c
        · exact Or.inr (Or.inl ⟨c, by omega⟩)
        · refine Or.inr (Or.inr ⟨_, c, ?_⟩)
          unfold frSum at c2
          rw [be4_len, List.length_drop] at c2
          omega
  · rw [if_neg h]
    refine Or.inr (Or.inl ⟨rfl, ?_⟩)
    by_cases h0 : l.length = 0
    · exfalso
      apply h
      unfold headB
      rw [show min 9 l.length = 0 by omega]
      rfl
    · omega

-- block feedP
/-- The frames that these bytes tell, one behind the other; what is left; what was lost. -/
def fdG : Nat → List Int → List S109 → Int → List Int × Int × List S109
  | 0, l, out, lost => (l, lost, out)
  | d + 1, l, out, lost => if (decF l).2.2.2.2 = 0 then fdG d (l.drop (decF l).2.2.2.1.toNat) (out ++ [⟨(decF l).1, (decF l).2.1, (decF l).2.2.1⟩]) lost else if (decF l).2.2.2.2 = 2 then fdG d (l.drop 1) out (if lost < 2147483647 then lost + 1 else lost) else (l, lost, out)
theorem fdG_more {l : List Int} (d : Nat) (out : List S109) (lost : Int) (h : decF l = frMore) : fdG (d + 1) l out lost = (l, lost, out) := by
  rw [fdG, h, if_neg (by decide), if_neg (by decide)]
theorem fdG_bad {l : List Int} (d : Nat) (out : List S109) (lost : Int) (h : decF l = frBad) : fdG (d + 1) l out lost = fdG d (l.drop 1) out (if lost < 2147483647 then lost + 1 else lost) := by
  rw [fdG, h, if_neg (by decide), if_pos (by decide)]
theorem fdG_done {l : List Int} (d : Nat) (out : List S109) (lost : Int) (n : Nat) (h : decF l = frDone l n) : fdG (d + 1) l out lost = fdG d (l.drop (13 + n)) (out ++ [⟨(frDone l n).1, (frDone l n).2.1, (frDone l n).2.2.1⟩]) lost := by
  rw [fdG, h, if_pos (show (frDone l n).2.2.2.2 = 0 from rfl)]
  rfl
def feedV (buf : List Int) (lost : Int) (chunk : List Int) : List Int × Int × List S109 := if streamOk buf lost ∧ chunk.length ≤ 20000 then fdG ((buf ++ chunk).length + 1) (buf ++ chunk) [] lost else (buf, lost, [])

-- block iFeed
theorem iFeed_l (b0 : List Int) : ∀ (d : Nat) (l : List Int) (out : List S109) (lost : Int), l.length < d → isB l → l.length + out.length ≤ 2097152 → 0 ≤ lost → lost ≤ 2147483647 → Ev (fun k => impl_feed.l0 k l out b0 lost) (fdG d l out lost) := by
  intro d
  induction d with
  | zero => intro l out lost h; omega
  | succ d ih =>
    intro l out lost h hb hl h0 h1
    have hd := iDec_ev l (by omega) hb
    rcases decF_cases hb with c | ⟨c, c1⟩ | ⟨n, c, c1⟩
    · rw [c] at hd
      rw [fdG_more _ _ _ c]
      obtain ⟨m, e⟩ := evs1 hd
      refine ⟨m + 1, fun k hk => ?_⟩
      obtain ⟨j, rfl⟩ : ∃ j, k = m + j + 1 := ⟨k - m - 1, by omega⟩
      simp only [impl_feed.l0, e j, frMore, Option.bind_some, List.nil_append, List.length_nil]
      rw [if_neg (by decide), if_neg (by decide), if_pos (by omega)]
    · rw [c] at hd
      rw [fdG_bad _ _ _ c]
      have key := ih (l.drop 1) out (if lost < 2147483647 then lost + 1 else lost) (by rw [List.length_drop]; omega) (isB_drop hb _) (by rw [List.length_drop]; omega) (by split <;> omega) (by split <;> omega)
      have em : mn (wrap64 (lost + 1)) 2147483647 = if lost < 2147483647 then lost + 1 else lost := by
        rw [w64 (by omega) (by omega), mn_eq]
        by_cases q : lost < 2147483647
        · rw [if_pos q]; split <;> omega
        · rw [if_neg q]; split <;> omega
      obtain ⟨m, e, e2⟩ := evs2 hd key
      refine ⟨m + 1, fun k hk => ?_⟩
      obtain ⟨j, rfl⟩ : ∃ j, k = m + j + 1 := ⟨k - m - 1, by omega⟩
      simp only [impl_feed.l0, e j, frBad, Option.bind_some, em]
      rw [if_neg (by decide), if_pos trivial, if_pos (by omega)]
      exact e2 j
    · rw [c] at hd
      rw [fdG_done _ _ _ n c]
      have key := ih (l.drop (13 + n)) (out ++ [⟨(frDone l n).1, (frDone l n).2.1, (frDone l n).2.2.1⟩]) lost (by rw [List.length_drop]; omega) (isB_drop hb _) (by rw [List.length_drop, List.length_append]; simp; omega) h0 h1
      obtain ⟨m, e, e2⟩ := evs2 hd key
      refine ⟨m + 1, fun k hk => ?_⟩
      obtain ⟨j, rfl⟩ : ∃ j, k = m + j + 1 := ⟨k - m - 1, by omega⟩
      have en : (frDone l n).2.2.2.1 = ((13 + n : Nat) : Int) := rfl
      have ec : (frDone l n).2.2.2.2 = 0 := rfl
      simp only [impl_feed.l0, e j, Option.bind_some, en, ec, if_true, Int.toNat_natCast]
      rw [if_pos (by omega), if_pos (by omega), if_pos (by omega)]
      exact e2 j
theorem iFeed_ev (buf : List Int) (lost : Int) (chunk : List Int) (hb : isB buf) (hc : isB chunk) (hbl : buf.length ≤ 1048576) (hcl : chunk.length ≤ 1048576) : Ev (fun k => impl_Feed.f k buf lost chunk) (feedV buf lost chunk) := by
  have hS := iStream_ev buf lost (by omega) hb
  unfold feedV
  by_cases h : streamOk buf lost
  · by_cases h2 : chunk.length ≤ 20000
    · rw [if_pos ⟨h, h2⟩]
      have key := iFeed_l buf ((buf ++ chunk).length + 1) (buf ++ chunk) [] lost (by omega) (isB_append hb hc) (by rw [List.length_append]; simp; omega) h.1 h.2.1
      obtain ⟨m, e, e2⟩ := evs2 hS key
      refine ⟨m, fun k hk => ?_⟩
      obtain ⟨j, rfl⟩ : ∃ j, k = m + j := ⟨k - m, by omega⟩
      simp only [impl_Feed.f, impl_feed.f, e j, decide_eq_true h, Option.bind_some, if_true, List.nil_append, List.length_nil]
      rw [if_neg (by omega), if_pos (by omega), if_pos (by omega), e2 j, Option.bind_some]
    · rw [if_neg (fun hh => h2 hh.2)]
      obtain ⟨m, e⟩ := evs1 hS
      refine ⟨m, fun k hk => ?_⟩
      obtain ⟨j, rfl⟩ : ∃ j, k = m + j := ⟨k - m, by omega⟩
      simp only [impl_Feed.f, e j, decide_eq_true h, Option.bind_some, if_true, List.nil_append, List.length_nil]
      rw [if_pos (by omega), if_pos (by omega)]
  · rw [if_neg (fun hh => h hh.1)]
    obtain ⟨m, e⟩ := evs1 hS
    refine ⟨m, fun k hk => ?_⟩
    obtain ⟨j, rfl⟩ : ∃ j, k = m + j := ⟨k - m, by omega⟩
    simp only [impl_Feed.f, e j, decide_eq_false h, Option.bind_some, Bool.false_eq_true, if_false, List.nil_append, List.length_nil]
    rw [if_pos (by omega)]

-- block totF
def totF : List S109 → Nat
  | [] => 0
  | r :: rs => 2 + r.f2.length + totF rs
theorem rd_midF (A : List S109) (r : S109) (rs : List S109) : rd_T109 (A ++ r :: rs) (A.length : Int) = r := by simp [rd_T109, List.getD_eq_getElem?_getD]
theorem set_midF {α : Type} (A : List α) (r r' : α) (rs : List α) : (A ++ r :: rs).set A.length r' = A ++ r' :: rs := by simp

-- block eqFrameS
theorem eqFrameS_l (L : List S109) (hn : L.length ≤ 1048576) (hr : ∀ r ∈ L, r.f2.length ≤ 2097152) : ∀ (rs A : List S109), A ++ rs = L → Ev (fun k => laws_eqFrameS.l0 k L L (A.length : Int)) true := by
  intro rs
  induction rs with
  | nil =>
    intro A e
    rw [List.append_nil] at e
    refine ev_now fun k => ?_
    simp only [laws_eqFrameS.l0]
    rw [if_neg (by rw [e]; omega)]
  | cons r rs ih =>
    intro A e
    have hrl : r.f2.length ≤ 2097152 := hr r (by rw [← e]; simp)
    have hlt : A.length < L.length := by rw [← e]; simp
    have key := ih (A ++ [r]) (by rw [List.append_assoc, List.singleton_append]; exact e)
    rw [List.length_append, List.length_singleton] at key
    have hrd : rd_T109 L (A.length : Int) = r := by rw [← e]; exact rd_midF A r rs
    obtain ⟨m, e1, e2⟩ := evs2 (eqFrame_ev r.f0 r.f1 r.f2 (by omega)) key
    refine ⟨m + 1, fun k hk => ?_⟩
    obtain ⟨j, rfl⟩ : ∃ j, k = m + j + 1 := ⟨k - m - 1, by omega⟩
    simp only [laws_eqFrameS.l0, hrd, e1 j, Option.bind_some, if_true]
    rw [if_pos (by omega), if_pos (by omega), if_pos (by omega), wsucc (by omega)]
    exact e2 j
theorem eqFrameS_ev (L : List S109) (hn : L.length ≤ 1048576) (hr : ∀ r ∈ L, r.f2.length ≤ 2097152) : Ev (fun k => laws_eqFrameS.f k L L) true := by
  refine Ev.congr (fun k => ?_) (eqFrameS_l L hn hr L [] rfl)
  simp only [laws_eqFrameS.f]
  rw [if_pos trivial]
  rfl

-- block markFrameS
def marksF : List S109 → Int → List S109
  | [], _ => []
  | r :: rs, m => ⟨m, m + 1, marksB r.f2.length (m + 2)⟩ :: marksF rs (m + 2 + r.f2.length)
theorem markFrameS_l : ∀ (rs A : List S109) (m : Int), 0 ≤ m → m + totF rs ≤ 4611686018427387904 → A.length + rs.length ≤ 1048576 → Ev (fun k => laws_markFrameS.l0 k (A ++ rs) m (A.length : Int)) (m + totF rs, A ++ marksF rs m) := by
  intro rs
  induction rs with
  | nil =>
    intro A m h0 hm hl
    refine ev_now fun k => ?_
    simp only [laws_markFrameS.l0]
    rw [if_neg (by simp)]
    simp [totF, marksF]
  | cons r rs ih =>
    intro A m h0 hm hl
    rw [totF] at hm
    rw [List.length_cons] at hl
    have key := ih (A ++ [⟨m, m + 1, marksB r.f2.length (m + 2)⟩]) (m + 2 + r.f2.length) (by omega) (by omega) (by rw [List.length_append, List.length_singleton]; omega)
    rw [List.length_append, List.length_singleton, List.append_assoc, List.singleton_append, List.append_assoc, List.singleton_append] at key
    obtain ⟨n, e1, e2⟩ := evs2 (markByteS_ev r.f2 (m + 2) (by omega) (by omega)) key
    refine ⟨n + 1, fun k hk => ?_⟩
    obtain ⟨j, rfl⟩ : ∃ j, k = n + j + 1 := ⟨k - n - 1, by omega⟩
    have w1 : wrap64 (m + 1) = m + 1 := w64 (by omega) (by omega)
    have w2 : wrap64 (m + 1 + 1) = m + 2 := by rw [w64 (by omega) (by omega)]; omega
    simp only [laws_markFrameS.l0, Int.toNat_natCast, rd_midF, set_midF, Option.bind_some, w1, w2, e1 j]
    rw [if_pos (by rw [List.length_append, List.length_cons]; omega), if_pos (by omega), wsucc (by omega), totF, marksF]
    have e3 := e2 j
    rw [show m + 2 + (r.f2.length : Int) + (totF rs : Int) = m + ((2 + r.f2.length + totF rs : Nat) : Int) by omega] at e3
    exact e3
theorem markFrameS_ev (L : List S109) (m : Int) (h0 : 0 ≤ m) (hm : m + totF L ≤ 4611686018427387904) (hl : L.length ≤ 1048576) : Ev (fun k => laws_markFrameS.f k L m) (m + totF L, marksF L m) := by
  have := markFrameS_l L [] m h0 hm (by simpa using hl)
  exact Ev.congr (fun k => rfl) this

-- block heldFrameS
theorem heldFrameS_l : ∀ (rs A : List S109) (m : Int), 0 ≤ m → m + totF rs ≤ 4611686018427387904 → A.length + rs.length ≤ 1048576 → Ev (fun k => laws_heldFrameS.l0 k (A ++ marksF rs m) m (A.length : Int)) (m + totF rs) := by
  intro rs
  induction rs with
  | nil =>
    intro A m h0 hm hl
    refine ev_now fun k => ?_
    simp only [laws_heldFrameS.l0]
    rw [if_neg (by simp [marksF])]
    simp [totF]
  | cons r rs ih =>
    intro A m h0 hm hl
    rw [totF] at hm
    rw [List.length_cons] at hl
    have key := ih (A ++ [⟨m, m + 1, marksB r.f2.length (m + 2)⟩]) (m + 2 + r.f2.length) (by omega) (by omega) (by rw [List.length_append, List.length_singleton]; omega)
    rw [List.length_append, List.length_singleton, List.append_assoc, List.singleton_append] at key
    obtain ⟨n, e1, e2⟩ := evs2 (heldByteS_ev r.f2.length (m + 2) (by omega) (by omega)) key
    refine ⟨n + 1, fun k hk => ?_⟩
    obtain ⟨j, rfl⟩ : ∃ j, k = n + j + 1 := ⟨k - n - 1, by omega⟩
    have w1 : wrap64 (m + 1) = m + 1 := w64 (by omega) (by omega)
    have w2 : wrap64 (m + 1 + 1) = m + 2 := by rw [w64 (by omega) (by omega)]; omega
    rw [marksF]
    simp only [laws_heldFrameS.l0, rd_midF, Option.bind_some, w1, w2, e1 j, if_true]
    rw [if_pos (by rw [List.length_append, List.length_cons]; omega), if_pos (by omega), if_neg (by omega), wsucc (by omega), totF]
    have e3 := e2 j
    rw [show m + 2 + (r.f2.length : Int) + (totF rs : Int) = m + ((2 + r.f2.length + totF rs : Nat) : Int) by omega] at e3
    exact e3
theorem heldFrameS_ev (L : List S109) (m : Int) (h0 : 0 ≤ m) (hm : m + totF L ≤ 4611686018427387904) (hl : L.length ≤ 1048576) : Ev (fun k => laws_heldFrameS.f k (marksF L m) m) (m + totF L) := by
  have := heldFrameS_l L [] m h0 hm (by simpa using hl)
  exact Ev.congr (fun k => rfl) this

-- block sFeed
theorem sFeed_l (all : List Int) (hb : isB all) (hn : all.length ≤ 2097152) : ∀ (d a : Nat) (out : List S109) (lost : Int), a ≤ all.length → (all.drop a).length < d → out.length + (all.drop a).length ≤ 2097152 → 0 ≤ lost → lost ≤ 2147483647 → Ev (fun k => spec_Feed.l0 k all out (a : Int) lost) (fdG d (all.drop a) out lost) := by
  intro d
  induction d with
  | zero => intro a out lost _ h; omega
  | succ d ih =>
    intro a out lost ha h hl h0 h1
    have hbd := isB_drop hb a
    have hll : (all.drop a).length = all.length - a := List.length_drop
    have hd := sDec_ev (all.drop a) (by omega) hbd
    rcases decF_cases hbd with c | ⟨c, c1⟩ | ⟨n, c, c1⟩
    · rw [c] at hd
      rw [fdG_more _ _ _ c]
      obtain ⟨m, e, e2⟩ := evs2 hd (sBytes_ev (all.drop a) (by omega))
      refine ⟨m + 1, fun k hk => ?_⟩
      obtain ⟨j, rfl⟩ : ∃ j, k = m + j + 1 := ⟨k - m - 1, by omega⟩
      simp only [spec_Feed.l0, spec_l11At.f, spec_l11Tail.f, Int.toNat_natCast, e j, e2 j]
      rw [if_pos (by omega), if_pos (by omega), if_pos (by omega)]
      simp only [frMore, Option.bind_some]
      rw [if_pos trivial, if_pos (by omega), if_pos (by omega)]
      rfl
    · rw [c] at hd
      rw [fdG_bad _ _ _ c]
      have key := ih (a + 1) out (if lost < 2147483647 then lost + 1 else lost) (by omega) (by rw [List.length_drop]; omega) (by rw [List.length_drop]; omega) (by split <;> omega) (by split <;> omega)
      rw [← List.drop_drop] at key
      obtain ⟨m, e, e2⟩ := evs2 hd key
      refine ⟨m + 1, fun k hk => ?_⟩
      obtain ⟨j, rfl⟩ : ∃ j, k = m + j + 1 := ⟨k - m - 1, by omega⟩
      have e2' := e2 j
      simp only [spec_Feed.l0, spec_l11At.f, Int.toNat_natCast, e j]
      rw [if_pos (by omega), if_pos (by omega), if_pos (by omega)]
      simp only [frBad, Option.bind_some]
      rw [if_neg (by decide), if_neg (by decide), wsucc (by omega)]
      by_cases q : lost < 2147483647
      · rw [if_pos q] at e2' ⊢
        rw [w64 (x := lost + 1) (by omega) (by omega), if_pos q]
        exact e2'
      · rw [if_neg q] at e2' ⊢
        rw [if_neg q]
        exact e2'
    · rw [c] at hd
      rw [fdG_done _ _ _ n c]
      have key := ih (a + (13 + n)) (out ++ [⟨(frDone (all.drop a) n).1, (frDone (all.drop a) n).2.1, (frDone (all.drop a) n).2.2.1⟩]) lost (by omega) (by rw [List.length_drop]; omega) (by rw [List.length_drop, List.length_append]; simp; omega) h0 h1
      rw [← List.drop_drop] at key
      obtain ⟨m, e, e2⟩ := evs2 hd key
      refine ⟨m + 1, fun k hk => ?_⟩
      obtain ⟨j, rfl⟩ : ∃ j, k = m + j + 1 := ⟨k - m - 1, by omega⟩
      have en : (frDone (all.drop a) n).2.2.2.1 = ((13 + n : Nat) : Int) := rfl
      have ec : (frDone (all.drop a) n).2.2.2.2 = 0 := rfl
      simp only [spec_Feed.l0, spec_l11At.f, Int.toNat_natCast, e j]
      rw [if_pos (by omega), if_pos (by omega), if_pos (by omega)]
      simp only [Option.bind_some, en, ec, if_true, Int.toNat_natCast]
      rw [if_neg (by decide), if_pos (by omega), w64n (x := (a : Int) + ((13 + n : Nat) : Int)) (a := a + (13 + n)) (by omega) (by omega)]
      exact e2 j
theorem sFeed_ev (buf : List Int) (lost : Int) (chunk : List Int) (hb : isB buf) (hc : isB chunk) (hbl : buf.length ≤ 1048576) (hcl : chunk.length ≤ 1048576) : Ev (fun k => spec_Feed.f k buf lost chunk) (feedV buf lost chunk) := by
  have hS := sStream_ev buf lost (by omega) hb
  have hB := sBytes_ev buf (by omega)
  unfold feedV
  by_cases h : streamOk buf lost
  · by_cases h2 : chunk.length ≤ 20000
    · rw [if_pos ⟨h, h2⟩]
      have key := sFeed_l (buf ++ chunk) (isB_append hb hc) (by rw [List.length_append]; omega) ((buf ++ chunk).length + 1) 0 [] lost (by omega) (by rw [List.drop_zero]; omega) (by rw [List.drop_zero, List.length_append]; simp; omega) h.1 h.2.1
      rw [List.drop_zero] at key
      obtain ⟨m, e, e2, e3⟩ := evs3 hS (sJoinB_ev buf chunk (by omega)) key
      refine ⟨m + 1, fun k hk => ?_⟩
      obtain ⟨j, rfl⟩ : ∃ j, k = m + (j + 1) := ⟨k - m - 1, by omega⟩
      simp only [spec_Feed.f, e (j + 1), decide_eq_true h, Option.bind_some, if_true]
      rw [decide_eq_false (by omega), show m + (j + 1) = m + j + 1 from rfl]
      simp only [spec_Feed.j0, Bool.false_eq_true, if_false, e2 j, Option.bind_some]
      exact e3 j
    · rw [if_neg (fun hh => h2 hh.2)]
      obtain ⟨m, e, e2⟩ := evs2 hS hB
      refine ⟨m + 1, fun k hk => ?_⟩
      obtain ⟨j, rfl⟩ : ∃ j, k = m + (j + 1) := ⟨k - m - 1, by omega⟩
      simp only [spec_Feed.f, e (j + 1), decide_eq_true h, Option.bind_some, if_true]
      rw [decide_eq_true (by omega), show m + (j + 1) = m + j + 1 from rfl]
      simp only [spec_Feed.j0, if_true, e2 j, Option.bind_some]
  · rw [if_neg (fun hh => h hh.1)]
    obtain ⟨m, e, e2⟩ := evs2 hS hB
    refine ⟨m + 1, fun k hk => ?_⟩
    obtain ⟨j, rfl⟩ : ∃ j, k = m + (j + 1) := ⟨k - m - 1, by omega⟩
    simp only [spec_Feed.f, e (j + 1), decide_eq_false h, Option.bind_some, Bool.false_eq_true, if_false]
    rw [show m + (j + 1) = m + j + 1 from rfl]
    simp only [spec_Feed.j0, if_true, e2 j, Option.bind_some]

end Go.Proofs.Ytbojabmpcfclhaa.QFnExactFeed

/- Lemmas on the printed functions of FnExactFeedAll: what each comes to. -/
import Derived.Test.YtogdhclomgafdaaZFEFAx13
namespace Go.Proofs.Ytogdhclomgafdaa.QFnExactFeedAll
open Go.RowKit Go.Proofs.Ytogdhclomgafdaa.PFnExactFeedAll Go.Proofs.YtogdhclomgafdaaW.PrintWords Go.Proofs.YtogdhclomgafdaaW.PrintLast Go.Proofs.Ytogdhclomgafdaa.Math
set_option linter.unusedVariables false
set_option linter.unusedSimpArgs false

theorem toByteS_l (l : List Int) (hn : l.length ≤ 140737488355328) : ∀ (d i : Nat), l.length - i = d → i ≤ l.length →
 Ev (fun k => laws_toByteS.l0 k l (l.take i ++ List.replicate (l.length - i) 0) (i : Int)) l := by
 intro d
 induction d with
 | zero =>
  intro i h hi
  refine ev_now fun k => ?_
  simp only [laws_toByteS.l0]
  rw [if_neg (by omega), fill_all l 0 i (by omega)]
 | succ d ih =>
  intro i h hi
  refine Ev.step (fun k => ?_) (ih (i + 1) (by omega) (by omega))
  simp only [laws_toByteS.l0]
  rw [if_pos (by omega), if_pos (by omega), if_pos (by simp; omega), wsucc (by omega), Int.toNat_natCast, set_fill l 0 _ i (by omega) (rd_eq (by omega))]
theorem toByteS_ev (l : List Int) (hn : l.length ≤ 140737488355328) : Ev (fun k => laws_toByteS.f k l) l := by
 refine Ev.congr (fun k => ?_) (toByteS_l l hn l.length 0 (by omega) (by omega))
 simp only [laws_toByteS.f]
 rw [if_pos (by omega), if_pos (by rw [Int.toNat_natCast]; omega), Int.toNat_natCast, fill_zero l 0]
 rfl

theorem eqByteS_l (l : List Int) (hn : l.length ≤ 140737488355328) : ∀ (d i : Nat), l.length - i = d → i ≤ l.length → Ev (fun k => laws_eqByteS.l0 k l l (i : Int)) true := by
 intro d
 induction d with
 | zero =>
  intro i h hi
  refine ev_now fun k => ?_
  simp only [laws_eqByteS.l0]
  rw [if_neg (by omega)]
 | succ d ih =>
  intro i h hi
  refine Ev.step (fun k => ?_) (ih (i + 1) (by omega) (by omega))
  simp only [laws_eqByteS.l0]
  rw [if_pos (by omega), if_pos (by omega), if_pos (by omega), if_pos trivial, wsucc (by omega)]
theorem eqByteS_ev (l : List Int) (hn : l.length ≤ 140737488355328) : Ev (fun k => laws_eqByteS.f k l l) true := by
 refine Ev.congr (fun k => ?_) (eqByteS_l l hn l.length 0 (by omega) (by omega))
 simp only [laws_eqByteS.f]
 rw [if_pos trivial]
 rfl

theorem markByteS_l (l : List Int) (m : Int) (h0 : 0 ≤ m) (hn : m + l.length ≤ 4611686018427387904) : ∀ (d i : Nat), l.length - i = d → i ≤ l.length →
 Ev (fun k => laws_markByteS.l0 k ((marksB l.length m).take i ++ l.drop i) (m + i) (i : Int)) (m + l.length, marksB l.length m) := by
 have hlen := marksB_len l.length m
 intro d
 induction d with
 | zero =>
  intro i h hi
  refine ev_now fun k => ?_
  simp only [laws_markByteS.l0]
  rw [if_neg (by simp; omega), List.take_of_length_le (by omega), List.drop_eq_nil_of_le (by omega), List.append_nil, show i = l.length by omega]
 | succ d ih =>
  intro i h hi
  refine Ev.step (fun k => ?_) (ih (i + 1) (by omega) (by omega))
  simp only [laws_markByteS.l0]
  rw [if_pos (by simp; omega), if_pos (by omega), wsucc (by omega), Int.toNat_natCast, set_mark hlen (by omega) (by simp [marksB]), w64 (by omega) (by omega)]
  simp only [Int.natCast_add, Int.natCast_one, Int.add_assoc]
theorem markByteS_ev (l : List Int) (m : Int) (h0 : 0 ≤ m) (hn : m + l.length ≤ 4611686018427387904) : Ev (fun k => laws_markByteS.f k l m) (m + l.length, marksB l.length m) := by
 refine Ev.congr (fun k => ?_) (markByteS_l l m h0 hn l.length 0 (by omega) (by omega))
 simp [laws_markByteS.f]

theorem heldByteS_l (n : Nat) (m : Int) (h0 : 0 ≤ m) (hn : m + n ≤ 4611686018427387904) : ∀ (d i : Nat), n - i = d → i ≤ n →
 Ev (fun k => laws_heldByteS.l0 k (marksB n m) (m + i) (i : Int)) (m + n) := by
 have hlen := marksB_len n m
 intro d
 induction d with
 | zero =>
  intro i h hi
  refine ev_now fun k => ?_
  simp only [laws_heldByteS.l0]
  rw [if_neg (by omega), show i = n by omega]
 | succ d ih =>
  intro i h hi
  refine Ev.step (fun k => ?_) (ih (i + 1) (by omega) (by omega))
  simp only [laws_heldByteS.l0]
  rw [if_pos (by omega), if_pos (by omega), if_pos (by rw [rd_eq (by omega)]; simp [marksB]), wsucc (by omega), w64 (by omega) (by omega)]
  simp only [Int.natCast_add, Int.natCast_one, Int.add_assoc]
theorem heldByteS_ev (n : Nat) (m : Int) (h0 : 0 ≤ m) (hn : m + n ≤ 4611686018427387904) : Ev (fun k => laws_heldByteS.f k (marksB n m) m) (m + n) := by
 refine Ev.congr (fun k => ?_) (heldByteS_l n m h0 hn n 0 (by omega) (by omega))
 simp [laws_heldByteS.f]

theorem in_eq (a b c : Int) : spec_l01In.f a b c = some (decide (b ≤ a ∧ a ≤ c)) := by
 simp only [spec_l01In.f, if_dec]

theorem sCks_l (l : List Int) (hn : l.length ≤ 140737488355328) (hb : isB l) : ∀ (d i : Nat) (x y : Int), l.length - i = d → 0 ≤ x → x ≤ 65520 → 0 ≤ y → y ≤ 65520 →
 Ev (fun k => spec_CheckSum.l0 k l x y (i : Int)) (cks (l.drop i) x y) := by
 intro d
 induction d with
 | zero =>
  intro i x y h h1 h2 h3 h4
  refine ev_now fun k => ?_
  simp only [spec_CheckSum.l0]
  rw [if_neg (by omega), List.drop_eq_nil_of_le (by omega), w64 (x := 65536 * y) (by omega) (by omega), w64 (by omega) (by omega), cks]
 | succ d ih =>
  intro i x y h h1 h2 h3 h4
  have hc := isB_at hb (show i < l.length by omega)
  rw [cks_at (by omega)]
  refine Ev.step (fun k => ?_) (ih (i + 1) _ _ (by omega) (by omega) (by omega) (by omega) (by omega))
  simp only [spec_CheckSum.l0]
  rw [if_pos (by omega), if_pos (by omega), rd_eq (by omega), w64 (x := l[i]) (by omega) (by omega), w64 (x := x + l[i]) (by omega) (by omega), Int.tmod_eq_emod_of_nonneg (a := x + l[i]) (by omega), w64 (x := y + _) (by omega) (by omega), Int.tmod_eq_emod_of_nonneg (by omega), wsucc (by omega)]
theorem sCks_ev (l : List Int) (hn : l.length ≤ 140737488355328) (hb : isB l) : Ev (fun k => spec_CheckSum.f k l) (cks l 1 0) := by
 refine Ev.congr (fun k => ?_) (sCks_l l hn hb l.length 0 1 0 (by omega) (by omega) (by omega) (by omega) (by omega))
 simp [spec_CheckSum.f]

theorem iCks_l (l : List Int) (hn : l.length ≤ 140737488355328) (hb : isB l) : ∀ (d i : Nat) (x y : Int), l.length - i = d → 0 ≤ x → x ≤ 65520 → 0 ≤ y → y ≤ 65520 →
 Ev (fun k => impl_checkSum.l0 k x y l (l.length : Int) (i : Int)) (cks (l.drop i) x y) := by
 intro d
 induction d with
 | zero =>
  intro i x y h h1 h2 h3 h4
  refine ev_now fun k => ?_
  simp only [impl_checkSum.l0]
  rw [if_neg (by omega), List.drop_eq_nil_of_le (by omega), w64 (x := 65536 * y) (by omega) (by omega), w64 (by omega) (by omega), cks]
 | succ d ih =>
  intro i x y h h1 h2 h3 h4
  have hc := isB_at hb (show i < l.length by omega)
  rw [cks_at (by omega)]
  refine Ev.step (fun k => ?_) (ih (i + 1) _ _ (by omega) (by omega) (by omega) (by omega) (by omega))
  simp only [impl_checkSum.l0]
  rw [if_pos (by omega), if_pos (by omega), if_pos (by omega), rd_eq (by omega), w64 (x := l[i]) (by omega) (by omega), w64 (x := x + l[i]) (by omega) (by omega), Int.tmod_eq_emod_of_nonneg (a := x + l[i]) (by omega), w64 (x := y + _) (by omega) (by omega), Int.tmod_eq_emod_of_nonneg (by omega), wsucc (by omega)]
theorem iCks_ev (l : List Int) (hn : l.length ≤ 140737488355328) (hb : isB l) : Ev (fun k => impl_checkSum.f k l) (cks l 1 0) := by
 refine Ev.congr (fun k => ?_) (iCks_l l hn hb l.length 0 1 0 (by omega) (by omega) (by omega) (by omega) (by omega))
 simp [impl_checkSum.f]

theorem szByteS_eq (l : List Int) (m : Int) (h0 : 0 ≤ m) (h1 : m ≤ 1048576) (hl : l.length ≤ maxLen) : laws_szByteS.f l m = some (if m < l.length then -1 else m - l.length) := by
 have hm : maxLen = 9223372036854775807 := rfl
 simp only [laws_szByteS.f]
 rw [w64 (by omega) (by omega)]
 by_cases h : m < l.length
 · rw [if_pos h, if_pos (by omega)]
 · rw [if_neg h, if_neg (by omega)]

theorem eqFrame_ev (a b : Int) (l : List Int) (hn : l.length ≤ 140737488355328) : Ev (fun k => laws_eqFrame.f k a b l a b l) true := by
 obtain ⟨K, h⟩ := eqByteS_ev l hn
 exact ⟨K, fun k hk => by simp only [laws_eqFrame.f, h k hk, Option.bind_some, if_true]⟩

def rdN (l : List Int) : Int → Int := fun a => l.foldl (fun x c => 256 * x + c) a
theorem rdN_range (l : List Int) (hb : isB l) : ∀ a : Int, 0 ≤ a → 0 ≤ rdN l a ∧ rdN l a < (a + 1) * 256 ^ l.length := by
 induction l with
 | nil => intro a ha; unfold rdN; simp; omega
 | cons c l ih =>
  intro a ha
  have hc := hb c (List.mem_cons_self ..)
  have h := ih (fun x hx => hb x (List.mem_cons_of_mem _ hx)) (256 * a + c) (by omega)
  have e : rdN (c :: l) a = rdN l (256 * a + c) := rfl
  rw [e]
  refine ⟨h.1, Int.lt_of_lt_of_le h.2 ?_⟩
  rw [List.length_cons, Int.pow_succ, Int.mul_comm (256 ^ l.length), ← Int.mul_assoc]
  exact Int.mul_le_mul_of_nonneg_right (by omega) (Int.pow_nonneg (by omega))
theorem rdN_at {l : List Int} {i : Nat} (h : i < l.length) (a : Int) : rdN (l.drop i) a = rdN (l.drop (i + 1)) (256 * a + l[i]) := by
 rw [List.drop_eq_getElem_cons h]; rfl
theorem rdN_nil (a : Int) : rdN [] a = a := rfl

theorem sRead_l (l : List Int) (hl : l.length ≤ 4) (hb : isB l) : ∀ (d i : Nat) (a : Int), l.length - i = d → 0 ≤ a → a < 256 ^ i → Ev (fun k => spec_l11Read.l0 k l a (i : Int)) (rdN (l.drop i) a) := by
 intro d
 induction d with
 | zero =>
  intro i a h h1 h2
  refine ev_now fun k => ?_
  simp only [spec_l11Read.l0]
  rw [if_neg (by omega), List.drop_eq_nil_of_le (by omega), rdN_nil]
 | succ d ih =>
  intro i a h h1 h2
  have hc := isB_at hb (show i < l.length by omega)
  have h3 : (256 : Int) ^ i ≤ 16777216 := p256 (by omega)
  rw [rdN_at (by omega)]
  refine Ev.step (fun k => ?_) (ih (i + 1) _ (by omega) (by omega) (by rw [Int.pow_succ]; omega))
  simp only [spec_l11Read.l0]
  rw [if_pos (by omega), if_pos (by omega), rd_eq (by omega), w64 (x := l[i]) (by omega) (by omega), w64 (x := 256 * a) (by omega) (by omega), w64 (by omega) (by omega), wsucc (by omega)]
theorem sRead_ev (l : List Int) (hl : l.length ≤ 4) (hb : isB l) : Ev (fun k => spec_l11Read.f k l) (rdN l 0) :=
 Ev.congr (fun k => rfl) (sRead_l l hl hb l.length 0 0 (by omega) (by omega) (by decide))

theorem iRead_l (l : List Int) (hl : l.length ≤ 4) (hb : isB l) : ∀ (d i : Nat) (a : Int), l.length - i = d → 0 ≤ a → a < 256 ^ i → Ev (fun k => impl_numberIn.l0 k a l (l.length : Int) (i : Int)) (rdN (l.drop i) a) := by
 intro d
 induction d with
 | zero =>
  intro i a h h1 h2
  refine ev_now fun k => ?_
  simp only [impl_numberIn.l0]
  rw [if_neg (by omega), List.drop_eq_nil_of_le (by omega), rdN_nil]
 | succ d ih =>
  intro i a h h1 h2
  have hc := isB_at hb (show i < l.length by omega)
  have h3 : (256 : Int) ^ i ≤ 16777216 := p256 (by omega)
  rw [rdN_at (by omega)]
  refine Ev.step (fun k => ?_) (ih (i + 1) _ (by omega) (by omega) (by rw [Int.pow_succ]; omega))
  simp only [impl_numberIn.l0]
  rw [if_pos (by omega), if_pos (by omega), if_pos (by omega), rd_eq (by omega), w64 (x := l[i]) (by omega) (by omega), w64 (x := a * 256) (by omega) (by omega), wsucc (by omega)]
  have e := bits_join8 a.toNat l[i].toNat (by omega) (by omega)
  rw [show ((a.toNat * 256 : Nat) : Int) = a * 256 by omega, show ((l[i].toNat : Nat) : Int) = l[i] by omega] at e
  rw [e, show ((256 * a.toNat + l[i].toNat : Nat) : Int) = 256 * a + l[i] by omega]
theorem iRead_ev (l : List Int) (hl : l.length ≤ 4) (hb : isB l) : Ev (fun k => impl_numberIn.f k l) (rdN l 0) :=
 Ev.congr (fun k => rfl) (iRead_l l hl hb l.length 0 0 (by omega) (by omega) (by decide))

theorem sBytes_l (l : List Int) (hn : l.length < 140737488355328) : ∀ (d i : Nat), l.length - i = d → i ≤ l.length →
 Ev (fun k => spec_l01Bytes.l0 k l (l.take i) (i : Int)) l := by
 intro d
 induction d with
 | zero =>
  intro i h hi
  refine ev_now fun k => ?_
  simp only [spec_l01Bytes.l0]
  rw [if_neg (by omega), List.take_of_length_le (by omega)]
 | succ d ih =>
  intro i h hi
  refine Ev.step (fun k => ?_) (ih (i + 1) (by omega) (by omega))
  simp only [spec_l01Bytes.l0]
  rw [if_pos (by omega), if_pos (by omega), if_pos (by simp; omega), wsucc (by omega), rd_eq (by omega), List.take_append_getElem (by omega)]
theorem sBytes_ev (l : List Int) (hn : l.length < 140737488355328) : Ev (fun k => spec_l01Bytes.f k l) l :=
 Ev.congr (fun k => rfl) (sBytes_l l hn l.length 0 (by omega) (by omega))

def be4 (c : Int) : List Int := [c / 16777216 % 256, c / 65536 % 256, c / 256 % 256, c % 256]

theorem sWide_ev (c : Int) (h0 : 0 ≤ c) (h1 : c ≤ 4294967295) : Ev (fun k => spec_l11Wide.f k c 4) (be4 c) := by
 have e : ∀ n : Nat, n < 9223372036854775808 → Go.bits .and .i64 (n : Int) 255 % 256 = ((n % 256 : Nat) : Int) := by
  intro n hn
  rw [show (255 : Int) = ((255 : Nat) : Int) by rfl, bits_and255 n hn]
  omega
 have s0 : shr .i64 c 0 = ((c.toNat : Nat) : Int) := by show c / 2 ^ 0 = _; omega
 have s1 : shr .i64 c 8 = ((c.toNat / 256 : Nat) : Int) := by show c / 2 ^ 8 = _; omega
 have s2 : shr .i64 c 16 = ((c.toNat / 65536 : Nat) : Int) := by show c / 2 ^ 16 = _; omega
 have s3 : shr .i64 c 24 = ((c.toNat / 16777216 : Nat) : Int) := by show c / 2 ^ 24 = _; omega
 have w0 : IntKind.u64.wrap (wrap64 (8 * 0)) = 0 := by decide +kernel
 have w1 : IntKind.u64.wrap (wrap64 (8 * 1)) = 8 := by decide +kernel
 have w2 : IntKind.u64.wrap (wrap64 (8 * 2)) = 16 := by decide +kernel
 have w3 : IntKind.u64.wrap (wrap64 (8 * 3)) = 24 := by decide +kernel
 have v3 : wrap64 (4 - 1) = 3 := by decide +kernel
 have v2 : wrap64 (3 - 1) = 2 := by decide +kernel
 have v1 : wrap64 (2 - 1) = 1 := by decide +kernel
 have v0 : wrap64 (1 - 1) = 0 := by decide +kernel
 have vn : wrap64 (0 - 1) = -1 := by decide +kernel
 refine ⟨6, fun k hk => ?_⟩
 obtain ⟨j, rfl⟩ : ∃ j, k = j + 1 + 1 + 1 + 1 + 1 := ⟨k - 5, by omega⟩
 simp only [spec_l11Wide.f, spec_l11Wide.l0, v3, v2, v1, v0, vn, w0, w1, w2, w3, s0, s1, s2, s3]
 rw [e _ (by omega), e _ (by omega), e _ (by omega), e _ (by omega)]
 simp only [List.nil_append, List.length_nil, List.cons_append, List.length_cons]
 rw [if_pos (by omega), if_pos (by omega), if_pos (by omega), if_pos (by omega), if_pos (by omega), if_pos (by omega), if_pos (by omega), if_pos (by omega), if_pos (by omega), if_pos (by omega), if_pos (by omega), if_pos (by omega), if_neg (by omega)]
 unfold be4
 rw [show ((c.toNat / 16777216 % 256 : Nat) : Int) = c / 16777216 % 256 by omega, show ((c.toNat / 65536 % 256 : Nat) : Int) = c / 65536 % 256 by omega, show ((c.toNat / 256 % 256 : Nat) : Int) = c / 256 % 256 by omega, show ((c.toNat % 256 : Nat) : Int) = c % 256 by omega]

theorem iWide_ev (c : Int) (h0 : 0 ≤ c) (h1 : c ≤ 4294967295) : Ev (fun k => impl_bigEndian.f k c 4) (be4 c) := by
 have v3 : wrap64 (4 - 1) = 3 := by decide +kernel
 have v2 : wrap64 (3 - 1) = 2 := by decide +kernel
 have v1 : wrap64 (2 - 1) = 1 := by decide +kernel
 have v0 : wrap64 (1 - 1) = 0 := by decide +kernel
 have vn : wrap64 (0 - 1) = -1 := by decide +kernel
 have t4 : ((4 : Int)).toNat = 4 := rfl
 have t3 : ((3 : Int)).toNat = 3 := rfl
 have t2 : ((2 : Int)).toNat = 2 := rfl
 have t1 : ((1 : Int)).toNat = 1 := rfl
 have t0 : ((0 : Int)).toNat = 0 := rfl
 have r : List.replicate 4 (0 : Int) = [0, 0, 0, 0] := rfl
 refine ⟨6, fun k hk => ?_⟩
 obtain ⟨j, rfl⟩ : ∃ j, k = j + 1 + 1 + 1 + 1 + 1 := ⟨k - 5, by omega⟩
 simp only [impl_bigEndian.f, impl_bigEndian.l0, v3, v2, v1, v0, vn, t4, t3, t2, t1, t0, r, List.set_cons_zero, List.set_cons_succ, List.length_cons, List.length_nil]
 rw [if_pos (by omega), if_pos (by omega), if_pos (by omega), if_pos (by omega), if_pos (by omega), if_pos (by omega), if_pos (by omega), if_pos (by omega), if_pos (by omega), if_pos (by omega), if_pos (by omega), if_pos (by omega), if_pos (by omega), if_pos (by omega), if_neg (by omega)]
 unfold be4
 rw [show c / 256 / 256 / 256 % 256 = c / 16777216 % 256 by omega, show c / 256 / 256 % 256 = c / 65536 % 256 by omega]

abbrev FrT := Int × Int × List Int × Int × Int
def frMore : FrT := (0, 0, [], 0, 1)
def frBad : FrT := (0, 0, [], 0, 2)
def frDone (l : List Int) (n : Nat) : FrT := (rd l 2, rdN ((l.take 7).drop 3) 0, (l.take (9 + n)).drop 9, ((13 + n : Nat) : Int), 0)
def cmpR (l : List Int) (n : Nat) : List Int → List Int → FrT
 | _, [] => frDone l n
 | [], _ :: _ => frMore
 | a :: t, b :: s => if a = b then cmpR l n t s else frBad
def frN (l : List Int) : Int := rdN ((l.take 9).drop 7) 0
def hAt (l : List Int) (i : Nat) : Prop := (i = 0 → rd l 0 = 199) ∧ (i = 1 → rd l 1 = 77) ∧ (i = 2 → rd l 2 ≤ 99) ∧ (i = 3 → rd l 3 ≤ 127) ∧ (i = 7 → rd l 7 ≤ 19) ∧ (i = 8 → frN l ≤ 5000)
instance hAt_dec (l : List Int) (i : Nat) : Decidable (hAt l i) := by unfold hAt; infer_instance
def headB (l : List Int) : Bool := allF (min 9 l.length) 0 (fun j => decide (hAt l j))
def frSum (l : List Int) : List Int := be4 (cks ((l.take (9 + (frN l).toNat)).drop 2) 1 0)
def decF (l : List Int) : FrT := if headB l = true then (if l.length < 9 then frMore else if (l.length : Int) < 9 + frN l then frMore else cmpR l (frN l).toNat (l.drop (9 + (frN l).toNat)) (frSum l)) else frBad
theorem head_iff (l : List Int) : headB l = true ↔ (0 < l.length → rd l 0 = 199) ∧ (1 < l.length → rd l 1 = 77) ∧ (2 < l.length → rd l 2 ≤ 99) ∧ (3 < l.length → rd l 3 ≤ 127) ∧ (7 < l.length → rd l 7 ≤ 19) ∧ (8 < l.length → frN l ≤ 5000) := by
 unfold headB
 rw [allF_iff]
 constructor
 · intro h
   have g : ∀ j, j < 9 → j < l.length → hAt l j := fun j h1 h2 => of_decide_eq_true (h j (by omega) (by omega))
   exact ⟨fun q => (g 0 (by omega) q).1 rfl, fun q => (g 1 (by omega) q).2.1 rfl, fun q => (g 2 (by omega) q).2.2.1 rfl, fun q => (g 3 (by omega) q).2.2.2.1 rfl, fun q => (g 7 (by omega) q).2.2.2.2.1 rfl, fun q => (g 8 (by omega) q).2.2.2.2.2 rfl⟩
 · rintro ⟨g0, g1, g2, g3, g7, g8⟩ j h1 h2
   apply decide_eq_true
   exact ⟨fun e => g0 (by omega), fun e => g1 (by omega), fun e => g2 (by omega), fun e => g3 (by omega), fun e => g7 (by omega), fun e => g8 (by omega)⟩
theorem rd_B {l : List Int} (hb : isB l) (i : Nat) : 0 ≤ rd l (i : Int) ∧ rd l (i : Int) ≤ 255 := by
 by_cases h : i < l.length
 · exact hb _ (rd_mem h)
 · rw [show rd l (i : Int) = 0 by simp [rd, List.getD_eq_getElem?_getD, List.getElem?_eq_none (by omega : l.length ≤ i)]]; omega
theorem frN_range {l : List Int} (hb : isB l) : 0 ≤ frN l ∧ frN l ≤ 65535 := by
 have h := rdN_range ((l.take 9).drop 7) (isB_drop (isB_take hb _) _) 0 (by omega)
 have h2 : ((l.take 9).drop 7).length ≤ 2 := by simp; omega
 have h3 : (256 : Int) ^ ((l.take 9).drop 7).length ≤ 65536 := p256b h2
 unfold frN
 omega
theorem frSum_range {l : List Int} (hb : isB l) : 0 ≤ cks ((l.take (9 + (frN l).toNat)).drop 2) 1 0 ∧ cks ((l.take (9 + (frN l).toNat)).drop 2) 1 0 ≤ 4294967295 := by
 have := cks_range ((l.take (9 + (frN l).toNat)).drop 2) 1 0 (by omega) (by omega) (by omega) (by omega)
 omega

theorem sHead_l (l : List Int) (hn : l.length ≤ 140737488355328) (hb : isB l) : ∀ (d i : Nat), min 9 l.length - i = d → i ≤ 9 → Ev (fun k => spec_l11Head.l0 k l (i : Int)) (allF d i (fun j => decide (hAt l j))) := by
 intro d
 induction d with
 | zero =>
  intro i h hi
  by_cases hl : (i : Int) < (l.length : Int)
  · refine ⟨2, fun k hk => ?_⟩
    obtain ⟨k, rfl⟩ : ∃ j, k = j + 2 := ⟨k - 2, by omega⟩
    simp only [spec_l11Head.l0, spec_l11Head.j1]
    rw [if_pos hl, decide_eq_false (by omega), if_neg (by decide)]
    rfl
  · refine ⟨2, fun k hk => ?_⟩
    obtain ⟨k, rfl⟩ : ∃ j, k = j + 2 := ⟨k - 2, by omega⟩
    simp only [spec_l11Head.l0, spec_l11Head.j1]
    rw [if_neg hl, if_neg (by decide)]
    rfl
 | succ d ih =>
  intro i h hi
  have hc := rd_B hb i
  have key := ih (i + 1) (by omega) (by omega)
  obtain ⟨K, hK⟩ := key
  obtain ⟨n, hR⟩ := evs1 (sRead_ev ((l.take 9).drop 7) (by simp; omega) (isB_drop (isB_take hb _) _))
  refine ⟨K + n + 2, fun k hk => ?_⟩
  obtain ⟨m, rfl⟩ : ∃ j, k = n + j + 1 + 1 := ⟨k - n - 2, by omega⟩
  have hK : spec_l11Head.l0 (n + m) l ((i + 1 : Nat) : Int) = some _ := hK (n + m) (by omega)
  have hR := hR m
  simp only [spec_l11Head.l0]
  rw [if_pos (by omega), decide_eq_true (by omega : (i : Int) < 9)]
  simp only [spec_l11Head.j1, if_true, hR, Option.bind_some]
  rw [if_pos (by omega), if_pos (by omega), w64 (x := rd l (i : Int)) (by omega) (by omega), wsucc (by omega), hK, allF]
  have hfr : rdN ((l.take 9).drop 7) 0 = frN l := rfl
  rw [hfr]
  clear hK hR hfr ih
  have hi9 : i = 0 ∨ i = 1 ∨ i = 2 ∨ i = 3 ∨ i = 7 ∨ i = 8 ∨ (i = 4 ∨ i = 5 ∨ i = 6) := by omega
  rcases hi9 with rfl | rfl | rfl | rfl | rfl | rfl | hi9
  · have e : hAt l 0 ↔ rd l ((0 : Nat) : Int) = 199 := by unfold hAt; simp
    by_cases q : rd l ((0 : Nat) : Int) = 199
    · rw [if_pos (by omega), if_pos q, decide_eq_true (e.2 q), Bool.true_and]
    · rw [if_pos (by omega), if_neg q, decide_eq_false (fun x => q (e.1 x)), Bool.false_and]
  · have e : hAt l 1 ↔ rd l ((1 : Nat) : Int) = 77 := by unfold hAt; simp
    by_cases q : rd l ((1 : Nat) : Int) = 77
    · rw [if_neg (by omega), if_pos (by omega), if_pos q, decide_eq_true (e.2 q), Bool.true_and]
    · rw [if_neg (by omega), if_pos (by omega), if_neg q, decide_eq_false (fun x => q (e.1 x)), Bool.false_and]
  · have e : hAt l 2 ↔ rd l ((2 : Nat) : Int) ≤ 99 := by unfold hAt; simp
    by_cases q : rd l ((2 : Nat) : Int) ≤ 99
    · rw [if_neg (by omega), if_neg (by omega), if_pos (by omega), if_neg (by omega), decide_eq_true (e.2 q), Bool.true_and]
    · rw [if_neg (by omega), if_neg (by omega), if_pos (by omega), if_pos (by omega), decide_eq_false (fun x => q (e.1 x)), Bool.false_and]
  · have e : hAt l 3 ↔ rd l ((3 : Nat) : Int) ≤ 127 := by unfold hAt; simp
    by_cases q : rd l ((3 : Nat) : Int) ≤ 127
    · rw [if_neg (by omega), if_neg (by omega), if_neg (by omega), if_pos (by omega), if_neg (by omega), decide_eq_true (e.2 q), Bool.true_and]
    · rw [if_neg (by omega), if_neg (by omega), if_neg (by omega), if_pos (by omega), if_pos (by omega), decide_eq_false (fun x => q (e.1 x)), Bool.false_and]
  · have e : hAt l 7 ↔ rd l ((7 : Nat) : Int) ≤ 19 := by unfold hAt; simp
    by_cases q : rd l ((7 : Nat) : Int) ≤ 19
    · rw [if_neg (by omega), if_neg (by omega), if_neg (by omega), if_neg (by omega), if_pos (by omega), if_neg (by omega), decide_eq_true (e.2 q), Bool.true_and]
    · rw [if_neg (by omega), if_neg (by omega), if_neg (by omega), if_neg (by omega), if_pos (by omega), if_pos (by omega), decide_eq_false (fun x => q (e.1 x)), Bool.false_and]
  · have e : hAt l 8 ↔ frN l ≤ 5000 := by unfold hAt; simp
    rw [if_neg (by omega), if_neg (by omega), if_neg (by omega), if_neg (by omega), if_neg (by omega), if_pos (by omega), if_pos (by omega), if_pos (by omega)]
    by_cases q : frN l ≤ 5000
    · rw [if_neg (by omega), decide_eq_true (e.2 q), Bool.true_and]
    · rw [if_pos (by omega), decide_eq_false (fun x => q (e.1 x)), Bool.false_and]
  · have e : hAt l i := by unfold hAt; omega
    rw [if_neg (by omega), if_neg (by omega), if_neg (by omega), if_neg (by omega), if_neg (by omega), if_neg (by omega), decide_eq_true e, Bool.true_and]
theorem sHead_ev (l : List Int) (hn : l.length ≤ 140737488355328) (hb : isB l) : Ev (fun k => spec_l11Head.f k l) (headB l) :=
 Ev.congr (fun k => rfl) (sHead_l l hn hb (min 9 l.length) 0 (by omega) (by omega))

theorem sDec_l (l : List Int) (hn : l.length ≤ 140737488355327) (hb : isB l) (n : Nat) (hl : 9 + n ≤ l.length) (s : List Int) (hs : s.length = 4) : ∀ (d i : Nat), 4 - i = d → i ≤ 4 → 9 + n + i ≤ l.length →
 Ev (fun k => spec_DecodeFrame.l0 k l ((9 + n : Nat) : Int) s (i : Int) 0 0) (cmpR l n (l.drop (9 + n + i)) (s.drop i)) := by
 intro d
 induction d with
 | zero =>
  intro i h hi hli
  obtain ⟨K, h1, h2⟩ := evs2 (sRead_ev ((l.take 7).drop 3) (by simp; omega) (isB_drop (isB_take hb _) _)) (sBytes_ev ((l.take (9 + n)).drop 9) (by simp; omega))
  have hc := rd_B hb 2
  simp only [show ((2 : Nat) : Int) = 2 from rfl] at hc
  refine ⟨K + 1, fun k hk => ?_⟩
  obtain ⟨j, rfl⟩ : ∃ j, k = K + j + 1 := ⟨k - K - 1, by omega⟩
  simp only [spec_DecodeFrame.l0, Int.toNat_natCast, h1, h2, Option.bind_some]
  rw [if_neg (by omega), if_pos (by omega), if_pos (by omega), if_pos (by omega), if_pos (by omega), if_pos (by omega), (List.drop_eq_nil_of_le (by omega) : s.drop i = []), w64 (x := rd l 2) (by omega) (by omega), w64 (x := ((9 + n : Nat) : Int) + 4) (by omega) (by omega)]
  have e : cmpR l n (l.drop (9 + n + i)) [] = frDone l n := by unfold cmpR; rfl
  rw [e, frDone, show ((9 + n : Nat) : Int) + 4 = ((13 + n : Nat) : Int) by omega]
 | succ d ih =>
  intro i h hi hli
  have h1 : wrap64 (((9 + n : Nat) : Int) + (i : Int)) = ((9 + n + i : Nat) : Int) := by rw [w64 (by omega) (by omega)]; omega
  rw [List.drop_eq_getElem_cons (show i < s.length by omega)]
  by_cases hend : 9 + n + i = l.length
  · rw [List.drop_eq_nil_of_le (by omega)]
    refine ev_now fun k => ?_
    simp only [spec_DecodeFrame.l0, h1]
    rw [if_pos (by omega), if_pos (by omega)]
    rfl
  · rw [List.drop_eq_getElem_cons (show 9 + n + i < l.length by omega)]
    by_cases hq : l[9 + n + i] = s[i]
    · have e : cmpR l n (l[9 + n + i] :: l.drop (9 + n + i + 1)) (s[i] :: s.drop (i + 1)) = cmpR l n (l.drop (9 + n + (i + 1))) (s.drop (i + 1)) := by
       rw [cmpR, if_pos hq]; rfl
      rw [e]
      refine Ev.step (fun k => ?_) (ih (i + 1) (by omega) (by omega) (by omega))
      simp only [spec_DecodeFrame.l0, h1]
      rw [if_pos (by omega), if_neg (by omega), if_pos (by omega), if_pos (by omega), if_pos (by omega), if_pos (by omega), rd_eq (by omega), rd_eq (by omega), if_pos hq, wsucc (by omega)]
    · have e : cmpR l n (l[9 + n + i] :: l.drop (9 + n + i + 1)) (s[i] :: s.drop (i + 1)) = frBad := by
       rw [cmpR, if_neg hq]
      rw [e]
      refine ev_now fun k => ?_
      simp only [spec_DecodeFrame.l0, h1]
      rw [if_pos (by omega), if_neg (by omega), if_pos (by omega), if_pos (by omega), if_pos (by omega), if_pos (by omega), rd_eq (by omega), rd_eq (by omega), if_neg hq]
      rfl
theorem sDec_ev (l : List Int) (hn : l.length ≤ 140737488355327) (hb : isB l) : Ev (fun k => spec_DecodeFrame.f k l) (decF l) := by
 have hr := frN_range hb
 obtain ⟨N, hN⟩ : ∃ N : Nat, frN l = (N : Int) := ⟨(frN l).toNat, by omega⟩
 obtain ⟨F, hF⟩ : ∃ F : Int, rdN ((l.take 9).drop 7) 0 = F := ⟨_, rfl⟩
 have hFN : F = (N : Int) := by rw [← hF]; exact hN
 have hE := sRead_ev ((l.take 9).drop 7) (by simp; omega) (isB_drop (isB_take hb _) _)
 rw [hF] at hE
 obtain ⟨K, h1, h2⟩ := evs2 (sHead_ev l (by omega) hb) hE
 unfold decF
 by_cases hh : headB l = true
 · rw [if_pos hh]
   by_cases h9 : l.length < 9
   · rw [if_pos h9]
     refine ⟨K, fun k hk => ?_⟩
     obtain ⟨j, rfl⟩ : ∃ j, k = K + j := ⟨k - K, by omega⟩
     simp only [spec_DecodeFrame.f, h1, hh, Option.bind_some, if_true]
     rw [if_pos (by omega)]; rfl
   · rw [if_neg h9]
     have hw : wrap64 (9 + F) = ((9 + N : Nat) : Int) := by rw [w64 (by omega) (by omega)]; omega
     by_cases hlt : (l.length : Int) < 9 + frN l
     · rw [if_pos hlt]
       refine ⟨K, fun k hk => ?_⟩
       obtain ⟨j, rfl⟩ : ∃ j, k = K + j := ⟨k - K, by omega⟩
       simp only [spec_DecodeFrame.f, h1, h2, hh, hw, Option.bind_some, if_true]
       rw [if_neg (by omega), if_pos (by omega), if_pos (by omega), if_pos (by omega)]; rfl
     · rw [if_neg hlt, hN, Int.toNat_natCast]
       have hsr := frSum_range hb
       have hS : frSum l = be4 (cks ((l.take (9 + N)).drop 2) 1 0) := by unfold frSum; rw [hN, Int.toNat_natCast]
       rw [hN, Int.toNat_natCast] at hsr
       obtain ⟨M, g1, g2, g3⟩ := evs3 (sCks_ev ((l.take (9 + N)).drop 2) (by simp; omega) (isB_drop (isB_take hb _) _)) (sWide_ev _ hsr.1 hsr.2) (sDec_l l hn hb N (by omega) (be4 (cks ((l.take (9 + N)).drop 2) 1 0)) (by simp [be4]) 4 0 (by omega) (by omega) (by omega))
       rw [hS]
       refine ⟨K + M, fun k hk => ?_⟩
       have h1 := h1 (k - K)
       have h2 := h2 (k - K)
       have g1 := g1 (k - M)
       have g2 := g2 (k - M)
       have g3 := g3 (k - M)
       rw [show K + (k - K) = k by omega] at h1 h2
       rw [show M + (k - M) = k by omega] at g1 g2 g3
       rw [List.drop_zero, Nat.add_zero, show ((0 : Nat) : Int) = 0 from rfl] at g3
       simp only [spec_DecodeFrame.f, h1, h2, hh, hw, g1, g2, Int.toNat_natCast, Option.bind_some, if_true]
       rw [if_neg (by omega), if_pos (by omega), if_pos (by omega), if_neg (by omega), if_pos (by omega), if_pos (by omega)]
       exact g3
 · rw [if_neg hh]
   refine ⟨K, fun k hk => ?_⟩
   obtain ⟨j, rfl⟩ : ∃ j, k = K + j := ⟨k - K, by omega⟩
   simp only [spec_DecodeFrame.f, h1, Option.bind_some]
   rw [if_neg hh]; rfl

theorem iDec_l (l : List Int) (hn : l.length ≤ 140737488355327) (hb : isB l) (n : Nat) (hn5 : n ≤ 65535) (hl : 9 + n ≤ l.length) (s : List Int) (hs : s.length = 4) : ∀ (d i : Nat), 4 - i = d → i ≤ 4 → 9 + n + i ≤ l.length →
 Ev (fun k => impl_decodeFrame.l0 k l (l.length : Int) (n : Int) s (s.length : Int) (i : Int)) (cmpR l n (l.drop (9 + n + i)) (s.drop i)) := by
 intro d
 induction d with
 | zero =>
  intro i h hi hli
  obtain ⟨K, h1⟩ := evs1 (iRead_ev ((l.take 7).drop 3) (by simp; omega) (isB_drop (isB_take hb _) _))
  have hc := rd_B hb 2
  simp only [show ((2 : Nat) : Int) = 2 from rfl] at hc
  have hw : wrap64 (9 + (n : Int)) = ((9 + n : Nat) : Int) := by rw [w64 (by omega) (by omega)]; omega
  refine ⟨K + 1, fun k hk => ?_⟩
  obtain ⟨j, rfl⟩ : ∃ j, k = K + j + 1 := ⟨k - K - 1, by omega⟩
  simp only [impl_decodeFrame.l0, hw, Int.toNat_natCast, h1, Option.bind_some]
  rw [if_neg (by omega), if_pos (by omega), if_pos (by omega), if_pos (by omega), if_pos (by omega), if_pos (by omega), if_pos (by simp; omega), (List.drop_eq_nil_of_le (by omega) : s.drop i = []), w64 (x := rd l 2) (by omega) (by omega), w64 (x := 13 + (n : Int)) (by omega) (by omega)]
  have e : cmpR l n (l.drop (9 + n + i)) [] = frDone l n := by unfold cmpR; rfl
  rw [e, frDone, show 13 + (n : Int) = ((13 + n : Nat) : Int) by omega]
  rfl
 | succ d ih =>
  intro i h hi hli
  have hw : wrap64 (9 + (n : Int)) = ((9 + n : Nat) : Int) := by rw [w64 (by omega) (by omega)]; omega
  have h1 : wrap64 (((9 + n : Nat) : Int) + (i : Int)) = ((9 + n + i : Nat) : Int) := by rw [w64 (by omega) (by omega)]; omega
  rw [List.drop_eq_getElem_cons (show i < s.length by omega)]
  by_cases hend : 9 + n + i = l.length
  · rw [List.drop_eq_nil_of_le (by omega)]
    refine ev_now fun k => ?_
    simp only [impl_decodeFrame.l0, hw, h1]
    rw [if_pos (by omega), if_pos (by omega), if_pos (by omega), if_pos (by omega)]
    rfl
  · rw [List.drop_eq_getElem_cons (show 9 + n + i < l.length by omega)]
    by_cases hq : l[9 + n + i] = s[i]
    · have e : cmpR l n (l[9 + n + i] :: l.drop (9 + n + i + 1)) (s[i] :: s.drop (i + 1)) = cmpR l n (l.drop (9 + n + (i + 1))) (s.drop (i + 1)) := by
       rw [cmpR, if_pos hq]; rfl
      rw [e]
      refine Ev.step (fun k => ?_) (ih (i + 1) (by omega) (by omega) (by omega))
      simp only [impl_decodeFrame.l0, hw, h1]
      rw [if_pos (by omega), if_pos (by omega), if_pos (by omega), if_neg (by omega), if_pos (by omega), if_pos (by omega), rd_eq (by omega), rd_eq (by omega), if_pos hq, wsucc (by omega)]
    · have e : cmpR l n (l[9 + n + i] :: l.drop (9 + n + i + 1)) (s[i] :: s.drop (i + 1)) = frBad := by
       rw [cmpR, if_neg hq]
      rw [e]
      refine ev_now fun k => ?_
      simp only [impl_decodeFrame.l0, hw, h1]
      rw [if_pos (by omega), if_pos (by omega), if_pos (by omega), if_neg (by omega), if_pos (by omega), if_pos (by omega), rd_eq (by omega), rd_eq (by omega), if_neg hq]
      rfl
def head7 (l : List Int) : Prop := (0 < l.length → rd l 0 = 199) ∧ (1 < l.length → rd l 1 = 77) ∧ (2 < l.length → rd l 2 ≤ 99) ∧ (3 < l.length → rd l 3 ≤ 127) ∧ (7 < l.length → rd l 7 ≤ 19)
instance head7_dec (l : List Int) : Decidable (head7 l) := by unfold head7; infer_instance
theorem head7_iff (l : List Int) : headB l = true ↔ head7 l ∧ (8 < l.length → frN l ≤ 5000) := by
 rw [head_iff]; unfold head7
 constructor
 · rintro ⟨a, b, c, d, e, f⟩; exact ⟨⟨a, b, c, d, e⟩, f⟩
 · rintro ⟨⟨a, b, c, d, e⟩, f⟩; exact ⟨a, b, c, d, e, f⟩
theorem iDec_head (l : List Int) (hb : isB l) (r : FrT) (hr : Ev (fun k => impl_decodeFrame.j3 k l (l.length : Int) (decide (¬ head7 l))) r) : Ev (fun k => impl_decodeFrame.f k l) r := by
 have c7 := rd_B hb 7
 simp only [show ((7 : Nat) : Int) = 7 from rfl] at c7
 have w7 : wrap64 (rd l 7) = rd l 7 := w64 (by omega) (by omega)
 by_cases b0 : 0 < l.length ∧ rd l 0 ≠ 199
 · have q : ¬ head7 l := fun x => b0.2 (x.1 b0.1)
   rw [decide_eq_true q] at hr
   refine Ev.congr (fun k => ?_) (Ev.step (g := fun k => impl_decodeFrame.j0 k l (l.length : Int) true) (fun k => ?_) hr)
   · simp only [impl_decodeFrame.f]
     rw [if_pos (by omega), if_pos (by omega), bne_iff_ne.2 b0.2]
   · simp only [impl_decodeFrame.j0, if_true]
 · have e0 : ∀ k, impl_decodeFrame.f k l = impl_decodeFrame.j0 k l (l.length : Int) false := by
    intro k
    simp only [impl_decodeFrame.f]
    split
    · rw [show (rd l 0 != 199) = false by simp only [bne_eq_false_iff_eq]; exact Classical.byContradiction fun x => b0 ⟨by omega, x⟩]
    · rfl
   refine Ev.congr e0 ?_
   by_cases b1 : 1 < l.length ∧ rd l 1 ≠ 77
   · have q : ¬ head7 l := fun x => b1.2 (x.2.1 b1.1)
     rw [decide_eq_true q] at hr
     refine Ev.step (f := fun k => impl_decodeFrame.j1 k l (l.length : Int) true) (fun k => ?_) (Ev.step (fun k => ?_) hr)
     · simp only [impl_decodeFrame.j0]
       rw [if_neg (by decide), if_pos (by omega), if_pos (by omega), bne_iff_ne.2 b1.2]
     · simp only [impl_decodeFrame.j1, if_true]
   · refine Ev.step (f := fun k => impl_decodeFrame.j1 k l (l.length : Int) false) (fun k => ?_) ?_
     · simp only [impl_decodeFrame.j0]
       rw [if_neg (by decide)]
       split
       · rw [show (rd l 1 != 77) = false by simp only [bne_eq_false_iff_eq]; exact Classical.byContradiction fun x => b1 ⟨by omega, x⟩]
       · rfl
     by_cases b2 : 2 < l.length ∧ rd l 2 > 99
     · have q : ¬ head7 l := fun x => by have := x.2.2.1 b2.1; omega
       rw [decide_eq_true q] at hr
       refine Ev.step (f := fun k => impl_decodeFrame.j2 k l (l.length : Int) true) (fun k => ?_) (Ev.step (fun k => ?_) hr)
       · simp only [impl_decodeFrame.j1]
         rw [if_neg (by decide), if_pos (by omega), if_pos (by omega), decide_eq_true b2.2]
       · simp only [impl_decodeFrame.j2, if_true]
     · refine Ev.step (f := fun k => impl_decodeFrame.j2 k l (l.length : Int) false) (fun k => ?_) ?_
       · simp only [impl_decodeFrame.j1]
         rw [if_neg (by decide)]
         split
         · rw [decide_eq_false (by omega)]
         · rfl
       · refine Ev.step (fun k => ?_) hr
         have hq : (¬ head7 l) = ((3 < l.length ∧ rd l 3 > 127) ∨ (7 < l.length ∧ rd l 7 > 19)) := by
          apply propext
          unfold head7
          constructor
          · intro x
            exact Classical.byContradiction fun y => x ⟨by omega, by omega, by omega, by omega, by omega⟩
          · rintro x ⟨_, _, _, x3, x7⟩
            omega
         simp only [hq, impl_decodeFrame.j2, w7]
         rw [if_neg (by decide)]
         by_cases q3 : 3 < l.length
         · rw [if_pos (by omega), if_pos (by omega)]
           by_cases q4 : rd l 3 > 127
           · rw [if_pos q4, decide_eq_true q4, decide_eq_true (by omega)]
           · rw [if_neg q4]
             by_cases q7 : 7 < l.length
             · rw [if_pos (by omega), if_pos (by omega)]
               by_cases q8 : rd l 7 > 19
               · rw [decide_eq_true q8, decide_eq_true (by omega)]
               · rw [decide_eq_false q8, decide_eq_false (by omega)]
             · rw [if_neg (by omega), decide_eq_false (by omega)]
         · rw [if_neg (by omega), if_neg (by omega), decide_eq_false (by omega)]
theorem iDec_ev (l : List Int) (hn : l.length ≤ 140737488355327) (hb : isB l) : Ev (fun k => impl_decodeFrame.f k l) (decF l) := by
 refine iDec_head l hb _ ?_
 have hr := frN_range hb
 obtain ⟨N, hN⟩ : ∃ N : Nat, frN l = (N : Int) := ⟨(frN l).toNat, by omega⟩
 obtain ⟨F, hF⟩ : ∃ F : Int, rdN ((l.take 9).drop 7) 0 = F := ⟨_, rfl⟩
 have hFN : F = (N : Int) := by rw [← hF]; exact hN
 have hh := head7_iff l
 unfold decF
 by_cases h7 : head7 l
 · rw [decide_eq_false (by simp only [h7, not_true, not_false_iff])]
   by_cases h9 : l.length < 9
   · rw [if_pos (hh.2 ⟨h7, by omega⟩), if_pos h9]
     refine ev_now fun k => ?_
     simp only [impl_decodeFrame.j3]
     rw [if_neg (by decide), if_pos (by omega)]; rfl
   · have hE := iRead_ev ((l.take 9).drop 7) (by simp; omega) (isB_drop (isB_take hb _) _)
     rw [hF] at hE
     obtain ⟨K, h2⟩ := evs1 hE
     by_cases h5 : frN l ≤ 5000
     · rw [if_pos (hh.2 ⟨h7, fun _ => h5⟩), if_neg h9]
       have hw : wrap64 (9 + F) = ((9 + N : Nat) : Int) := by rw [w64 (by omega) (by omega)]; omega
       by_cases hlt : (l.length : Int) < 9 + frN l
       · rw [if_pos hlt]
         refine ⟨K + 1, fun k hk => ?_⟩
         obtain ⟨j, rfl⟩ : ∃ j, k = K + j + 1 := ⟨k - K - 1, by omega⟩
         simp only [impl_decodeFrame.j3, h2, hw, Option.bind_some]
         rw [if_neg (by decide), if_neg (by omega), if_pos (by omega), if_pos (by omega), if_neg (by omega), if_pos (by omega)]; rfl
       · rw [if_neg hlt, hN, Int.toNat_natCast]
         have hsr := frSum_range hb
         have hS : frSum l = be4 (cks ((l.take (9 + N)).drop 2) 1 0) := by unfold frSum; rw [hN, Int.toNat_natCast]
         rw [hN, Int.toNat_natCast] at hsr
         obtain ⟨M, g1, g2, g3⟩ := evs3 (iCks_ev ((l.take (9 + N)).drop 2) (by simp; omega) (isB_drop (isB_take hb _) _)) (iWide_ev _ hsr.1 hsr.2) (iDec_l l hn hb N (by omega) (by omega) (be4 (cks ((l.take (9 + N)).drop 2) 1 0)) (by simp [be4]) 4 0 (by omega) (by omega) (by omega))
         rw [hS]
         refine ⟨K + M + 1, fun k hk => ?_⟩
         obtain ⟨k, rfl⟩ : ∃ j, k = j + 1 := ⟨k - 1, by omega⟩
         have h2 := h2 (k - K)
         have g1 := g1 (k - M)
         have g2 := g2 (k - M)
         have g3 := g3 (k - M)
         rw [show K + (k - K) = k by omega] at h2
         rw [show M + (k - M) = k by omega] at g1 g2 g3
         rw [List.drop_zero, Nat.add_zero, show ((0 : Nat) : Int) = 0 from rfl] at g3
         simp only [impl_decodeFrame.j3, h2, hw, g1, g2, Int.toNat_natCast, Option.bind_some]
         rw [if_neg (by decide), if_neg (by omega), if_pos (by omega), if_pos (by omega), if_neg (by omega), if_neg (by omega), if_pos (by omega), if_pos (by omega), hFN]
         exact g3
     · rw [if_neg (fun x => h5 ((hh.1 x).2 (by omega)))]
       refine ⟨K + 1, fun k hk => ?_⟩
       obtain ⟨j, rfl⟩ : ∃ j, k = K + j + 1 := ⟨k - K - 1, by omega⟩
       simp only [impl_decodeFrame.j3, h2, Option.bind_some]
       rw [if_neg (by decide), if_neg (by omega), if_pos (by omega), if_pos (by omega), if_pos (by omega)]; rfl
 · rw [if_neg (fun x => h7 (hh.1 x).1), decide_eq_true h7]
   refine ev_now fun k => ?_
   simp only [impl_decodeFrame.j3, if_true]
   rfl

theorem eqStream_ev (l : List Int) (a : Int) (hn : l.length ≤ 140737488355328) : Ev (fun k => laws_eqStream.f k l a l a) true := by
 obtain ⟨K, h⟩ := eqByteS_ev l hn
 exact ⟨K, fun k hk => by simp only [laws_eqStream.f, h k hk, Option.bind_some, if_true]⟩

def streamOk (l : List Int) (a : Int) : Prop := 0 ≤ a ∧ a ≤ 2147483647 ∧ (decF l).2.2.2.2 = 1
instance streamOk_dec (l : List Int) (a : Int) : Decidable (streamOk l a) := by unfold streamOk; infer_instance

theorem sStream_ev (l : List Int) (a : Int) (hn : l.length ≤ 140737488355327) (hb : isB l) : Ev (fun k => spec_StreamOk.f k l a) (decide (streamOk l a)) := by
 obtain ⟨K, h⟩ := sDec_ev l hn hb
 refine ⟨K, fun k hk => ?_⟩
 simp only [spec_StreamOk.f, in_eq, h k hk, Option.bind_some, decide_eq_true_eq]
 by_cases q : 0 ≤ a ∧ a ≤ 2147483647
 · rw [if_pos q]
   by_cases q2 : (decF l).2.2.2.2 = 1
   · rw [decide_eq_true (show streamOk l a from ⟨q.1, q.2, q2⟩), q2]; rfl
   · rw [beq_eq_false_iff_ne.2 q2, decide_eq_false (show ¬ streamOk l a from fun x => q2 x.2.2)]
 · rw [if_neg q, decide_eq_false (show ¬ streamOk l a from fun x => q ⟨x.1, x.2.1⟩)]

theorem sJoinB_l (b : List Int) (a : List Int) (hn : a.length + b.length < 140737488355328) : ∀ (d i : Nat), b.length - i = d → i ≤ b.length → Ev (fun k => spec_l01Join.l0 k b (a ++ b.take i) (i : Int)) (a ++ b) := by
 intro d
 induction d with
 | zero =>
  intro i h hi
  refine ev_now fun k => ?_
  simp only [spec_l01Join.l0]
  rw [if_neg (by omega), List.take_of_length_le (by omega)]
 | succ d ih =>
  intro i h hi
  have key := ih (i + 1) (by omega) (by omega)
  refine Ev.step (fun k => ?_) key
  simp only [spec_l01Join.l0]
  rw [if_pos (by omega), if_pos (by omega), if_pos (by simp; omega), wsucc (by omega), rd_eq (by omega), List.append_assoc, List.take_append_getElem (by omega)]
theorem sJoinB_ev (a b : List Int) (hn : a.length + b.length < 140737488355328) : Ev (fun k => spec_l01Join.f k a b) (a ++ b) := by
 have key := sJoinB_l b a hn b.length 0 (by omega) (by omega)
 rw [List.take_zero, List.append_nil] at key
 obtain ⟨n, e1, e2⟩ := evs2 (sBytes_ev a (by omega)) key
 refine ⟨n, fun k hk => ?_⟩
 obtain ⟨j, rfl⟩ : ∃ j, k = n + j := ⟨k - n, by omega⟩
 simp only [spec_l01Join.f, e1 j, Option.bind_some]
 exact e2 j

def totL : List (List Int) → Nat
 | [] => 0
 | r :: rs => r.length + totL rs
theorem totL_le {n : Nat} : ∀ L : List (List Int), (∀ r ∈ L, r.length ≤ n) → totL L ≤ L.length * n
 | [], _ => by simp [totL]
 | r :: rs, h => by
  have h1 := h r (List.mem_cons_self ..)
  have h2 := totL_le rs (fun x hx => h x (List.mem_cons_of_mem _ hx))
  rw [totL, List.length_cons, Nat.succ_mul]
  omega
theorem getD_mid {α : Type} (A : List α) (r : α) (rs : List α) (z : α) : (A ++ r :: rs).getD A.length z = r := by simp [List.getD_eq_getElem?_getD]
theorem set_mid {α : Type} (A : List α) (r r' : α) (rs : List α) : (A ++ r :: rs).set A.length r' = A ++ r' :: rs := by simp

theorem cmpR_cases (l : List Int) (n : Nat) : ∀ s t, cmpR l n t s = frMore ∨ cmpR l n t s = frBad ∨ (cmpR l n t s = frDone l n ∧ s.length ≤ t.length) := by
 intro s
 induction s with
 | nil => intro t; right; right; exact ⟨by unfold cmpR; rfl, by simp⟩
 | cons b s ih =>
  intro t
  cases t with
  | nil => left; rfl
  | cons a t =>
   unfold cmpR
   split
   · rcases ih t with h | h | ⟨h, h2⟩
     · exact Or.inl h
     · exact Or.inr (Or.inl h)
     · exact Or.inr (Or.inr ⟨h, by simp only [List.length_cons]; omega⟩)
   · exact Or.inr (Or.inl rfl)
theorem be4_len (x : Int) : (be4 x).length = 4 := by simp [be4]
theorem decF_cases {l : List Int} (hb : isB l) : decF l = frMore ∨ (decF l = frBad ∧ 1 ≤ l.length) ∨ (∃ n : Nat, decF l = frDone l n ∧ 13 + n ≤ l.length) := by
 have hr := frN_range hb
 unfold decF
 by_cases h : headB l = true
 · rw [if_pos h]
   by_cases h9 : l.length < 9
   · rw [if_pos h9]; exact Or.inl rfl
   · rw [if_neg h9]
     by_cases h2 : (l.length : Int) < 9 + frN l
     · rw [if_pos h2]; exact Or.inl rfl
     · rw [if_neg h2]
       rcases cmpR_cases l (frN l).toNat (frSum l) (l.drop (9 + (frN l).toNat)) with c | c | ⟨c, c2⟩
       · exact Or.inl c
       · exact Or.inr (Or.inl ⟨c, by omega⟩)
       · refine Or.inr (Or.inr ⟨_, c, ?_⟩)
         unfold frSum at c2
         rw [be4_len, List.length_drop] at c2
         omega
 · rw [if_neg h]
   refine Or.inr (Or.inl ⟨rfl, ?_⟩)
   by_cases h0 : l.length = 0
   · exfalso
     apply h
     unfold headB
     rw [show min 9 l.length = 0 by omega]
     rfl
   · omega

def fdG : Nat → List Int → List S52 → Int → List Int × Int × List S52
 | 0, l, out, lost => (l, lost, out)
 | d + 1, l, out, lost => if (decF l).2.2.2.2 = 0 then fdG d (l.drop (decF l).2.2.2.1.toNat) (out ++ [⟨(decF l).1, (decF l).2.1, (decF l).2.2.1⟩]) lost else if (decF l).2.2.2.2 = 2 then fdG d (l.drop 1) out (if lost < 2147483647 then lost + 1 else lost) else (l, lost, out)
theorem fdG_more {l : List Int} (d : Nat) (out : List S52) (lost : Int) (h : decF l = frMore) : fdG (d + 1) l out lost = (l, lost, out) := by
 rw [fdG, h, if_neg (by decide), if_neg (by decide)]
theorem fdG_bad {l : List Int} (d : Nat) (out : List S52) (lost : Int) (h : decF l = frBad) : fdG (d + 1) l out lost = fdG d (l.drop 1) out (if lost < 2147483647 then lost + 1 else lost) := by
 rw [fdG, h, if_neg (by decide), if_pos (by decide)]
theorem fdG_done {l : List Int} (d : Nat) (out : List S52) (lost : Int) (n : Nat) (h : decF l = frDone l n) : fdG (d + 1) l out lost = fdG d (l.drop (13 + n)) (out ++ [⟨(frDone l n).1, (frDone l n).2.1, (frDone l n).2.2.1⟩]) lost := by
 rw [fdG, h, if_pos (show (frDone l n).2.2.2.2 = 0 from rfl)]
 rfl
def feedV (buf : List Int) (lost : Int) (chunk : List Int) : List Int × Int × List S52 := if streamOk buf lost ∧ chunk.length ≤ 20000 then fdG ((buf ++ chunk).length + 1) (buf ++ chunk) [] lost else (buf, lost, [])

theorem iFeed_l (b0 : List Int) : ∀ (d : Nat) (l : List Int) (out : List S52) (lost : Int), l.length < d → isB l → l.length + out.length ≤ 2097152 → 0 ≤ lost → lost ≤ 2147483647 → Ev (fun k => impl_feed.l0 k l out b0 lost) (fdG d l out lost) := by
 intro d
 induction d with
 | zero => intro l out lost h; omega
 | succ d ih =>
  intro l out lost h hb hl h0 h1
  have hd := iDec_ev l (by omega) hb
  rcases decF_cases hb with c | ⟨c, c1⟩ | ⟨n, c, c1⟩
  · rw [c] at hd
    rw [fdG_more _ _ _ c]
    obtain ⟨m, e⟩ := evs1 hd
    refine ⟨m + 1, fun k hk => ?_⟩
    obtain ⟨j, rfl⟩ : ∃ j, k = m + j + 1 := ⟨k - m - 1, by omega⟩
    simp only [impl_feed.l0, e j, frMore, Option.bind_some, List.nil_append, List.length_nil]
    rw [if_neg (by decide), if_neg (by decide), if_pos (by omega)]
  · rw [c] at hd
    rw [fdG_bad _ _ _ c]
    have key := ih (l.drop 1) out (if lost < 2147483647 then lost + 1 else lost) (by rw [List.length_drop]; omega) (isB_drop hb _) (by rw [List.length_drop]; omega) (by split <;> omega) (by split <;> omega)
    have em : mn (wrap64 (lost + 1)) 2147483647 = if lost < 2147483647 then lost + 1 else lost := by
     rw [w64 (by omega) (by omega), mn_eq]
     by_cases q : lost < 2147483647
     · rw [if_pos q]; split <;> omega
     · rw [if_neg q]; split <;> omega
    obtain ⟨m, e, e2⟩ := evs2 hd key
    refine ⟨m + 1, fun k hk => ?_⟩
    obtain ⟨j, rfl⟩ : ∃ j, k = m + j + 1 := ⟨k - m - 1, by omega⟩
    simp only [impl_feed.l0, e j, frBad, Option.bind_some, em]
    rw [if_neg (by decide), if_pos trivial, if_pos (by omega)]
    exact e2 j
  · rw [c] at hd
    rw [fdG_done _ _ _ n c]
    have key := ih (l.drop (13 + n)) (out ++ [⟨(frDone l n).1, (frDone l n).2.1, (frDone l n).2.2.1⟩]) lost (by rw [List.length_drop]; omega) (isB_drop hb _) (by rw [List.length_drop, List.length_append]; simp; omega) h0 h1
    obtain ⟨m, e, e2⟩ := evs2 hd key
    refine ⟨m + 1, fun k hk => ?_⟩
    obtain ⟨j, rfl⟩ : ∃ j, k = m + j + 1 := ⟨k - m - 1, by omega⟩
    have en : (frDone l n).2.2.2.1 = ((13 + n : Nat) : Int) := rfl
    have ec : (frDone l n).2.2.2.2 = 0 := rfl
    simp only [impl_feed.l0, e j, Option.bind_some, en, ec, if_true, Int.toNat_natCast]
    rw [if_pos (by omega), if_pos (by omega), if_pos (by omega)]
    exact e2 j

def totF : List S52 → Nat
 | [] => 0
 | r :: rs => 2 + r.f2.length + totF rs
theorem rd_midF (A : List S52) (r : S52) (rs : List S52) : rd_T52 (A ++ r :: rs) (A.length : Int) = r := by simp [rd_T52, List.getD_eq_getElem?_getD]
theorem set_midF {α : Type} (A : List α) (r r' : α) (rs : List α) : (A ++ r :: rs).set A.length r' = A ++ r' :: rs := by simp

theorem eqFrameS_l (L : List S52) (hn : L.length ≤ 1048576) (hr : ∀ r ∈ L, r.f2.length ≤ 2097152) : ∀ (rs A : List S52), A ++ rs = L → Ev (fun k => laws_eqFrameS.l0 k L L (A.length : Int)) true := by
 intro rs
 induction rs with
 | nil =>
  intro A e
  rw [List.append_nil] at e
  refine ev_now fun k => ?_
  simp only [laws_eqFrameS.l0]
  rw [if_neg (by rw [e]; omega)]
 | cons r rs ih =>
  intro A e
  have hrl : r.f2.length ≤ 2097152 := hr r (by rw [← e]; simp)
  have hlt : A.length < L.length := by rw [← e]; simp
  have key := ih (A ++ [r]) (by rw [List.append_assoc, List.singleton_append]; exact e)
  rw [List.length_append, List.length_singleton] at key
  have hrd : rd_T52 L (A.length : Int) = r := by rw [← e]; exact rd_midF A r rs
  obtain ⟨m, e1, e2⟩ := evs2 (eqFrame_ev r.f0 r.f1 r.f2 (by omega)) key
  refine ⟨m + 1, fun k hk => ?_⟩
  obtain ⟨j, rfl⟩ : ∃ j, k = m + j + 1 := ⟨k - m - 1, by omega⟩
  simp only [laws_eqFrameS.l0, hrd, e1 j, Option.bind_some, if_true]
  rw [if_pos (by omega), if_pos (by omega), if_pos (by omega), wsucc (by omega)]
  exact e2 j
theorem eqFrameS_ev (L : List S52) (hn : L.length ≤ 1048576) (hr : ∀ r ∈ L, r.f2.length ≤ 2097152) : Ev (fun k => laws_eqFrameS.f k L L) true := by
 refine Ev.congr (fun k => ?_) (eqFrameS_l L hn hr L [] rfl)
 simp only [laws_eqFrameS.f]
 rw [if_pos trivial]
 rfl

def marksF : List S52 → Int → List S52
 | [], _ => []
 | r :: rs, m => ⟨m, m + 1, marksB r.f2.length (m + 2)⟩ :: marksF rs (m + 2 + r.f2.length)
theorem markFrameS_l : ∀ (rs A : List S52) (m : Int), 0 ≤ m → m + totF rs ≤ 4611686018427387904 → A.length + rs.length ≤ 1048576 → Ev (fun k => laws_markFrameS.l0 k (A ++ rs) m (A.length : Int)) (m + totF rs, A ++ marksF rs m) := by
 intro rs
 induction rs with
 | nil =>
  intro A m h0 hm hl
  refine ev_now fun k => ?_
  simp only [laws_markFrameS.l0]
  rw [if_neg (by simp)]
  simp [totF, marksF]
 | cons r rs ih =>
  intro A m h0 hm hl
  rw [totF] at hm
  rw [List.length_cons] at hl
  have key := ih (A ++ [⟨m, m + 1, marksB r.f2.length (m + 2)⟩]) (m + 2 + r.f2.length) (by omega) (by omega) (by rw [List.length_append, List.length_singleton]; omega)
  rw [List.length_append, List.length_singleton, List.append_assoc, List.singleton_append, List.append_assoc, List.singleton_append] at key
  obtain ⟨n, e1, e2⟩ := evs2 (markByteS_ev r.f2 (m + 2) (by omega) (by omega)) key
  refine ⟨n + 1, fun k hk => ?_⟩
  obtain ⟨j, rfl⟩ : ∃ j, k = n + j + 1 := ⟨k - n - 1, by omega⟩
  have w1 : wrap64 (m + 1) = m + 1 := w64 (by omega) (by omega)
  have w2 : wrap64 (m + 1 + 1) = m + 2 := by rw [w64 (by omega) (by omega)]; omega
  simp only [laws_markFrameS.l0, Int.toNat_natCast, rd_midF, set_midF, Option.bind_some, w1, w2, e1 j]
  rw [if_pos (by rw [List.length_append, List.length_cons]; omega), if_pos (by omega), wsucc (by omega), totF, marksF]
  have e3 := e2 j
  rw [show m + 2 + (r.f2.length : Int) + (totF rs : Int) = m + ((2 + r.f2.length + totF rs : Nat) : Int) by omega] at e3
  exact e3
theorem markFrameS_ev (L : List S52) (m : Int) (h0 : 0 ≤ m) (hm : m + totF L ≤ 4611686018427387904) (hl : L.length ≤ 1048576) : Ev (fun k => laws_markFrameS.f k L m) (m + totF L, marksF L m) := by
 have := markFrameS_l L [] m h0 hm (by simpa using hl)
 exact Ev.congr (fun k => rfl) this

theorem heldFrameS_l : ∀ (rs A : List S52) (m : Int), 0 ≤ m → m + totF rs ≤ 4611686018427387904 → A.length + rs.length ≤ 1048576 → Ev (fun k => laws_heldFrameS.l0 k (A ++ marksF rs m) m (A.length : Int)) (m + totF rs) := by
 intro rs
 induction rs with
 | nil =>
  intro A m h0 hm hl
  refine ev_now fun k => ?_
  simp only [laws_heldFrameS.l0]
  rw [if_neg (by simp [marksF])]
  simp [totF]
 | cons r rs ih =>
  intro A m h0 hm hl
  rw [totF] at hm
  rw [List.length_cons] at hl
  have key := ih (A ++ [⟨m, m + 1, marksB r.f2.length (m + 2)⟩]) (m + 2 + r.f2.length) (by omega) (by omega) (by rw [List.length_append, List.length_singleton]; omega)
  rw [List.length_append, List.length_singleton, List.append_assoc, List.singleton_append] at key
  obtain ⟨n, e1, e2⟩ := evs2 (heldByteS_ev r.f2.length (m + 2) (by omega) (by omega)) key
  refine ⟨n + 1, fun k hk => ?_⟩
  obtain ⟨j, rfl⟩ : ∃ j, k = n + j + 1 := ⟨k - n - 1, by omega⟩
  have w1 : wrap64 (m + 1) = m + 1 := w64 (by omega) (by omega)
  have w2 : wrap64 (m + 1 + 1) = m + 2 := by rw [w64 (by omega) (by omega)]; omega
  rw [marksF]
  simp only [laws_heldFrameS.l0, rd_midF, Option.bind_some, w1, w2, e1 j, if_true]
  rw [if_pos (by rw [List.length_append, List.length_cons]; omega), if_pos (by omega), if_neg (by omega), wsucc (by omega), totF]
  have e3 := e2 j
  rw [show m + 2 + (r.f2.length : Int) + (totF rs : Int) = m + ((2 + r.f2.length + totF rs : Nat) : Int) by omega] at e3
  exact e3
theorem heldFrameS_ev (L : List S52) (m : Int) (h0 : 0 ≤ m) (hm : m + totF L ≤ 4611686018427387904) (hl : L.length ≤ 1048576) : Ev (fun k => laws_heldFrameS.f k (marksF L m) m) (m + totF L) := by
 have := heldFrameS_l L [] m h0 hm (by simpa using hl)
 exact Ev.congr (fun k => rfl) this

theorem sFeed_l (all : List Int) (hb : isB all) (hn : all.length ≤ 2097152) : ∀ (d a : Nat) (out : List S52) (lost : Int), a ≤ all.length → (all.drop a).length < d → out.length + (all.drop a).length ≤ 2097152 → 0 ≤ lost → lost ≤ 2147483647 → Ev (fun k => spec_Feed.l0 k all out (a : Int) lost) (fdG d (all.drop a) out lost) := by
 intro d
 induction d with
 | zero => intro a out lost _ h; omega
 | succ d ih =>
  intro a out lost ha h hl h0 h1
  have hbd := isB_drop hb a
  have hll : (all.drop a).length = all.length - a := List.length_drop
  have hd := sDec_ev (all.drop a) (by omega) hbd
  rcases decF_cases hbd with c | ⟨c, c1⟩ | ⟨n, c, c1⟩
  · rw [c] at hd
    rw [fdG_more _ _ _ c]
    obtain ⟨m, e, e2⟩ := evs2 hd (sBytes_ev (all.drop a) (by omega))
    refine ⟨m + 1, fun k hk => ?_⟩
    obtain ⟨j, rfl⟩ : ∃ j, k = m + j + 1 := ⟨k - m - 1, by omega⟩
    simp only [spec_Feed.l0, spec_l11At.f, spec_l11Tail.f, Int.toNat_natCast, e j, e2 j]
    rw [if_pos (by omega), if_pos (by omega), if_pos (by omega)]
    simp only [frMore, Option.bind_some]
    rw [if_pos trivial, if_pos (by omega), if_pos (by omega)]
    rfl
  · rw [c] at hd
    rw [fdG_bad _ _ _ c]
    have key := ih (a + 1) out (if lost < 2147483647 then lost + 1 else lost) (by omega) (by rw [List.length_drop]; omega) (by rw [List.length_drop]; omega) (by split <;> omega) (by split <;> omega)
    rw [← List.drop_drop] at key
    obtain ⟨m, e, e2⟩ := evs2 hd key
    refine ⟨m + 1, fun k hk => ?_⟩
    obtain ⟨j, rfl⟩ : ∃ j, k = m + j + 1 := ⟨k - m - 1, by omega⟩
    have e2' := e2 j
    simp only [spec_Feed.l0, spec_l11At.f, Int.toNat_natCast, e j]
    rw [if_pos (by omega), if_pos (by omega), if_pos (by omega)]
    simp only [frBad, Option.bind_some]
    rw [if_neg (by decide), if_neg (by decide), wsucc (by omega)]
    by_cases q : lost < 2147483647
    · rw [if_pos q] at e2' ⊢
      rw [w64 (x := lost + 1) (by omega) (by omega), if_pos q]
      exact e2'
    · rw [if_neg q] at e2' ⊢
      rw [if_neg q]
      exact e2'
  · rw [c] at hd
    rw [fdG_done _ _ _ n c]
    have key := ih (a + (13 + n)) (out ++ [⟨(frDone (all.drop a) n).1, (frDone (all.drop a) n).2.1, (frDone (all.drop a) n).2.2.1⟩]) lost (by omega) (by rw [List.length_drop]; omega) (by rw [List.length_drop, List.length_append]; simp; omega) h0 h1
    rw [← List.drop_drop] at key
    obtain ⟨m, e, e2⟩ := evs2 hd key
    refine ⟨m + 1, fun k hk => ?_⟩
    obtain ⟨j, rfl⟩ : ∃ j, k = m + j + 1 := ⟨k - m - 1, by omega⟩
    have en : (frDone (all.drop a) n).2.2.2.1 = ((13 + n : Nat) : Int) := rfl
    have ec : (frDone (all.drop a) n).2.2.2.2 = 0 := rfl
    simp only [spec_Feed.l0, spec_l11At.f, Int.toNat_natCast, e j]
    rw [if_pos (by omega), if_pos (by omega), if_pos (by omega)]
    simp only [Option.bind_some, en, ec, if_true, Int.toNat_natCast]
    rw [if_neg (by decide), if_pos (by omega), w64n (x := (a : Int) + ((13 + n : Nat) : Int)) (a := a + (13 + n)) (by omega) (by omega)]
    exact e2 j
theorem sFeed_ev (buf : List Int) (lost : Int) (chunk : List Int) (hb : isB buf) (hc : isB chunk) (hbl : buf.length ≤ 1048576) (hcl : chunk.length ≤ 1048576) : Ev (fun k => spec_Feed.f k buf lost chunk) (feedV buf lost chunk) := by
 have hS := sStream_ev buf lost (by omega) hb
 have hB := sBytes_ev buf (by omega)
 unfold feedV
 by_cases h : streamOk buf lost
 · by_cases h2 : chunk.length ≤ 20000
   · rw [if_pos ⟨h, h2⟩]
     have key := sFeed_l (buf ++ chunk) (isB_append hb hc) (by rw [List.length_append]; omega) ((buf ++ chunk).length + 1) 0 [] lost (by omega) (by rw [List.drop_zero]; omega) (by rw [List.drop_zero, List.length_append]; simp; omega) h.1 h.2.1
     rw [List.drop_zero] at key
     obtain ⟨m, e, e2, e3⟩ := evs3 hS (sJoinB_ev buf chunk (by omega)) key
     refine ⟨m + 1, fun k hk => ?_⟩
     obtain ⟨j, rfl⟩ : ∃ j, k = m + (j + 1) := ⟨k - m - 1, by omega⟩
     simp only [spec_Feed.f, e (j + 1), decide_eq_true h, Option.bind_some, if_true]
     rw [decide_eq_false (by omega), show m + (j + 1) = m + j + 1 from rfl]
     simp only [spec_Feed.j0, Bool.false_eq_true, if_false, e2 j, Option.bind_some]
     exact e3 j
   · rw [if_neg (fun hh => h2 hh.2)]
     obtain ⟨m, e, e2⟩ := evs2 hS hB
     refine ⟨m + 1, fun k hk => ?_⟩
     obtain ⟨j, rfl⟩ : ∃ j, k = m + (j + 1) := ⟨k - m - 1, by omega⟩
     simp only [spec_Feed.f, e (j + 1), decide_eq_true h, Option.bind_some, if_true]
     rw [decide_eq_true (by omega), show m + (j + 1) = m + j + 1 from rfl]
     simp only [spec_Feed.j0, if_true, e2 j, Option.bind_some]
 · rw [if_neg (fun hh => h hh.1)]
   obtain ⟨m, e, e2⟩ := evs2 hS hB
   refine ⟨m + 1, fun k hk => ?_⟩
   obtain ⟨j, rfl⟩ : ∃ j, k = m + (j + 1) := ⟨k - m - 1, by omega⟩
   simp only [spec_Feed.f, e (j + 1), decide_eq_false h, Option.bind_some, Bool.false_eq_true, if_false]
   rw [show m + (j + 1) = m + j + 1 from rfl]
   simp only [spec_Feed.j0, if_true, e2 j, Option.bind_some]

theorem rd_app {l m : List Int} {j : Nat} (h : j < l.length) : rd (l ++ m) (j : Int) = rd l (j : Int) := by
 rw [rd_eq (by rw [List.length_append]; omega), rd_eq h, List.getElem_append_left h]
theorem frN_app {l m : List Int} (h : 9 ≤ l.length) : frN (l ++ m) = frN l := by
 unfold frN
 rw [List.take_append_of_le_length (by omega)]
theorem head_app {l m : List Int} (h : headB (l ++ m) = true) : headB l = true := by
 rw [head_iff] at h ⊢
 obtain ⟨h0, h1, h2, h3, h7, h8⟩ := h
 have hl : (l ++ m).length = l.length + m.length := List.length_append
 refine ⟨fun q => ?_, fun q => ?_, fun q => ?_, fun q => ?_, fun q => ?_, fun q => ?_⟩
 · have := h0 (by omega); rwa [show (0 : Int) = ((0 : Nat) : Int) from rfl, rd_app q] at this
 · have := h1 (by omega); rwa [show (1 : Int) = ((1 : Nat) : Int) from rfl, rd_app q] at this
 · have := h2 (by omega); rwa [show (2 : Int) = ((2 : Nat) : Int) from rfl, rd_app q] at this
 · have := h3 (by omega); rwa [show (3 : Int) = ((3 : Nat) : Int) from rfl, rd_app q] at this
 · have := h7 (by omega); rwa [show (7 : Int) = ((7 : Nat) : Int) from rfl, rd_app q] at this
 · have := h8 (by omega); rwa [frN_app (by omega)] at this
theorem head_app9 {l m : List Int} (h9 : 9 ≤ l.length) (h : headB l = true) : headB (l ++ m) = true := by
 rw [head_iff] at h ⊢
 obtain ⟨h0, h1, h2, h3, h7, h8⟩ := h
 refine ⟨fun _ => ?_, fun _ => ?_, fun _ => ?_, fun _ => ?_, fun _ => ?_, fun _ => ?_⟩
 · rw [show (0 : Int) = ((0 : Nat) : Int) from rfl, rd_app (by omega)]; exact h0 (by omega)
 · rw [show (1 : Int) = ((1 : Nat) : Int) from rfl, rd_app (by omega)]; exact h1 (by omega)
 · rw [show (2 : Int) = ((2 : Nat) : Int) from rfl, rd_app (by omega)]; exact h2 (by omega)
 · rw [show (3 : Int) = ((3 : Nat) : Int) from rfl, rd_app (by omega)]; exact h3 (by omega)
 · rw [show (7 : Int) = ((7 : Nat) : Int) from rfl, rd_app (by omega)]; exact h7 (by omega)
 · rw [frN_app h9]; exact h8 (by omega)
theorem cmpR_app (l l' m : List Int) (n : Nat) : ∀ s t, (cmpR l n t s = frBad → cmpR l' n (t ++ m) s = frBad) ∧ (cmpR l n t s = frDone l n → cmpR l' n (t ++ m) s = frDone l' n) := by
 intro s
 induction s with
 | nil =>
  intro t
  have h1 : cmpR l n t [] = frDone l n := by cases t <;> rfl
  have h2 : cmpR l' n (t ++ m) [] = frDone l' n := by cases t ++ m <;> rfl
  rw [h1]
  exact ⟨fun h => absurd (congrArg (fun x : FrT => x.2.2.2.2) h) (by show ¬ ((0 : Int) = 2); decide), fun _ => h2⟩
 | cons b s ih =>
  intro t
  cases t with
  | nil => exact ⟨fun h => absurd (congrArg (fun x : FrT => x.2.2.2.2) h) (by show ¬ ((1 : Int) = 2); decide), fun h => absurd (congrArg (fun x : FrT => x.2.2.2.2) h) (by show ¬ ((1 : Int) = 0); decide)⟩
  | cons a t =>
   rw [List.cons_append, cmpR, cmpR]
   by_cases h : a = b
   · rw [if_pos h, if_pos h]; exact ih t
   · rw [if_neg h, if_neg h]
     exact ⟨fun _ => rfl, fun h => absurd (congrArg (fun x : FrT => x.2.2.2.2) h) (by show ¬ ((2 : Int) = 0); decide)⟩
theorem frDone_app {l m : List Int} {n : Nat} (h : 13 + n ≤ l.length) : frDone (l ++ m) n = frDone l n := by
 unfold frDone
 rw [show (2 : Int) = ((2 : Nat) : Int) from rfl, rd_app (by omega), List.take_append_of_le_length (by omega), List.take_append_of_le_length (by omega)]
theorem frSum_app {l m : List Int} (hb : isB l) (h9 : 9 ≤ l.length) (h : (9 + frN l) ≤ (l.length : Int)) : frSum (l ++ m) = frSum l := by
 have := frN_range hb
 unfold frSum
 rw [frN_app h9, List.take_append_of_le_length (by omega)]
theorem decF_app {l m : List Int} (hb : isB l) : (decF l = frBad → decF (l ++ m) = frBad) ∧ (∀ n : Nat, decF l = frDone l n → 13 + n ≤ l.length → decF (l ++ m) = frDone l n) := by
 have hr := frN_range hb
 by_cases hh : headB l = true
 · by_cases h9 : l.length < 9
   · have e : decF l = frMore := by unfold decF; rw [if_pos hh, if_pos h9]
     rw [e]
     exact ⟨fun h => absurd (congrArg (fun x : FrT => x.2.2.2.2) h) (by decide), fun n h => absurd (congrArg (fun x : FrT => x.2.2.2.2) h) (by show ¬ ((1 : Int) = 0); decide)⟩
   · by_cases h2 : (l.length : Int) < 9 + frN l
     · have e : decF l = frMore := by unfold decF; rw [if_pos hh, if_neg h9, if_pos h2]
       rw [e]
       exact ⟨fun h => absurd (congrArg (fun x : FrT => x.2.2.2.2) h) (by decide), fun n h => absurd (congrArg (fun x : FrT => x.2.2.2.2) h) (by show ¬ ((1 : Int) = 0); decide)⟩
     · have e : decF l = cmpR l (frN l).toNat (l.drop (9 + (frN l).toNat)) (frSum l) := by unfold decF; rw [if_pos hh, if_neg h9, if_neg h2]
       have e' : decF (l ++ m) = cmpR (l ++ m) (frN l).toNat (l.drop (9 + (frN l).toNat) ++ m) (frSum l) := by
        unfold decF
        rw [if_pos (head_app9 (by omega) hh), if_neg (by rw [List.length_append]; omega), frN_app (by omega), if_neg (by rw [List.length_append]; omega), frSum_app hb (by omega) (by omega), List.drop_append_of_le_length (by omega)]
       obtain ⟨c1, c2⟩ := cmpR_app l (l ++ m) m (frN l).toNat (frSum l) (l.drop (9 + (frN l).toNat))
       rw [e, e']
       refine ⟨c1, fun n hn hl => ?_⟩
       rcases cmpR_cases l (frN l).toNat (frSum l) (l.drop (9 + (frN l).toNat)) with q | q | ⟨q, _⟩
       · rw [q] at hn; exact absurd (congrArg (fun x : FrT => x.2.2.2.2) hn) (by show ¬ ((1 : Int) = 0); decide)
       · rw [q] at hn; exact absurd (congrArg (fun x : FrT => x.2.2.2.2) hn) (by show ¬ ((2 : Int) = 0); decide)
       · have hnn : (frN l).toNat = n := by
          rw [q] at hn
          have := congrArg (fun x : FrT => x.2.2.2.1) hn
          simp only [frDone] at this
          omega
         rw [c2 q, hnn, frDone_app hl]
 · have e : decF l = frBad := by unfold decF; rw [if_neg hh]
   have e' : decF (l ++ m) = frBad := by unfold decF; rw [if_neg (fun q => hh (head_app q))]
   rw [e, e']
   exact ⟨fun _ => rfl, fun n h => absurd (congrArg (fun x : FrT => x.2.2.2.2) h) (by show ¬ ((2 : Int) = 0); decide)⟩
theorem fdG_fuel : ∀ (d D : Nat) (l : List Int) (out : List S52) (lost : Int), isB l → l.length < d → l.length < D → fdG d l out lost = fdG D l out lost := by
 intro d
 induction d with
 | zero => intro D l out lost hb h; omega
 | succ d ih =>
  intro D l out lost hb h1 h2
  obtain ⟨D, rfl⟩ : ∃ E, D = E + 1 := ⟨D - 1, by omega⟩
  rcases decF_cases hb with h | ⟨h, q⟩ | ⟨n, h, q⟩
  · rw [fdG_more d _ _ h, fdG_more D _ _ h]
  · rw [fdG_bad d _ _ h, fdG_bad D _ _ h]
    exact ih D _ _ _ (isB_drop hb 1) (by rw [List.length_drop]; omega) (by rw [List.length_drop]; omega)
  · rw [fdG_done d _ _ n h, fdG_done D _ _ n h]
    exact ih D _ _ _ (isB_drop hb _) (by rw [List.length_drop]; omega) (by rw [List.length_drop]; omega)
theorem fdG_app (m : List Int) (hm : isB m) : ∀ (d D E : Nat) (l : List Int) (out : List S52) (lost : Int), isB l → l.length < d → l.length + m.length < D → l.length + m.length < E → fdG D (l ++ m) out lost = fdG E ((fdG d l out lost).1 ++ m) (fdG d l out lost).2.2 (fdG d l out lost).2.1 := by
 intro d
 induction d with
 | zero => intro D E l out lost hb h; omega
 | succ d ih =>
  intro D E l out lost hb h1 h2 h3
  obtain ⟨D, rfl⟩ : ∃ F, D = F + 1 := ⟨D - 1, by omega⟩
  obtain ⟨a1, a2⟩ := decF_app (m := m) hb
  rcases decF_cases hb with h | ⟨h, q⟩ | ⟨n, h, q⟩
  · rw [fdG_more d _ _ h]
    exact fdG_fuel _ _ _ _ _ (isB_append hb hm) (by rw [List.length_append]; omega) (by rw [List.length_append]; omega)
  · rw [fdG_bad d _ _ h, fdG_bad D _ _ (a1 h), List.drop_append_of_le_length q]
    exact ih D E _ _ _ (isB_drop hb 1) (by rw [List.length_drop]; omega) (by rw [List.length_drop]; omega) (by rw [List.length_drop]; omega)
  · have h' := a2 n h q
    have e : fdG (D + 1) (l ++ m) out lost = fdG D (l.drop (13 + n) ++ m) (out ++ [⟨(frDone l n).1, (frDone l n).2.1, (frDone l n).2.2.1⟩]) lost := by
     rw [fdG, h', if_pos (show (frDone l n).2.2.2.2 = 0 from rfl), show (frDone l n).2.2.2.1.toNat = 13 + n from by show (((13 + n : Nat) : Int)).toNat = 13 + n; omega, List.drop_append_of_le_length q]
    rw [fdG_done d _ _ n h, e]
    exact ih D E _ _ _ (isB_drop hb _) (by rw [List.length_drop]; omega) (by rw [List.length_drop]; omega) (by rw [List.length_drop]; omega)
theorem fdG_out : ∀ (d : Nat) (l : List Int) (out : List S52) (lost : Int), isB l → fdG d l out lost = ((fdG d l [] lost).1, (fdG d l [] lost).2.1, out ++ (fdG d l [] lost).2.2) := by
 intro d
 induction d with
 | zero => intro l out lost hb; simp [fdG]
 | succ d ih =>
  intro l out lost hb
  rcases decF_cases hb with h | ⟨h, q⟩ | ⟨n, h, q⟩
  · rw [fdG_more d _ _ h, fdG_more d _ _ h]; simp
  · rw [fdG_bad d _ _ h, fdG_bad d _ _ h]
    exact ih _ _ _ (isB_drop hb 1)
  · rw [fdG_done d _ _ n h, fdG_done d _ _ n h, ih _ _ _ (isB_drop hb _), ih _ ([] ++ [_]) _ (isB_drop hb _)]
    simp [List.append_assoc]

def totC (cs : List (List Int)) : Nat := (cs.map List.length).sum
def faV (cs : List (List Int)) : List Int × Int × List S52 := if cs.length ≤ 4096 ∧ totC cs ≤ 20000 then fdG (cs.flatten.length + 1) cs.flatten [] 0 else ([], 0, [])
theorem totC_flatten (cs : List (List Int)) : cs.flatten.length = totC cs := by simp [totC, List.length_flatten]
theorem totC_take (cs : List (List Int)) (i : Nat) (h : i < cs.length) : totC (cs.take (i + 1)) = totC (cs.take i) + cs[i].length := by
 unfold totC
 rw [List.take_succ_eq_append_getElem h, List.map_append, List.sum_append]
 simp only [List.map_cons, List.map_nil, List.sum_cons, List.sum_nil, Nat.add_zero]
theorem totC_le (cs : List (List Int)) (i : Nat) : totC (cs.take i) ≤ totC cs := by
 unfold totC
 conv => rhs; rw [← List.take_append_drop i cs]
 rw [List.map_append, List.sum_append]
 omega
theorem isB_flat {cs : List (List Int)} (h : ∀ c ∈ cs, isB c) : isB cs.flatten := fun x hx => by
 obtain ⟨c, hc, hxc⟩ := List.mem_flatten.1 hx
 exact h c hc x hxc
theorem rdLL {cs : List (List Int)} {i : Nat} (h : i < cs.length) : rd_L1 cs (i : Int) = cs[i] := by
 simp [rd_L1, List.getD_eq_getElem?_getD, List.getElem?_eq_getElem h]

theorem faF_snoc (L : List S52) (r : S52) : totF (L ++ [r]) = totF L + (2 + r.f2.length) := by
 induction L with
 | nil => simp [totF]
 | cons a L ih => simp only [List.cons_append, totF, ih]; omega
theorem faF_mem {L : List S52} {r : S52} (h : r ∈ L) : r.f2.length ≤ totF L := by
 induction L with
 | nil => simp at h
 | cons a L ih =>
  simp only [totF]
  rcases List.mem_cons.1 h with rfl | h
  · omega
  · have := ih h; omega
theorem faF_len (L : List S52) : 2 * L.length ≤ totF L := by
 induction L with
 | nil => simp [totF]
 | cons a L ih => simp only [totF, List.length_cons]; omega
theorem faG_vals : ∀ (d : Nat) (l : List Int) (out : List S52) (lost : Int), isB l → totF (fdG d l out lost).2.2 + (fdG d l out lost).1.length ≤ totF out + l.length := by
 intro d
 induction d with
 | zero => intro l out lost hb; exact Nat.le_refl _
 | succ d ih =>
  intro l out lost hb
  rcases decF_cases hb with h | ⟨h, h1⟩ | ⟨n, h, h1⟩
  · rw [fdG_more d out lost h]
    exact Nat.le_refl _
  · rw [fdG_bad d out lost h]
    have h2 := ih (l.drop 1) out (if lost < 2147483647 then lost + 1 else lost) (isB_drop hb 1)
    rw [List.length_drop] at h2
    omega
  · rw [fdG_done d out lost n h]
    have h2 := ih (l.drop (13 + n)) (out ++ [⟨(frDone l n).1, (frDone l n).2.1, (frDone l n).2.2.1⟩]) lost (isB_drop hb _)
    have hf : (frDone l n).2.2.1.length ≤ n := by unfold frDone; simp; omega
    rw [List.length_drop, faF_snoc] at h2
    simp only at h2
    omega
theorem faG_lost : ∀ (d : Nat) (l : List Int) (out : List S52) (lost : Int), isB l → 0 ≤ lost → lost ≤ 2147483647 → 0 ≤ (fdG d l out lost).2.1 ∧ (fdG d l out lost).2.1 ≤ 2147483647 := by
 intro d
 induction d with
 | zero => intro l out lost hb h0 h1; exact ⟨h0, h1⟩
 | succ d ih =>
  intro l out lost hb h0 h1
  rcases decF_cases hb with h | ⟨h, q⟩ | ⟨n, h, q⟩
  · rw [fdG_more d _ _ h]; exact ⟨h0, h1⟩
  · rw [fdG_bad d _ _ h]
    refine ih _ _ _ (isB_drop hb 1) ?_ ?_ <;> split <;> omega
  · rw [fdG_done d _ _ n h]
    exact ih _ _ _ (isB_drop hb _) h0 h1
theorem faG_isB : ∀ (d : Nat) (l : List Int) (out : List S52) (lost : Int), isB l → isB (fdG d l out lost).1 := by
 intro d
 induction d with
 | zero => intro l out lost hb; exact hb
 | succ d ih =>
  intro l out lost hb
  rcases decF_cases hb with h | ⟨h, q⟩ | ⟨n, h, q⟩
  · rw [fdG_more d _ _ h]; exact hb
  · rw [fdG_bad d _ _ h]; exact ih _ _ _ (isB_drop hb 1)
  · rw [fdG_done d _ _ n h]; exact ih _ _ _ (isB_drop hb _)

theorem feed1_ev (buf : List Int) (lost : Int) (chunk : List Int) (hb : isB buf) (hc : isB chunk) (hl : buf.length + chunk.length ≤ 1048576) (h0 : 0 ≤ lost) (h1 : lost ≤ 2147483647) : Ev (fun k => impl_feed.f k buf lost chunk) (fdG ((buf ++ chunk).length + 1) (buf ++ chunk) [] lost) := by
 refine Ev.congr (fun k => ?_) (iFeed_l buf ((buf ++ chunk).length + 1) (buf ++ chunk) [] lost (by omega) (isB_append hb hc) (by rw [List.length_append]; simp; omega) h0 h1)
 simp only [impl_feed.f, Option.bind_some, List.length_nil, Nat.zero_add, List.nil_append]
 rw [if_pos (by omega), if_pos (by omega)]
theorem iFA_l1 (cs : List (List Int)) (hB : ∀ c ∈ cs, isB c) (ht : totC cs ≤ 20000) (hl : cs.length ≤ 4096) : ∀ (d i : Nat), cs.length - i = d → i ≤ cs.length →
 Ev (fun k => impl_FeedAll.l1 k (fdG ((cs.take i).flatten.length + 1) (cs.take i).flatten [] 0).2.2 cs (cs.length : Int) (i : Int) (fdG ((cs.take i).flatten.length + 1) (cs.take i).flatten [] 0).1 (fdG ((cs.take i).flatten.length + 1) (cs.take i).flatten [] 0).2.1) (fdG (cs.flatten.length + 1) cs.flatten [] 0) := by
 intro d
 induction d with
 | zero =>
  intro i hd hi
  obtain rfl : i = cs.length := by omega
  rw [List.take_length]
  refine ev_now fun k => ?_
  simp only [impl_FeedAll.l1]
  rw [if_neg (by omega)]
 | succ d ih =>
  intro i hd hi
  have hi2 : i < cs.length := by omega
  have hBi : isB (cs.take i).flatten := isB_flat fun c hc => hB c (List.mem_of_mem_take hc)
  have hci : isB cs[i] := hB _ (List.getElem_mem _)
  have hfl : (cs.take i).flatten.length = totC (cs.take i) := totC_flatten _
  have ht1 := totC_take cs i hi2
  have ht2 := totC_le cs (i + 1)
  have hnext : (cs.take (i + 1)).flatten = (cs.take i).flatten ++ cs[i] := by
   rw [List.take_succ_eq_append_getElem hi2, List.flatten_append]
   simp
  have key := ih (i + 1) (by omega) (by omega)
  have hv := faG_vals ((cs.take i).flatten.length + 1) (cs.take i).flatten [] 0 hBi
  have hlost := faG_lost ((cs.take i).flatten.length + 1) (cs.take i).flatten [] 0 hBi (by omega) (by omega)
  have hrest := faG_isB ((cs.take i).flatten.length + 1) (cs.take i).flatten [] 0 hBi
  have happ := fdG_app cs[i] hci ((cs.take i).flatten.length + 1) ((cs.take (i + 1)).flatten.length + 1) (((fdG ((cs.take i).flatten.length + 1) (cs.take i).flatten [] 0).1 ++ cs[i]).length + (cs.take i).flatten.length + 1) (cs.take i).flatten [] 0 hBi (by omega) (by rw [hnext, List.length_append]; omega) (by rw [List.length_append]; omega)
  rw [← hnext] at happ
  generalize fdG ((cs.take i).flatten.length + 1) (cs.take i).flatten [] 0 = R at hv hlost hrest happ ⊢
  obtain ⟨B, L, F⟩ := R
  simp only [totF] at hv hlost hrest happ ⊢
  have hf := feed1_ev B L cs[i] hrest hci (by omega) hlost.1 hlost.2
  have hv2 := faG_vals ((B ++ cs[i]).length + 1) (B ++ cs[i]) [] L (isB_append hrest hci)
  rw [fdG_fuel _ ((B ++ cs[i]).length + 1) _ _ _ (isB_append hrest hci) (by omega) (by omega), fdG_out _ _ _ _ (isB_append hrest hci)] at happ
  rw [happ] at key
  generalize fdG ((B ++ cs[i]).length + 1) (B ++ cs[i]) [] L = R2 at hf hv2 key
  obtain ⟨B2, L2, F2⟩ := R2
  simp only [totF, List.length_append] at hv2 key
  have n1 := faF_len F
  have n2 := faF_len F2
  obtain ⟨J, hJ⟩ : ∃ J : Int, J = (i : Int) := ⟨_, rfl⟩
  have hw : wrap64 (J + 1) = ((i + 1 : Nat) : Int) := by rw [hJ]; exact wsucc (by omega)
  have hrd : rd_L1 cs J = cs[i] := by rw [hJ]; exact rdLL hi2
  have hj0 : 0 ≤ J := by omega
  have hj1 : J < (cs.length : Int) := by omega
  rw [← hJ]
  have hw := Aside0.mk hw
  refine Ev.step (f := fun k => (impl_feed.f k B L cs[i]).bind fun bt265 => if F.length + bt265.2.2.length < 3518437208883 then impl_FeedAll.l1 k (F ++ bt265.2.2) cs (cs.length : Int) ((i + 1 : Nat) : Int) bt265.1 bt265.2.1 else none) (fun k => ?_) (Ev.bind hf ?_)
  · simp only [impl_FeedAll.l1]
    rw [if_pos hj1, if_pos hj0, if_pos hj1, hrd, hw.out]
  · refine Ev.congr (fun k => ?_) key
    rw [if_pos (by show F.length + F2.length < 3518437208883; omega)]
theorem iFA_ev (cs : List (List Int)) (hB : ∀ c ∈ cs, isB c) (hc : ∀ c ∈ cs, c.length ≤ 1048576) (hl : cs.length ≤ 1048576) : Ev (fun k => impl_FeedAll.f k cs) (faV cs) := by
 have key : ∀ (d i : Nat), cs.length - i = d → i ≤ cs.length → totC (cs.take i) ≤ 20000 → Ev (fun k => impl_FeedAll.l0 k cs ((totC (cs.take i) : Nat) : Int) cs (cs.length : Int) (i : Int)) (faV cs) := by
  intro d
  induction d with
  | zero =>
   intro i hd hi ht
   obtain rfl : i = cs.length := by omega
   rw [List.take_length] at ht
   by_cases h4 : cs.length ≤ 4096
   · have h1 := iFA_l1 cs hB ht h4 cs.length 0 (by omega) (by omega)
     unfold faV
     rw [if_pos ⟨h4, ht⟩]
     refine Ev.step (fun k => ?_) h1
     simp only [impl_FeedAll.l0]
     rw [if_neg (by omega), if_neg (by omega)]
     rfl
   · unfold faV
     rw [if_neg (fun q => h4 q.1)]
     refine ev_now fun k => ?_
     simp only [impl_FeedAll.l0]
     rw [if_neg (by omega), if_pos (by omega)]
  | succ d ih =>
   intro i hd hi ht
   have hi2 : i < cs.length := by omega
   have ht1 := totC_take cs i hi2
   have hci := hc _ (List.getElem_mem hi2)
   obtain ⟨J, hJ⟩ : ∃ J : Int, J = (i : Int) := ⟨_, rfl⟩
   obtain ⟨T, hT⟩ : ∃ T : Int, T = ((totC (cs.take i) : Nat) : Int) := ⟨_, rfl⟩
   have hw := Aside0.mk (show wrap64 (J + 1) = ((i + 1 : Nat) : Int) by rw [hJ]; exact wsucc (by omega))
   have hwT := Aside0.mk (show wrap64 (T + (cs[i].length : Int)) = ((totC (cs.take (i + 1)) : Nat) : Int) by rw [hT]; exact w64n (by omega) (by omega))
   have hrd : rd_L1 cs J = cs[i] := by rw [hJ]; exact rdLL hi2
   have hj0 : 0 ≤ J := by omega
   have hj1 : J < (cs.length : Int) := by omega
   rw [← hJ, ← hT]
   by_cases h2 : totC (cs.take (i + 1)) ≤ 20000
   · refine Ev.step (fun k => ?_) (ih (i + 1) (by omega) (by omega) h2)
     simp only [impl_FeedAll.l0]
     rw [if_pos hj1, if_pos hj0, if_pos hj1, hrd, hwT.out, if_neg (by omega), hw.out]
   · have := totC_le cs (i + 1)
     unfold faV
     rw [if_neg (fun q => by omega)]
     refine ev_now fun k => ?_
     simp only [impl_FeedAll.l0]
     rw [if_pos hj1, if_pos hj0, if_pos hj1, hrd, hwT.out, if_pos (by omega)]
 refine Ev.congr (fun k => ?_) (key cs.length 0 (by omega) (by omega) (by simp [totC]))
 simp [impl_FeedAll.f, totC]

theorem feedV_nil (all : List Int) (h : all.length ≤ 20000) : feedV [] 0 all = fdG (all.length + 1) all [] 0 := by
 have hn : decF [] = frMore := by
  unfold decF
  have : headB [] = true := by rw [head_iff]; simp
  rw [if_pos this, if_pos (by simp)]
 unfold feedV
 rw [if_pos ⟨⟨by omega, by omega, by rw [hn]; rfl⟩, h⟩, List.nil_append]
theorem sFA_ev (cs : List (List Int)) (hB : ∀ c ∈ cs, isB c) (hc : ∀ c ∈ cs, c.length ≤ 1048576) (hl : cs.length ≤ 1048576) : Ev (fun k => spec_FeedAll.f k cs) (faV cs) := by
 have hl1 : ∀ (i : Nat) (hi : i < cs.length) (base : List Int) (r : List Int × Int × List S52), base.length + cs[i].length ≤ 1048576 → Ev (fun k => spec_FeedAll.l0 k cs (base ++ cs[i]) ((i + 1 : Nat) : Int)) r → ∀ (d j : Nat), cs[i].length - j = d → j ≤ cs[i].length → Ev (fun k => spec_FeedAll.l1 k cs (base ++ cs[i].take j) (i : Int) (j : Int)) r := by
  intro i hi base r hb hr d
  induction d with
  | zero =>
   intro j hd hj
   obtain rfl : j = cs[i].length := by omega
   rw [List.take_length]
   obtain ⟨J, hJ⟩ : ∃ J : Int, J = (i : Int) := ⟨_, rfl⟩
   have hw := Aside0.mk (show wrap64 (J + 1) = ((i + 1 : Nat) : Int) by rw [hJ]; exact wsucc (by omega))
   have hrd : rd_L1 cs J = cs[i] := by rw [hJ]; exact rdLL hi
   have hj0 : 0 ≤ J := by omega
   have hj1 : J < (cs.length : Int) := by omega
   rw [← hJ]
   refine Ev.step (fun k => ?_) hr
   simp only [spec_FeedAll.l1]
   rw [if_pos hj0, if_pos hj1, hrd, if_neg (by omega), hw.out]
  | succ d ih =>
   intro j hd hj
   have hlt : j < cs[i].length := by omega
   have key := ih (j + 1) (by omega) (by omega)
   rw [← List.take_append_getElem hlt, ← List.append_assoc] at key
   obtain ⟨J, hJ⟩ : ∃ J : Int, J = (i : Int) := ⟨_, rfl⟩
   obtain ⟨M, hM⟩ : ∃ M : Int, M = (j : Int) := ⟨_, rfl⟩
   have hw := Aside0.mk (show wrap64 (M + 1) = ((j + 1 : Nat) : Int) by rw [hM]; exact wsucc (by omega))
   have hrd : rd_L1 cs J = cs[i] := by rw [hJ]; exact rdLL hi
   have hr2 : rd cs[i] M = cs[i][j] := by rw [hM]; exact rd_eq hlt
   have hj0 : 0 ≤ J := by omega
   have hj1 : J < (cs.length : Int) := by omega
   have hm0 : 0 ≤ M := by omega
   have hm1 : M < (cs[i].length : Int) := by omega
   have hlen : (base ++ cs[i].take j).length < 140737488355328 := by rw [List.length_append, List.length_take]; omega
   rw [← hJ, ← hM]
   rw [← hJ] at key
   refine Ev.step (fun k => ?_) key
   simp only [spec_FeedAll.l1]
   rw [if_pos hj0, if_pos hj1, hrd, if_pos hm1, if_pos hm0, if_pos hlen, hr2, hw.out]
 by_cases h4 : cs.length ≤ 4096
 · have key : ∀ (d i : Nat), cs.length - i = d → i ≤ cs.length → totC (cs.take i) ≤ 20000 → Ev (fun k => spec_FeedAll.l0 k cs (cs.take i).flatten (i : Int)) (faV cs) := by
    intro d
    induction d with
    | zero =>
     intro i hd hi ht
     obtain rfl : i = cs.length := by omega
     rw [List.take_length] at ht ⊢
     have hlen := totC_flatten cs
     have hf := sFeed_ev [] 0 cs.flatten (by intro y hy; simp at hy) (isB_flat hB) (by simp) (by omega)
     rw [feedV_nil _ (by omega)] at hf
     unfold faV
     rw [if_pos ⟨h4, ht⟩]
     refine Ev.step (fun k => ?_) (Ev.bind hf (f := fun k bt161 => some (bt161.1, bt161.2.1, bt161.2.2)) (Ev.now _))
     simp only [spec_FeedAll.l0]
     rw [if_neg (by omega)]
    | succ d ih =>
     intro i hd hi ht
     have hi2 : i < cs.length := by omega
     have ht1 := totC_take cs i hi2
     have hfl := totC_flatten (cs.take i)
     have hnext : (cs.take (i + 1)).flatten = (cs.take i).flatten ++ cs[i] := by
      rw [List.take_succ_eq_append_getElem hi2, List.flatten_append]
      simp
     obtain ⟨J, hJ⟩ : ∃ J : Int, J = (i : Int) := ⟨_, rfl⟩
     have hrd : rd_L1 cs J = cs[i] := by rw [hJ]; exact rdLL hi2
     have hw := Aside0.mk (show wrap64 (20000 - ((cs.take i).flatten.length : Int)) = ((20000 - totC (cs.take i) : Nat) : Int) by rw [hfl]; exact w64n (by omega) (by omega))
     have hj0 : 0 ≤ J := by omega
     have hj1 : J < (cs.length : Int) := by omega
     by_cases h2 : totC (cs.take (i + 1)) ≤ 20000
     · have hn := ih (i + 1) (by omega) (by omega) h2
       rw [hnext] at hn
       have h1 := hl1 i hi2 (cs.take i).flatten _ (by omega) hn cs[i].length 0 (by omega) (by omega)
       rw [List.take_zero, List.append_nil] at h1
       rw [← hJ] at h1 ⊢
       refine Ev.step (fun k => ?_) h1
       simp only [spec_FeedAll.l0]
       rw [if_pos hj1, if_pos hj0, hrd, hw.out, if_neg (by omega)]
       rfl
     · have := totC_le cs (i + 1)
       unfold faV
       rw [if_neg (fun q => by omega), ← hJ]
       refine ev_now fun k => ?_
       simp only [spec_FeedAll.l0]
       rw [if_pos hj1, if_pos hj0, hrd, hw.out, if_pos (by omega)]
   have h0 := key cs.length 0 (by omega) (by omega) (by simp [totC])
   refine Ev.congr (fun k => ?_) h0
   simp only [spec_FeedAll.f]
   rw [if_neg (by omega)]
   rfl
 · unfold faV
   rw [if_neg (fun q => h4 q.1)]
   refine ev_some fun k => ?_
   simp only [spec_FeedAll.f]
   rw [if_pos (by omega)]

theorem eqByteSS_l (L : List (List Int)) (hn : L.length ≤ 1048576) (hr : ∀ r ∈ L, r.length ≤ 1048576) : ∀ (rs A : List (List Int)), A ++ rs = L → Ev (fun k => laws_eqByteSS.l0 k L L (A.length : Int)) true := by
 intro rs
 induction rs with
 | nil =>
  intro A e
  rw [List.append_nil] at e
  refine ev_now fun k => ?_
  simp only [laws_eqByteSS.l0]
  rw [if_neg (by rw [e]; omega)]
 | cons r rs ih =>
  intro A e
  have hrl : r.length ≤ 1048576 := hr r (by rw [← e]; simp)
  have hlt : A.length < L.length := by rw [← e]; simp
  have key := ih (A ++ [r]) (by rw [List.append_assoc, List.singleton_append]; exact e)
  rw [List.length_append, List.length_singleton] at key
  have hrd : rd_L1 L (A.length : Int) = r := by
   simp only [rd_L1, Int.toNat_natCast]
   rw [← e]
   exact getD_mid A r rs []
  obtain ⟨m, e1, e2⟩ := evs2 (eqByteS_ev r (by omega)) key
  refine ⟨m + 1, fun k hk => ?_⟩
  obtain ⟨j, rfl⟩ : ∃ j, k = m + j + 1 := ⟨k - m - 1, by omega⟩
  simp only [laws_eqByteSS.l0, hrd, e1 j, Option.bind_some, if_true]
  rw [if_pos (by omega), if_pos (by omega), if_pos (by omega), wsucc (by omega)]
  exact e2 j
theorem eqByteSS_ev (L : List (List Int)) (hn : L.length ≤ 1048576) (hr : ∀ r ∈ L, r.length ≤ 1048576) : Ev (fun k => laws_eqByteSS.f k L L) true := by
 refine Ev.congr (fun k => ?_) (eqByteSS_l L hn hr L [] rfl)
 simp only [laws_eqByteSS.f]
 rw [if_pos trivial]
 rfl

def marksBB : List (List Int) → Int → List (List Int)
 | [], _ => []
 | r :: rs, m => marksB r.length m :: marksBB rs (m + r.length)
theorem markByteSS_l : ∀ (rs A : List (List Int)) (m : Int), 0 ≤ m → m + totL rs ≤ 4611686018427387904 → A.length + rs.length ≤ 1048576 → Ev (fun k => laws_markByteSS.l0 k (A ++ rs) m (A.length : Int)) (m + totL rs, A ++ marksBB rs m) := by
 intro rs
 induction rs with
 | nil =>
  intro A m h0 hm hl
  refine ev_now fun k => ?_
  simp only [laws_markByteSS.l0]
  rw [if_neg (by simp)]
  simp [totL, marksBB]
 | cons r rs ih =>
  intro A m h0 hm hl
  rw [totL] at hm
  rw [List.length_cons] at hl
  have key := ih (A ++ [marksB r.length m]) (m + r.length) (by omega) (by omega) (by rw [List.length_append, List.length_singleton]; omega)
  rw [List.length_append, List.length_singleton, List.append_assoc, List.singleton_append, List.append_assoc, List.singleton_append] at key
  obtain ⟨n, e1, e2⟩ := evs2 (markByteS_ev r m h0 (by omega)) key
  refine ⟨n + 1, fun k hk => ?_⟩
  obtain ⟨j, rfl⟩ : ∃ j, k = n + j + 1 := ⟨k - n - 1, by omega⟩
  simp only [laws_markByteSS.l0, Int.toNat_natCast]
  rw [if_pos (by rw [List.length_append, List.length_cons]; omega), if_pos (by omega), getD_mid, e1 j, Option.bind_some, set_mid, wsucc (by omega), totL, marksBB]
  have e3 := e2 j
  rw [show m + (r.length : Int) + (totL rs : Int) = m + ((r.length + totL rs : Nat) : Int) by omega] at e3
  exact e3
theorem markByteSS_ev (L : List (List Int)) (m : Int) (h0 : 0 ≤ m) (hm : m + totL L ≤ 4611686018427387904) (hl : L.length ≤ 1048576) : Ev (fun k => laws_markByteSS.f k L m) (m + totL L, marksBB L m) := by
 have := markByteSS_l L [] m h0 hm (by simpa using hl)
 exact Ev.congr (fun k => rfl) this

theorem toByteSS_ev (cs : List (List Int)) (hl : cs.length ≤ 1048576) (hc : ∀ c ∈ cs, c.length ≤ 1048576) : Ev (fun k => laws_toByteSS.f k cs) cs := by
 have key : ∀ (d i : Nat), cs.length - i = d → i ≤ cs.length → Ev (fun k => laws_toByteSS.l0 k cs (cs.take i ++ List.replicate (cs.length - i) []) (i : Int)) cs := by
  intro d
  induction d with
  | zero =>
   intro i hd hi
   refine ev_now fun k => ?_
   simp only [laws_toByteSS.l0]
   rw [if_neg (by omega), fill_all cs [] i (by omega)]
  | succ d ih =>
   intro i hd hi
   have hi2 : i < cs.length := by omega
   refine Ev.step (f := fun k => (laws_toByteS.f k cs[i]).bind fun t => laws_toByteSS.l0 k cs ((cs.take i ++ List.replicate (cs.length - i) []).set i t) ((i + 1 : Nat) : Int)) (fun k => ?_) (Ev.bind (toByteS_ev cs[i] (by have := hc _ (List.getElem_mem hi2); omega)) ?_)
   · have hlen : (cs.take i ++ List.replicate (cs.length - i) []).length = cs.length := by rw [List.length_append, List.length_take, List.length_replicate]; omega
     simp only [laws_toByteSS.l0, rdLL hi2, hlen, Int.toNat_natCast]
     rw [if_pos (by omega), if_pos (by omega), wsucc (by omega)]
     congr 1
     funext t
     rw [if_pos (by omega)]
   · rw [set_fill cs [] cs[i] i hi2 rfl]
     exact ih (i + 1) (by omega) (by omega)
 refine Ev.congr (fun k => ?_) (key cs.length 0 (by omega) (by omega))
 simp only [laws_toByteSS.f]
 rw [if_pos (by omega), if_pos (by rw [Int.toNat_natCast]; omega), Int.toNat_natCast, fill_zero cs []]
 rfl

theorem szByteSS_ev (cs : List (List Int)) (hl : cs.length ≤ maxLen) (hc : ∀ c ∈ cs, c.length ≤ maxLen) : ∃ r, Ev (fun k => laws_szByteSS.f k cs 1048576) r ∧ (0 ≤ r → cs.length ≤ 1048576 ∧ totC cs ≤ 1048576) := by
 have key : ∀ (d i : Nat) (m : Int), cs.length - i = d → i ≤ cs.length → 0 ≤ m → m ≤ 1048576 → (totC (cs.take i) : Int) + m ≤ 1048576 → ∃ r, Ev (fun k => laws_szByteSS.l0 k cs m (i : Int)) r ∧ (0 ≤ r → totC cs ≤ 1048576) := by
  intro d
  induction d with
  | zero =>
   intro i m hd hi h0 h1 ht
   obtain rfl : i = cs.length := by omega
   rw [List.take_length] at ht
   refine ⟨m, ev_now fun k => ?_, fun _ => by omega⟩
   simp only [laws_szByteSS.l0]
   rw [if_neg (by omega)]
  | succ d ih =>
   intro i m hd hi h0 h1 ht
   have hi2 : i < cs.length := by omega
   have ht1 := totC_take cs i hi2
   have hs := szByteS_eq cs[i] m h0 h1 (hc _ (List.getElem_mem hi2))
   by_cases hm : m < (cs[i].length : Int)
   · rw [if_pos hm] at hs
     refine ⟨-1, ev_now fun k => ?_, fun h => by omega⟩
     simp only [laws_szByteSS.l0, rdLL hi2, hs, Option.bind_some]
     rw [if_pos (by omega), if_pos (by omega), if_pos (by omega)]
   · rw [if_neg hm] at hs
     obtain ⟨r, e, hr⟩ := ih (i + 1) (m - cs[i].length) (by omega) (by omega) (by omega) (by omega) (by omega)
     refine ⟨r, Ev.step (fun k => ?_) e, hr⟩
     simp only [laws_szByteSS.l0, rdLL hi2, hs, Option.bind_some]
     rw [if_pos (by omega), if_pos (by omega), if_neg (by omega), wsucc (by unfold maxLen at hl; omega)]
 have hml : cs.length ≤ 9223372036854775807 := hl
 have hw : wrap64 (1048576 - (cs.length : Int)) = 1048576 - (cs.length : Int) := w64 (by omega) (by omega)
 by_cases h : (1048576 : Int) - (cs.length : Int) < 0
 · refine ⟨-1, ev_some fun k => ?_, fun h => by omega⟩
   simp only [laws_szByteSS.f, hw]
   rw [if_pos h]
 · obtain ⟨r, e, hr⟩ := key cs.length 0 (1048576 - (cs.length : Int)) (by omega) (by omega) (by omega) (by omega) (by simp [totC]; omega)
   refine ⟨r, Ev.congr (fun k => ?_) e, fun h0 => ⟨by omega, hr h0⟩⟩
   simp only [laws_szByteSS.f, hw]
   rw [if_neg h]
   rfl

end Go.Proofs.Ytogdhclomgafdaa.QFnExactFeedAll

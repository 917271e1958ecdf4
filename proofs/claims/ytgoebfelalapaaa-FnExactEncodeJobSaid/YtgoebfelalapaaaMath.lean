/- Plain lemmas on numbers and lists: no program is named here. -/
import Derived.Test.YtgoebfelalapaaaWMore
namespace Go.Proofs.Ytgoebfelalapaaa.Math
open Go.RowKit Go.Proofs.YtgoebfelalapaaaW.PrintWords Go.Proofs.YtgoebfelalapaaaW.PrintLast
set_option linter.unusedVariables false
set_option linter.unusedSimpArgs false

/-! ### words -/
theorem w64 {x : Int} (h1 : -9223372036854775808 ≤ x) (h2 : x ≤ 9223372036854775807) : wrap64 x = x := by unfold wrap64; omega
/-- A word that is a small whole number. -/
theorem w64n {x : Int} {a : Nat} (h : x = (a : Int)) (ha : a ≤ 9223372036854775807) : wrap64 x = (a : Int) := by rw [h]; exact w64 (by omega) (by omega)
theorem wsucc {i : Nat} (h : i < 9223372036854775807) : wrap64 ((i : Int) + 1) = ((i + 1 : Nat) : Int) := by rw [w64 (by omega) (by omega)]; omega
theorem if_dec {c p : Prop} [Decidable c] [Decidable p] : (if c then some (decide p) else some false) = some (decide (c ∧ p)) := by
  by_cases h : c <;> simp [h]
theorem mn_eq (a b : Int) : mn a b = if a < b then a else b := by
  unfold mn
  (repeat' split) <;> omega
theorem mx_eq (a b : Int) : mx a b = if a < b then b else a := by
  unfold mx
  (repeat' split) <;> omega
theorem ev_some {α : Type} {g : Nat → Option α} {r : α} (h : ∀ k, g k = some r) : Ev g r := ⟨0, fun k _ => h k⟩
theorem ev_now {α : Type} {g : Nat → Option α} {r : α} (h : ∀ k, g (k + 1) = some r) : Ev g r := Ev.step (f := fun _ => some r) h (Ev.now r)
theorem rd_eq {xs : List Int} {i : Nat} (h : i < xs.length) : rd xs (i : Int) = xs[i] := by
  simp [rd, List.getD_eq_getElem?_getD, List.getElem?_eq_getElem h]
theorem rd_mem {xs : List Int} {i : Nat} (h : i < xs.length) : rd xs (i : Int) ∈ xs := by
  rw [rd_eq h]; exact List.getElem_mem h
/-! ### a row that is filled from the left -/
theorem set_fill {α : Type} (l : List α) (z x : α) (i : Nat) (h : i < l.length) (hx : x = l[i]) :
    (l.take i ++ List.replicate (l.length - i) z).set i x = l.take (i + 1) ++ List.replicate (l.length - (i + 1)) z := by
  subst hx
  apply List.ext_getElem
  · simp; omega
  · intro j h1 h2
    simp at h1 h2
    rw [List.getElem_set]
    by_cases hj : i = j
    · subst hj
      rw [if_pos rfl, List.getElem_append_left (by simp; omega)]
      simp
    · rw [if_neg hj]
      by_cases hlt : j < i
      · rw [List.getElem_append_left (by simp; omega), List.getElem_append_left (by simp; omega)]
        simp
      · rw [List.getElem_append_right (by simp; omega), List.getElem_append_right (by simp; omega)]
        simp
theorem fill_zero {α : Type} (l : List α) (z : α) : List.replicate l.length z = l.take 0 ++ List.replicate (l.length - 0) z := by simp
theorem fill_all {α : Type} (l : List α) (z : α) (i : Nat) (h : l.length ≤ i) : l.take i ++ List.replicate (l.length - i) z = l := by
  rw [List.take_of_length_le h, show l.length - i = 0 by omega]; simp
/-! ### numbers that mark a row's places -/
def marksB (n : Nat) (m : Int) : List Int := (List.range n).map fun j : Nat => (m + (j : Int)) % 256
def marksI (n : Nat) (m : Int) : List Int := (List.range n).map fun j : Nat => m + (j : Int)
theorem marksB_len (n : Nat) (m : Int) : (marksB n m).length = n := by simp [marksB]
theorem marksI_len (n : Nat) (m : Int) : (marksI n m).length = n := by simp [marksI]
theorem set_mark {α : Type} {l w : List α} {x : α} {i : Nat} (hl : w.length = l.length) (h : i < l.length) (hx : x = w[i]'(by omega)) :
    (w.take i ++ l.drop i).set i x = w.take (i + 1) ++ l.drop (i + 1) := by
  subst hx
  apply List.ext_getElem
  · simp; omega
  · intro j h1 h2
    simp at h1 h2
    rw [List.getElem_set]
    by_cases hj : i = j
    · subst hj
      rw [if_pos rfl, List.getElem_append_left (by simp; omega)]
      simp
    · rw [if_neg hj]
      by_cases hlt : j < i
      · rw [List.getElem_append_left (by simp; omega), List.getElem_append_left (by simp; omega)]
        simp
      · rw [List.getElem_append_right (by simp; omega), List.getElem_append_right (by simp; omega)]
        simp
        congr 1
        omega
/-! ### a number in groups of seven bits -/
def put (u : Nat) : List Int := if u < 128 then [(u : Int)] else ((u % 128 + 128 : Nat) : Int) :: put (u / 128)
termination_by u
decreasing_by omega
theorem put_small {u : Nat} (h : u < 128) : put u = [(u : Int)] := by rw [put, if_pos h]
theorem put_big {u : Nat} (h : 128 ≤ u) : put u = ((u % 128 + 128 : Nat) : Int) :: put (u / 128) := by rw [put, if_neg (by omega)]
theorem put_len (u : Nat) : ∀ n, u < 128 ^ (n + 1) → (put u).length ≤ n + 1 := by
  intro n
  induction n generalizing u with
  | zero => intro h; rw [put_small (by omega)]; simp
  | succ n ih =>
    intro h
    by_cases hu : u < 128
    · rw [put_small hu]; simp
    · rw [put_big (by omega)]
      have := ih (u / 128) (by rw [Nat.div_lt_iff_lt_mul (by omega)]; rw [Nat.pow_succ] at h; exact h)
      simp; omega
theorem put_pos (u : Nat) : 0 < (put u).length := by
  by_cases hu : u < 128
  · rw [put_small hu]; simp
  · rw [put_big (by omega)]; simp
/-- The number that is encoded for a number with a sign. -/
def zz (x : Int) : Nat := (if x < 0 then -2 * x - 1 else 2 * x).toNat
def isWord (x : Int) : Prop := -1099511627776 ≤ x ∧ x ≤ 1099511627776
instance isWord_dec (x : Int) : Decidable (isWord x) := by unfold isWord; infer_instance
def putOf (x : Int) : List Int := if isWord x then put (zz x) else []
theorem zz_lt {x : Int} (h : isWord x) : zz x ≤ 2199023255552 := by unfold isWord at h; unfold zz; split <;> omega
theorem putOf_len (x : Int) : (putOf x).length ≤ 6 := by
  unfold putOf
  split
  · rename_i h
    exact put_len _ 5 (by have := zz_lt h; omega)
  · simp
/-! ### bits -/
theorem wrap_nat {n : Nat} (h : n < 9223372036854775808) : IntKind.i64.wrap (n : Int) = n := by
  have e : (n : Int) % 2 ^ IntKind.i64.bits = n := by show (n : Int) % 2 ^ 64 = n; omega
  unfold IntKind.wrap
  rw [e]
  refine if_neg ?_
  show ¬ ((true && decide ((n : Int) ≥ 2 ^ 63)) = true)
  simp; omega
theorem bits_and (x : Int) (m : Nat) (hm : m < 9223372036854775808) : 0 ≤ Go.bits .and .i64 x (m : Int) ∧ Go.bits .and .i64 x (m : Int) ≤ m := by
  have h : ((BitVec.ofInt 64 x) &&& (BitVec.ofInt 64 (m : Int))).toNat ≤ m := by
    rw [BitVec.toNat_and, BitVec.ofInt_natCast, BitVec.toNat_ofNat, Nat.mod_eq_of_lt (a := m) (by omega)]
    exact Nat.and_le_right
  have e : Go.bits .and .i64 x (m : Int) = IntKind.i64.wrap (((BitVec.ofInt 64 x) &&& (BitVec.ofInt 64 (m : Int))).toNat : Int) := rfl
  rw [e, wrap_nat (by omega)]
  generalize ((BitVec.ofInt 64 x) &&& (BitVec.ofInt 64 (m : Int))).toNat = q at h
  omega
theorem shl_mul (c i : Nat) (hi : i ≤ 55) (hc : c < 128) : shl .i64 (c : Int) (i : Int) = ((2 ^ i * c : Nat) : Int) := by
  have h1 : 2 ^ i ≤ 2 ^ 55 := Nat.pow_le_pow_right (by omega) hi
  have h2 : 2 ^ i * c ≤ 2 ^ 55 * 127 := Nat.mul_le_mul h1 (by omega)
  unfold shl
  rw [Int.toNat_natCast, Nat.min_eq_left (show i ≤ IntKind.i64.bits by show i ≤ 64; omega)]
  rw [show (c : Int) * 2 ^ i = ((2 ^ i * c : Nat) : Int) by rw [Int.natCast_mul, Int.mul_comm]; simp]
  exact wrap_nat (by omega)
theorem bits_or (u c i : Nat) (hi : i ≤ 55) (hu : u < 2 ^ i) (hc : c < 128) : Go.bits .or .i64 (u : Int) (shl .i64 (c : Int) (i : Int)) = ((2 ^ i * c + u : Nat) : Int) := by
  have h1 : 2 ^ i ≤ 2 ^ 55 := Nat.pow_le_pow_right (by omega) hi
  have h2 : 2 ^ i * c ≤ 2 ^ 55 * 127 := Nat.mul_le_mul h1 (by omega)
  have e : shl .i64 (c : Int) (i : Int) = ((2 ^ i * c : Nat) : Int) := by
    unfold shl
    rw [Int.toNat_natCast, Nat.min_eq_left (show i ≤ IntKind.i64.bits by show i ≤ 64; omega)]
    rw [show (c : Int) * 2 ^ i = ((2 ^ i * c : Nat) : Int) by rw [Int.natCast_mul, Int.mul_comm]; simp]
    exact wrap_nat (by omega)
  rw [e]
  have h : ((BitVec.ofInt 64 (u : Int)) ||| (BitVec.ofInt 64 ((2 ^ i * c : Nat) : Int))).toNat = 2 ^ i * c + u := by
    rw [BitVec.toNat_or, BitVec.ofInt_natCast, BitVec.ofInt_natCast, BitVec.toNat_ofNat, BitVec.toNat_ofNat, Nat.mod_eq_of_lt (a := u) (by omega), Nat.mod_eq_of_lt (by omega), Nat.two_pow_add_eq_or_of_lt hu, Nat.or_comm]
  have e : Go.bits .or .i64 (u : Int) ((2 ^ i * c : Nat) : Int) = IntKind.i64.wrap (((BitVec.ofInt 64 (u : Int)) ||| (BitVec.ofInt 64 ((2 ^ i * c : Nat) : Int))).toNat : Int) := rfl
  rw [e, h, wrap_nat (by omega)]
theorem p256 {i : Nat} (h : i ≤ 3) : (256 : Int) ^ i ≤ 16777216 := by
  rcases (show i = 0 ∨ i = 1 ∨ i = 2 ∨ i = 3 by omega) with rfl | rfl | rfl | rfl <;> decide
theorem p256b {i : Nat} (h : i ≤ 2) : (256 : Int) ^ i ≤ 65536 := by
  rcases (show i = 0 ∨ i = 1 ∨ i = 2 by omega) with rfl | rfl | rfl <;> decide
theorem bits_and255 (n : Nat) (h : n < 9223372036854775808) : Go.bits .and .i64 (n : Int) ((255 : Nat) : Int) = ((n % 256 : Nat) : Int) := by
  have e0 : ((BitVec.ofInt 64 (n : Int)) &&& (BitVec.ofInt 64 ((255 : Nat) : Int))).toNat = n % 256 := by
    rw [BitVec.toNat_and, BitVec.ofInt_natCast, BitVec.ofInt_natCast, BitVec.toNat_ofNat, BitVec.toNat_ofNat, Nat.mod_eq_of_lt (a := n) (by omega), Nat.mod_eq_of_lt (a := 255) (by omega)]
    exact Nat.and_two_pow_sub_one_eq_mod n 8
  have e : Go.bits .and .i64 (n : Int) ((255 : Nat) : Int) = IntKind.i64.wrap (((BitVec.ofInt 64 (n : Int)) &&& (BitVec.ofInt 64 ((255 : Nat) : Int))).toNat : Int) := rfl
  rw [e, e0, wrap_nat (by omega)]
theorem bits_and1 (n : Nat) (h : n < 9223372036854775808) : Go.bits .and .i64 (n : Int) ((1 : Nat) : Int) = ((n % 2 : Nat) : Int) := by
  have e0 : ((BitVec.ofInt 64 (n : Int)) &&& (BitVec.ofInt 64 ((1 : Nat) : Int))).toNat = n % 2 := by
    rw [BitVec.toNat_and, BitVec.ofInt_natCast, BitVec.ofInt_natCast, BitVec.toNat_ofNat, BitVec.toNat_ofNat, Nat.mod_eq_of_lt (a := n) (by omega), Nat.mod_eq_of_lt (a := 1) (by omega)]
    exact Nat.and_two_pow_sub_one_eq_mod n 1
  have e : Go.bits .and .i64 (n : Int) ((1 : Nat) : Int) = IntKind.i64.wrap (((BitVec.ofInt 64 (n : Int)) &&& (BitVec.ofInt 64 ((1 : Nat) : Int))).toNat : Int) := rfl
  rw [e, e0, wrap_nat (by omega)]
theorem bits_join8 (a b : Nat) (ha : a ≤ 16777216) (hb : b < 256) : Go.bits .or .i64 ((a * 256 : Nat) : Int) (b : Int) = ((256 * a + b : Nat) : Int) := by
  have e0 : ((BitVec.ofInt 64 ((a * 256 : Nat) : Int)) ||| (BitVec.ofInt 64 (b : Int))).toNat = 256 * a + b := by
    rw [BitVec.toNat_or, BitVec.ofInt_natCast, BitVec.ofInt_natCast, BitVec.toNat_ofNat, BitVec.toNat_ofNat, Nat.mod_eq_of_lt (by omega), Nat.mod_eq_of_lt (a := b) (by omega), Nat.mul_comm]
    exact (Nat.two_pow_add_eq_or_of_lt (i := 8) hb a).symm
  have e : Go.bits .or .i64 ((a * 256 : Nat) : Int) (b : Int) = IntKind.i64.wrap (((BitVec.ofInt 64 ((a * 256 : Nat) : Int)) ||| (BitVec.ofInt 64 (b : Int))).toNat : Int) := rfl
  rw [e, e0, wrap_nat (by omega)]
/-! ### a number read back from groups of seven bits -/
def unzz (v : Nat) : Int := if v % 2 = 1 then -(((v + 1) / 2 : Nat) : Int) else ((v / 2 : Nat) : Int)
theorem unzz_zz (x : Int) : unzz (zz x) = x := by unfold unzz zz; split <;> split <;> omega
theorem zz_unzz (v : Nat) : zz (unzz v) = v := by unfold unzz zz; split <;> split <;> omega
def tkL : Nat → List Int → Nat → Nat → Option (Int × Nat)
  | 0, _, _, _ => none
  | _ + 1, [], _, _ => none
  | d + 1, b :: r, k, u => if 128 ≤ b then tkL d r (k + 1) (128 ^ k * (b.toNat % 128) + u) else if b = 0 ∧ 0 < k then none else if isWord (unzz (128 ^ k * (b.toNat % 128) + u)) then some (unzz (128 ^ k * (b.toNat % 128) + u), k + 1) else none
def tkR (p : Nat) : Option (Int × Nat) → Int × Int × Bool
  | some r => (r.1, ((p + r.2 : Nat) : Int), true)
  | none => (0, 0, false)
theorem tkL_put (x : Int) (hx : isWord x) (r : List Int) (w : Nat) : ∀ (d k u : Nat), 128 ^ k * w + u = zz x → (0 < k → 0 < w) → (put w).length ≤ d → tkL d (put w ++ r) k u = some (x, k + (put w).length) := by
  induction w using Nat.strongRecOn with
  | _ w ih =>
    intro d k u h hk hd
    cases d with
    | zero => have := put_pos w; omega
    | succ d =>
      by_cases hw : w < 128
      · rw [put_small hw]
        simp only [List.singleton_append, tkL, List.length_singleton]
        rw [if_neg (by omega), if_neg (by omega), Int.toNat_natCast, Nat.mod_eq_of_lt hw, h, unzz_zz, if_pos hx]
      · rw [put_big (by omega)] at hd ⊢
        simp only [List.cons_append, tkL, List.length_cons] at hd ⊢
        rw [if_pos (by omega), Int.toNat_natCast, show (w % 128 + 128) % 128 = w % 128 by omega, ih (w / 128) (by omega) d (k + 1) _ ?_ (by omega) (by omega)]
        · rw [Nat.add_assoc, Nat.add_comm 1]
        · rw [Nat.pow_succ, Nat.mul_assoc, ← Nat.add_assoc, ← Nat.mul_add, Nat.add_comm (128 * _), Nat.mod_add_div, h]
theorem tkL_seven (l : List Int) (hl : ∀ x ∈ l, 0 ≤ x ∧ x ≤ 255) (u : Nat) : tkL 1 l 6 u = none := by
  cases l with
  | nil => rfl
  | cons b r =>
    have hb := hl b (List.mem_cons_self ..)
    simp only [tkL]
    by_cases h1 : 128 ≤ b
    · rw [if_pos h1]
    · rw [if_neg h1]
      by_cases h2 : b = 0 ∧ 0 < 6
      · rw [if_pos h2]
      · rw [if_neg h2]
        refine if_neg fun h => ?_
        have hb0 : b ≠ 0 := fun e => h2 ⟨e, by omega⟩
        have h3 : 1 ≤ b.toNat % 128 := by omega
        have h4 : 4398046511104 * 1 ≤ 128 ^ 6 * (b.toNat % 128) := Nat.mul_le_mul (by decide) h3
        generalize 128 ^ 6 * (b.toNat % 128) = V at h h4
        unfold isWord unzz at h
        split at h <;> omega
/-! ### bytes -/
def isB (l : List Int) : Prop := ∀ x ∈ l, 0 ≤ x ∧ x ≤ 255
theorem wf_u8 {x : Int} (h : (Lit.int .u8 x).wf = true) : 0 ≤ x ∧ x ≤ 255 := by
  simp [Lit.wf, IntKind.min, IntKind.max, IntKind.signed, IntKind.bits] at h
  omega
theorem wf_i64 {x : Int} (h : (Lit.int .i64 x).wf = true) : -9223372036854775808 ≤ x ∧ x ≤ 9223372036854775807 := by
  simp [Lit.wf, IntKind.min, IntKind.max, IntKind.signed, IntKind.bits] at h
  omega
theorem i64_wf {x : Int} (h1 : -9223372036854775808 ≤ x) (h2 : x ≤ 9223372036854775807) : (Lit.int .i64 x).wf = true := by
  simp [Lit.wf, IntKind.min, IntKind.max, IntKind.signed, IntKind.bits]
  omega
theorem isB_of {l : List Int} (h : ∀ x ∈ l, (Lit.int .u8 x).wf = true) : isB l := fun x hx => wf_u8 (h x hx)
theorem isB_at {l : List Int} (h : isB l) {i : Nat} (hi : i < l.length) : 0 ≤ l[i] ∧ l[i] ≤ 255 := h _ (List.getElem_mem hi)
theorem isB_append {a b : List Int} (h : isB a) (k : isB b) : isB (a ++ b) := fun x hx => (List.mem_append.1 hx).elim (h x) (k x)
theorem isB_drop {a : List Int} (h : isB a) (n : Nat) : isB (a.drop n) := fun x hx => h x (List.mem_of_mem_drop hx)
theorem isB_take {a : List Int} (h : isB a) (n : Nat) : isB (a.take n) := fun x hx => h x (List.mem_of_mem_take hx)
theorem put_isB (u : Nat) : isB (put u) := by
  induction u using Nat.strongRecOn with
  | _ u ih =>
    intro x hx
    by_cases h : u < 128
    · rw [put_small h] at hx; simp at hx; omega
    · rw [put_big (by omega)] at hx
      rcases List.mem_cons.1 hx with hx | hx
      · omega
      · exact ih (u / 128) (by omega) x hx
/-! ### the checksum of bytes -/
def cks : List Int → Int → Int → Int
  | [], x, y => 65536 * y + x
  | c :: l, x, y => cks l ((x + c) % 65521) ((y + (x + c) % 65521) % 65521)
theorem cks_at {l : List Int} {i : Nat} (h : i < l.length) (x y : Int) : cks (l.drop i) x y = cks (l.drop (i + 1)) ((x + l[i]) % 65521) ((y + (x + l[i]) % 65521) % 65521) := by
  rw [List.drop_eq_getElem_cons h]; rfl
theorem cks_range (l : List Int) : ∀ x y, 0 ≤ x → x ≤ 65520 → 0 ≤ y → y ≤ 65520 → 0 ≤ cks l x y ∧ cks l x y ≤ 65536 * 65520 + 65520 := by
  induction l with
  | nil => intro x y h1 h2 h3 h4; unfold cks; omega
  | cons c l ih => intro x y h1 h2 h3 h4; unfold cks; exact ih _ _ (by omega) (by omega) (by omega) (by omega)
/-! ### several that come to their answers, at one number of rounds -/
theorem Ev.at {α : Type} {g : Nat → Option α} {r : α} (h : Ev g r) : ∃ K, ∀ n, K ≤ n → ∀ j, g (n + j) = some r := by
  obtain ⟨K, h⟩ := h
  exact ⟨K, fun n hn j => h (n + j) (by omega)⟩
theorem evs1 {A0 : Type} {g0 : Nat → Option A0} {r0 : A0} (h0 : Ev g0 r0) : ∃ n, (∀ j, g0 (n + j) = some r0) := by
  obtain ⟨K0, h0⟩ := Ev.at h0
  exact ⟨K0, h0 _ (by omega)⟩
theorem evs2 {A0 : Type} {g0 : Nat → Option A0} {r0 : A0} {A1 : Type} {g1 : Nat → Option A1} {r1 : A1} (h0 : Ev g0 r0) (h1 : Ev g1 r1) : ∃ n, (∀ j, g0 (n + j) = some r0) ∧ (∀ j, g1 (n + j) = some r1) := by
  obtain ⟨K0, h0⟩ := Ev.at h0
  obtain ⟨K1, h1⟩ := Ev.at h1
  exact ⟨K0 + K1, h0 _ (by omega), h1 _ (by omega)⟩
theorem evs3 {A0 : Type} {g0 : Nat → Option A0} {r0 : A0} {A1 : Type} {g1 : Nat → Option A1} {r1 : A1} {A2 : Type} {g2 : Nat → Option A2} {r2 : A2} (h0 : Ev g0 r0) (h1 : Ev g1 r1) (h2 : Ev g2 r2) : ∃ n, (∀ j, g0 (n + j) = some r0) ∧ (∀ j, g1 (n + j) = some r1) ∧ (∀ j, g2 (n + j) = some r2) := by
  obtain ⟨K0, h0⟩ := Ev.at h0
  obtain ⟨K1, h1⟩ := Ev.at h1
  obtain ⟨K2, h2⟩ := Ev.at h2
  exact ⟨K0 + K1 + K2, h0 _ (by omega), h1 _ (by omega), h2 _ (by omega)⟩
theorem evs4 {A0 : Type} {g0 : Nat → Option A0} {r0 : A0} {A1 : Type} {g1 : Nat → Option A1} {r1 : A1} {A2 : Type} {g2 : Nat → Option A2} {r2 : A2} {A3 : Type} {g3 : Nat → Option A3} {r3 : A3} (h0 : Ev g0 r0) (h1 : Ev g1 r1) (h2 : Ev g2 r2) (h3 : Ev g3 r3) : ∃ n, (∀ j, g0 (n + j) = some r0) ∧ (∀ j, g1 (n + j) = some r1) ∧ (∀ j, g2 (n + j) = some r2) ∧ (∀ j, g3 (n + j) = some r3) := by
  obtain ⟨K0, h0⟩ := Ev.at h0
  obtain ⟨K1, h1⟩ := Ev.at h1
  obtain ⟨K2, h2⟩ := Ev.at h2
  obtain ⟨K3, h3⟩ := Ev.at h3
  exact ⟨K0 + K1 + K2 + K3, h0 _ (by omega), h1 _ (by omega), h2 _ (by omega), h3 _ (by omega)⟩
theorem evs5 {A0 : Type} {g0 : Nat → Option A0} {r0 : A0} {A1 : Type} {g1 : Nat → Option A1} {r1 : A1} {A2 : Type} {g2 : Nat → Option A2} {r2 : A2} {A3 : Type} {g3 : Nat → Option A3} {r3 : A3} {A4 : Type} {g4 : Nat → Option A4} {r4 : A4} (h0 : Ev g0 r0) (h1 : Ev g1 r1) (h2 : Ev g2 r2) (h3 : Ev g3 r3) (h4 : Ev g4 r4) : ∃ n, (∀ j, g0 (n + j) = some r0) ∧ (∀ j, g1 (n + j) = some r1) ∧ (∀ j, g2 (n + j) = some r2) ∧ (∀ j, g3 (n + j) = some r3) ∧ (∀ j, g4 (n + j) = some r4) := by
  obtain ⟨K0, h0⟩ := Ev.at h0
  obtain ⟨K1, h1⟩ := Ev.at h1
  obtain ⟨K2, h2⟩ := Ev.at h2
  obtain ⟨K3, h3⟩ := Ev.at h3
  obtain ⟨K4, h4⟩ := Ev.at h4
  exact ⟨K0 + K1 + K2 + K3 + K4, h0 _ (by omega), h1 _ (by omega), h2 _ (by omega), h3 _ (by omega), h4 _ (by omega)⟩
theorem evs6 {A0 : Type} {g0 : Nat → Option A0} {r0 : A0} {A1 : Type} {g1 : Nat → Option A1} {r1 : A1} {A2 : Type} {g2 : Nat → Option A2} {r2 : A2} {A3 : Type} {g3 : Nat → Option A3} {r3 : A3} {A4 : Type} {g4 : Nat → Option A4} {r4 : A4} {A5 : Type} {g5 : Nat → Option A5} {r5 : A5} (h0 : Ev g0 r0) (h1 : Ev g1 r1) (h2 : Ev g2 r2) (h3 : Ev g3 r3) (h4 : Ev g4 r4) (h5 : Ev g5 r5) : ∃ n, (∀ j, g0 (n + j) = some r0) ∧ (∀ j, g1 (n + j) = some r1) ∧ (∀ j, g2 (n + j) = some r2) ∧ (∀ j, g3 (n + j) = some r3) ∧ (∀ j, g4 (n + j) = some r4) ∧ (∀ j, g5 (n + j) = some r5) := by
  obtain ⟨K0, h0⟩ := Ev.at h0
  obtain ⟨K1, h1⟩ := Ev.at h1
  obtain ⟨K2, h2⟩ := Ev.at h2
  obtain ⟨K3, h3⟩ := Ev.at h3
  obtain ⟨K4, h4⟩ := Ev.at h4
  obtain ⟨K5, h5⟩ := Ev.at h5
  exact ⟨K0 + K1 + K2 + K3 + K4 + K5, h0 _ (by omega), h1 _ (by omega), h2 _ (by omega), h3 _ (by omega), h4 _ (by omega), h5 _ (by omega)⟩
theorem evs7 {A0 : Type} {g0 : Nat → Option A0} {r0 : A0} {A1 : Type} {g1 : Nat → Option A1} {r1 : A1} {A2 : Type} {g2 : Nat → Option A2} {r2 : A2} {A3 : Type} {g3 : Nat → Option A3} {r3 : A3} {A4 : Type} {g4 : Nat → Option A4} {r4 : A4} {A5 : Type} {g5 : Nat → Option A5} {r5 : A5} {A6 : Type} {g6 : Nat → Option A6} {r6 : A6} (h0 : Ev g0 r0) (h1 : Ev g1 r1) (h2 : Ev g2 r2) (h3 : Ev g3 r3) (h4 : Ev g4 r4) (h5 : Ev g5 r5) (h6 : Ev g6 r6) : ∃ n, (∀ j, g0 (n + j) = some r0) ∧ (∀ j, g1 (n + j) = some r1) ∧ (∀ j, g2 (n + j) = some r2) ∧ (∀ j, g3 (n + j) = some r3) ∧ (∀ j, g4 (n + j) = some r4) ∧ (∀ j, g5 (n + j) = some r5) ∧ (∀ j, g6 (n + j) = some r6) := by
  obtain ⟨K0, h0⟩ := Ev.at h0
  obtain ⟨K1, h1⟩ := Ev.at h1
  obtain ⟨K2, h2⟩ := Ev.at h2
  obtain ⟨K3, h3⟩ := Ev.at h3
  obtain ⟨K4, h4⟩ := Ev.at h4
  obtain ⟨K5, h5⟩ := Ev.at h5
  obtain ⟨K6, h6⟩ := Ev.at h6
  exact ⟨K0 + K1 + K2 + K3 + K4 + K5 + K6, h0 _ (by omega), h1 _ (by omega), h2 _ (by omega), h3 _ (by omega), h4 _ (by omega), h5 _ (by omega), h6 _ (by omega)⟩
theorem evs8 {A0 : Type} {g0 : Nat → Option A0} {r0 : A0} {A1 : Type} {g1 : Nat → Option A1} {r1 : A1} {A2 : Type} {g2 : Nat → Option A2} {r2 : A2} {A3 : Type} {g3 : Nat → Option A3} {r3 : A3} {A4 : Type} {g4 : Nat → Option A4} {r4 : A4} {A5 : Type} {g5 : Nat → Option A5} {r5 : A5} {A6 : Type} {g6 : Nat → Option A6} {r6 : A6} {A7 : Type} {g7 : Nat → Option A7} {r7 : A7} (h0 : Ev g0 r0) (h1 : Ev g1 r1) (h2 : Ev g2 r2) (h3 : Ev g3 r3) (h4 : Ev g4 r4) (h5 : Ev g5 r5) (h6 : Ev g6 r6) (h7 : Ev g7 r7) : ∃ n, (∀ j, g0 (n + j) = some r0) ∧ (∀ j, g1 (n + j) = some r1) ∧ (∀ j, g2 (n + j) = some r2) ∧ (∀ j, g3 (n + j) = some r3) ∧ (∀ j, g4 (n + j) = some r4) ∧ (∀ j, g5 (n + j) = some r5) ∧ (∀ j, g6 (n + j) = some r6) ∧ (∀ j, g7 (n + j) = some r7) := by
  obtain ⟨K0, h0⟩ := Ev.at h0
  obtain ⟨K1, h1⟩ := Ev.at h1
  obtain ⟨K2, h2⟩ := Ev.at h2
  obtain ⟨K3, h3⟩ := Ev.at h3
  obtain ⟨K4, h4⟩ := Ev.at h4
  obtain ⟨K5, h5⟩ := Ev.at h5
  obtain ⟨K6, h6⟩ := Ev.at h6
  obtain ⟨K7, h7⟩ := Ev.at h7
  exact ⟨K0 + K1 + K2 + K3 + K4 + K5 + K6 + K7, h0 _ (by omega), h1 _ (by omega), h2 _ (by omega), h3 _ (by omega), h4 _ (by omega), h5 _ (by omega), h6 _ (by omega), h7 _ (by omega)⟩
theorem evs9 {A0 : Type} {g0 : Nat → Option A0} {r0 : A0} {A1 : Type} {g1 : Nat → Option A1} {r1 : A1} {A2 : Type} {g2 : Nat → Option A2} {r2 : A2} {A3 : Type} {g3 : Nat → Option A3} {r3 : A3} {A4 : Type} {g4 : Nat → Option A4} {r4 : A4} {A5 : Type} {g5 : Nat → Option A5} {r5 : A5} {A6 : Type} {g6 : Nat → Option A6} {r6 : A6} {A7 : Type} {g7 : Nat → Option A7} {r7 : A7} {A8 : Type} {g8 : Nat → Option A8} {r8 : A8} (h0 : Ev g0 r0) (h1 : Ev g1 r1) (h2 : Ev g2 r2) (h3 : Ev g3 r3) (h4 : Ev g4 r4) (h5 : Ev g5 r5) (h6 : Ev g6 r6) (h7 : Ev g7 r7) (h8 : Ev g8 r8) : ∃ n, (∀ j, g0 (n + j) = some r0) ∧ (∀ j, g1 (n + j) = some r1) ∧ (∀ j, g2 (n + j) = some r2) ∧ (∀ j, g3 (n + j) = some r3) ∧ (∀ j, g4 (n + j) = some r4) ∧ (∀ j, g5 (n + j) = some r5) ∧ (∀ j, g6 (n + j) = some r6) ∧ (∀ j, g7 (n + j) = some r7) ∧ (∀ j, g8 (n + j) = some r8) := by
  obtain ⟨K0, h0⟩ := Ev.at h0
  obtain ⟨K1, h1⟩ := Ev.at h1
  obtain ⟨K2, h2⟩ := Ev.at h2
  obtain ⟨K3, h3⟩ := Ev.at h3
  obtain ⟨K4, h4⟩ := Ev.at h4
  obtain ⟨K5, h5⟩ := Ev.at h5
  obtain ⟨K6, h6⟩ := Ev.at h6
  obtain ⟨K7, h7⟩ := Ev.at h7
  obtain ⟨K8, h8⟩ := Ev.at h8
  exact ⟨K0 + K1 + K2 + K3 + K4 + K5 + K6 + K7 + K8, h0 _ (by omega), h1 _ (by omega), h2 _ (by omega), h3 _ (by omega), h4 _ (by omega), h5 _ (by omega), h6 _ (by omega), h7 _ (by omega), h8 _ (by omega)⟩
/-! ### all of so many places -/
def allF : Nat → Nat → (Nat → Bool) → Bool
  | 0, _, _ => true
  | d + 1, i, q => q i && allF d (i + 1) q
theorem allF_iff (q : Nat → Bool) : ∀ d i, allF d i q = true ↔ ∀ j, i ≤ j → j < i + d → q j = true := by
  intro d
  induction d with
  | zero => intro i; simp [allF]; intro j h1 h2; omega
  | succ d ih =>
    intro i
    rw [allF, Bool.and_eq_true, ih]
    constructor
    · rintro ⟨h0, h⟩ j h1 h2
      rcases Nat.lt_or_ge i j with hj | hj
      · exact h j (by omega) (by omega)
      · rw [show j = i by omega]; exact h0
    · intro h
      exact ⟨h i (by omega) (by omega), fun j h1 h2 => h j (by omega) (by omega)⟩
theorem allF_congr {q r : Nat → Bool} : ∀ d i, (∀ j, i ≤ j → j < i + d → q j = r j) → allF d i q = allF d i r := by
  intro d
  induction d with
  | zero => intro i _; rfl
  | succ d ih => intro i h; rw [allF, allF, h i (by omega) (by omega), ih (i + 1) (fun j h1 h2 => h j (by omega) (by omega))]
end Go.Proofs.Ytgoebfelalapaaa.Math

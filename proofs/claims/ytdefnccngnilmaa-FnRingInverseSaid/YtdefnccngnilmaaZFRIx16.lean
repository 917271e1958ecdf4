/- Lemmas on the printed functions of FnRingInverse: what each comes to. -/
import Derived.Test.YtdefnccngnilmaaZFRIx15
import Derived.Test.YtdefnccngnilmaaZFRIV
namespace Go.Proofs.Ytdefnccngnilmaa.QFnRingInverse
open Go.RowKit Go.Proofs.Ytdefnccngnilmaa.PFnRingInverse Go.Proofs.YtdefnccngnilmaaW.PrintWords Go.Proofs.YtdefnccngnilmaaW.PrintLast Go.Proofs.Ytdefnccngnilmaa.Math
set_option linter.unusedVariables false
set_option linter.unusedSimpArgs false

-- block l01In
theorem in_eq (a b c : Int) : spec_l01In.f a b c = some (decide (b ≤ a ∧ a ≤ c)) := by
  simp only [spec_l01In.f, if_dec]

-- block fldOk
def fldOk (f : Int) : Prop := 0 ≤ f ∧ f < 9
instance fldOk_dec (f : Int) : Decidable (fldOk f) := by unfold fldOk; infer_instance
def fP : List Int := [17, 97, 193, 257, 7681, 12289, 998244353, 469762049, 1004535809]
def fG : List Int := [3, 5, 5, 3, 17, 11, 3, 3, 3]
def fT : List Int := [4, 5, 6, 8, 9, 12, 23, 26, 21]
theorem fld_cases {f : Int} (h : fldOk f) {Q : Int → Prop} (h0 : Q 0) (h1 : Q 1) (h2 : Q 2) (h3 : Q 3) (h4 : Q 4) (h5 : Q 5) (h6 : Q 6) (h7 : Q 7) (h8 : Q 8) : Q f := by
  unfold fldOk at h
  have : f = 0 ∨ f = 1 ∨ f = 2 ∨ f = 3 ∨ f = 4 ∨ f = 5 ∨ f = 6 ∨ f = 7 ∨ f = 8 := by omega
  rcases this with rfl | rfl | rfl | rfl | rfl | rfl | rfl | rfl | rfl <;> assumption

-- block sMod
def md (f : Int) : Int := if fldOk f then rd fP f else 0
theorem sMod (f : Int) : spec_Modulus.f f = some (md f) := by
  by_cases h : fldOk f
  · exact fld_cases (Q := fun f => spec_Modulus.f f = some (md f)) h rfl rfl rfl rfl rfl rfl rfl rfl rfl
  · unfold md
    rw [if_neg h]
    unfold fldOk at h
    simp only [spec_Modulus.f]
    rw [if_neg (by omega), if_neg (by omega), if_neg (by omega), if_neg (by omega), if_neg (by omega), if_neg (by omega), if_neg (by omega), if_neg (by omega), if_neg (by omega)]
theorem md_pos {f : Int} (h : fldOk f) : 17 ≤ md f ∧ md f ≤ 1004535809 := fld_cases (Q := fun f => 17 ≤ md f ∧ md f ≤ 1004535809) h (by decide) (by decide) (by decide) (by decide) (by decide) (by decide) (by decide) (by decide) (by decide)
theorem md_zero {f : Int} : md f = 0 ↔ ¬ fldOk f := by
  by_cases h : fldOk f
  · have := md_pos h
    simp [h]; omega
  · simp [md, h]

-- block iFld
theorem iFld (f : Int) : impl_fieldOf.f f = some (if fldOk f then (rd fP f, rd fG f, rd fT f, true) else (0, 0, 0, false)) := by
  by_cases h : fldOk f
  · exact fld_cases (Q := fun f => impl_fieldOf.f f = some (if fldOk f then (rd fP f, rd fG f, rd fT f, true) else (0, 0, 0, false))) h rfl rfl rfl rfl rfl rfl rfl rfl rfl
  · rw [if_neg h]
    unfold fldOk at h
    show Go.Proofs.Ytdefnccngnilmaa.Fld.impl_fieldOf.f f = _
    unfold Go.Proofs.Ytdefnccngnilmaa.Fld.impl_fieldOf.f
    by_cases h1 : f < 0
    · rw [if_pos h1]
    · rw [if_neg h1, if_pos (by omega)]

-- block iMul
theorem iMul {p g t a b : Int} (hp : 2 ≤ p) (hp2 : p ≤ 2147483648) (ha : 0 ≤ a) (ha' : a < p) (hb : 0 ≤ b) (hb' : b < p) : impl_field_mul.f p g t a b = some (a * b % p) := by
  have h0 : 0 ≤ a * b := Int.mul_nonneg ha hb
  have h1 : a * b ≤ 2147483648 * 2147483648 := Int.mul_le_mul (by omega) (by omega) hb (by omega)
  simp only [impl_field_mul.f]
  rw [if_neg (by omega), w64 (by omega) (by omega), Int.tmod_eq_emod_of_nonneg h0]

-- block iPow
theorem iPow_l {p g t : Int} (hp : 2 ≤ p) (hp2 : p ≤ 2147483648) (e : Nat) : ∀ (a out : Int), e < 4611686018427387904 → 0 ≤ a → a < p → 0 ≤ out → out < p →
    Ev (fun k => impl_field_power.l0 k a (e : Int) out p g t) (out * a ^ e % p) := by
  induction e using Nat.strongRecOn with
  | _ e ih =>
    intro a out he ha ha' ho ho'
    by_cases h0 : e = 0
    · subst h0
      refine ev_now fun k => ?_
      simp only [impl_field_power.l0]
      rw [if_neg (by omega), show a ^ 0 = 1 by grind, Int.mul_one, Int.emod_eq_of_lt ho ho']
    · have m0 : ∀ z : Int, 0 ≤ z % p := fun z => Int.emod_nonneg _ (by omega)
      have m1 : ∀ z : Int, z % p < p := fun z => Int.emod_lt_of_pos _ (by omega)
      have ht : Int.tmod (e : Int) 2 = ((e % 2 : Nat) : Int) := by rw [Int.tmod_eq_emod_of_nonneg (by omega)]; omega
      have hd : wrap64 (Int.tdiv (e : Int) 2) = ((e / 2 : Nat) : Int) := by rw [Int.tdiv_eq_ediv_of_nonneg (by omega), w64 (by omega) (by omega)]; omega
      by_cases h1 : e % 2 = 1
      · rw [← pw_odd h1]
        refine Ev.step (fun k => ?_) (ih (e / 2) (by omega) (a * a % p) (out * a % p) (by omega) (m0 _) (m1 _) (m0 _) (m1 _))
        simp only [impl_field_power.l0, iMul hp hp2 ho ho' ha ha', iMul hp hp2 ha ha' ha ha', Option.bind_some, ht, hd]
        rw [if_pos (by omega), if_pos (by omega)]
      · rw [← pw_even h1]
        refine Ev.step (fun k => ?_) (ih (e / 2) (by omega) (a * a % p) out (by omega) (m0 _) (m1 _) ho ho')
        simp only [impl_field_power.l0, iMul hp hp2 ha ha' ha ha', Option.bind_some, ht, hd]
        rw [if_pos (by omega), if_neg (by omega)]
theorem iPow_ev {p g t a : Int} (hp : 2 ≤ p) (hp2 : p ≤ 2147483648) (e : Nat) (he : e < 4611686018427387904) (ha : 0 ≤ a) (ha' : a < p) : Ev (fun k => impl_field_power.f k p g t a (e : Int)) (a ^ e % p) := by
  have := iPow_l (g := g) (t := t) hp hp2 e a 1 he ha ha' (by omega) (by omega)
  rw [Int.one_mul] at this
  exact Ev.congr (fun k => rfl) this

-- block iInv
theorem iInv_ev {p g t a : Int} (hp : 2 ≤ p) (hp2 : p ≤ 2147483648) (ha : 0 ≤ a) (ha' : a < p) : Ev (fun k => impl_field_inverse.f k p g t a) (a ^ (p - 2).toNat % p) := by
  have := iPow_ev (g := g) (t := t) hp hp2 (p - 2).toNat (by omega) ha ha'
  refine Ev.congr (fun k => ?_) this
  simp only [impl_field_inverse.f]
  rw [w64 (by omega) (by omega), show (((p - 2).toNat : Nat) : Int) = p - 2 by omega]
  simp

-- block mdRange
theorem md_range {f : Int} (h : fldOk f) (x : Int) : 0 ≤ x % md f ∧ x % md f < md f := by
  have hm := md_pos h
  exact ⟨Int.emod_nonneg _ (by omega), Int.emod_lt_of_pos _ (by omega)⟩

-- block sReduce
theorem sReduce (f x : Int) : spec_Reduce.f f x = some (if fldOk f then x % md f else -1) := by
  simp only [spec_Reduce.f, sMod, Option.bind_some, md_zero]
  by_cases h : fldOk f
  · have hm := md_pos h
    have hb := tmod_bounds (x := x) (p := md f) (by omega)
    rw [if_neg (fun hh => hh h), if_pos h]
    by_cases hn : Int.tmod x (md f) < 0
    · rw [if_pos hn, w64 (by omega) (by omega), red_lt (by omega) hn]
    · rw [if_neg hn, red_ge (by omega) hn]
  · rw [if_pos h, if_neg h]

-- block sMul
theorem sMul (f a b : Int) : spec_Mul.f f a b = some (if fldOk f then a * b % md f else -1) := by
  simp only [spec_Mul.f, sMod, sReduce, Option.bind_some, md_zero]
  by_cases h : fldOk f
  · have hm := md_pos h
    have ha := md_range h a
    have hb := md_range h b
    have h0 : 0 ≤ (a % md f) * (b % md f) := Int.mul_nonneg ha.1 hb.1
    have h1 : (a % md f) * (b % md f) ≤ 2147483648 * 2147483648 := Int.mul_le_mul (by omega) (by omega) hb.1 (by omega)
    simp only [h, not_true_eq_false, if_true, if_false]
    rw [w64 (by omega) (by omega), ← Int.mul_emod]
  · simp only [h, not_false_eq_true, if_true, if_false]

-- block sPow
theorem sPow_l {p : Int} (hp : 2 ≤ p) (hp2 : p ≤ 2147483648) (e : Nat) : ∀ (a out : Int), e < 4611686018427387904 → 0 ≤ a → a < p → 0 ≤ out → out < p →
    Ev (fun k => spec_Power.l0 k p a (e : Int) out) (out * a ^ e % p) := by
  induction e using Nat.strongRecOn with
  | _ e ih =>
    intro a out he ha ha' ho ho'
    by_cases h0 : e = 0
    · subst h0
      refine ev_now fun k => ?_
      simp only [spec_Power.l0]
      rw [if_neg (by omega), show a ^ 0 = 1 by grind, Int.mul_one, Int.emod_eq_of_lt ho ho']
    · have m0 : ∀ z : Int, 0 ≤ z % p := fun z => Int.emod_nonneg _ (by omega)
      have m1 : ∀ z : Int, z % p < p := fun z => Int.emod_lt_of_pos _ (by omega)
      have ht : Int.tmod (e : Int) 2 = ((e % 2 : Nat) : Int) := by rw [Int.tmod_eq_emod_of_nonneg (by omega)]; omega
      have hd : wrap64 (Int.tdiv (e : Int) 2) = ((e / 2 : Nat) : Int) := by rw [Int.tdiv_eq_ediv_of_nonneg (by omega), w64 (by omega) (by omega)]; omega
      have q0 : ∀ x y : Int, 0 ≤ x → x < p → 0 ≤ y → y < p → Int.tmod (wrap64 (x * y)) p = x * y % p := fun x y hx hx' hy hy' => by
        have h0 : 0 ≤ x * y := Int.mul_nonneg hx hy
        have h1 : x * y ≤ 2147483648 * 2147483648 := Int.mul_le_mul (by omega) (by omega) hy (by omega)
        rw [w64 (by omega) (by omega), Int.tmod_eq_emod_of_nonneg h0]
      by_cases h1 : e % 2 = 1
      · rw [← pw_odd h1]
        refine Ev.step (fun k => ?_) (ih (e / 2) (by omega) (a * a % p) (out * a % p) (by omega) (m0 _) (m1 _) (m0 _) (m1 _))
        simp only [spec_Power.l0, ht, hd, q0 out a ho ho' ha ha', q0 a a ha ha' ha ha']
        rw [if_pos (by omega), if_pos (by omega), if_neg (by omega)]
      · rw [← pw_even h1]
        refine Ev.step (fun k => ?_) (ih (e / 2) (by omega) (a * a % p) out (by omega) (m0 _) (m1 _) ho ho')
        simp only [spec_Power.l0, ht, hd, q0 a a ha ha' ha ha']
        rw [if_pos (by omega), if_neg (by omega), if_neg (by omega)]
/-- Powers with an exponent that is not below 0 and below the modulus less one, or is -1. -/
def expOf (p e : Int) : Nat := (e % (p - 1)).toNat
theorem sPow_ev {f : Int} (h : fldOk f) (a e : Int) (hx : a % md f ≠ 0) : Ev (fun k => spec_Power.f k f a e) ((a % md f) ^ expOf (md f) e % md f) := by
  have hm := md_pos h
  have ha := md_range h a
  have hb := tmod_bounds (x := e) (p := md f - 1) (by omega)
  have he : 0 ≤ e % (md f - 1) ∧ e % (md f - 1) < md f - 1 := ⟨Int.emod_nonneg _ (by omega), Int.emod_lt_of_pos _ (by omega)⟩
  have key := sPow_l (p := md f) (by omega) (by omega) (expOf (md f) e) (a % md f) 1 (by unfold expOf; omega) ha.1 ha.2 (by omega) (by omega)
  rw [Int.one_mul, show ((expOf (md f) e : Nat) : Int) = e % (md f - 1) by unfold expOf; omega] at key
  refine Ev.congr (fun k => ?_) (Ev.step (g := fun k => spec_Power.j0 k (md f) (a % md f) (e % (md f - 1))) (fun k => rfl) key)
  simp only [spec_Power.f, sMod, sReduce, Option.bind_some, md_zero]
  rw [if_neg (fun hh => hh h), if_pos h, if_neg hx, w64 (x := md f - 1) (by omega) (by omega), if_neg (by omega)]
  by_cases hn : Int.tmod e (md f - 1) < 0
  · rw [if_pos hn, w64 (x := Int.tmod e (md f - 1) + md f) (by omega) (by omega), w64 (by omega) (by omega), ← red_lt (by omega) hn, show Int.tmod e (md f - 1) + md f - 1 = Int.tmod e (md f - 1) + (md f - 1) by omega]
  · rw [if_neg hn, red_ge (by omega) hn]

-- block sInv
theorem expOf_neg {p : Int} (hp : 3 ≤ p) : expOf p (-1) = (p - 2).toNat := by
  have h : (-1 : Int) % (p - 1) = p - 2 := by
    rw [show (-1 : Int) = (p - 2) + (p - 1) * (-1) by omega, Int.add_mul_emod_self_left]
    exact Int.emod_eq_of_lt (by omega) (by omega)
  unfold expOf; rw [h]
theorem sInv_ev {f : Int} (h : fldOk f) (a : Int) (hx : a % md f ≠ 0) : Ev (fun k => spec_Inverse.f k f a) ((a % md f) ^ (md f - 2).toNat % md f) := by
  have := sPow_ev h a (-1) hx
  rw [expOf_neg (by have := md_pos h; omega)] at this
  refine Ev.congr (fun k => ?_) this
  simp [spec_Inverse.f]

-- block elemB
def elemB (p : Int) (l : List Int) : Bool := allF l.length 0 (fun j => decide (0 ≤ rd l (j : Int) ∧ rd l (j : Int) < p))
theorem elemB_iff (p : Int) (l : List Int) : elemB p l = true ↔ ∀ x ∈ l, 0 ≤ x ∧ x < p := by
  unfold elemB
  rw [allF_iff]
  constructor
  · intro h x hx
    obtain ⟨j, hj, rfl⟩ := List.getElem_of_mem hx
    have := h j (by omega) (by omega)
    rw [decide_eq_true_eq, rd_eq hj] at this
    exact this
  · intro h j _ hj
    rw [decide_eq_true_eq, rd_eq (by omega)]
    exact h _ (List.getElem_mem _)

-- block iElem
theorem iElem_l (p g t : Int) (l : List Int) (hn : l.length ≤ 1048576) : ∀ (d i : Nat), l.length - i = d → i ≤ l.length → Ev (fun k => impl_field_areElements.l0 k l (l.length : Int) (i : Int) p g t) (allF d i (fun j => decide (0 ≤ rd l (j : Int) ∧ rd l (j : Int) < p))) := by
  intro d
  induction d with
  | zero =>
    intro i h hi
    refine ev_now fun k => ?_
    simp only [impl_field_areElements.l0]
    rw [if_neg (by omega)]; rfl
  | succ d ih =>
    intro i h hi
    rw [allF]
    by_cases hq : 0 ≤ rd l (i : Int) ∧ rd l (i : Int) < p
    · rw [decide_eq_true hq, Bool.true_and]
      refine Ev.step (fun k => ?_) (ih (i + 1) (by omega) (by omega))
      simp only [impl_field_areElements.l0]
      rw [if_pos (by omega), if_pos (by omega), if_pos (by omega), if_neg (by omega), if_neg (by omega), wsucc (by omega)]
    · rw [decide_eq_false hq, Bool.false_and]
      refine ev_now fun k => ?_
      simp only [impl_field_areElements.l0]
      rw [if_pos (by omega), if_pos (by omega), if_pos (by omega)]
      by_cases h1 : rd l (i : Int) < 0
      · rw [if_pos h1]
      · rw [if_neg h1, if_pos (by omega)]
theorem iElem_ev (p g t : Int) (l : List Int) (hn : l.length ≤ 1048576) : Ev (fun k => impl_field_areElements.f k p g t l) (elemB p l) := by
  refine Ev.congr (fun k => ?_) (iElem_l p g t l hn l.length 0 (by omega) (by omega))
  simp [impl_field_areElements.f]

-- block two
def two (f : Int) : Int := if fldOk f then rd fT f else -1

-- block sTwo
theorem sTwo_ev (f : Int) : Ev (fun k => spec_TwoPower.f k f) (two f) := by
  by_cases h : fldOk f
  · exact fld_cases (Q := fun f => Ev (fun k => spec_TwoPower.f k f) (two f)) h (Ev.of (fun k => spec_TwoPower.mono _ k) (k := 40) (by decide +kernel)) (Ev.of (fun k => spec_TwoPower.mono _ k) (k := 40) (by decide +kernel)) (Ev.of (fun k => spec_TwoPower.mono _ k) (k := 40) (by decide +kernel)) (Ev.of (fun k => spec_TwoPower.mono _ k) (k := 40) (by decide +kernel)) (Ev.of (fun k => spec_TwoPower.mono _ k) (k := 40) (by decide +kernel)) (Ev.of (fun k => spec_TwoPower.mono _ k) (k := 40) (by decide +kernel)) (Ev.of (fun k => spec_TwoPower.mono _ k) (k := 40) (by decide +kernel)) (Ev.of (fun k => spec_TwoPower.mono _ k) (k := 40) (by decide +kernel)) (Ev.of (fun k => spec_TwoPower.mono _ k) (k := 40) (by decide +kernel))
  · unfold two
    rw [if_neg h]
    refine ev_some fun k => ?_
    simp only [spec_TwoPower.f, sMod, Option.bind_some, md_zero, h, not_false_eq_true, if_true]

-- block halfK
def halfK (k : Int) : Int := 2 ^ (k.toNat - 1)
theorem shl_half {k : Int} (h1 : 1 ≤ k) (h9 : k ≤ 9) : shl .i64 1 (wrap64 (k - 1)) = halfK k ∧ wrap64 (Int.tdiv (shl .i64 1 (IntKind.u64.wrap k)) 2) = halfK k ∧ 1 ≤ halfK k ∧ halfK k ≤ 256 := by
  have : k = 1 ∨ k = 2 ∨ k = 3 ∨ k = 4 ∨ k = 5 ∨ k = 6 ∨ k = 7 ∨ k = 8 ∨ k = 9 := by omega
  rcases this with rfl | rfl | rfl | rfl | rfl | rfl | rfl | rfl | rfl <;> decide +kernel

-- block drawByte
/-- A place of a row to draw from, or its end. -/
def dAt (l : List Int) (i : Int) : Prop := 0 ≤ i ∧ i ≤ l.length
theorem drawByte (l : List Int) (hn : l.length ≤ 140737488355328) (i h : Int) (hi : dAt l i) : ∃ b i' h', spec_l01Byte.f l i h = some (b, i', h') ∧ (0 ≤ b ∧ b ≤ 255) ∧ dAt l i' := by
  unfold dAt at hi ⊢
  simp only [spec_l01Byte.f]
  by_cases hl : i < (l.length : Int)
  · rw [if_pos hl, if_pos hi.1]
    exact ⟨_, _, _, rfl, bits_and _ 255 (by decide), by rw [w64 (by omega) (by omega)]; omega⟩
  · rw [if_neg hl]
    exact ⟨_, _, _, rfl, bits_and _ 255 (by decide), hi⟩

-- block drawBelow
theorem drawBelow (l : List Int) (hn : l.length ≤ 140737488355328) (i h : Int) (hi : dAt l i) (m : Int) : ∃ b i' h', spec_l01Below.f l i h m = some (b, i', h') ∧ (0 ≤ b ∧ (b < m ∨ b = 0)) ∧ dAt l i' := by
  simp only [spec_l01Below.f]
  by_cases h0 : m ≤ 0
  · rw [if_pos h0]
    exact ⟨_, _, _, rfl, by omega, hi⟩
  · rw [if_neg h0]
    obtain ⟨b1, i1, h1, e1, r1, d1⟩ := drawByte l hn i h hi
    rw [e1]
    by_cases hm : m ≤ 256
    · rw [if_pos hm, Option.bind_some, if_neg (by omega)]
      refine ⟨_, _, _, rfl, ?_, d1⟩
      simp only
      rw [Int.tmod_eq_emod_of_nonneg (by omega)]
      exact ⟨Int.emod_nonneg _ (by omega), Or.inl (Int.emod_lt_of_pos _ (by omega))⟩
    · rw [if_neg hm, Option.bind_some]
      obtain ⟨b2, i2, h2, e2, r2, d2⟩ := drawByte l hn i1 h1 d1
      rw [e2, Option.bind_some]
      obtain ⟨b3, i3, h3, e3, r3, d3⟩ := drawByte l hn i2 h2 d2
      rw [e3, Option.bind_some, if_neg (by omega)]
      refine ⟨_, _, _, rfl, ?_, d3⟩
      simp only
      rw [w64 (x := b1 * 65536) (by omega) (by omega), w64 (x := b2 * 256) (by omega) (by omega), w64 (x := b1 * 65536 + b2 * 256) (by omega) (by omega), w64 (by omega) (by omega), Int.tmod_eq_emod_of_nonneg (by omega)]
      exact ⟨Int.emod_nonneg _ (by omega), Or.inl (Int.emod_lt_of_pos _ (by omega))⟩

-- block drawPickInt
theorem drawPickInt (l : List Int) (hn : l.length ≤ 140737488355328) (i h : Int) (hi : dAt l i) (xs : List Int) (hx : 0 < xs.length) : ∃ b i' h', spec_l01PickInt.f l i h xs = some (b, i', h') ∧ b ∈ xs ∧ dAt l i' := by
  simp only [spec_l01PickInt.f]
  obtain ⟨b1, i1, h1, e1, r1, d1⟩ := drawBelow l hn i h hi (xs.length : Int)
  rw [e1, Option.bind_some, if_pos r1.1, if_pos (by simp only; omega)]
  refine ⟨_, _, _, rfl, ?_, d1⟩
  simp only
  rw [show b1 = ((b1.toNat : Nat) : Int) by omega]
  exact rd_mem (by omega)

-- block drawNew
theorem drawNew_l (l : List Int) (hn : l.length ≤ 140737488355328) : ∀ (d i : Nat) (h : Int), 4000 - i = d → ∃ h', Ev (fun k => spec_l01New.l0 k l h (i : Int)) (l, 0, h') := by
  intro d
  induction d with
  | zero =>
    intro i h hd
    refine ⟨h, ev_now fun k => ?_⟩
    simp only [spec_l01New.l0]
    split
    · rw [if_neg (by omega)]
    · rfl
  | succ d ih =>
    intro i h hd
    by_cases hl : (i : Int) < (l.length : Int)
    · obtain ⟨h', e⟩ := ih (i + 1) (Go.bits .and .i64 (wrap64 ((wrap64 ((wrap64 (h * 149)) + (wrap64 (rd l i)))) + 11)) 1073741823) (by omega)
      refine ⟨h', Ev.step (fun k => ?_) e⟩
      simp only [spec_l01New.l0]
      rw [if_pos hl, if_pos (by omega), if_pos (by omega), wsucc (by omega)]
    · refine ⟨h, ev_now fun k => ?_⟩
      simp only [spec_l01New.l0]
      rw [if_neg hl]
theorem drawNew (l : List Int) (hn : l.length ≤ 140737488355328) : ∃ h', Ev (fun k => spec_l01New.f k l) (l, 0, h') := by
  obtain ⟨h', e⟩ := drawNew_l l hn 4000 0 (wrap64 (710710 + (l.length : Int))) (by omega)
  exact ⟨h', Ev.congr (fun k => rfl) e⟩
theorem dAt0 (l : List Int) : dAt l 0 := by unfold dAt; omega

-- block shlPow
theorem shl_pow {i : Nat} (h : i ≤ 10) : shl .i64 1 (i : Int) = 2 ^ i ∧ shl .i64 1 (IntKind.u64.wrap (i : Int)) = 2 ^ i ∧ 0 ≤ IntKind.u64.wrap (i : Int) := by
  rcases (show i = 0 ∨ i = 1 ∨ i = 2 ∨ i = 3 ∨ i = 4 ∨ i = 5 ∨ i = 6 ∨ i = 7 ∨ i = 8 ∨ i = 9 ∨ i = 10 by omega) with rfl | rfl | rfl | rfl | rfl | rfl | rfl | rfl | rfl | rfl | rfl <;> decide +kernel

-- block sLogOf
theorem sLogOf_l (n : Int) : ∀ (d i : Nat), i + d = 10 → Ev (fun k => spec_LogOf.l0 k n (i : Int)) (logF d i n) := by
  intro d
  induction d with
  | zero =>
    intro i h
    refine ev_now fun k => ?_
    simp only [spec_LogOf.l0]
    rw [if_neg (by omega)]; rfl
  | succ d ih =>
    intro i h
    have hs := shl_pow (i := i) (by omega)
    rw [logF]
    by_cases hn : n = 2 ^ i
    · rw [if_pos hn]
      refine ev_now fun k => ?_
      simp only [spec_LogOf.l0, hs.2.1]
      rw [if_pos (by omega), if_pos hs.2.2, if_pos hn]
    · rw [if_neg hn]
      refine Ev.step (fun k => ?_) (ih (i + 1) (by omega))
      simp only [spec_LogOf.l0, hs.2.1]
      rw [if_pos (by omega), if_pos hs.2.2, if_neg hn, wsucc (by omega)]
theorem sLogOf_ev (n : Int) : Ev (fun k => spec_LogOf.f k n) (logB n) := Ev.congr (fun k => rfl) (sLogOf_l n 10 0 rfl)

-- block iLogOf
theorem iLogOf_l (n : Int) : ∀ (d i : Nat), i + d = 10 → Ev (fun k => impl_logOf.l0 k n (i : Int)) (logF d i n) := by
  intro d
  induction d with
  | zero =>
    intro i h
    refine ev_now fun k => ?_
    simp only [impl_logOf.l0]
    rw [if_neg (by omega)]; rfl
  | succ d ih =>
    intro i h
    have hs := shl_pow (i := i) (by omega)
    rw [logF]
    by_cases hn : n = 2 ^ i
    · rw [if_pos hn]
      refine ev_now fun k => ?_
      simp only [impl_logOf.l0, hs.1]
      rw [if_pos (by omega), if_pos (by omega), if_pos hn]
    · rw [if_neg hn]
      refine Ev.step (fun k => ?_) (ih (i + 1) (by omega))
      simp only [impl_logOf.l0, hs.1]
      rw [if_pos (by omega), if_pos (by omega), if_neg hn, wsucc (by omega)]
theorem iLogOf_ev (n : Int) : Ev (fun k => impl_logOf.f k n) (logB n) := Ev.congr (fun k => rfl) (iLogOf_l n 10 0 rfl)

-- block sElem
theorem sElem_l (p : Int) (hp : 2 ≤ p) (hp2 : p ≤ 2147483648) (l : List Int) (hn : l.length ≤ 1048576) : ∀ (d i : Nat), l.length - i = d → i ≤ l.length → Ev (fun k => spec_l03Elements.l0 k l p (i : Int)) (allF d i (fun j => decide (0 ≤ rd l (j : Int) ∧ rd l (j : Int) < p))) := by
  intro d
  induction d with
  | zero =>
    intro i h hi
    refine ev_now fun k => ?_
    simp only [spec_l03Elements.l0]
    rw [if_neg (by omega)]; rfl
  | succ d ih =>
    intro i h hi
    rw [allF]
    have hw : wrap64 (p - 1) = p - 1 := w64 (by omega) (by omega)
    by_cases hq : 0 ≤ rd l (i : Int) ∧ rd l (i : Int) < p
    · rw [decide_eq_true hq, Bool.true_and]
      refine Ev.step (fun k => ?_) (ih (i + 1) (by omega) (by omega))
      simp only [spec_l03Elements.l0, in_eq, hw, Option.bind_some, decide_eq_true_eq]
      rw [if_pos (by omega), if_pos (by omega), if_pos (by omega), wsucc (by omega)]
    · rw [decide_eq_false hq, Bool.false_and]
      refine ev_now fun k => ?_
      simp only [spec_l03Elements.l0, in_eq, hw, Option.bind_some, decide_eq_true_eq]
      rw [if_pos (by omega), if_pos (by omega), if_neg (by omega)]
theorem sElem_ev {f : Int} (h : fldOk f) (l : List Int) (hn : l.length ≤ 1048576) : Ev (fun k => spec_l03Elements.f k f l) (elemB (md f) l) := by
  have hm := md_pos h
  refine Ev.congr (fun k => ?_) (sElem_l (md f) (by omega) (by omega) l hn l.length 0 (by omega) (by omega))
  simp only [spec_l03Elements.f, sMod, Option.bind_some]
  rw [if_neg (by omega)]
  rfl

-- block vecP
def mdP (f : Int) : Int := rd fP f
def vecP (f : Int) (v : List Int) : Prop := fldOk f ∧ 0 ≤ logB (v.length : Int) ∧ logB (v.length : Int) ≤ rd fT f ∧ elemB (mdP f) v = true
instance vecP_dec (f : Int) (v : List Int) : Decidable (vecP f v) := by unfold vecP; infer_instance
theorem vec_el {f : Int} {v : List Int} (h : vecP f v) : ∀ i, i < v.length → 0 ≤ rd v (i : Int) ∧ rd v (i : Int) < mdP f := fun i hi => (elemB_iff _ _).1 h.2.2.2 _ (rd_mem hi)
theorem vec_log {f : Int} {v : List Int} (h : vecP f v) : ∃ K : Nat, K ≤ 9 ∧ logB (v.length : Int) = K ∧ v.length = 2 ^ K ∧ (K : Int) ≤ rd fT f := by
  obtain ⟨K, h1, h2, h3⟩ := logB_len h.2.1
  exact ⟨K, h1, h2, h3, by have := h.2.2.1; omega⟩

-- block sVec
theorem md_eq {f : Int} (h : fldOk f) : mdP f = md f := by unfold mdP md; rw [if_pos h]
theorem sVec_ev (f : Int) (v : List Int) (hn : v.length ≤ 1048576) : Ev (fun k => spec_VectorOk.f k f v) (decide (vecP f v)) := by
  by_cases h : fldOk f
  · obtain ⟨n, e1, e2, e3⟩ := evs3 (sLogOf_ev (v.length : Int)) (sTwo_ev f) (sElem_ev h v hn)
    refine ⟨n, fun k hk => ?_⟩
    obtain ⟨j, rfl⟩ : ∃ j, k = n + j := ⟨k - n, by omega⟩
    have ht : two f = rd fT f := by unfold two; rw [if_pos h]
    simp only [spec_VectorOk.f, e1, e2, e3, ht, Option.bind_some]
    by_cases h1 : logB (v.length : Int) ≥ 0
    · rw [if_pos h1]
      by_cases h2 : logB (v.length : Int) ≤ rd fT f
      · rw [if_pos h2]
        by_cases h3 : elemB (md f) v = true
        · rw [h3, decide_eq_true (show vecP f v from ⟨h, h1, h2, by rw [md_eq h]; exact h3⟩)]
        · rw [Bool.not_eq_true] at h3
          rw [h3, decide_eq_false (show ¬ vecP f v from fun x => by have := x.2.2.2; rw [md_eq h, h3] at this; exact Bool.noConfusion this)]
      · rw [if_neg h2, decide_eq_false (show ¬ vecP f v from fun x => h2 x.2.2.1)]
    · rw [if_neg h1, decide_eq_false (show ¬ vecP f v from fun x => h1 x.2.1)]
  · obtain ⟨n, e1, e2⟩ := evs2 (sLogOf_ev (v.length : Int)) (sTwo_ev f)
    refine ⟨n, fun k hk => ?_⟩
    obtain ⟨j, rfl⟩ : ∃ j, k = n + j := ⟨k - n, by omega⟩
    have ht : two f = -1 := by unfold two; rw [if_neg h]
    simp only [spec_VectorOk.f, e1, e2, ht, Option.bind_some]
    rw [decide_eq_false (show ¬ vecP f v from fun x => h x.1)]
    by_cases h1 : logB (v.length : Int) ≥ 0
    · rw [if_pos h1, if_neg (by omega)]
    · rw [if_neg h1]

-- block iVec
def vecsAt (f : Int) (vs : List (List Int)) (i : Nat) : Prop := 0 ≤ logB ((rd_L2 vs (i : Int)).length : Int) ∧ logB ((rd_L2 vs (i : Int)).length : Int) ≤ rd fT f ∧ elemB (mdP f) (rd_L2 vs (i : Int)) = true ∧ (rd_L2 vs (i : Int)).length = (rd_L2 vs 0).length
instance vecsAt_dec (f : Int) (vs : List (List Int)) (i : Nat) : Decidable (vecsAt f vs i) := by unfold vecsAt; infer_instance
theorem iVec_l (f g : Int) (vs : List (List Int)) (hn : vs.length ≤ 1048576) (hv : ∀ i : Nat, (rd_L2 vs (i : Int)).length ≤ 1048576) : ∀ (d i : Nat), vs.length - i = d → i ≤ vs.length →
    Ev (fun k => impl_vectorField.l0 k vs vs (vs.length : Int) (i : Int) (mdP f) g (rd fT f)) (if allF d i (fun j => decide (vecsAt f vs j)) = true then (mdP f, g, rd fT f, true) else (0, 0, 0, false)) := by
  intro d
  induction d with
  | zero =>
    intro i h hi
    refine ev_now fun k => ?_
    simp only [impl_vectorField.l0]
    rw [if_neg (by omega)]; rfl
  | succ d ih =>
    intro i h hi
    rw [allF]
    obtain ⟨n, e1, e2, e3⟩ := evs3 (iLogOf_ev ((rd_L2 vs (i : Int)).length : Int)) (iElem_ev (mdP f) g (rd fT f) (rd_L2 vs (i : Int)) (hv i)) (ih (i + 1) (by omega) (by omega))
    refine ⟨n + 1, fun k hk => ?_⟩
    obtain ⟨j, rfl⟩ : ∃ j, k = n + j + 1 := ⟨k - n - 1, by omega⟩
    simp only [impl_vectorField.l0, e1, e2, Option.bind_some]
    rw [if_pos (by omega), if_pos (by omega), if_pos (by omega)]
    by_cases h1 : logB ((rd_L2 vs (i : Int)).length : Int) < 0
    · rw [if_pos h1, decide_eq_false (show ¬ vecsAt f vs i from fun x => by have := x.1; omega), Bool.false_and]; rfl
    · rw [if_neg h1]
      by_cases h2 : logB ((rd_L2 vs (i : Int)).length : Int) > rd fT f
      · rw [if_pos h2, decide_eq_false (show ¬ vecsAt f vs i from fun x => by have := x.2.1; omega), Bool.false_and]; rfl
      · rw [if_neg h2]
        by_cases h3 : elemB (mdP f) (rd_L2 vs (i : Int)) = true
        · rw [if_pos h3, if_pos (by omega)]
          by_cases h4 : (rd_L2 vs (i : Int)).length = (rd_L2 vs 0).length
          · rw [if_pos (by omega), wsucc (by omega), e3 j, decide_eq_true (show vecsAt f vs i from ⟨by omega, by omega, h3, h4⟩), Bool.true_and]
          · rw [if_neg (by omega), decide_eq_false (show ¬ vecsAt f vs i from fun x => h4 x.2.2.2), Bool.false_and]; rfl
        · rw [if_neg h3, decide_eq_false (show ¬ vecsAt f vs i from fun x => h3 x.2.2.1), Bool.false_and]; rfl
theorem iVec1_ev (f : Int) (v : List Int) (hn : v.length ≤ 1048576) : Ev (fun k => impl_vectorField.f k f [v]) (if vecP f v then (mdP f, rd fG f, rd fT f, true) else (0, 0, 0, false)) := by
  by_cases h : fldOk f
  · have key := iVec_l f (rd fG f) [v] (by simp) (by
      intro i
      cases i with
      | zero => exact hn
      | succ i => simp [rd_L2]) 1 0 rfl (by simp)
    have e : (allF 1 0 (fun j => decide (vecsAt f [v] j)) = true) = vecP f v := by
      apply propext
      simp only [allF, Bool.and_true, decide_eq_true_eq]
      exact ⟨fun x => ⟨h, x.1, x.2.1, x.2.2.1⟩, fun x => ⟨x.2.1, x.2.2.1, x.2.2.2, rfl⟩⟩
    simp only [e] at key
    refine Ev.congr (fun k => ?_) key
    simp only [impl_vectorField.f, iFld, if_pos h, Option.bind_some, if_true]
    rfl
  · rw [if_neg (fun x => h x.1)]
    refine ev_some fun k => ?_
    simp only [impl_vectorField.f, iFld, if_neg h, Option.bind_some, Bool.false_eq_true, if_false]

-- block rt
def rt (f : Int) (s : Nat) : Int := rd fG f ^ ((mdP f - 1) / 2 ^ s).toNat % mdP f
theorem fG_range {f : Int} (h : fldOk f) : 3 ≤ rd fG f ∧ rd fG f < mdP f ∧ rd fG f ≤ 17 := fld_cases (Q := fun f => 3 ≤ rd fG f ∧ rd fG f < mdP f ∧ rd fG f ≤ 17) h (by decide) (by decide) (by decide) (by decide) (by decide) (by decide) (by decide) (by decide) (by decide)
theorem mdP_range {f : Int} (h : fldOk f) : 17 ≤ mdP f ∧ mdP f ≤ 1004535809 := fld_cases (Q := fun f => 17 ≤ mdP f ∧ mdP f ≤ 1004535809) h (by decide) (by decide) (by decide) (by decide) (by decide) (by decide) (by decide) (by decide) (by decide)
theorem fT_range {f : Int} (h : fldOk f) : 4 ≤ rd fT f ∧ rd fT f ≤ 26 := fld_cases (Q := fun f => 4 ≤ rd fT f ∧ rd fT f ≤ 26) h (by decide) (by decide) (by decide) (by decide) (by decide) (by decide) (by decide) (by decide) (by decide)
theorem rt_range {f : Int} (h : fldOk f) (s : Nat) : 0 ≤ rt f s ∧ rt f s < mdP f := by
  have hm := mdP_range h
  exact ⟨Int.emod_nonneg _ (by omega), Int.emod_lt_of_pos _ (by omega)⟩
theorem half_lt {p : Int} (hp : 17 ≤ p) (hp2 : p ≤ 1004535809) (s : Nat) : 0 ≤ (p - 1) / 2 ^ s ∧ (p - 1) / 2 ^ s ≤ p - 1 ∧ (1 ≤ s → (p - 1) / 2 ^ s < p - 1) := by
  have h2 : (0 : Int) < 2 ^ s := Int.pow_pos (by omega)
  refine ⟨Int.ediv_nonneg (by omega) (by omega), Int.ediv_le_self _ (by omega), fun h => ?_⟩
  apply Int.ediv_lt_of_lt_mul h2
  have : (2 : Int) ≤ 2 ^ s := by
    obtain ⟨q, rfl⟩ : ∃ q, s = q + 1 := ⟨s - 1, by omega⟩
    have h3 : (0 : Int) < 2 ^ q := Int.pow_pos (by omega)
    rw [Int.pow_succ]; omega
  have h4 : (p - 1) * 2 ≤ (p - 1) * 2 ^ s := Int.mul_le_mul_of_nonneg_left this (by omega)
  omega
theorem rt_pm {f : Int} (h : fldOk f) (s : Nat) : rt f s = (pm (mdP f).toNat 40 (rd fG f).toNat ((mdP f - 1) / 2 ^ s).toNat : Int) := by
  have hm := mdP_range h
  have hg := fG_range h
  have hh := half_lt hm.1 hm.2 s
  unfold rt
  rw [← pm_int _ 40 _ _ (by omega)]
  rw [show (((rd fG f).toNat : Nat) : Int) = rd fG f by omega, show (((mdP f).toNat : Nat) : Int) = mdP f by omega]
theorem rt_zero {f : Int} (h : fldOk f) : rt f 0 = 1 := by
  rw [rt_pm h]
  exact fld_cases (Q := fun f => (pm (mdP f).toNat 40 (rd fG f).toNat ((mdP f - 1) / 2 ^ 0).toNat : Int) = 1) h (by decide +kernel) (by decide +kernel) (by decide +kernel) (by decide +kernel) (by decide +kernel) (by decide +kernel) (by decide +kernel) (by decide +kernel) (by decide +kernel)
theorem rt_one {f : Int} (h : fldOk f) : rt f 1 = mdP f - 1 := by
  rw [rt_pm h]
  exact fld_cases (Q := fun f => (pm (mdP f).toNat 40 (rd fG f).toNat ((mdP f - 1) / 2 ^ 1).toNat : Int) = mdP f - 1) h (by decide +kernel) (by decide +kernel) (by decide +kernel) (by decide +kernel) (by decide +kernel) (by decide +kernel) (by decide +kernel) (by decide +kernel) (by decide +kernel)
theorem two_div {f : Int} (h : fldOk f) : (2 : Int) ^ (rd fT f).toNat ∣ mdP f - 1 :=
  fld_cases (Q := fun f => (2 : Int) ^ (rd fT f).toNat ∣ mdP f - 1) h (by decide +kernel) (by decide +kernel) (by decide +kernel) (by decide +kernel) (by decide +kernel) (by decide +kernel) (by decide +kernel) (by decide +kernel) (by decide +kernel)
theorem half_two {f : Int} (h : fldOk f) (s d : Nat) (hs : s + d ≤ (rd fT f).toNat) : ((mdP f - 1) / 2 ^ s).toNat = 2 ^ d * ((mdP f - 1) / 2 ^ (s + d)).toNat := by
  have hm := mdP_range h
  obtain ⟨c0, hc⟩ := two_div h
  obtain ⟨r, hr⟩ : ∃ r, (rd fT f).toNat = s + d + r := ⟨(rd fT f).toNat - (s + d), by omega⟩
  have h2 : (0 : Int) < 2 ^ s := Int.pow_pos (by omega)
  have h3 : (0 : Int) < 2 ^ d := Int.pow_pos (by omega)
  rw [hr, Int.pow_add, Int.pow_add, Int.mul_assoc, Int.mul_assoc] at hc
  obtain ⟨c, hcc⟩ : ∃ c, c = 2 ^ r * c0 := ⟨_, rfl⟩
  rw [← hcc] at hc
  have hc0 : 0 ≤ c := by
    rcases Int.lt_or_le c 0 with hx | hx
    · have := Int.mul_neg_of_pos_of_neg h2 (Int.mul_neg_of_pos_of_neg h3 hx)
      omega
    · exact hx
  rw [hc, Int.mul_ediv_cancel_left _ (Int.ne_of_gt h2), Int.pow_add, Int.mul_ediv_mul_of_pos _ _ h2, Int.mul_ediv_cancel_left _ (Int.ne_of_gt h3)]
  obtain ⟨n, rfl⟩ : ∃ n : Nat, c = (n : Int) := ⟨c.toNat, by omega⟩
  rw [Int.toNat_natCast, show ((2 : Int) ^ d * (n : Int)) = ((2 ^ d * n : Nat) : Int) by simp, Int.toNat_natCast]
/-- A root's power is the root of a lower level. -/
theorem rt_pow {f : Int} (h : fldOk f) (s d : Nat) (hs : s + d ≤ (rd fT f).toNat) (j : Nat) : Md (mdP f) (rt f (s + d) ^ (2 ^ d * j)) (rt f s ^ j) := by
  have e1 : Md (mdP f) (rt f (s + d)) (rd fG f ^ ((mdP f - 1) / 2 ^ (s + d)).toNat) := Md.mod _ _
  have e2 : Md (mdP f) (rt f s) (rd fG f ^ ((mdP f - 1) / 2 ^ s).toNat) := Md.mod _ _
  refine (e1.pow _).trans (Md.trans (Md.of_eq ?_) (e2.pow _).symm)
  rw [half_two h s d hs, ← Int.pow_mul, ← Int.pow_mul]
  congr 1
  rw [Nat.mul_left_comm, Nat.mul_assoc]
theorem roots {f : Int} (h : fldOk f) : Roots (mdP f) (rt f) (rd fT f).toNat where
  one := Md.of_eq (rt_zero h)
  half := fun _ => by rw [rt_one h]; exact ⟨1, by omega⟩
  sq := fun s hs => by
    have := rt_pow h s 1 hs 1
    simpa [Int.pow_succ] using this

-- block sGen
theorem sGen_ev {f : Int} (h : fldOk f) : Ev (fun k => spec_Generator.f k f) (rd fG f) :=
  fld_cases (Q := fun f => Ev (fun k => spec_Generator.f k f) (rd fG f)) h (Ev.of (fun k => spec_Generator.mono _ k) (k := 3) (by decide +kernel)) (Ev.of (fun k => spec_Generator.mono _ k) (k := 3) (by decide +kernel)) (Ev.of (fun k => spec_Generator.mono _ k) (k := 3) (by decide +kernel)) (Ev.of (fun k => spec_Generator.mono _ k) (k := 3) (by decide +kernel)) (Ev.of (fun k => spec_Generator.mono _ k) (k := 3) (by decide +kernel)) (Ev.of (fun k => spec_Generator.mono _ k) (k := 3) (by decide +kernel)) (Ev.of (fun k => spec_Generator.mono _ k) (k := 3) (by decide +kernel)) (Ev.of (fun k => spec_Generator.mono _ k) (k := 3) (by decide +kernel)) (Ev.of (fun k => spec_Generator.mono _ k) (k := 3) (by decide +kernel))

-- block shrPow
theorem shr_pow (x : Int) {s : Nat} (h : s ≤ 60) : shr .i64 x (s : Int) = x / 2 ^ s ∧ IntKind.u64.wrap (s : Int) = (s : Int) := by
  refine ⟨?_, ?_⟩
  · unfold shr
    rw [Int.toNat_natCast, Nat.min_eq_left (show s ≤ IntKind.i64.bits by show s ≤ 64; omega)]
  · unfold IntKind.wrap
    have e : (s : Int) % 2 ^ IntKind.u64.bits = s := by show (s : Int) % 2 ^ 64 = s; omega
    rw [e]
    refine if_neg ?_
    show ¬ ((false && _) = true)
    simp

-- block sRoot
theorem sRoot_ev {f : Int} (h : fldOk f) (s : Nat) (hs : (s : Int) ≤ rd fT f) : Ev (fun k => spec_RootOf.f k f (s : Int)) (rt f s) := by
  have hm := mdP_range h
  have hg := fG_range h
  have hT := fT_range h
  have hh := half_lt hm.1 hm.2 s
  have hme := md_eq h
  have ht : two f = rd fT f := by unfold two; rw [if_pos h]
  have hp := sPow_ev h (rd fG f) ((mdP f - 1) / 2 ^ s) (by rw [← hme, Int.emod_eq_of_lt (by omega) hg.2.1]; omega)
  rw [← hme, Int.emod_eq_of_lt (by omega) hg.2.1] at hp
  have hr : rd fG f ^ expOf (mdP f) ((mdP f - 1) / 2 ^ s) % mdP f = rt f s := by
    by_cases h1 : 1 ≤ s
    · unfold expOf rt
      rw [Int.emod_eq_of_lt hh.1 (hh.2.2 h1)]
    · rw [show s = 0 by omega, rt_zero h]
      unfold expOf
      rw [Int.pow_zero, Int.ediv_one, Int.emod_self]
      simp
      exact Int.emod_eq_of_lt (by omega) (by omega)
  rw [hr] at hp
  obtain ⟨n, e1, e2, e3⟩ := evs3 (sTwo_ev f) (sGen_ev h) hp
  refine ⟨n + 1, fun k hk => ?_⟩
  obtain ⟨j, rfl⟩ : ∃ j, k = n + j + 1 := ⟨k - n - 1, by omega⟩
  have e1' := e1 (j + 1)
  rw [← Nat.add_assoc] at e1'
  have hw : wrap64 (mdP f - 1) = mdP f - 1 := w64 (by omega) (by omega)
  have hsh := shr_pow (mdP f - 1) (s := s) (by omega)
  simp only [spec_RootOf.f, spec_RootOf.j0, sMod, ← hme, in_eq, e1', ht, Option.bind_some]
  rw [if_neg (by omega), decide_eq_true (by omega)]
  simp only [Bool.not_true, Bool.false_eq_true, if_false, e2, Option.bind_some, hw, hsh.2, hsh.1, e3]
  rw [if_pos (by omega)]

-- block iRoot
theorem iRoot_ev {f : Int} (h : fldOk f) (s : Nat) (hs : s ≤ 60) : Ev (fun k => impl_field_root.f k (mdP f) (rd fG f) (rd fT f) (s : Int)) (rt f s) := by
  have hm := mdP_range h
  have hg := fG_range h
  have hh := half_lt hm.1 hm.2 s
  have hw : wrap64 (mdP f - 1) = mdP f - 1 := w64 (by omega) (by omega)
  obtain ⟨n, e⟩ := evs1 (iPow_ev (p := mdP f) (g := rd fG f) (t := rd fT f) (a := rd fG f) (by omega) (by omega) ((mdP f - 1) / 2 ^ s).toNat (by omega) (by omega) hg.2.1)
  rw [show ((((mdP f - 1) / 2 ^ s).toNat : Nat) : Int) = (mdP f - 1) / 2 ^ s by omega] at e
  refine ⟨n, fun k hk => ?_⟩
  obtain ⟨j, rfl⟩ : ∃ j, k = n + j := ⟨k - n, by omega⟩
  simp only [impl_field_root.f, hw, (shr_pow (mdP f - 1) hs).1, e, Option.bind_some]
  rw [if_pos (by omega)]
  rfl

-- block rtInv
/-- A root times its own power to p - 2 is one. -/
theorem rt_full {f : Int} (h : fldOk f) {s : Nat} (hs : (s : Int) ≤ rd fT f) : Md (mdP f) (rt f s ^ (mdP f - 1).toNat) 1 := by
  have e := half_two h 0 s (by omega)
  rw [Int.pow_zero, Int.ediv_one, Nat.zero_add] at e
  rw [e, Int.pow_mul]
  exact (((roots h).full_pow s (by omega)).pow _).trans (Md.of_eq Int.one_pow)
theorem rt_inv {f : Int} (h : fldOk f) {s : Nat} (hs : (s : Int) ≤ rd fT f) : Md (mdP f) (rt f s * (rt f s ^ (mdP f - 2).toNat % mdP f)) 1 := by
  have hm := mdP_range h
  refine ((Md.refl _ _).mul (Md.mod _ _)).trans (Md.trans (Md.of_eq ?_) (rt_full h hs))
  rw [show (mdP f - 1).toNat = (mdP f - 2).toNat + 1 by omega, Int.pow_succ, Int.mul_comm]

-- block iAdd
theorem iAdd {p g t a b : Int} (hp : 2 ≤ p) (hp2 : p ≤ 2147483648) (ha : 0 ≤ a) (ha' : a < p) (hb : 0 ≤ b) (hb' : b < p) : impl_field_add.f p g t a b = some ((a + b) % p) := by
  simp only [impl_field_add.f]
  rw [if_neg (by omega), w64 (by omega) (by omega), Int.tmod_eq_emod_of_nonneg (by omega)]

-- block iSub
theorem iSub {p g t a b : Int} (hp : 2 ≤ p) (hp2 : p ≤ 2147483648) (ha : 0 ≤ a) (ha' : a < p) (hb : 0 ≤ b) (hb' : b < p) : impl_field_sub.f p g t a b = some ((a - b) % p) := by
  simp only [impl_field_sub.f]
  rw [if_neg (by omega), w64 (x := a - b) (by omega) (by omega), w64 (by omega) (by omega), Int.tmod_eq_emod_of_nonneg (by omega), Int.add_emod_right]

-- block stP
/-- A level of the transform over a field's own root, at a place of a row. -/
def stP (f : Int) (lv : Nat) (v : List Int) (x : Nat) : Int := stg (mdP f) (rt f (lv + 1)) lv (fun i => rd v (i : Int)) x
theorem stP_lo (f : Int) (lv : Nat) (v : List Int) (q j : Nat) (hj : j < 2 ^ lv) : stP f lv v (2 ^ lv * (2 * q) + j) = (rd v ((2 ^ lv * (2 * q) + j : Nat) : Int) + rd v ((2 ^ lv * (2 * q) + j + 2 ^ lv : Nat) : Int) * rt f (lv + 1) ^ j) % mdP f := by
  have e1 : (2 ^ lv * (2 * q) + j) % 2 ^ lv = j := by rw [Nat.mul_add_mod, Nat.mod_eq_of_lt hj]
  have e2 : (2 ^ lv * (2 * q) + j) / 2 ^ lv = 2 * q := by rw [Nat.mul_add_div (Nat.pow_pos (by omega)), Nat.div_eq_of_lt hj, Nat.add_zero]
  unfold stP stg
  rw [e1, e2, if_pos (by omega)]
theorem stP_hi (f : Int) (lv : Nat) (v : List Int) (q j : Nat) (hj : j < 2 ^ lv) : stP f lv v (2 ^ lv * (2 * q) + j + 2 ^ lv) = (rd v ((2 ^ lv * (2 * q) + j : Nat) : Int) - rd v ((2 ^ lv * (2 * q) + j + 2 ^ lv : Nat) : Int) * rt f (lv + 1) ^ j) % mdP f := by
  have e : 2 ^ lv * (2 * q) + j + 2 ^ lv = 2 ^ lv * (2 * q + 1) + j := by rw [Nat.mul_add]; omega
  have e1 : (2 ^ lv * (2 * q) + j + 2 ^ lv) % 2 ^ lv = j := by rw [e, Nat.mul_add_mod, Nat.mod_eq_of_lt hj]
  have e2 : (2 ^ lv * (2 * q) + j + 2 ^ lv) / 2 ^ lv = 2 * q + 1 := by rw [e, Nat.mul_add_div (Nat.pow_pos (by omega)), Nat.div_eq_of_lt hj, Nat.add_zero]
  unfold stP stg
  rw [e1, e2, if_neg (by omega), Nat.add_sub_cancel]
theorem two_le {f : Int} (h : fldOk f) {K : Nat} (hK : (K : Int) ≤ rd fT f) : (2 : Int) ^ K ≤ mdP f - 1 := by
  have hm := mdP_range h
  have hT := fT_range h
  have h1 := Int.le_of_dvd (by omega) (two_div h)
  have h2 : (2 ^ K : Nat) ≤ 2 ^ (rd fT f).toNat := Nat.pow_le_pow_right (by omega) (by omega)
  have h3 : ((2 ^ K : Nat) : Int) ≤ ((2 ^ (rd fT f).toNat : Nat) : Int) := by omega
  simp at h3
  omega
theorem rt_ne {f : Int} (h : fldOk f) {s : Nat} (hs : (s : Int) ≤ rd fT f) : rt f s ≠ 0 := by
  intro e
  have hm := mdP_range h
  have h1 := (roots h).full_pow s (by omega)
  rw [e, Int.zero_pow (Nat.pos_iff_ne_zero.1 (Nat.pow_pos (by omega)))] at h1
  have h2 := h1.emod
  rw [Int.emod_eq_of_lt (by omega) (by omega), Int.emod_eq_of_lt (by omega) (by omega)] at h2
  omega

-- block stepP
def stepP (K lv fr en : Int) : Prop := 0 ≤ lv ∧ lv < K ∧ 0 ≤ fr ∧ fr < en ∧ en ≤ halfK K
instance stepP_dec (K lv fr en : Int) : Decidable (stepP K lv fr en) := by unfold stepP; infer_instance

-- block runL
/-- The first place of a level's block with this number. -/
def posB (lv b : Nat) : Nat := 2 ^ lv * (2 * (b / 2 ^ lv)) + b % 2 ^ lv
/-- A row in which the blocks from b on, d of them, have been turned. -/
def runL (f : Int) (lv : Nat) (v : List Int) : Nat → Nat → List Int → List Int
  | 0, _, out => out
  | d + 1, b, out => runL f lv v d (b + 1) ((out.set (posB lv b) (stP f lv v (posB lv b))).set (posB lv b + 2 ^ lv) (stP f lv v (posB lv b + 2 ^ lv)))
theorem runL_len (f : Int) (lv : Nat) (v : List Int) : ∀ d b out, (runL f lv v d b out).length = out.length := by
  intro d
  induction d with
  | zero => intro b out; rfl
  | succ d ih => intro b out; rw [runL, ih]; simp
/-- What a step makes of a row. -/
def runP (f : Int) (v : List Int) (lv fr en : Int) : List Int × Bool :=
  if vecP f v ∧ stepP (logB (v.length : Int)) lv fr en then (runL f lv.toNat v (en - fr).toNat fr.toNat v, true) else ([], false)
theorem runP_len (f : Int) (v : List Int) (lv fr en : Int) : (runP f v lv fr en).1.length ≤ v.length := by
  unfold runP
  split
  · rw [runL_len]; omega
  · simp
/-- Where a block's two places lie, told in numbers below a row's length. -/
theorem pos_facts (lv m b H n : Nat) (hH : H = 2 ^ lv) (hn : n = 2 ^ lv * (2 * 2 ^ m)) (hb : b < H * 2 ^ m) : ∃ q j P : Nat, b / H = q ∧ b % H = j ∧ j < H ∧ P = posB lv b ∧ P = 2 ^ lv * (2 * q) + j ∧ q * 2 * H + j = P ∧ P + H < n ∧ q * 2 * H ≤ P := by
  subst hH
  have h0 : 0 < 2 ^ lv := Nat.pow_pos (by omega)
  have hq : b / 2 ^ lv < 2 ^ m := Nat.div_lt_of_lt_mul hb
  have hj : b % 2 ^ lv < 2 ^ lv := Nat.mod_lt _ h0
  have e : b / 2 ^ lv * 2 * 2 ^ lv = 2 ^ lv * (2 * (b / 2 ^ lv)) := by rw [Nat.mul_comm (2 ^ lv), Nat.mul_comm 2]
  refine ⟨b / 2 ^ lv, b % 2 ^ lv, posB lv b, rfl, rfl, hj, rfl, rfl, by rw [e]; rfl, ?_, by rw [e]; exact Nat.le_add_right _ _⟩
  unfold posB
  have h2 : 2 ^ lv * (2 * (b / 2 ^ lv + 1)) ≤ n := by rw [hn]; exact Nat.mul_le_mul (Nat.le_refl _) (by omega)
  rw [Nat.mul_add, Nat.mul_add] at h2
  generalize 2 ^ lv * (2 * (b / 2 ^ lv)) = X at h2 ⊢
  generalize b % 2 ^ lv = Y at hj ⊢
  generalize 2 ^ lv = Z at h2 hj ⊢
  omega
theorem halfK_pow (lv m : Nat) : halfK ((lv + 1 + m : Nat) : Int) = ((2 ^ lv * 2 ^ m : Nat) : Int) := by
  unfold halfK
  rw [show (((lv + 1 + m : Nat) : Int).toNat - 1) = lv + m by omega, ← Nat.pow_add]
  simp

-- block iReversed
theorem iRev_l (K : Nat) (hK : K ≤ 9) : ∀ (d i : Nat) (x out : Nat), i + d = K → x ≤ 1024 → out < 2 ^ i → Ev (fun k => impl_reversed.l0 k (x : Int) (out : Int) (K : Int) (i : Int)) ((out * 2 ^ d + rv d x : Nat) : Int) := by
  intro d
  induction d with
  | zero =>
    intro i x out h hx ho
    refine ev_now fun k => ?_
    simp only [impl_reversed.l0]
    rw [if_neg (by omega)]
    simp [rv]
  | succ d ih =>
    intro i x out h hx ho
    have hp := pow2_9 (K := i) (by omega)
    have hs : 2 ^ (i + 1) = 2 * 2 ^ i := by rw [Nat.pow_succ]; omega
    have key := ih (i + 1) (x / 2) (2 * out + x % 2) (by omega) (by omega) (by omega)
    have e : (2 * out + x % 2) * 2 ^ d + rv d (x / 2) = out * 2 ^ (d + 1) + rv (d + 1) x := by
      rw [rv_succ, Nat.add_mul, Nat.pow_succ, Nat.mul_comm 2 out, Nat.mul_assoc, Nat.mul_comm 2 (2 ^ d)]; omega
    rw [e] at key
    refine Ev.step (fun k => ?_) key
    have hb := bits_and1 x (by omega)
    rw [show ((1 : Nat) : Int) = 1 by rfl] at hb
    have w1 : wrap64 (2 * (out : Int)) = ((2 * out : Nat) : Int) := w64n (by omega) (by omega)
    have w2 : wrap64 (((2 * out : Nat) : Int) + ((x % 2 : Nat) : Int)) = ((2 * out + x % 2 : Nat) : Int) := w64n (by omega) (by omega)
    have w3 : wrap64 ((i : Int) + 1) = ((i + 1 : Nat) : Int) := wsucc (by omega)
    have c1 : (i : Int) < (K : Int) := by clear w1 w2 w3; omega
    have c2 : (x : Int) / 2 = ((x / 2 : Nat) : Int) := by clear w1 w2 w3; omega
    simp only [impl_reversed.l0, hb, w1, w2, w3, c1, c2, if_true]
theorem iRev_ev (K : Nat) (hK : K ≤ 9) (x : Nat) (hx : x ≤ 1024) : Ev (fun k => impl_reversed.f k (x : Int) (K : Int)) ((rv K x : Nat) : Int) := by
  have := iRev_l K hK K 0 x 0 (by omega) hx (by simp)
  rw [Nat.zero_mul, Nat.zero_add] at this
  exact Ev.congr (fun k => rfl) this

-- block iPermuted
theorem iPerm_l (K : Nat) (hK : K ≤ 9) (v : List Int) (hn : v.length = 2 ^ K) : ∀ (d i : Nat), v.length - i = d → i ≤ v.length →
    Ev (fun k => impl_permuted.l0 k (K : Int) (tab v.length (fun y => if rv K y < i then rd v ((rv K y : Nat) : Int) else 0)) v (v.length : Int) (i : Int)) (tab v.length (fun y => rd v ((rv K y : Nat) : Int))) := by
  have h9 := pow2_9 hK
  intro d
  induction d with
  | zero =>
    intro i h hi
    refine ev_now fun k => ?_
    simp only [impl_permuted.l0]
    rw [if_neg (by omega)]
    refine congrArg some (tab_congr fun y hy => ?_)
    rw [if_pos (by have := rv_lt K y; omega)]
  | succ d ih =>
    intro i h hi
    have key := ih (i + 1) (by omega) (by omega)
    have hr := rv_lt K i
    have e : (tab v.length (fun y => if rv K y < i then rd v ((rv K y : Nat) : Int) else 0)).set (rv K i) (rd v (i : Int)) = tab v.length (fun y => if rv K y < i + 1 then rd v ((rv K y : Nat) : Int) else 0) := by
      rw [tab_set]
      refine tab_congr fun y hy => ?_
      by_cases hy1 : y = rv K i
      · rw [if_pos hy1, hy1, rv_rv K i (by omega), if_pos (by omega)]
      · have hne : rv K y ≠ i := fun hh => hy1 (by rw [← hh, rv_rv K y (by omega)])
        rw [if_neg hy1]
        by_cases hlt : rv K y < i
        · rw [if_pos hlt, if_pos (by omega)]
        · rw [if_neg hlt, if_neg (by omega)]
    rw [← e] at key
    obtain ⟨n, e1, e2⟩ := evs2 (iRev_ev K hK i (by omega)) key
    refine ⟨n + 1, fun k hk => ?_⟩
    obtain ⟨j, rfl⟩ : ∃ j, k = n + j + 1 := ⟨k - n - 1, by omega⟩
    simp only [impl_permuted.l0, e1 j, Option.bind_some, Int.toNat_natCast, tab_len]
    rw [if_pos (by omega), if_pos (by omega), if_pos (by omega), if_pos (by omega), if_pos (by omega), wsucc (by omega)]
    exact e2 j
theorem iPerm_ev (K : Nat) (hK : K ≤ 9) (v : List Int) (hn : v.length = 2 ^ K) : Ev (fun k => impl_permuted.f k v) (tab v.length (fun y => rd v ((rv K y : Nat) : Int))) := by
  have h9 := pow2_9 hK
  have hlog : logB (v.length : Int) = K := by rw [hn]; simpa using logB_pow hK
  have key := iPerm_l K hK v hn v.length 0 (by omega) (by omega)
  have e0 : tab v.length (fun y => if rv K y < 0 then rd v ((rv K y : Nat) : Int) else 0) = List.replicate v.length 0 := by
    apply List.ext_getElem
    · simp [tab]
    · intro i h1 h2
      simp [tab]
  rw [e0] at key
  obtain ⟨n, e1, e2⟩ := evs2 (iLogOf_ev (v.length : Int)) key
  refine ⟨n, fun k hk => ?_⟩
  obtain ⟨j, rfl⟩ : ∃ j, k = n + j := ⟨k - n, by omega⟩
  simp only [impl_permuted.f, e1 j, hlog, Option.bind_some, Int.toNat_natCast]
  rw [if_pos (by omega), if_pos (by omega)]
  exact e2 j

-- block stZ
def stZ (f : Int) (lv : Nat) (v : List Int) (h s j x : Nat) : Int := if x < s ∨ (s ≤ x ∧ x < s + j) ∨ (s + h ≤ x ∧ x < s + h + j) then stP f lv v x else 0
theorem tab_stZ0 (f : Int) (lv : Nat) (v : List Int) (h s : Nat) : tab v.length (stZ f lv v h s h) = tab v.length (stZ f lv v h (s + 2 * h) 0) := by
  apply tab_congr
  intro x hx
  unfold stZ
  by_cases e : x < s ∨ (s ≤ x ∧ x < s + h) ∨ (s + h ≤ x ∧ x < s + h + h)
  · rw [if_pos e, if_pos (by omega)]
  · rw [if_neg e, if_neg (by omega)]
theorem stZ_step (f : Int) (lv : Nat) (v : List Int) (h s j : Nat) (hj : j < h) : ((tab v.length (stZ f lv v h s j)).set (s + j) (stP f lv v (s + j))).set (s + j + h) (stP f lv v (s + j + h)) = tab v.length (stZ f lv v h s (j + 1)) := by
  rw [tab_set, tab_set]
  apply tab_congr
  intro x hx
  by_cases e1 : x = s + j + h
  · rw [if_pos e1, e1]
    unfold stZ
    rw [if_pos (by omega)]
  · rw [if_neg e1]
    by_cases e2 : x = s + j
    · rw [if_pos e2, e2]
      unfold stZ
      rw [if_pos (by omega)]
    · rw [if_neg e2]
      unfold stZ
      by_cases e : x < s ∨ (s ≤ x ∧ x < s + j) ∨ (s + h ≤ x ∧ x < s + h + j)
      · rw [if_pos e, if_pos (by omega)]
      · rw [if_neg e, if_neg (by omega)]

-- block iStage
theorem iStage_in {f : Int} (hf : fldOk f) (lv q H S : Nat) (hH : H = 2 ^ lv) (hS : S = 2 ^ lv * (2 * q)) (v : List Int) (hn9 : v.length ≤ 512) (hH1 : 1 ≤ H) (hSn : S + 2 * H ≤ v.length) (hel : ∀ i : Nat, i < v.length → 0 ≤ rd v (i : Int) ∧ rd v (i : Int) < mdP f) (r : List Int)
    (hr : Ev (fun k => impl_field_stage.l0 k v (tab v.length (stZ f lv v H S H)) (H : Int) (rt f (lv + 1)) ((S + 2 * H : Nat) : Int) (mdP f) (rd fG f) (rd fT f)) r) :
    ∀ (c j : Nat), H - j = c → j ≤ H →
    Ev (fun k => impl_field_stage.l1 k v (tab v.length (stZ f lv v H S j)) (H : Int) (rt f (lv + 1)) (S : Int) (rt f (lv + 1) ^ j % mdP f) (H : Int) (j : Int) (mdP f) (rd fG f) (rd fT f)) r := by
  have hm := mdP_range hf
  have hrt := rt_range hf (lv + 1)
  have hfacts : ∀ j, j < H → stP f lv v (S + j) = (rd v ((S + j : Nat) : Int) + rd v ((S + j + H : Nat) : Int) * rt f (lv + 1) ^ j) % mdP f ∧ stP f lv v (S + j + H) = (rd v ((S + j : Nat) : Int) - rd v ((S + j + H : Nat) : Int) * rt f (lv + 1) ^ j) % mdP f := by
    intro j hj
    subst hH
    subst hS
    exact ⟨stP_lo f lv v q j hj, stP_hi f lv v q j hj⟩
  clear hH hS
  have m0 : ∀ z : Int, 0 ≤ z % mdP f ∧ z % mdP f < mdP f := fun z => ⟨Int.emod_nonneg _ (by omega), Int.emod_lt_of_pos _ (by omega)⟩
  intro c
  induction c with
  | zero =>
    intro j hc hj
    have ej : j = H := by omega
    subst ej
    refine Ev.step (fun k => ?_) hr
    simp only [impl_field_stage.l1]
    rw [if_neg (by omega), w64 (x := 2 * (j : Int)) (by omega) (by omega), w64 (by omega) (by omega), show (S : Int) + 2 * (j : Int) = ((S + 2 * j : Nat) : Int) by omega]
  | succ c ih =>
    intro j hc hj
    have hjl : j < H := by omega
    obtain ⟨hlo, hhi⟩ := hfacts j hjl
    have key := ih (j + 1) (by omega) (by omega)
    have r1 := hel (S + j) (by omega)
    have r2 := hel (S + j + H) (by omega)
    have r3 := m0 (rt f (lv + 1) ^ j)
    have c1 : (j : Int) < (H : Int) := by omega
    have c2 : 0 ≤ ((S + j : Nat) : Int) := by omega
    have c3 : ((S + j : Nat) : Int) < (v.length : Int) := by omega
    have c4 : 0 ≤ ((S + j + H : Nat) : Int) := by omega
    have c5 : ((S + j + H : Nat) : Int) < (v.length : Int) := by omega
    have a1 := iMul (g := rd fG f) (t := rd fT f) (p := mdP f) (by omega) (by omega) r2.1 r2.2 r3.1 r3.2
    have r4 := m0 (rd v ((S + j + H : Nat) : Int) * (rt f (lv + 1) ^ j % mdP f))
    have a2 := iAdd (g := rd fG f) (t := rd fT f) (p := mdP f) (by omega) (by omega) r1.1 r1.2 r4.1 r4.2
    have a3 := iSub (g := rd fG f) (t := rd fT f) (p := mdP f) (by omega) (by omega) r1.1 r1.2 r4.1 r4.2
    have a4 := iMul (g := rd fG f) (t := rd fT f) (p := mdP f) (by omega) (by omega) r3.1 r3.2 hrt.1 hrt.2
    have eA : (rd v ((S + j : Nat) : Int) + rd v ((S + j + H : Nat) : Int) * (rt f (lv + 1) ^ j % mdP f) % mdP f) % mdP f = stP f lv v (S + j) := by
      rw [hlo]
      exact ((Md.refl _ _).add ((Md.mod _ _).trans ((Md.refl _ _).mul (Md.mod _ _)))).emod
    have eB : (rd v ((S + j : Nat) : Int) - rd v ((S + j + H : Nat) : Int) * (rt f (lv + 1) ^ j % mdP f) % mdP f) % mdP f = stP f lv v (S + j + H) := by
      rw [hhi]
      exact ((Md.refl _ _).sub ((Md.mod _ _).trans ((Md.refl _ _).mul (Md.mod _ _)))).emod
    have eC : rt f (lv + 1) ^ j % mdP f * rt f (lv + 1) % mdP f = rt f (lv + 1) ^ (j + 1) % mdP f := by
      rw [Int.pow_succ]; exact ((Md.mod _ _).mul (Md.refl _ _)).emod
    rw [eA] at a2
    rw [eB] at a3
    rw [eC] at a4
    rw [← stZ_step f lv v _ _ j hjl] at key
    have hlen : (tab v.length (stZ f lv v H S j)).length = v.length := tab_len _ _
    clear hr ih hfacts hel hlo hhi eA eB eC
    refine Ev.step (fun k => ?_) key
    obtain ⟨w1, w2, w3⟩ : wrap64 ((S : Int) + (j : Int)) = ((S + j : Nat) : Int) ∧ wrap64 (((S + j : Nat) : Int) + (H : Int)) = ((S + j + H : Nat) : Int) ∧ wrap64 ((j : Int) + 1) = ((j + 1 : Nat) : Int) :=
      ⟨w64n (by omega) (by omega), w64n (by omega) (by omega), wsucc (by omega)⟩
    simp only [impl_field_stage.l1, w1, w2, w3, a1, a2, a3, a4, hlen, Option.bind_some, Int.toNat_natCast, c1, c2, c3, c4, c5, if_true]
theorem iStage_l {f : Int} (hf : fldOk f) (lv m : Nat) (hK : lv + 1 + m ≤ 9) (v : List Int) (hn : v.length = 2 ^ (lv + 1 + m)) (hel : ∀ i : Nat, i < v.length → 0 ≤ rd v (i : Int) ∧ rd v (i : Int) < mdP f) :
    ∀ (d q : Nat), 2 ^ m - q = d → q ≤ 2 ^ m →
    Ev (fun k => impl_field_stage.l0 k v (tab v.length (stZ f lv v (2 ^ lv) (2 ^ lv * (2 * q)) 0)) ((2 ^ lv : Nat) : Int) (rt f (lv + 1)) ((2 ^ lv * (2 * q) : Nat) : Int) (mdP f) (rd fG f) (rd fT f)) (tab v.length (stP f lv v)) := by
  have hn9 := pow2_9 hK
  rw [← hn] at hn9
  have hm := mdP_range hf
  have hnH : v.length = 2 ^ lv * (2 * 2 ^ m) := by rw [hn, Nat.pow_add, Nat.pow_succ]; rw [Nat.mul_assoc]
  have hH := Nat.pow_pos (n := lv) (show 0 < 2 by omega)
  intro d
  induction d with
  | zero =>
    intro q hd hq
    have eq : q = 2 ^ m := by omega
    subst eq
    refine ev_now fun k => ?_
    simp only [impl_field_stage.l0]
    rw [if_neg (by omega)]
    refine congrArg some (tab_congr fun x hx => ?_)
    unfold stZ
    rw [if_pos (by omega)]
  | succ d ih =>
    intro q hd hq
    have hS1 : 2 ^ lv * (2 * (q + 1)) = 2 ^ lv * (2 * q) + 2 * 2 ^ lv := by rw [Nat.mul_add, Nat.mul_add]; omega
    have hS2 : 2 ^ lv * (2 * (q + 1)) ≤ v.length := by rw [hnH]; exact Nat.mul_le_mul (Nat.le_refl _) (by omega)
    have key := ih (q + 1) (by omega) (by omega)
    have e : tab v.length (stZ f lv v (2 ^ lv) (2 ^ lv * (2 * (q + 1))) 0) = tab v.length (stZ f lv v (2 ^ lv) (2 ^ lv * (2 * q)) (2 ^ lv)) := by rw [tab_stZ0, hS1]
    rw [e, hS1] at key
    have k0 := iStage_in hf lv q (2 ^ lv) (2 ^ lv * (2 * q)) rfl rfl v hn9.1 hH (by rw [← hS1]; exact hS2) hel _ key (2 ^ lv) 0 (Nat.sub_zero _) (Nat.zero_le _)
    rw [Int.pow_zero, Int.emod_eq_of_lt (by omega) (by omega)] at k0
    refine Ev.step (fun k => ?_) k0
    simp only [impl_field_stage.l0]
    rw [if_pos (by omega)]
    rfl
theorem iStage_ev {f : Int} (hf : fldOk f) (lv m : Nat) (hK : lv + 1 + m ≤ 9) (v : List Int) (hn : v.length = 2 ^ (lv + 1 + m)) (hel : ∀ i : Nat, i < v.length → 0 ≤ rd v (i : Int) ∧ rd v (i : Int) < mdP f) :
    Ev (fun k => impl_field_stage.f k (mdP f) (rd fG f) (rd fT f) v (lv : Int)) (tab v.length (stP f lv v)) := by
  have hn9 := pow2_9 hK
  rw [← hn] at hn9
  have hs := shl_pow (i := lv) (by omega)
  have hsh : shl .i64 1 (lv : Int) = ((2 ^ lv : Nat) : Int) := by rw [hs.1]; simp
  have key := iStage_l hf lv m hK v hn hel (2 ^ m) 0 (Nat.sub_zero _) (Nat.zero_le _)
  have e0 : tab v.length (stZ f lv v (2 ^ lv) (2 ^ lv * (2 * 0)) 0) = List.replicate v.length 0 := by
    apply List.ext_getElem
    · simp [tab]
    · intro i h1 h2
      simp [tab]
      unfold stZ
      rw [if_neg (by omega)]
  rw [e0] at key
  obtain ⟨n, e1, e2⟩ := evs2 (iRoot_ev hf (lv + 1) (by omega)) key
  refine ⟨n, fun k hk => ?_⟩
  obtain ⟨j, rfl⟩ : ∃ j, k = n + j := ⟨k - n, by omega⟩
  simp only [impl_field_stage.f, Int.toNat_natCast]
  rw [if_pos (by omega), if_pos (by omega), if_pos (by omega), wsucc (by omega), e1 j, hsh]
  exact e2 j

-- block fwd
/-- The transform of a row: the sum at each place, reduced. -/
def fwd (f : Int) (K : Nat) (v : List Int) (i : Nat) : Int := dft (2 ^ K) (rt f K) (fun x => rd v (x : Int)) i % mdP f
theorem stg_congr {p W : Int} {s m : Nat} {a b : Nat → Int} (h : ∀ i, i < 2 ^ (s + 1 + m) → a i = b i) {x : Nat} (hx : x < 2 ^ (s + 1 + m)) : stg p W s a x = stg p W s b x := by
  have hp := Nat.pow_pos (n := s) (show 0 < 2 by omega)
  have e2 : 2 ^ (s + 1 + m) = 2 ^ s * (2 * 2 ^ m) := by rw [Nat.pow_add, Nat.pow_succ, Nat.mul_assoc]
  have hd := Nat.div_add_mod x (2 ^ s)
  have hr := Nat.mod_lt x hp
  have hq : x / 2 ^ s < 2 * 2 ^ m := Nat.div_lt_of_lt_mul (by rw [← e2]; exact hx)
  unfold stg
  by_cases c : x / 2 ^ s % 2 = 0
  · have h1 : x + 2 ^ s < 2 ^ (s + 1 + m) := by
      have h2 : 2 ^ s * (x / 2 ^ s + 2) ≤ 2 ^ (s + 1 + m) := by rw [e2]; exact Nat.mul_le_mul (Nat.le_refl _) (by omega)
      rw [Nat.mul_add] at h2
      omega
    rw [if_pos c, if_pos c, h x hx, h _ h1]
  · rw [if_neg c, if_neg c, h x hx, h (x - 2 ^ s) (by omega)]
theorem lev_range {p : Int} (hp : 0 < p) {w : Nat → Int} {a : Nat → Int} {n : Nat} (ha : ∀ i, i < n → 0 ≤ a i ∧ a i < p) : ∀ s x, x < n → 0 ≤ lev p w a s x ∧ lev p w a s x < p := by
  intro s x hx
  cases s with
  | zero => exact ha x hx
  | succ s =>
    rw [lev]
    unfold stg
    split
    · exact ⟨Int.emod_nonneg _ (by omega), Int.emod_lt_of_pos _ hp⟩
    · exact ⟨Int.emod_nonneg _ (by omega), Int.emod_lt_of_pos _ hp⟩
/-- A row of levels under one more level. -/
theorem lev_step {f : Int} (lv m n : Nat) (hn : n = 2 ^ (lv + 1 + m)) (a : Nat → Int) : tab n (stP f lv (tab n (lev (mdP f) (rt f) a lv))) = tab n (lev (mdP f) (rt f) a (lv + 1)) := by
  refine tab_congr fun x hx => ?_
  subst hn
  rw [lev]
  unfold stP
  exact stg_congr (fun i hi => tab_rd hi) hx
theorem lev_fwd {f : Int} (hf : fldOk f) (K : Nat) (hK : (K : Int) ≤ rd fT f) (v : List Int) (hn : v.length = 2 ^ K) (hel : ∀ i : Nat, i < v.length → 0 ≤ rd v (i : Int) ∧ rd v (i : Int) < mdP f) :
    tab v.length (lev (mdP f) (rt f) (fun y => rd v ((rv K y : Nat) : Int)) K) = tab v.length (fwd f K v) := by
  have hm := mdP_range hf
  refine tab_congr fun x hx => ?_
  have h1 := lev_dft (roots hf) K (by omega) (fun x => rd v (x : Int)) x (by omega)
  have h2 := lev_range (p := mdP f) (by omega) (w := rt f) (a := fun y => rd v ((rv K y : Nat) : Int)) (n := v.length) (fun i hi => hel _ (by have := rv_lt K i; omega)) K x hx
  exact (h1.trans (Md.mod _ _).symm).eq h2.1 h2.2 (Int.emod_nonneg _ (by omega)) (Int.emod_lt_of_pos _ (by omega))

-- block iForward
theorem iForward_l {f : Int} (hf : fldOk f) (K : Nat) (hK9 : K ≤ 9) (n : Nat) (hn : n = 2 ^ K) (a : Nat → Int) (ha : ∀ i, i < n → 0 ≤ a i ∧ a i < mdP f) : ∀ (d lv : Nat), lv + d = K →
    Ev (fun k => impl_field_forward.l0 k (tab n (lev (mdP f) (rt f) a lv)) (K : Int) (lv : Int) (mdP f) (rd fG f) (rd fT f)) (tab n (lev (mdP f) (rt f) a K)) := by
  have hm := mdP_range hf
  intro d
  induction d with
  | zero =>
    intro lv h
    obtain rfl : lv = K := by omega
    refine ev_now fun k => ?_
    simp only [impl_field_forward.l0]
    rw [if_neg (by omega)]
  | succ d ih =>
    intro lv h
    have e : K = lv + 1 + d := by omega
    have key := ih (lv + 1) (by omega)
    have hs := iStage_ev hf lv d (by omega) (tab n (lev (mdP f) (rt f) a lv)) (by rw [tab_len, hn, e]) (fun i hi => by rw [tab_len] at hi; rw [tab_rd hi]; exact lev_range (by omega) ha lv i hi)
    rw [tab_len, lev_step lv d n (by rw [hn, e])] at hs
    obtain ⟨n1, e1, e2⟩ := evs2 hs key
    refine ⟨n1 + 1, fun k hk => ?_⟩
    obtain ⟨j, rfl⟩ : ∃ j, k = n1 + j + 1 := ⟨k - n1 - 1, by omega⟩
    simp only [impl_field_forward.l0, e1 j, Option.bind_some]
    rw [if_pos (by omega), wsucc (by omega)]
    exact e2 j
theorem iForward_ev {f : Int} {v : List Int} (h : vecP f v) {K : Nat} (hK9 : K ≤ 9) (hlog : logB (v.length : Int) = K) (hn : v.length = 2 ^ K) (hKT : (K : Int) ≤ rd fT f) :
    Ev (fun k => impl_field_forward.f k (mdP f) (rd fG f) (rd fT f) v) (tab v.length (fwd f K v)) := by
  have hel := vec_el h
  have key := iForward_l h.1 K hK9 v.length hn (fun y => rd v ((rv K y : Nat) : Int)) (fun i hi => hel _ (by have := rv_lt K i; omega)) K 0 (by omega)
  rw [lev_fwd h.1 K hKT v hn hel] at key
  obtain ⟨n, e1, e2, e3⟩ := evs3 (iPerm_ev K hK9 v hn) (iLogOf_ev (v.length : Int)) key
  refine ⟨n, fun k hk => ?_⟩
  obtain ⟨j, rfl⟩ : ∃ j, k = n + j := ⟨k - n, by omega⟩
  simp only [impl_field_forward.f, e1 j, e2 j, hlog, Option.bind_some]
  exact e3 j

-- block invP
/-- What the program and the reference both take for an inverse. -/
def invP (f a : Int) : Int := a ^ (mdP f - 2).toNat % mdP f
theorem invP_range {f : Int} (h : fldOk f) (a : Int) : 0 ≤ invP f a ∧ invP f a < mdP f := by
  have hm := mdP_range h
  exact ⟨Int.emod_nonneg _ (by omega), Int.emod_lt_of_pos _ (by omega)⟩

-- block iBackward
/-- The transform back: each place the other way round, times the number's inverse. -/
def bwd (f : Int) (K : Nat) (v : List Int) (j : Nat) : Int := fwd f K v ((2 ^ K - j) % 2 ^ K) * invP f ((2 ^ K : Nat) : Int) % mdP f
theorem flip_flip {n j : Nat} (h : j < n) : (n - (n - j) % n) % n = j := by
  by_cases h0 : j = 0
  · subst h0; simp
  · rw [Nat.mod_eq_of_lt (show n - j < n by omega), show n - (n - j) = j by omega, Nat.mod_eq_of_lt h]
theorem iBackward_l {f : Int} (hf : fldOk f) (K : Nat) (hK9 : K ≤ 9) (n : Nat) (hn : n = 2 ^ K) (v : List Int) : ∀ (d i : Nat), n - i = d → i ≤ n →
    Ev (fun k => impl_field_backward.l0 k (n : Int) (invP f ((2 ^ K : Nat) : Int)) (tab n (fun y => if (n - y) % n < i then bwd f K v y else 0)) (tab n (fwd f K v)) (n : Int) (i : Int) (mdP f) (rd fG f) (rd fT f)) (tab n (bwd f K v)) := by
  have h9 := pow2_9 hK9
  rw [← hn] at h9
  have hm := mdP_range hf
  have hir := invP_range hf ((2 ^ K : Nat) : Int)
  intro d
  induction d with
  | zero =>
    intro i h hi
    refine ev_now fun k => ?_
    simp only [impl_field_backward.l0]
    rw [if_neg (by omega)]
    refine congrArg some (tab_congr fun y hy => ?_)
    rw [if_pos (by have := Nat.mod_lt (n - y) (show 0 < n by omega); omega)]
  | succ d ih =>
    intro i h hi
    have key := ih (i + 1) (by omega) (by omega)
    have hr := Nat.mod_lt (n - i) (show 0 < n by omega)
    have hfr : 0 ≤ fwd f K v i ∧ fwd f K v i < mdP f := ⟨Int.emod_nonneg _ (by omega), Int.emod_lt_of_pos _ (by omega)⟩
    have hb : fwd f K v i * invP f ((2 ^ K : Nat) : Int) % mdP f = bwd f K v ((n - i) % n) := by
      unfold bwd
      rw [← hn, flip_flip (by omega)]
    have e : (tab n (fun y => if (n - y) % n < i then bwd f K v y else 0)).set ((n - i) % n) (bwd f K v ((n - i) % n)) = tab n (fun y => if (n - y) % n < i + 1 then bwd f K v y else 0) := by
      rw [tab_set]
      refine tab_congr fun y hy => ?_
      by_cases hy1 : y = (n - i) % n
      · rw [if_pos hy1, ← hy1, if_pos (by rw [hy1, flip_flip (by omega)]; omega)]
      · have hne : (n - y) % n ≠ i := fun hh => hy1 (by rw [← hh, flip_flip hy])
        rw [if_neg hy1]
        by_cases hlt : (n - y) % n < i
        · rw [if_pos hlt, if_pos (by omega)]
        · rw [if_neg hlt, if_neg (by omega)]
    rw [← e] at key
    have a1 := iMul (g := rd fG f) (t := rd fT f) (p := mdP f) (by omega) (by omega) hfr.1 hfr.2 hir.1 hir.2
    rw [hb] at a1
    have w1 : Int.tmod (wrap64 ((n : Int) - (i : Int))) (n : Int) = (((n - i) % n : Nat) : Int) := by
      rw [w64n (a := n - i) (by omega) (by omega), Int.tmod_eq_emod_of_nonneg (by omega)]; omega
    have w2 : wrap64 ((i : Int) + 1) = ((i + 1 : Nat) : Int) := wsucc (by omega)
    have c1 : (i : Int) < (n : Int) := by clear w1 w2; omega
    have c2 : 0 ≤ (i : Int) := by clear w1 w2; omega
    have c3 : ¬ ((n : Int) = 0) := by clear w1 w2; omega
    have c4 : 0 ≤ (((n - i) % n : Nat) : Int) := by clear w1 w2; omega
    have c5 : (((n - i) % n : Nat) : Int) < (n : Int) := by clear w1 w2; omega
    refine Ev.step (fun k => ?_) key
    simp only [impl_field_backward.l0, tab_len, tab_rd (show i < n by clear w1 w2; omega), a1, w1, w2, c1, c2, c3, c4, c5, Option.bind_some, Int.toNat_natCast, if_true, if_false]
theorem iBackward_ev {f : Int} {v : List Int} (h : vecP f v) {K : Nat} (hK9 : K ≤ 9) (hlog : logB (v.length : Int) = K) (hn : v.length = 2 ^ K) (hKT : (K : Int) ≤ rd fT f) :
    Ev (fun k => impl_field_backward.f k (mdP f) (rd fG f) (rd fT f) v) (tab v.length (bwd f K v)) := by
  have h9 := pow2_9 hK9
  have hm := mdP_range h.1
  have h2 := two_le h.1 hKT
  have h2' : ((2 ^ K : Nat) : Int) ≤ mdP f - 1 := by rw [show ((2 ^ K : Nat) : Int) = 2 ^ K by simp]; exact h2
  have key := iBackward_l h.1 K hK9 v.length hn v v.length 0 (by omega) (by omega)
  have e0 : tab v.length (fun y => if (v.length - y) % v.length < 0 then bwd f K v y else 0) = List.replicate v.length 0 := by
    apply List.ext_getElem
    · simp [tab]
    · intro i h1 h2
      simp [tab]
  rw [e0] at key
  have hi := iInv_ev (p := mdP f) (g := rd fG f) (t := rd fT f) (a := (v.length : Int) % mdP f) (by omega) (by omega) (Int.emod_nonneg _ (by omega)) (Int.emod_lt_of_pos _ (by omega))
  have e1 : ((v.length : Int) % mdP f) ^ (mdP f - 2).toNat % mdP f = invP f ((2 ^ K : Nat) : Int) := by
    unfold invP
    rw [hn, show ((2 ^ K : Nat) : Int) % mdP f = ((2 ^ K : Nat) : Int) from Int.emod_eq_of_lt (by omega) (by omega)]
  rw [e1] at hi
  obtain ⟨n, e1, e2, e3⟩ := evs3 hi (iForward_ev h hK9 hlog hn hKT) key
  refine ⟨n, fun k hk => ?_⟩
  obtain ⟨j, rfl⟩ : ∃ j, k = n + j := ⟨k - n, by omega⟩
  simp only [impl_field_backward.f, e1 j, e2 j, Option.bind_some, Int.toNat_natCast, tab_len]
  rw [if_neg (by omega), if_pos (by omega), if_pos (by omega)]
  exact e3 j

-- block iTurned
theorem iTurned_l {f : Int} (hf : fldOk f) (z : Int) (hz : 0 ≤ z) (hz' : z < mdP f) (b : List Int) (hb : b.length ≤ 1048576) (hel : ∀ i : Nat, i < b.length → 0 ≤ rd b (i : Int) ∧ rd b (i : Int) < mdP f) : ∀ (d i : Nat), b.length - i = d → i ≤ b.length →
    Ev (fun k => impl_field_turned.l0 k z (tab i (fun j => rd b (j : Int) * (z ^ j % mdP f) % mdP f)) (z ^ i % mdP f) b (b.length : Int) (i : Int) (mdP f) (rd fG f) (rd fT f)) (tab b.length (fun j => rd b (j : Int) * (z ^ j % mdP f) % mdP f)) := by
  have hm := mdP_range hf
  have m0 : ∀ z : Int, 0 ≤ z % mdP f ∧ z % mdP f < mdP f := fun z => ⟨Int.emod_nonneg _ (by omega), Int.emod_lt_of_pos _ (by omega)⟩
  intro d
  induction d with
  | zero =>
    intro i h hi
    refine ev_now fun k => ?_
    simp only [impl_field_turned.l0]
    rw [if_neg (by omega), show i = b.length by omega]
  | succ d ih =>
    intro i h hi
    have key := ih (i + 1) (by omega) (by omega)
    rw [← tab_snoc] at key
    have r1 := hel i (by omega)
    have r2 := m0 (z ^ i)
    have a1 := iMul (g := rd fG f) (t := rd fT f) (p := mdP f) (by omega) (by omega) r1.1 r1.2 r2.1 r2.2
    have a2 := iMul (g := rd fG f) (t := rd fT f) (p := mdP f) (by omega) (by omega) r2.1 r2.2 hz hz'
    have e2 : z ^ i % mdP f * z % mdP f = z ^ (i + 1) % mdP f := by rw [Int.pow_succ]; exact ((Md.mod _ _).mul (Md.refl _ _)).emod
    rw [e2] at a2
    refine Ev.step (fun k => ?_) key
    simp only [impl_field_turned.l0, a1, a2, tab_len, Option.bind_some]
    rw [if_pos (by omega), if_pos (by omega), if_pos (by omega), if_pos (by omega), wsucc (by omega)]
theorem iTurned_ev {f : Int} (hf : fldOk f) (z : Int) (hz : 0 ≤ z) (hz' : z < mdP f) (b : List Int) (hb : b.length ≤ 1048576) (hel : ∀ i : Nat, i < b.length → 0 ≤ rd b (i : Int) ∧ rd b (i : Int) < mdP f) :
    Ev (fun k => impl_field_turned.f k (mdP f) (rd fG f) (rd fT f) b z) (tab b.length (fun j => rd b (j : Int) * (z ^ j % mdP f) % mdP f)) := by
  have hm := mdP_range hf
  have key := iTurned_l hf z hz hz' b hb hel b.length 0 (by omega) (by omega)
  rw [Int.pow_zero, Int.emod_eq_of_lt (by omega) (by omega)] at key
  exact Ev.congr (fun k => rfl) key

-- block splitP
/-- A row over whose ring the field has enough roots. -/
def splitV (f : Int) (v : List Int) : Prop := vecP f v ∧ logB (v.length : Int) + 1 ≤ rd fT f
instance splitV_dec (f : Int) (v : List Int) : Decidable (splitV f v) := by unfold splitV; infer_instance

-- block sOpen
theorem sOpen_ev (f : Int) (v : List Int) (hn : v.length ≤ 1048576) : Ev (fun k => spec_l08Open.f k f v) (decide (splitV f v)) := by
  obtain ⟨n, e1, e2, e3⟩ := evs3 (sVec_ev f v hn) (sLogOf_ev (v.length : Int)) (sTwo_ev f)
  refine ⟨n, fun k hk => ?_⟩
  obtain ⟨j, rfl⟩ : ∃ j, k = n + j := ⟨k - n, by omega⟩
  simp only [spec_l08Open.f, e1 j, e2 j, e3 j, Option.bind_some]
  by_cases h : vecP f v
  · obtain ⟨K, hK9, hlog, _, _⟩ := vec_log h
    have ht : two f = rd fT f := by unfold two; rw [if_pos h.1]
    rw [if_pos (by simp [h]), hlog, ht, w64 (by omega) (by omega)]
    exact congrArg some (decide_eq_decide.2 ⟨fun x => ⟨h, by rw [hlog]; exact x⟩, fun x => by have := x.2; rw [hlog] at this; exact this⟩)
  · rw [if_neg (by simp [h]), decide_eq_false (fun x : splitV f v => h x.1)]

-- block iSplitF
theorem iSplitF_ev (f : Int) (v : List Int) (hn : v.length ≤ 1048576) : Ev (fun k => impl_splittingField.f k f v) (if splitV f v then (mdP f, rd fG f, rd fT f, true) else (0, 0, 0, false)) := by
  obtain ⟨n, e1, e2⟩ := evs2 (iVec1_ev f v hn) (iLogOf_ev (v.length : Int))
  refine ⟨n, fun k hk => ?_⟩
  obtain ⟨j, rfl⟩ : ∃ j, k = n + j := ⟨k - n, by omega⟩
  simp only [impl_splittingField.f, e1 j, e2 j, Option.bind_some]
  by_cases h : vecP f v
  · obtain ⟨K, hK9, hlog, _, _⟩ := vec_log h
    simp only [if_pos h, if_true, hlog, Option.bind_some]
    rw [w64 (by omega) (by omega)]
    by_cases h2 : logB (v.length : Int) + 1 ≤ rd fT f
    · rw [if_neg (by omega), if_pos (show splitV f v from ⟨h, h2⟩)]
    · rw [if_pos (by omega), if_neg (fun x : splitV f v => h2 x.2)]
  · rw [if_neg h, if_neg (fun x : splitV f v => h x.1)]
    simp

-- block oddP
/-- The row that a row of odd values comes from. -/
def oddF (f : Int) (K : Nat) (v : List Int) (j : Nat) : Int := (sm (2 ^ K) (fun m => rd v (m : Int) * (invP f (rt f (K + 1)) ^ (j * (2 * m + 1) % (2 * 2 ^ K)) % mdP f)) % mdP f) * invP f ((2 ^ K : Nat) : Int) % mdP f
def oddB (f : Int) (v : List Int) : List Int := if splitV f v then tab v.length (oddF f (logB (v.length : Int)).toNat v) else []
theorem oddB_len (f : Int) (v : List Int) : (oddB f v).length ≤ v.length := by
  unfold oddB
  split
  · rw [tab_len]; exact Nat.le_refl _
  · exact Nat.zero_le _
theorem oddB_some {f : Int} {v : List Int} (h : splitV f v) {K : Nat} (hlog : logB (v.length : Int) = K) : oddB f v = tab v.length (oddF f K v) := by
  unfold oddB
  rw [if_pos h, hlog, Int.toNat_natCast]
theorem split_log {f : Int} {v : List Int} (h : splitV f v) : ∃ K : Nat, K ≤ 9 ∧ logB (v.length : Int) = K ∧ v.length = 2 ^ K ∧ (K : Int) + 1 ≤ rd fT f := by
  obtain ⟨K, h1, h2, h3, h4⟩ := vec_log h.1
  exact ⟨K, h1, h2, h3, by have := h.2; omega⟩

-- block backOdd
theorem back_odd {f : Int} (hf : fldOk f) (K : Nat) (hKT : (K : Int) + 1 ≤ rd fT f) (v : List Int) (j : Nat) (hj : j < 2 ^ K) :
    (fwd f K v ((2 ^ K - j) % 2 ^ K) * invP f ((2 ^ K : Nat) : Int) % mdP f) * (invP f (rt f (K + 1)) ^ j % mdP f) % mdP f = oddF f K v j := by
  have hT := fT_range hf
  have hz : Md (mdP f) (rt f (K + 1) * invP f (rt f (K + 1))) 1 := rt_inv hf (s := K + 1) (by omega)
  have hsq : Md (mdP f) (rt f (K + 1) * rt f (K + 1)) (rt f K) := (roots hf).sq K (by omega)
  have hfull : Md (mdP f) (rt f K ^ (2 ^ K)) 1 := (roots hf).full_pow K (by omega)
  have hfull2 : Md (mdP f) (rt f (K + 1) ^ (2 ^ (K + 1))) 1 := (roots hf).full_pow (K + 1) (by omega)
  unfold oddF fwd dft
  generalize hz0 : invP f (rt f (K + 1)) = z at *
  generalize invP f ((2 ^ K : Nat) : Int) = by_
  rw [Nat.pow_succ, Nat.mul_comm] at hfull2
  generalize 2 ^ K = n at *
  have hWz : Md (mdP f) (rt f K * (z * z)) 1 := by
    refine (hsq.symm.mul (Md.refl _ _)).trans ((Md.of_eq ?_).trans ((hz.mul hz).trans (Md.of_eq (by simp))))
    grind
  have hzn : Md (mdP f) (z ^ (2 * n)) 1 := by
    have a := (hz.pow (2 * n)).trans (Md.of_eq Int.one_pow)
    rw [Int.mul_pow] at a
    have b := (hfull2.mul (Md.refl (mdP f) (z ^ (2 * n)))).symm
    rw [Int.one_mul] at b
    exact b.trans a
  have hij : (n - j) % n + j = n ∨ (n - j) % n + j = 0 := by
    by_cases h0 : j = 0
    · subst h0; simp
    · left; rw [Nat.mod_eq_of_lt (by omega)]; omega
  have hsum : Md (mdP f) (sm n (fun m => rd v (m : Int) * rt f K ^ ((n - j) % n * m)) * z ^ j) (sm n (fun m => rd v (m : Int) * (z ^ (j * (2 * m + 1) % (2 * n)) % mdP f))) := by
    rw [← sm_mul_right]
    refine Md.sm fun m _ => ?_
    have h1 := back_pow (p := mdP f) m hWz hfull hij
    have h2 := ((Md.mod (mdP f) (z ^ (j * (2 * m + 1) % (2 * n)))).trans (pow_per hzn (j * (2 * m + 1)))).symm
    have e : z ^ (j * (2 * m + 1)) = z ^ (2 * j * m) * z ^ j := by
      rw [← Int.pow_add]; congr 1; rw [Nat.mul_add, Nat.mul_one, ← Nat.mul_assoc, Nat.mul_comm j 2]
    rw [e] at h2
    refine (Md.of_eq (Int.mul_assoc _ _ _)).trans ((Md.refl _ _).mul ?_)
    exact (h1.mul (Md.refl _ _)).trans h2
  refine Md.emod ?_
  refine ((Md.mod _ _).mul (Md.mod _ _)).trans ?_
  refine (((Md.mod _ _).mul (Md.refl _ by_)).mul (Md.refl _ (z ^ j))).trans ?_
  refine Md.trans (Md.of_eq ?_) ((hsum.trans (Md.mod _ _).symm).mul (Md.refl _ by_))
  grind

-- block iOddBackF
theorem iOddBackF_ev {f : Int} {v : List Int} (h : splitV f v) {K : Nat} (hK9 : K ≤ 9) (hlog : logB (v.length : Int) = K) (hnK : v.length = 2 ^ K) (hKT : (K : Int) + 1 ≤ rd fT f) : Ev (fun k => impl_field_oddBack.f k (mdP f) (rd fG f) (rd fT f) v) (oddB f v) := by
  have h9 := pow2_9 hK9
  have hf := h.1.1
  have hm := mdP_range hf
  have hg := fG_range hf
  have hrt := rt_range hf (K + 1)
  have hz := invP_range hf (rt f (K + 1))
  have ht := iTurned_ev hf (invP f (rt f (K + 1))) hz.1 hz.2 (tab v.length (bwd f K v)) (by rw [tab_len]; omega) (fun i hi => by
    rw [tab_len] at hi
    rw [tab_rd hi]
    exact ⟨Int.emod_nonneg _ (by omega), Int.emod_lt_of_pos _ (by omega)⟩)
  have et : tab v.length (fun j => rd (tab v.length (bwd f K v)) (j : Int) * (invP f (rt f (K + 1)) ^ j % mdP f) % mdP f) = tab v.length (oddF f K v) := by
    refine tab_congr fun x hx => ?_
    rw [tab_rd hx]
    exact back_odd hf K hKT v x (by omega)
  rw [tab_len, et] at ht
  obtain ⟨n, e2, e3, e4, e5, e6⟩ := evs5 (iBackward_ev h.1 hK9 hlog hnK (by omega)) (iLogOf_ev (v.length : Int)) (iRoot_ev hf (K + 1) (by omega)) (iInv_ev (p := mdP f) (g := rd fG f) (t := rd fT f) (by omega) (by omega) hrt.1 hrt.2) ht
  refine ⟨n, fun k hk => ?_⟩
  obtain ⟨j, rfl⟩ : ∃ j, k = n + j := ⟨k - n, by omega⟩
  have e5' := e5 j
  rw [show rt f (K + 1) ^ (mdP f - 2).toNat % mdP f = invP f (rt f (K + 1)) from rfl] at e5'
  have w1 : wrap64 ((K : Int) + 1) = ((K + 1 : Nat) : Int) := wsucc (by omega)
  have e3' := e3 j
  rw [hlog] at e3'
  show impl_field_oddBack.f (n + j) (mdP f) (rd fG f) (rd fT f) v = _
  unfold impl_field_oddBack.f
  rw [e2 j, Option.bind_some, e3', Option.bind_some, w1, e4 j, Option.bind_some, e5', Option.bind_some, e6 j, Option.bind_some, oddB_some h hlog]

-- block sOddBack
theorem sOddPow_l {f : Int} (hf : fldOk f) (v out : List Int) (z : Int) (hz : 0 ≤ z) (hz' : z < mdP f) (r : List Int) (n : Nat) (hn : n ≤ 1048576)
    (hr : Ev (fun k => (spec_Inverse.f k f (n : Int)).bind fun t => spec_OddBack.l1 k f v out (mdP f) (n : Int) (tab (2 * n) (fun e => z ^ e % mdP f)) t 0) r) : ∀ (d i : Nat), 2 * n - i = d → i ≤ 2 * n →
    Ev (fun k => spec_OddBack.l0 k f v out (mdP f) (n : Int) z (tab i (fun e => z ^ e % mdP f)) (z ^ i % mdP f) (i : Int)) r := by
  have hm := mdP_range hf
  have m0 : ∀ z : Int, 0 ≤ z % mdP f ∧ z % mdP f < mdP f := fun z => ⟨Int.emod_nonneg _ (by omega), Int.emod_lt_of_pos _ (by omega)⟩
  intro d
  induction d with
  | zero =>
    intro i h hi
    refine Ev.step (fun k => ?_) hr
    simp only [spec_OddBack.l0]
    rw [w64 (by omega) (by omega), if_neg (by omega), show i = 2 * n by omega]
  | succ d ih =>
    intro i h hi
    have key := ih (i + 1) (by omega) (by omega)
    rw [← tab_snoc] at key
    have r2 := m0 (z ^ i)
    have h0 : 0 ≤ z ^ i % mdP f * z := Int.mul_nonneg r2.1 hz
    have h1 : z ^ i % mdP f * z ≤ 2147483648 * 2147483648 := Int.mul_le_mul (by omega) (by omega) hz (by omega)
    have e2 : Int.tmod (wrap64 (z ^ i % mdP f * z)) (mdP f) = z ^ (i + 1) % mdP f := by
      rw [w64 (by omega) (by omega), Int.tmod_eq_emod_of_nonneg h0, Int.pow_succ]; exact ((Md.mod _ _).mul (Md.refl _ _)).emod
    refine Ev.step (fun k => ?_) key
    simp only [spec_OddBack.l0, e2, tab_len]
    rw [w64 (x := 2 * (n : Int)) (by omega) (by omega), if_pos (by omega), if_pos (by omega), if_neg (by omega), wsucc (by omega)]
theorem odd_idx {n j i : Nat} (hn1 : 1 ≤ n) (hn9 : n ≤ 512) (hj : j < n) (hi : i < n) : Int.tmod (wrap64 ((j : Int) * wrap64 (wrap64 (2 * (i : Int)) + 1))) (wrap64 (2 * (n : Int))) = ((j * (2 * i + 1) % (2 * n) : Nat) : Int) := by
  have hb : j * (2 * i + 1) ≤ 512 * 1025 := Nat.mul_le_mul (by omega) (by omega)
  obtain ⟨w1, w2, w3, w4⟩ : wrap64 (2 * (i : Int)) = ((2 * i : Nat) : Int) ∧ wrap64 (((2 * i : Nat) : Int) + 1) = ((2 * i + 1 : Nat) : Int) ∧ wrap64 ((j : Int) * ((2 * i + 1 : Nat) : Int)) = ((j * (2 * i + 1) : Nat) : Int) ∧ wrap64 (2 * (n : Int)) = ((2 * n : Nat) : Int) :=
    ⟨w64n (by omega) (by omega), w64n (by omega) (by omega), w64n (by simp) (by omega), w64n (by omega) (by omega)⟩
  rw [w1, w2, w3, w4, Int.tmod_eq_emod_of_nonneg (Int.natCast_nonneg _)]
  exact (Int.natCast_emod _ _).symm
theorem odd_acc {p S a b : Int} (hp : 0 < p) (h : 0 ≤ S) (h' : S < p) (hp2 : p ≤ 2147483648) (h0 : 0 ≤ a * b) (h1 : a * b ≤ 2147483648 * 2147483648) : Int.tmod (wrap64 (S + wrap64 (a * b))) p = (S + a * b) % p := by
  generalize a * b = c at *
  rw [w64 (x := c) (by omega) (by omega), w64 (by omega) (by omega), Int.tmod_eq_emod_of_nonneg (by omega)]
theorem odd_two {n : Nat} (hn9 : n ≤ 512) : wrap64 (2 * (n : Int)) = 2 * (n : Int) := w64 (by omega) (by omega)
theorem odd_suc {n i : Nat} (hn9 : n ≤ 512) (hi : i < n) : wrap64 ((i : Int) + 1) = ((i + 1 : Nat) : Int) := wsucc (by omega)
theorem sOddSum_l {f : Int} (hf : fldOk f) (v out : List Int) (z by_ : Int) (r : List Int) (n : Nat) (hn1 : 1 ≤ n) (hn9 : n ≤ 512) (hv : v.length = n) (hel : ∀ i : Nat, i < v.length → 0 ≤ rd v (i : Int) ∧ rd v (i : Int) < mdP f) (j : Nat) (hj : j < n)
    (hlen : out.length < 17592186044416)
    (hr : Ev (fun k => spec_OddBack.l1 k f v (out ++ [(sm n (fun m => rd v (m : Int) * (z ^ (j * (2 * m + 1) % (2 * n)) % mdP f)) % mdP f) * by_ % mdP f]) (mdP f) (n : Int) (tab (2 * n) (fun e => z ^ e % mdP f)) by_ ((j + 1 : Nat) : Int)) r) : ∀ (d i : Nat), n - i = d → i ≤ n →
    Ev (fun k => spec_OddBack.l2 k f v out (mdP f) (n : Int) (tab (2 * n) (fun e => z ^ e % mdP f)) by_ (j : Int) (sm i (fun m => rd v (m : Int) * (z ^ (j * (2 * m + 1) % (2 * n)) % mdP f)) % mdP f) (i : Int)) r := by
  have hm := mdP_range hf
  have hme := md_eq hf
  have m0 : ∀ z : Int, 0 ≤ z % mdP f ∧ z % mdP f < mdP f := fun z => ⟨Int.emod_nonneg _ (by omega), Int.emod_lt_of_pos _ (by omega)⟩
  intro d
  induction d with
  | zero =>
    intro i h hi
    have ei : i = n := by omega
    subst ei
    refine Ev.step (fun k => ?_) hr
    simp only [spec_OddBack.l2, sMul, hf, if_true, ← hme, Option.bind_some]
    rw [if_neg (by omega), if_pos hlen, wsucc (by omega)]
  | succ d ih =>
    intro i h hi
    have key := ih (i + 1) (by omega) (by omega)
    have r1 := hel i (by omega)
    have r2 := m0 (z ^ (j * (2 * i + 1) % (2 * n)))
    have r3 := m0 (sm i (fun m => rd v (m : Int) * (z ^ (j * (2 * m + 1) % (2 * n)) % mdP f)))
    have hlt : j * (2 * i + 1) % (2 * n) < 2 * n := Nat.mod_lt _ (by omega)
    have hb : j * (2 * i + 1) ≤ 512 * 1025 := Nat.mul_le_mul (by omega) (by omega)
    have h0 : 0 ≤ rd v (i : Int) * (z ^ (j * (2 * i + 1) % (2 * n)) % mdP f) := Int.mul_nonneg r1.1 r2.1
    have h1 : rd v (i : Int) * (z ^ (j * (2 * i + 1) % (2 * n)) % mdP f) ≤ 2147483648 * 2147483648 := Int.mul_le_mul (by omega) (by omega) r2.1 (by omega)
    have hrd : rd (tab (2 * n) (fun e => z ^ e % mdP f)) ((j * (2 * i + 1) % (2 * n) : Nat) : Int) = z ^ (j * (2 * i + 1) % (2 * n)) % mdP f := tab_rd hlt
    have e3 : (sm i (fun m => rd v (m : Int) * (z ^ (j * (2 * m + 1) % (2 * n)) % mdP f)) % mdP f + rd v (i : Int) * (z ^ (j * (2 * i + 1) % (2 * n)) % mdP f)) % mdP f = sm (i + 1) (fun m => rd v (m : Int) * (z ^ (j * (2 * m + 1) % (2 * n)) % mdP f)) % mdP f := by
      rw [sm]; exact ((Md.mod _ _).add (Md.refl _ _)).emod
    rw [← e3] at key
    generalize sm i (fun m => rd v (m : Int) * (z ^ (j * (2 * m + 1) % (2 * n)) % mdP f)) % mdP f = S at *
    generalize hP : z ^ (j * (2 * i + 1) % (2 * n)) % mdP f = P at *
    have hi' : i < n := by omega
    obtain ⟨c1, c2, c3, c4, c5, c6, c7⟩ : (i : Int) < (n : Int) ∧ 0 ≤ (i : Int) ∧ (i : Int) < (v.length : Int) ∧ ¬ (2 * (n : Int) = 0) ∧ 0 ≤ ((j * (2 * i + 1) % (2 * n) : Nat) : Int) ∧ ((j * (2 * i + 1) % (2 * n) : Nat) : Int) < ((2 * n : Nat) : Int) ∧ ¬ (mdP f = 0) := by
      clear key
      refine ⟨by omega, by omega, by omega, by omega, by omega, by omega, by omega⟩
    have hidx := odd_idx hn1 hn9 hj hi'
    have w4 : wrap64 (2 * (n : Int)) = 2 * (n : Int) := odd_two hn9
    rw [w4] at hidx
    have w5 := odd_acc (p := mdP f) (by clear hidx w4; omega) r3.1 r3.2 (by clear hidx w4; omega) h0 h1
    have w6 : wrap64 ((i : Int) + 1) = ((i + 1 : Nat) : Int) := odd_suc hn9 hi'
    refine Ev.step (fun k => ?_) key
    simp only [spec_OddBack.l2, hidx, w5, w6, hrd, tab_len, w4, c1, c2, c3, c4, c5, c6, c7, if_true, if_false]
theorem sOddOut_l {f : Int} (hf : fldOk f) (v : List Int) (z by_ : Int) (n : Nat) (hn1 : 1 ≤ n) (hn9 : n ≤ 512) (hv : v.length = n) (hel : ∀ i : Nat, i < v.length → 0 ≤ rd v (i : Int) ∧ rd v (i : Int) < mdP f) : ∀ (d j : Nat), n - j = d → j ≤ n →
    Ev (fun k => spec_OddBack.l1 k f v (tab j (fun j => (sm n (fun m => rd v (m : Int) * (z ^ (j * (2 * m + 1) % (2 * n)) % mdP f)) % mdP f) * by_ % mdP f)) (mdP f) (n : Int) (tab (2 * n) (fun e => z ^ e % mdP f)) by_ (j : Int)) (tab n (fun j => (sm n (fun m => rd v (m : Int) * (z ^ (j * (2 * m + 1) % (2 * n)) % mdP f)) % mdP f) * by_ % mdP f)) := by
  intro d
  induction d with
  | zero =>
    intro j h hj
    refine ev_now fun k => ?_
    simp only [spec_OddBack.l1]
    rw [if_neg (by omega), show j = n by omega]
  | succ d ih =>
    intro j h hj
    have key := ih (j + 1) (by omega) (by omega)
    rw [← tab_snoc] at key
    have k1 := sOddSum_l hf v _ z by_ _ n hn1 hn9 hv hel j (by omega) (by rw [tab_len]; omega) key n 0 (by omega) (by omega)
    refine Ev.step (fun k => ?_) k1
    simp only [spec_OddBack.l1]
    rw [if_pos (by omega)]
    simp only [sm, Int.zero_emod]
    rfl
theorem sOddBack_ev (f : Int) (v : List Int) (hn : v.length ≤ 1048576) : Ev (fun k => spec_OddBack.f k f v) (oddB f v) := by
  by_cases h : splitV f v
  · obtain ⟨K, hK9, hlog, hnK, hKT⟩ := split_log h
    have h9 := pow2_9 hK9
    have hf := h.1.1
    have hm := mdP_range hf
    have hme := md_eq hf
    have hrt := rt_range hf (K + 1)
    have hz := invP_range hf (rt f (K + 1))
    have h2 := two_le hf (K := K) (by omega)
    have h2' : ((2 ^ K : Nat) : Int) ≤ mdP f - 1 := by rw [show ((2 ^ K : Nat) : Int) = 2 ^ K by simp]; exact h2
    have i1 := sInv_ev hf (rt f (K + 1)) (by rw [← hme, Int.emod_eq_of_lt hrt.1 hrt.2]; exact rt_ne hf (by omega))
    rw [← hme, Int.emod_eq_of_lt hrt.1 hrt.2, show rt f (K + 1) ^ (mdP f - 2).toNat % mdP f = invP f (rt f (K + 1)) from rfl] at i1
    have i2 := sInv_ev hf ((2 ^ K : Nat) : Int) (by rw [← hme, Int.emod_eq_of_lt (by omega) (by omega)]; omega)
    rw [← hme, show ((2 ^ K : Nat) : Int) % mdP f = ((2 ^ K : Nat) : Int) from Int.emod_eq_of_lt (by omega) (by omega), show ((2 ^ K : Nat) : Int) ^ (mdP f - 2).toNat % mdP f = invP f ((2 ^ K : Nat) : Int) from rfl] at i2
    have k1 := sOddOut_l hf v (invP f (rt f (K + 1))) (invP f ((2 ^ K : Nat) : Int)) (2 ^ K) h9.2 h9.1 hnK (vec_el h.1) (2 ^ K) 0 (by omega) (by omega)
    have k2 : Ev (fun k => (spec_Inverse.f k f ((2 ^ K : Nat) : Int)).bind fun t => spec_OddBack.l1 k f v [] (mdP f) ((2 ^ K : Nat) : Int) (tab (2 * 2 ^ K) (fun e => invP f (rt f (K + 1)) ^ e % mdP f)) t 0) (tab (2 ^ K) (oddF f K v)) := by
      obtain ⟨n, e1, e2⟩ := evs2 i2 k1
      refine ⟨n, fun k hk => ?_⟩
      obtain ⟨j, rfl⟩ : ∃ j, k = n + j := ⟨k - n, by omega⟩
      simp only [e1 j, Option.bind_some]
      exact e2 j
    have k3 := sOddPow_l hf v [] (invP f (rt f (K + 1))) hz.1 hz.2 _ (2 ^ K) (by omega) k2 (2 * 2 ^ K) 0 (by omega) (by omega)
    rw [Int.pow_zero, Int.emod_eq_of_lt (by omega) (by omega)] at k3
    obtain ⟨n, e1, e2, e3, e4, e5⟩ := evs5 (sOpen_ev f v hn) (sLogOf_ev (v.length : Int)) (sRoot_ev hf (K + 1) (by omega)) i1 k3
    refine ⟨n, fun k hk => ?_⟩
    obtain ⟨j, rfl⟩ : ∃ j, k = n + j := ⟨k - n, by omega⟩
    have w1 : wrap64 ((K : Int) + 1) = ((K + 1 : Nat) : Int) := wsucc (by omega)
    simp only [spec_OddBack.f, e1 j, decide_eq_true h, if_true, sMod, ← hme, e2 j, hlog, w1, e3 j, e4 j, Option.bind_some]
    rw [oddB_some h hlog, hnK]
    exact e5 j
  · obtain ⟨n, e1⟩ := evs1 (sOpen_ev f v hn)
    refine ⟨n, fun k hk => ?_⟩
    obtain ⟨j, rfl⟩ : ∃ j, k = n + j := ⟨k - n, by omega⟩
    simp only [spec_OddBack.f, e1 j, decide_eq_false h, Option.bind_some, Bool.false_eq_true, if_false]
    unfold oddB
    rw [if_neg h]

-- block bitP
def bitF : Nat → Nat → Nat
  | 0, _ => 0
  | d + 1, x => if x = 0 then 0 else 1 + bitF d (x / 2)
/-- How many bits a number has. -/
def bitB (x : Nat) : Nat := bitF 21 x
theorem u64_nat {n : Nat} (h : n < 9223372036854775808) : IntKind.u64.wrap (n : Int) = (n : Int) := by
  unfold IntKind.wrap
  have e : (n : Int) % 2 ^ IntKind.u64.bits = n := by show (n : Int) % 2 ^ 64 = n; omega
  rw [e]
  refine if_neg ?_
  show ¬ ((false && _) = true)
  simp

-- block bnoP
/-- The number of the block at this level that a place belongs to. -/
def bno (t x : Nat) : Nat := x / 2 ^ t / 2 * 2 ^ t + x % 2 ^ t
theorem bno_div (t x : Nat) : bno t x / 2 ^ t = x / 2 ^ t / 2 ∧ bno t x % 2 ^ t = x % 2 ^ t := by
  have h0 : 0 < 2 ^ t := Nat.pow_pos (by omega)
  have hr := Nat.mod_lt x h0
  unfold bno
  rw [Nat.mul_comm, Nat.mul_add_div h0, Nat.div_eq_of_lt hr, Nat.mul_add_mod, Nat.mod_mod]
  omega
theorem bno_iff (t x b : Nat) : bno t x = b ↔ (x = posB t b ∨ x = posB t b + 2 ^ t) := by
  have h0 : 0 < 2 ^ t := Nat.pow_pos (by omega)
  have hd := Nat.div_add_mod x (2 ^ t)
  constructor
  · rintro rfl
    obtain ⟨e1, e2⟩ := bno_div t x
    unfold posB
    rw [e1, e2]
    rcases Nat.mod_two_eq_zero_or_one (x / 2 ^ t) with h | h
    · left
      rw [show 2 * (x / 2 ^ t / 2) = x / 2 ^ t by omega]; omega
    · right
      have : 2 ^ t * (x / 2 ^ t) = 2 ^ t * (2 * (x / 2 ^ t / 2)) + 2 ^ t := by
        rw [show x / 2 ^ t = 2 * (x / 2 ^ t / 2) + 1 by omega, Nat.mul_add, Nat.mul_one]
        rw [show 2 * ((2 * (x / 2 ^ t / 2) + 1) / 2) = 2 * (x / 2 ^ t / 2) by omega]
      omega
  · have hr := Nat.mod_lt b h0
    have hb := Nat.div_add_mod b (2 ^ t)
    rintro (rfl | rfl)
    · unfold bno posB
      rw [Nat.mul_add_div h0, Nat.div_eq_of_lt hr, Nat.mul_add_mod, Nat.mod_mod, Nat.add_zero, show 2 * (b / 2 ^ t) / 2 = b / 2 ^ t by omega, Nat.mul_comm]; omega
    · unfold bno posB
      rw [show 2 ^ t * (2 * (b / 2 ^ t)) + b % 2 ^ t + 2 ^ t = 2 ^ t * (2 * (b / 2 ^ t) + 1) + b % 2 ^ t by rw [Nat.mul_add]; omega, Nat.mul_add_div h0, Nat.div_eq_of_lt hr, Nat.mul_add_mod, Nat.mod_mod, Nat.add_zero, show (2 * (b / 2 ^ t) + 1) / 2 = b / 2 ^ t by omega, Nat.mul_comm]; omega
theorem bno_lt {K t x : Nat} (ht : t < K) (hx : x < 2 ^ K) : bno t x < 2 ^ (K - 1) := by
  have h0 : 0 < 2 ^ t := Nat.pow_pos (by omega)
  obtain ⟨m, rfl⟩ : ∃ m, K = t + 1 + m := ⟨K - (t + 1), by omega⟩
  have e2 : 2 ^ (t + 1 + m) = 2 ^ t * (2 * 2 ^ m) := by rw [Nat.pow_add, Nat.pow_succ, Nat.mul_assoc]
  have hq : x / 2 ^ t < 2 * 2 ^ m := Nat.div_lt_of_lt_mul (by rw [← e2]; exact hx)
  have hr := Nat.mod_lt x h0
  unfold bno
  rw [show t + 1 + m - 1 = t + m by omega, Nat.pow_add]
  have h1 : (x / 2 ^ t / 2 + 1) * 2 ^ t ≤ 2 ^ m * 2 ^ t := Nat.mul_le_mul (by omega) (Nat.le_refl _)
  rw [Nat.add_mul, Nat.one_mul] at h1
  rw [Nat.mul_comm (2 ^ t) (2 ^ m)]
  omega
theorem runL_tab (f : Int) (lv : Nat) (v : List Int) (n : Nat) : ∀ (d b : Nat) (g : Nat → Int), runL f lv v d b (tab n g) = tab n (fun x => if b ≤ bno lv x ∧ bno lv x < b + d then stP f lv v x else g x) := by
  intro d
  induction d with
  | zero =>
    intro b g
    rw [runL]
    refine tab_congr fun x _ => ?_
    rw [if_neg (by omega)]
  | succ d ih =>
    intro b g
    rw [runL, tab_set, tab_set, ih]
    refine tab_congr fun x _ => ?_
    have h0 : 0 < 2 ^ lv := Nat.pow_pos (by omega)
    by_cases hb : bno lv x = b
    · have c1 : ¬ (b + 1 ≤ bno lv x ∧ bno lv x < b + 1 + d) := by omega
      have c2 : b ≤ bno lv x ∧ bno lv x < b + (d + 1) := by omega
      rw [if_neg c1, if_pos c2]
      rcases (bno_iff lv x b).1 hb with h | h
      · have c3 : ¬ x = posB lv b + 2 ^ lv := by omega
        rw [if_neg c3, if_pos h, h]
      · rw [if_pos h, h]
    · have hne : ¬ (x = posB lv b ∨ x = posB lv b + 2 ^ lv) := fun h => hb ((bno_iff lv x b).2 h)
      by_cases hc : b + 1 ≤ bno lv x ∧ bno lv x < b + 1 + d
      · have c2 : b ≤ bno lv x ∧ bno lv x < b + (d + 1) := by omega
        rw [if_pos hc, if_pos c2]
      · have c2 : ¬ (b ≤ bno lv x ∧ bno lv x < b + (d + 1)) := by omega
        rw [if_neg hc, if_neg c2, if_neg (fun h => hne (Or.inr h)), if_neg (fun h => hne (Or.inl h))]
theorem stg_two {p W : Int} {s : Nat} {a b : Nat → Int} {x : Nat} (h1 : a x = b x) (h2 : x / 2 ^ s % 2 = 0 → a (x + 2 ^ s) = b (x + 2 ^ s)) (h3 : x / 2 ^ s % 2 ≠ 0 → a (x - 2 ^ s) = b (x - 2 ^ s)) : stg p W s a x = stg p W s b x := by
  unfold stg
  by_cases c : x / 2 ^ s % 2 = 0
  · rw [if_pos c, if_pos c, h1, h2 c]
  · rw [if_neg c, if_neg c, h1, h3 c]
theorem bno_up {t x : Nat} (h : x / 2 ^ t % 2 = 0) : bno t (x + 2 ^ t) = bno t x := by
  have h0 : 0 < 2 ^ t := Nat.pow_pos (by omega)
  unfold bno
  rw [Nat.add_div_right _ h0, Nat.add_mod_right, show (x / 2 ^ t).succ / 2 = x / 2 ^ t / 2 by omega]
theorem bno_down {t x : Nat} (h : x / 2 ^ t % 2 ≠ 0) : bno t (x - 2 ^ t) = bno t x := by
  have h0 : 0 < 2 ^ t := Nat.pow_pos (by omega)
  have h1 : 2 ^ t ≤ x := by
    have hd := Nat.div_add_mod x (2 ^ t)
    have hq1 : 1 ≤ x / 2 ^ t := by
      generalize x / 2 ^ t = q at h
      omega
    have h2 : 2 ^ t * 1 ≤ 2 ^ t * (x / 2 ^ t) := Nat.mul_le_mul (Nat.le_refl _) hq1
    omega
  obtain ⟨y, rfl⟩ : ∃ y, x = y + 2 ^ t := ⟨x - 2 ^ t, by omega⟩
  rw [Nat.add_sub_cancel]
  refine (bno_up ?_).symm
  rw [Nat.add_div_right _ h0] at h
  generalize y / 2 ^ t = q at h ⊢
  omega
/-- How many levels have been run at a place. -/
def hgt (P : List Nat) : Nat → Nat → Nat
  | 0, _ => 0
  | t + 1, x => hgt P t x + if t * 512 + bno t x ∈ P then 1 else 0
theorem hgt_eq {P : List Nat} {x lv : Nat} : ∀ K, lv ≤ K → (∀ t, t < lv → t * 512 + bno t x ∈ P) → (∀ t, lv ≤ t → t < K → t * 512 + bno t x ∉ P) → hgt P K x = lv := by
  intro K
  induction K with
  | zero => intro h _ _; simp [hgt]; omega
  | succ K ih =>
    intro h h1 h2
    rw [hgt]
    by_cases hk : lv ≤ K
    · rw [ih hk h1 (fun t a b => h2 t a (by omega)), if_neg (h2 K hk (by omega))]; rfl
    · have e : lv = K + 1 := by omega
      have hall : ∀ n, n ≤ K → hgt P n x = n := by
        intro n
        induction n with
        | zero => intro _; rfl
        | succ n ihn => intro hn; rw [hgt, ihn (by omega), if_pos (h1 n (by omega))]
      rw [hall K (Nat.le_refl _), if_pos (h1 K (by omega)), e]
theorem hgt_congr {P Q : List Nat} {x : Nat} : ∀ K, (∀ t, t < K → (t * 512 + bno t x ∈ P ↔ t * 512 + bno t x ∈ Q)) → hgt P K x = hgt Q K x := by
  intro K
  induction K with
  | zero => intro _; rfl
  | succ K ih =>
    intro h
    rw [hgt, hgt, ih (fun t ht => h t (by omega))]
    by_cases hp : K * 512 + bno K x ∈ P
    · rw [if_pos hp, if_pos ((h K (by omega)).1 hp)]
    · rw [if_neg hp, if_neg (fun hq => hp ((h K (by omega)).2 hq))]
/-- The row as it stands when these places have been turned. -/
def curP (f : Int) (K : Nat) (a : Nat → Int) (P : List Nat) (x : Nat) : Int := lev (mdP f) (rt f) a (hgt P K x) x

-- block oneVec
def oneF (y : Nat) : Int := if y = 0 then 1 else 0
theorem oneF_zero : oneF 0 = 1 := rfl
theorem oneF_pos {y : Nat} (h : 1 ≤ y) : oneF y = 0 := by unfold oneF; rw [if_neg (by omega)]

-- block sRingOne
theorem sRingOne_l (n : Nat) (hn : n ≤ 512) : ∀ (d i : Nat), n - i = d → 1 ≤ i → i ≤ n → Ev (fun k => spec_RingOne.l0 k (n : Int) (tab i oneF) (i : Int)) (tab n oneF) := by
  intro d
  induction d with
  | zero =>
    intro i h h1 hi
    obtain rfl : i = n := by omega
    refine ev_now fun k => ?_
    simp only [spec_RingOne.l0]
    rw [if_neg (by omega)]
  | succ d ih =>
    intro i h h1 hi
    have key := ih (i + 1) (by omega) (by omega) (by omega)
    rw [← tab_snoc, oneF_pos h1] at key
    refine Ev.step (fun k => ?_) key
    simp only [spec_RingOne.l0, tab_len]
    rw [if_pos (by omega), if_pos (by omega), wsucc (by omega)]
theorem sRingOne_ev {f : Int} (hf : fldOk f) {K n : Nat} (hK9 : K ≤ 9) (hlog : logB (n : Int) = K) (hn : n = 2 ^ K) (hKT : (K : Int) ≤ rd fT f) : Ev (fun k => spec_RingOne.f k f (n : Int)) (tab n oneF) := by
  have h9 := pow2_9 hK9
  have ht : two f = rd fT f := by unfold two; rw [if_pos hf]
  have key := sRingOne_l n (by omega) (n - 1) 1 rfl (by omega) (by omega)
  rw [show tab 1 oneF = ([1] : List Int) from rfl] at key
  obtain ⟨m, e1, e2, e3⟩ := evs3 (sLogOf_ev (n : Int)) (sTwo_ev f) key
  refine ⟨m + 1, fun k hk => ?_⟩
  obtain ⟨j, rfl⟩ : ∃ j, k = m + (j + 1) := ⟨k - m - 1, by omega⟩
  have e3' : spec_RingOne.l0 (m + j) (n : Int) [1] 1 = some (tab n oneF) := e3 j
  simp only [spec_RingOne.f, e1, e2, hlog, ht, Option.bind_some]
  rw [if_neg (by omega), decide_eq_false (by omega), show m + (j + 1) = m + j + 1 from rfl]
  simp only [spec_RingOne.j0, Bool.false_eq_true, if_false]
  exact e3'

-- block vecPtabC
theorem vecP_tabC {f : Int} {v : List Int} (h : vecP f v) {n : Nat} (hn : n = v.length) {g : Nat → Int} (hg : ∀ i, i < n → 0 ≤ g i ∧ g i < mdP f) : vecP f (tab n g) := by
  refine ⟨h.1, by rw [tab_len, hn]; exact h.2.1, by rw [tab_len, hn]; exact h.2.2.1, (elemB_iff _ _).2 fun x hx => ?_⟩
  obtain ⟨i, hi, rfl⟩ := List.getElem_of_mem hx
  rw [← rd_eq hi, tab_rd (by rw [tab_len] at hi; exact hi)]
  exact hg i (by rw [tab_len] at hi; exact hi)

-- block iVec2
theorem iVec2_ev (f : Int) (a b : List Int) (ha : vecP f a) (hb : vecP f b) (he : b.length = a.length) (hn : a.length ≤ 1048576) : Ev (fun k => impl_vectorField.f k f [a, b]) (mdP f, rd fG f, rd fT f, true) := by
  have key := iVec_l f (rd fG f) [a, b] (by simp) (by
    intro i
    cases i with
    | zero => exact hn
    | succ i =>
      cases i with
      | zero => show b.length ≤ 1048576; omega
      | succ i => simp only [rd_L2, Int.toNat_natCast, List.getElem?_cons_succ]; simp) 2 0 rfl (by simp)
  have e0 : vecsAt f [a, b] 0 := ⟨ha.2.1, ha.2.2.1, ha.2.2.2, rfl⟩
  have e1 : vecsAt f [a, b] 1 := ⟨hb.2.1, hb.2.2.1, hb.2.2.2, he⟩
  have e : allF 2 0 (fun j => decide (vecsAt f [a, b] j)) = true := by
    simp only [allF, decide_eq_true e0, decide_eq_true e1, Bool.and_true]
  rw [if_pos e] at key
  refine Ev.congr (fun k => ?_) key
  simp only [impl_vectorField.f, iFld, if_pos ha.1, Option.bind_some, if_true]
  rfl

-- block prodP
def pr : Nat → (Nat → Int) → Int
  | 0, _ => 1
  | n + 1, g => pr n g * g n
theorem pr_mul {p : Int} {a b c : Nat → Int} : ∀ n, (∀ i, i < n → Md p (c i) (a i * b i)) → Md p (pr n c) (pr n a * pr n b) := by
  intro n
  induction n with
  | zero => intro _; exact Md.of_eq rfl
  | succ n ih =>
    intro h
    refine ((ih fun i hi => h i (by omega)).mul (h n (by omega))).trans (Md.of_eq ?_)
    simp only [pr]
    grind

-- block lawsCp
theorem lawsCp_l (l : List Int) (hn : l.length ≤ 1048576) : ∀ (d i : Nat), l.length - i = d → i ≤ l.length → Ev (fun k => laws_cp.l0 k l (l.take i) (i : Int)) l := by
  intro d
  induction d with
  | zero =>
    intro i h hi
    refine ev_now fun k => ?_
    simp only [laws_cp.l0]
    rw [if_neg (by omega), List.take_of_length_le (by omega)]
  | succ d ih =>
    intro i h hi
    refine Ev.step (fun k => ?_) (ih (i + 1) (by omega) (by omega))
    simp only [laws_cp.l0]
    rw [if_pos (by omega), if_pos (by omega), if_pos (by simp; omega), wsucc (by omega), rd_eq (by omega), List.take_append_getElem (by omega)]
theorem lawsCp_ev (l : List Int) (hn : l.length ≤ 1048576) : Ev (fun k => laws_cp.f k l) l := Ev.congr (fun k => rfl) (lawsCp_l l hn l.length 0 (by omega) (by omega))

-- block lawsSame
theorem lawsSame_l (l : List Int) (hn : l.length ≤ 1048576) : ∀ (d i : Nat), l.length - i = d → i ≤ l.length → Ev (fun k => laws_same.l0 k l l (i : Int)) true := by
  intro d
  induction d with
  | zero =>
    intro i h hi
    refine ev_now fun k => ?_
    simp only [laws_same.l0]
    rw [if_neg (by omega)]
  | succ d ih =>
    intro i h hi
    refine Ev.step (fun k => ?_) (ih (i + 1) (by omega) (by omega))
    simp only [laws_same.l0]
    rw [if_pos (by omega), if_pos (by omega), if_pos (by omega), if_pos trivial, wsucc (by omega)]
theorem lawsSame_ev (l : List Int) (hn : l.length ≤ 1048576) : Ev (fun k => laws_same.f k l l) true := by
  refine Ev.congr (fun k => ?_) (lawsSame_l l hn l.length 0 (by omega) (by omega))
  simp only [laws_same.f, if_true]
  rfl

-- block primeN
/-! no number from d on, 2^n of them, divides p (below p) -/
def tdv (p : Nat) : Nat → Nat → Bool
  | 0, d => p % d != 0 || decide (p ≤ d)
  | n + 1, d => tdv p n d && tdv p n (d + 2 ^ n)
theorem tdv_spec (p : Nat) : ∀ n d, tdv p n d = true → ∀ x, d ≤ x → x < d + 2 ^ n → p % x ≠ 0 ∨ p ≤ x := by
  intro n
  induction n with
  | zero =>
    intro d h x h1 h2
    have : x = d := by omega
    subst this
    simp only [tdv, Bool.or_eq_true, bne_iff_ne, decide_eq_true_eq] at h
    exact h
  | succ n ih =>
    intro d h x h1 h2
    simp only [tdv, Bool.and_eq_true] at h
    rw [Nat.pow_succ] at h2
    by_cases c : x < d + 2 ^ n
    · exact ih d h.1 x h1 c
    · exact ih (d + 2 ^ n) h.2 x (by omega) (by omega)
theorem tdv_prime {p : Nat} (h2 : 2 ≤ p) (hp : p < 32770 * 32770) (h : tdv p 15 2 = true) {d : Nat} (hd : d ∣ p) : d = 1 ∨ d = p := by
  obtain ⟨e, he⟩ := hd
  have key : ∀ x y : Nat, p = x * y → 2 ≤ x → x < 32770 → x = p := by
    intro x y hxy hx hx2
    rcases tdv_spec p 15 2 h x hx (by omega) with c | c
    · exact absurd (by rw [hxy]; exact Nat.mul_mod_right x y) c
    · refine Nat.le_antisymm (Nat.le_of_dvd (by omega) ⟨y, hxy⟩) c
  by_cases d1 : d = 1
  · exact .inl d1
  have d0 : d ≠ 0 := by rintro rfl; omega
  have e0 : e ≠ 0 := by rintro rfl; omega
  by_cases c : d < 32770
  · exact .inr (key d e he (by omega) c)
  · by_cases e1 : e = 1
    · exact .inr (by rw [he, e1, Nat.mul_one])
    · by_cases ce : e < 32770
      · have h3 := key e d (by rw [he, Nat.mul_comm]) (by omega) ce
        rw [h3] at he
        have : p * 1 < d * p := by
          rw [Nat.mul_comm d p]
          exact Nat.mul_lt_mul_of_pos_left (by omega) (by omega)
        omega
      · have : 32770 * 32770 ≤ d * e := Nat.mul_le_mul (by omega) (by omega)
        omega
theorem prime_mul {p : Nat} (hpr : ∀ d, d ∣ p → d = 1 ∨ d = p) {a b : Nat} (h : p ∣ a * b) : p ∣ a ∨ p ∣ b := by
  rcases hpr _ (Nat.gcd_dvd_left p a) with c | c
  · exact .inr (Nat.Coprime.dvd_of_dvd_mul_left c h)
  · exact .inl (by rw [← c]; exact Nat.gcd_dvd_right p a)
theorem fld_prime {f : Int} (h : fldOk f) : ∀ d, d ∣ (mdP f).toNat → d = 1 ∨ d = (mdP f).toNat := by
  have hm := mdP_range h
  refine fun d => tdv_prime (by omega) (by omega) ?_
  exact fld_cases (Q := fun f => tdv (mdP f).toNat 15 2 = true) h (by decide +kernel) (by decide +kernel) (by decide +kernel) (by decide +kernel) (by decide +kernel) (by decide +kernel) (by decide +kernel) (by decide +kernel) (by decide +kernel)
theorem md_dvd {p a : Int} : Md p a 0 ↔ p ∣ a := ⟨fun ⟨c, hc⟩ => ⟨c, by rw [hc, Int.zero_add]⟩, fun ⟨c, hc⟩ => ⟨c, by rw [hc, Int.zero_add]⟩⟩
theorem fld_mul {f : Int} (h : fldOk f) {a b : Int} (hab : Md (mdP f) (a * b) 0) : Md (mdP f) a 0 ∨ Md (mdP f) b 0 := by
  have hm := mdP_range h
  have e : mdP f = ((mdP f).toNat : Int) := by omega
  rw [md_dvd, e, ← Int.natAbs_dvd_natAbs, Int.natAbs_mul, Int.natAbs_natCast] at hab
  rw [md_dvd, md_dvd, e, ← Int.natAbs_dvd_natAbs, ← Int.natAbs_dvd_natAbs, Int.natAbs_natCast]
  exact prime_mul (fld_prime h) hab
theorem pr_zero {f : Int} (h : fldOk f) (g : Nat → Int) : ∀ n, Md (mdP f) (pr n g) 0 ↔ ∃ i, i < n ∧ Md (mdP f) (g i) 0 := by
  intro n
  induction n with
  | zero =>
    have hm := mdP_range h
    refine ⟨fun c => ?_, fun ⟨i, hi, _⟩ => absurd hi (by omega)⟩
    have := c.emod
    simp only [pr, Int.zero_emod] at this
    rw [Int.emod_eq_of_lt (by omega) (by omega)] at this
    exact absurd this (by decide)
  | succ n ih =>
    simp only [pr]
    constructor
    · intro c
      rcases fld_mul h c with c | c
      · obtain ⟨i, hi, hc⟩ := ih.1 c
        exact ⟨i, by omega, hc⟩
      · exact ⟨n, by omega, c⟩
    · rintro ⟨i, hi, hc⟩
      by_cases e : i = n
      · subst e
        exact ((Md.refl _ _).mul hc).trans (Md.of_eq (Int.mul_zero _))
      · exact ((ih.2 ⟨i, by omega, hc⟩).mul (Md.refl _ _)).trans (Md.of_eq (Int.zero_mul _))

-- block fermatP
/-! Fermat's little theorem, by the binomials -/
def chs : Nat → Nat → Nat
  | _, 0 => 1
  | 0, _ + 1 => 0
  | n + 1, k + 1 => chs n k + chs n (k + 1)
theorem chs_zero : ∀ n k, n < k → chs n k = 0
  | 0, 0, h => by omega
  | 0, k + 1, _ => rfl
  | n + 1, 0, h => by omega
  | n + 1, k + 1, h => by simp only [chs]; rw [chs_zero n k (by omega), chs_zero n (k + 1) (by omega)]
theorem chs_self : ∀ n, chs n n = 1
  | 0 => rfl
  | n + 1 => by simp only [chs]; rw [chs_self n, chs_zero n (n + 1) (by omega)]
theorem chs_mul : ∀ n k, (k + 1) * chs (n + 1) (k + 1) = (n + 1) * chs n k
  | 0, 0 => rfl
  | 0, k + 1 => by simp [chs]
  | n + 1, 0 => by
    have h := chs_mul n 0
    have e : chs (n + 1 + 1) (0 + 1) = 1 + chs (n + 1) (0 + 1) := rfl
    have e1 : chs n 0 = 1 := by cases n <;> rfl
    rw [e, Nat.mul_add, h, e1]
    simp only [chs]
    omega
  | n + 1, k + 1 => by
    have h1 := chs_mul n k
    have h2 := chs_mul n (k + 1)
    have e : chs (n + 1 + 1) (k + 1 + 1) = chs (n + 1) (k + 1) + chs (n + 1) (k + 1 + 1) := rfl
    have e2 : chs (n + 1) (k + 1) = chs n k + chs n (k + 1) := rfl
    rw [e, Nat.mul_add, h2, Nat.add_mul (k + 1) 1, h1, e2, Nat.add_mul (n + 1) 1, Nat.mul_add (n + 1)]
    omega
theorem binom (a : Int) : ∀ n : Nat, (a + 1) ^ n = sm (n + 1) (fun k => (chs n k : Int) * a ^ k) := by
  intro n
  induction n with
  | zero => simp [sm, chs]
  | succ n ih =>
    rw [Int.pow_succ, ih, Int.mul_add, Int.mul_one, ← sm_mul_right]
    have h1 : sm (n + 1 + 1) (fun k => (chs (n + 1) k : Int) * a ^ k) = 1 + sm (n + 1) (fun k => ((chs n k : Int) + (chs n (k + 1) : Int)) * a ^ (k + 1)) := by
      rw [show n + 1 + 1 = 1 + (n + 1) by omega, sm_append]
      congr 1
      · simp [sm, chs]
      · refine sm_congr fun k _ => ?_
        rw [Nat.add_comm 1 k]
        simp [chs]
    have h2 : sm (n + 1) (fun k => (chs n k : Int) * a ^ k) = 1 + sm (n + 1) (fun k => (chs n (k + 1) : Int) * a ^ (k + 1)) := by
      have e : sm (1 + (n + 1)) (fun k => (chs n k : Int) * a ^ k) = sm (n + 1) (fun k => (chs n k : Int) * a ^ k) := by
        rw [show 1 + (n + 1) = n + 1 + 1 by omega]
        simp only [sm]
        rw [chs_zero n (n + 1) (by omega)]
        simp
      rw [← e, sm_append]
      congr 1
      · simp only [sm]
        cases n <;> simp [chs]
      · refine sm_congr fun k _ => ?_
        rw [Nat.add_comm 1 k]
    rw [h1, h2]
    have h3 : sm (n + 1) (fun k => ((chs n k : Int) + (chs n (k + 1) : Int)) * a ^ (k + 1)) = sm (n + 1) (fun k => (chs n k : Int) * a ^ k * a) + sm (n + 1) (fun k => (chs n (k + 1) : Int) * a ^ (k + 1)) := by
      rw [← sm_add]
      refine sm_congr fun k _ => ?_
      rw [Int.add_mul, Int.pow_succ, Int.mul_assoc]
    rw [h3]
    omega
theorem fermat1 {p : Nat} (h2 : 2 ≤ p) (hpr : ∀ d, d ∣ p → d = 1 ∨ d = p) (a : Int) : Md (p : Int) ((a + 1) ^ p) (a ^ p + 1) := by
  obtain ⟨n, rfl⟩ : ∃ n, p = n + 1 := ⟨p - 1, by omega⟩
  rw [binom, sm, chs_self]
  refine Md.trans (Md.add ?_ (Md.refl _ _)) (Md.of_eq (show (1 : Int) + ((1 : Nat) : Int) * a ^ (n + 1) = a ^ (n + 1) + 1 by rw [Int.natCast_one, Int.one_mul, Int.add_comm]))
  have es : ∀ g : Nat → Int, sm (n + 1) g = g 0 + sm n (fun i => g (1 + i)) := fun g => by
    rw [Nat.add_comm n 1, sm_append]
    simp [sm]
  rw [es]
  refine Md.trans (Md.add (b := 1) (d := 0) (Md.of_eq (by simp [chs])) ?_) (Md.of_eq (by omega))
  refine Md.trans (Md.sm (g := fun _ => 0) fun k hk => ?_) (Md.of_eq (sm_zero _))
  have hd : (n + 1) ∣ chs (n + 1) (1 + k) := by
    have e := chs_mul n k
    rw [Nat.add_comm k 1] at e
    rcases prime_mul (p := n + 1) hpr ⟨_, e⟩ with c | c
    · exact absurd (Nat.le_of_dvd (by omega) c) (by omega)
    · exact c
  obtain ⟨c, hc⟩ := hd
  refine ⟨(c : Int) * a ^ (1 + k), ?_⟩
  rw [hc, Int.natCast_mul, Int.mul_assoc, Int.zero_add]
theorem fermat2 {p : Nat} (h2 : 2 ≤ p) (hpr : ∀ d, d ∣ p → d = 1 ∨ d = p) : ∀ a : Nat, Md (p : Int) ((a : Int) ^ p) a := by
  intro a
  induction a with
  | zero => exact Md.of_eq (by rw [Int.natCast_zero, Int.zero_pow (by omega)])
  | succ a ih =>
    rw [Int.natCast_add, Int.natCast_one]
    exact (fermat1 h2 hpr (a : Int)).trans (ih.add (Md.refl _ _))
theorem fld_inv {f : Int} (h : fldOk f) {a : Int} (h0 : 0 < a) (h1 : a < mdP f) : Md (mdP f) (a * invP f a) 1 := by
  have hm := mdP_range h
  have e : mdP f = ((mdP f).toNat : Int) := by omega
  have hf := fermat2 (p := (mdP f).toNat) (by omega) (fld_prime h) a.toNat
  rw [← e, Int.toNat_of_nonneg (by omega)] at hf
  have hs : Md (mdP f) (a * (a * a ^ (mdP f - 2).toNat - 1)) 0 := by
    refine Md.trans (Md.of_eq ?_) ((hf.sub (Md.refl _ a)).trans (Md.of_eq (Int.sub_self _)))
    rw [Int.mul_sub, Int.mul_one]
    congr 1
    rw [show (mdP f).toNat = (mdP f - 2).toNat + 1 + 1 by omega, Int.pow_succ, Int.pow_succ]
    rw [Int.mul_comm a (a * _), Int.mul_comm a (a ^ _)]
  rcases fld_mul h hs with c | c
  · have := c.emod
    rw [Int.zero_emod, Int.emod_eq_of_lt (by omega) h1] at this
    omega
  · have c2 : Md (mdP f) (a * a ^ (mdP f - 2).toNat) 1 := by
      have := c.add (Md.refl _ 1)
      rwa [Int.sub_add_cancel, Int.zero_add] at this
    exact ((Md.refl _ a).mul (Md.mod _ _)).trans c2

-- block ringM
theorem geo_step {p x : Int} (K : Nat) : Md p (sm (2 ^ (K + 1)) (fun i => x ^ i)) (sm (2 ^ K) (fun i => x ^ i) * (1 + x ^ 2 ^ K)) := by
  refine Md.of_eq ?_
  rw [Nat.pow_succ, Nat.mul_two, sm_append]
  have h : sm (2 ^ K) (fun i => x ^ (2 ^ K + i)) = x ^ 2 ^ K * sm (2 ^ K) (fun i => x ^ i) := by
    rw [← sm_mul]; exact sm_congr fun i _ => Int.pow_add ..
  rw [h, Int.mul_add, Int.mul_one, Int.mul_comm (x ^ 2 ^ K)]
theorem geo_zero {p x : Int} {t : Nat} (h : Md p (x ^ 2 ^ t) (-1)) : ∀ d, Md p (sm (2 ^ (t + 1 + d)) (fun i => x ^ i)) 0 := by
  intro d
  induction d with
  | zero =>
    refine (geo_step t).trans ?_
    exact ((Md.refl p (sm (2 ^ t) (fun i => x ^ i))).mul ((Md.refl p 1).add h)).trans (Md.of_eq (by simp))
  | succ d ih =>
    refine (geo_step (t + 1 + d)).trans ?_
    exact (ih.mul (Md.refl _ _)).trans (Md.of_eq (Int.zero_mul _))
theorem neg_odd (q : Nat) : (-1 : Int) ^ (2 * q + 1) = -1 := by
  rw [Int.pow_succ, Int.pow_mul, show (-1 : Int) ^ 2 = 1 from rfl, Int.one_pow]; rfl
theorem two_odd : ∀ K d : Nat, 0 < d → d < 2 ^ K → ∃ s q, d = 2 ^ s * (2 * q + 1) ∧ s < K := by
  intro K
  induction K with
  | zero => intro d h1 h2; simp at h2; omega
  | succ K ih =>
    intro d h1 h2
    rcases Nat.mod_two_eq_zero_or_one d with h | h
    · obtain ⟨s, q, e, hs⟩ := ih (d / 2) (by omega) (by rw [Nat.pow_succ] at h2; omega)
      refine ⟨s + 1, q, ?_, by omega⟩
      rw [Nat.pow_succ, Nat.mul_right_comm, ← e]; omega
    · exact ⟨0, d / 2, by rw [Nat.pow_zero]; omega, by omega⟩
/-- Powers of a root, but the whole ones, sum up to nothing. -/
theorem orth {p w : Int} {K d : Nat} (hw : ∀ s, s + 1 = K → Md p (w ^ 2 ^ s) (-1)) (h0 : 0 < d) (hd : d < 2 ^ K) : Md p (sm (2 ^ K) (fun i => (w ^ d) ^ i)) 0 := by
  obtain ⟨s, q, e, hs⟩ := two_odd K d h0 hd
  have h1 := hw (K - 1) (by omega)
  have e2 : d * 2 ^ (K - 1 - s) = 2 ^ (K - 1) * (2 * q + 1) := by
    rw [e, Nat.mul_right_comm, ← Nat.pow_add, show s + (K - 1 - s) = K - 1 by omega]
  have h2 : Md p ((w ^ d) ^ 2 ^ (K - 1 - s)) (-1) := by
    rw [← Int.pow_mul, e2, Int.pow_mul]
    refine (h1.pow _).trans (Md.of_eq ?_)
    exact neg_odd _
  have h3 := geo_zero h2 s
  rwa [show K - 1 - s + 1 + s = K by omega] at h3
/-- A product of rows around a corner: what one pair adds at one place. -/
def cvT (n : Nat) (e : Int) (a b : Nat → Int) (i j k : Nat) : Int := if i + j = k then a i * b j else if i + j = k + n then e * (a i * b j) else 0
def cvV (n : Nat) (e : Int) (a b : Nat → Int) (k : Nat) : Int := sm n (fun i => sm n (fun j => cvT n e a b i j k))
theorem cvT_sum {p w e : Int} {n : Nat} (hw : Md p (w ^ n) e) (a b : Nat → Int) {i j : Nat} (hi : i < n) (hj : j < n) : Md p (sm n (fun k => cvT n e a b i j k * w ^ k)) (a i * w ^ i * (b j * w ^ j)) := by
  by_cases h : i + j < n
  · have e1 : sm n (fun k => cvT n e a b i j k * w ^ k) = sm n (fun k => if k = i + j then a i * b j * w ^ k else 0) := sm_congr fun k hk => by
      unfold cvT
      by_cases h1 : k = i + j
      · rw [if_pos h1.symm, if_pos h1]
      · rw [if_neg (fun hh => h1 hh.symm), if_neg (by omega), if_neg h1, Int.zero_mul]
    rw [e1, sm_one _ _ h, Int.pow_add]
    exact Md.of_eq (by grind)
  · have e1 : sm n (fun k => cvT n e a b i j k * w ^ k) = sm n (fun k => if k = i + j - n then e * (a i * b j) * w ^ k else 0) := sm_congr fun k hk => by
      unfold cvT
      by_cases h1 : k = i + j - n
      · rw [if_neg (by omega), if_pos (by omega), if_pos h1]
      · rw [if_neg (by omega), if_neg (by omega), if_neg h1, Int.zero_mul]
    rw [e1, sm_one _ _ (show i + j - n < n by omega)]
    have e2 : w ^ i * w ^ j = w ^ n * w ^ (i + j - n) := by rw [← Int.pow_add, ← Int.pow_add]; congr 1; omega
    have h2 : Md p (a i * b j * (w ^ n * w ^ (i + j - n))) (a i * b j * (e * w ^ (i + j - n))) := (Md.refl _ _).mul (hw.mul (Md.refl _ _))
    refine Md.trans (Md.of_eq ?_) (h2.symm.trans (Md.of_eq ?_))
    · grind
    · rw [← e2]; grind
theorem cv_value {p w e : Int} {n : Nat} (hw : Md p (w ^ n) e) (a b : Nat → Int) : Md p (sm n (fun k => cvV n e a b k * w ^ k)) (sm n (fun i => a i * w ^ i) * sm n (fun j => b j * w ^ j)) := by
  have e1 : sm n (fun k => cvV n e a b k * w ^ k) = sm n (fun i => sm n (fun j => sm n (fun k => cvT n e a b i j k * w ^ k))) := by
    unfold cvV
    rw [sm_congr (g := fun k => sm n (fun i => sm n (fun j => cvT n e a b i j k * w ^ k))) (fun k _ => by
      rw [← sm_mul_right]; exact sm_congr fun i _ => (sm_mul_right ..).symm), sm_comm]
    exact sm_congr fun i _ => sm_comm ..
  rw [e1]
  refine (Md.sm fun i hi => Md.sm fun j hj => cvT_sum hw a b hi hj).trans (Md.of_eq ?_)
  rw [← sm_mul_right]
  exact sm_congr fun i _ => sm_mul ..
theorem cvV_congr {n : Nat} {e : Int} {a a' b b' : Nat → Int} (ha : ∀ i, i < n → a i = a' i) (hb : ∀ i, i < n → b i = b' i) (k : Nat) : cvV n e a b k = cvV n e a' b' k :=
  sm_congr fun i hi => sm_congr fun j hj => by unfold cvT; rw [ha i hi, hb j hj]
theorem two_inv {f : Int} (h : fldOk f) (K : Nat) : Md (mdP f) (((2 ^ K : Nat) : Int) * invP f ((2 ^ K : Nat) : Int)) 1 := by
  have hm := mdP_range h
  have h2 : Md (mdP f) ((2 : Int) ^ (mdP f - 1).toNat) 1 := by
    refine Md.of_emod ?_
    rw [show (1 : Int) % mdP f = 1 from Int.emod_eq_of_lt (by omega) (by omega)]
    have e := pm_int (mdP f).toNat 40 2 (mdP f - 1).toNat (by omega)
    rw [show (((mdP f).toNat : Nat) : Int) = mdP f by omega] at e
    rw [show (2 : Int) = ((2 : Nat) : Int) from rfl, e]
    exact fld_cases (Q := fun f => (pm (mdP f).toNat 40 2 (mdP f - 1).toNat : Int) = 1) h (by decide +kernel) (by decide +kernel) (by decide +kernel) (by decide +kernel) (by decide +kernel) (by decide +kernel) (by decide +kernel) (by decide +kernel) (by decide +kernel)
  unfold invP
  refine ((Md.refl _ _).mul (Md.mod _ _)).trans (Md.trans (Md.of_eq ?_) ((h2.pow K).trans (Md.of_eq Int.one_pow)))
  rw [show ((2 ^ K : Nat) : Int) = 2 ^ K by simp, Int.mul_comm, ← Int.pow_succ, ← Int.pow_mul, ← Int.pow_mul, Nat.mul_comm]
  congr 2; omega

-- block oddV
/-- The values of a row at the odd powers of a root. -/
def oddV (f : Int) (K : Nat) (v : List Int) (i : Nat) : Int := sm (2 ^ K) (fun m => rd v (m : Int) * (rt f (K + 1) ^ (2 * i + 1)) ^ m) % mdP f
theorem inv_neg {p z y : Int} {n : Nat} (hz : Md p (z * y) 1) (h : Md p (z ^ n) (-1)) : Md p (y ^ n) (-1) := by
  have h1 := (hz.pow n).trans (Md.of_eq Int.one_pow)
  rw [Int.mul_pow] at h1
  have h2 := (h.symm.mul (Md.refl p (y ^ n))).trans h1
  exact (Md.of_eq (show y ^ n = -1 * (-1 * y ^ n) by grind)).trans (((Md.refl p (-1)).mul h2).trans (Md.of_eq (by simp)))
theorem odd_geo {p w : Int} {K d : Nat} (hw : Md p (w ^ 2 ^ K) (-1)) (h0 : 0 < d) (hd : d < 2 ^ K) : Md p (sm (2 ^ K) (fun i => (w ^ d) ^ (2 * i + 1))) 0 := by
  have h1 := orth (p := p) (w := w * w) (K := K) (d := d) (fun s hs => by
    subst hs
    rw [show w * w = w ^ 2 by grind, ← Int.pow_mul, Nat.mul_comm, ← Nat.pow_succ]; exact hw) h0 hd
  have e : sm (2 ^ K) (fun i => (w ^ d) ^ (2 * i + 1)) = sm (2 ^ K) (fun i => ((w * w) ^ d) ^ i) * w ^ d := by
    rw [← sm_mul_right]
    refine sm_congr fun i _ => ?_
    rw [Int.pow_succ, Int.pow_mul, show (w ^ d) ^ 2 = (w * w) ^ d by rw [Int.mul_pow]; grind]
  rw [e]
  exact (h1.mul (Md.refl _ _)).trans (Md.of_eq (Int.zero_mul _))
theorem pow_cancel {p z y : Int} (hz : Md p (z * y) 1) {m j : Nat} (h : j ≤ m) : Md p (z ^ m * y ^ j) (z ^ (m - j)) := by
  have e : z ^ m * y ^ j = z ^ (m - j) * (z * y) ^ j := by
    rw [Int.mul_pow, ← Int.mul_assoc, ← Int.pow_add, show m - j + j = m by omega]
  rw [e]
  exact ((Md.refl _ _).mul (hz.pow j)).trans (Md.of_eq (by rw [Int.one_pow, Int.mul_one]))
/-- The row comes back from its odd values. -/
theorem back_of_odd {f : Int} (hf : fldOk f) (K : Nat) (hKT : (K : Int) + 1 ≤ rd fT f) (v : List Int) (hn : v.length = 2 ^ K) (hel : ∀ i : Nat, i < v.length → 0 ≤ rd v (i : Int) ∧ rd v (i : Int) < mdP f) (j : Nat) (hj : j < 2 ^ K) :
    oddF f K (tab (2 ^ K) (oddV f K v)) j = rd v (j : Int) := by
  have hm := mdP_range hf
  have hT := fT_range hf
  have hz : Md (mdP f) (rt f (K + 1) * invP f (rt f (K + 1))) 1 := rt_inv hf (s := K + 1) (by omega)
  have hneg : Md (mdP f) (rt f (K + 1) ^ 2 ^ K) (-1) := (roots hf).half_pow K (by omega)
  have hi := two_inv hf K
  unfold oddF
  generalize invP f ((2 ^ K : Nat) : Int) = by_ at *
  generalize hy0 : invP f (rt f (K + 1)) = y at *
  have hyn := inv_neg hz hneg
  have hy2 : Md (mdP f) (y ^ (2 * 2 ^ K)) 1 := by
    rw [Nat.mul_comm, Int.pow_mul]
    exact (hyn.pow 2).trans (Md.of_eq (by simp))
  have hsum : Md (mdP f) (sm (2 ^ K) (fun m => rd (tab (2 ^ K) (oddV f K v)) (m : Int) * (y ^ (j * (2 * m + 1) % (2 * 2 ^ K)) % mdP f))) (rd v (j : Int) * ((2 ^ K : Nat) : Int)) := by
    have h1 : Md (mdP f) (sm (2 ^ K) (fun m => rd (tab (2 ^ K) (oddV f K v)) (m : Int) * (y ^ (j * (2 * m + 1) % (2 * 2 ^ K)) % mdP f)))
        (sm (2 ^ K) (fun i => sm (2 ^ K) (fun m => rd v (m : Int) * (rt f (K + 1) ^ m * y ^ j) ^ (2 * i + 1)))) := by
      refine Md.sm fun i hi => ?_
      rw [tab_rd hi]
      unfold oddV
      refine ((Md.mod _ _).mul ((Md.mod _ _).trans (pow_per hy2 _))).trans (Md.of_eq ?_)
      rw [← sm_mul_right]
      refine sm_congr fun m _ => ?_
      rw [Int.mul_pow, ← Int.pow_mul, ← Int.pow_mul, ← Int.pow_mul, Int.mul_assoc, Nat.mul_comm m]
    refine h1.trans ?_
    rw [sm_comm]
    have h2 : Md (mdP f) (sm (2 ^ K) (fun m => sm (2 ^ K) (fun i => rd v (m : Int) * (rt f (K + 1) ^ m * y ^ j) ^ (2 * i + 1)))) (sm (2 ^ K) (fun m => if m = j then rd v (m : Int) * ((2 ^ K : Nat) : Int) else 0)) := by
      refine Md.sm fun m hm' => ?_
      simp only [sm_mul]
      by_cases hmj : m = j
      · subst hmj
        rw [if_pos rfl]
        refine (Md.refl _ _).mul ?_
        have h3 : Md (mdP f) (rt f (K + 1) ^ m * y ^ m) 1 := by
          have := pow_cancel hz (Nat.le_refl m)
          rwa [Nat.sub_self, Int.pow_zero] at this
        refine (Md.sm (g := fun _ => 1) fun i _ => (h3.pow _).trans (Md.of_eq Int.one_pow)).trans (Md.of_eq ?_)
        have : ∀ n : Nat, sm n (fun _ => 1) = (n : Int) := by
          intro n
          induction n with
          | zero => rfl
          | succ n ih => rw [sm, ih]; omega
        exact this _
      · rw [if_neg hmj]
        refine ((Md.refl _ _).mul (?_ : Md (mdP f) _ 0)).trans (Md.of_eq (Int.mul_zero _))
        rcases Nat.lt_or_gt_of_ne hmj with hlt | hgt
        · refine (Md.sm (g := fun i => (y ^ (j - m)) ^ (2 * i + 1)) fun i _ => Md.pow ?_ _).trans (odd_geo hyn (by omega) (by omega))
          rw [Int.mul_comm]
          exact pow_cancel (by rw [Int.mul_comm]; exact hz) (by omega)
        · exact (Md.sm (g := fun i => (rt f (K + 1) ^ (m - j)) ^ (2 * i + 1)) fun i _ => Md.pow (pow_cancel hz (by omega)) _).trans (odd_geo hneg (by omega) (by omega))
    refine h2.trans (Md.of_eq ?_)
    rw [sm_one _ _ hj]
  have hr := hel j (by omega)
  refine Md.eq (p := mdP f) ?_ (Int.emod_nonneg _ (by omega)) (Int.emod_lt_of_pos _ (by omega)) hr.1 hr.2
  refine (Md.mod _ _).trans (((Md.mod _ _).mul (Md.refl _ _)).trans ((hsum.mul (Md.refl _ _)).trans ?_))
  rw [Int.mul_assoc]
  exact ((Md.refl _ _).mul hi).trans (Md.of_eq (Int.mul_one _))
theorem oddV_range {f : Int} (h : fldOk f) (K : Nat) (v : List Int) (i : Nat) : 0 ≤ oddV f K v i ∧ oddV f K v i < mdP f := by
  have hm := mdP_range h
  exact ⟨Int.emod_nonneg _ (by omega), Int.emod_lt_of_pos _ (by omega)⟩
theorem vecP_tab {f : Int} {v : List Int} (h : vecP f v) {n : Nat} (hn : n = v.length) {g : Nat → Int} (hg : ∀ i, i < n → 0 ≤ g i ∧ g i < mdP f) : vecP f (tab n g) := by
  refine ⟨h.1, by rw [tab_len, hn]; exact h.2.1, by rw [tab_len, hn]; exact h.2.2.1, (elemB_iff _ _).2 fun x hx => ?_⟩
  simp only [tab, List.mem_map, List.mem_range] at hx
  obtain ⟨i, hi, rfl⟩ := hx
  exact hg i hi
/-- What the twisted product is worth at the odd powers. -/
def twV (f : Int) (K : Nat) (a b : List Int) (k : Nat) : Int := cvV (2 ^ K) (-1) (fun i => rd a (i : Int)) (fun i => rd b (i : Int)) k % mdP f
theorem twV_range {f : Int} (h : fldOk f) (K : Nat) (a b : List Int) (k : Nat) : 0 ≤ twV f K a b k ∧ twV f K a b k < mdP f := by
  have hm := mdP_range h
  exact ⟨Int.emod_nonneg _ (by omega), Int.emod_lt_of_pos _ (by omega)⟩
theorem odd_tw {f : Int} (hf : fldOk f) (K : Nat) (hKT : (K : Int) + 1 ≤ rd fT f) (a b : List Int) (i : Nat) : oddV f K (tab (2 ^ K) (twV f K a b)) i = oddV f K a i * oddV f K b i % mdP f := by
  have hneg : Md (mdP f) (rt f (K + 1) ^ 2 ^ K) (-1) := (roots hf).half_pow K (by omega)
  have hw : Md (mdP f) ((rt f (K + 1) ^ (2 * i + 1)) ^ 2 ^ K) (-1) := by
    rw [← Int.pow_mul, Nat.mul_comm, Int.pow_mul]
    refine (hneg.pow _).trans (Md.of_eq ?_)
    exact neg_odd _
  unfold oddV
  refine Md.emod ?_
  refine (Md.sm (g := fun m => cvV (2 ^ K) (-1) (fun i => rd a (i : Int)) (fun i => rd b (i : Int)) m * (rt f (K + 1) ^ (2 * i + 1)) ^ m) fun m hm => ?_).trans ((cv_value hw _ _).trans ((Md.mod _ _).symm.mul (Md.mod _ _).symm))
  rw [tab_rd hm]
  exact (Md.mod _ _).mul (Md.refl _ _)

-- block sOddVal
theorem hor_acc {p S a b : Int} (hp : 0 < p) (h : 0 ≤ S) (h' : S < p) (hp2 : p ≤ 2147483648) (h0 : 0 ≤ a * b) (h1 : a * b ≤ 2147483648 * 2147483648) : Int.tmod (wrap64 (wrap64 (a * b) + S)) p = (a * b + S) % p := by
  rw [w64 (x := a * b) (by omega) (by omega), w64 (by omega) (by omega), Int.tmod_eq_emod_of_nonneg (by omega)]
theorem hor_sum (v : List Int) (x : Int) (n m : Nat) (h : m < n) : sm (n - m) (fun t => rd v ((m + t : Nat) : Int) * x ^ t) = sm (n - (m + 1)) (fun t => rd v ((m + 1 + t : Nat) : Int) * x ^ t) * x + rd v (m : Int) := by
  rw [show n - m = 1 + (n - (m + 1)) by omega, sm_append, ← sm_mul_right, Int.add_comm]
  congr 1
  · refine sm_congr fun t _ => ?_
    rw [show m + (1 + t) = m + 1 + t by omega, Nat.add_comm 1 t, Int.pow_succ, Int.mul_assoc]
  · simp [sm]
theorem sOddVal_l1 {f : Int} (hf : fldOk f) (v acc : List Int) (z i at_ : Int) (ha : 0 ≤ at_) (ha' : at_ < mdP f) (n : Nat) (hn : v.length = n) (hn9 : n ≤ 512) (hel : ∀ i : Nat, i < v.length → 0 ≤ rd v (i : Int) ∧ rd v (i : Int) < mdP f) (r : List Int) (hacc : acc.length ≤ 512)
    (hnext : Ev (fun k => spec_OddValues.l0 k f v (acc ++ [sm n (fun t => rd v (t : Int) * at_ ^ t) % mdP f]) (mdP f) z (wrap64 (i + 1))) r) :
    ∀ m : Nat, m ≤ n → Ev (fun k => spec_OddValues.l1 k f v acc (mdP f) z i at_ (sm (n - m) (fun t => rd v ((m + t : Nat) : Int) * at_ ^ t) % mdP f) ((m : Int) - 1)) r := by
  have hm := mdP_range hf
  intro m
  induction m with
  | zero =>
    intro _
    refine Ev.step (fun k => ?_) hnext
    simp only [spec_OddValues.l1, Nat.sub_zero, Nat.zero_add]
    rw [if_neg (by omega), if_pos (by omega)]
  | succ m ih =>
    intro hmn
    have e : ((m + 1 : Nat) : Int) - 1 = (m : Int) := by omega
    rw [e]
    refine Ev.step (fun k => ?_) (ih (by omega))
    have hv := hel m (by omega)
    have hs0 : 0 ≤ sm (n - (m + 1)) (fun t => rd v ((m + 1 + t : Nat) : Int) * at_ ^ t) % mdP f := Int.emod_nonneg _ (by omega)
    have hs1 : sm (n - (m + 1)) (fun t => rd v ((m + 1 + t : Nat) : Int) * at_ ^ t) % mdP f < mdP f := Int.emod_lt_of_pos _ (by omega)
    simp only [spec_OddValues.l1]
    rw [if_pos (by omega), if_pos (by omega), if_pos (by omega), if_neg (by omega), w64 (x := (m : Int) - 1) (by omega) (by omega), hor_acc (by omega) hv.1 hv.2 (by omega) (Int.mul_nonneg hs0 ha) (Int.mul_le_mul (by omega) (by omega) ha (by omega)), hor_sum v at_ n m (by omega)]
    congr 1
    exact (((Md.mod _ _).mul (Md.refl _ _)).add (Md.refl _ _)).emod
theorem sOddVal_l0 {f : Int} (hf : fldOk f) (K : Nat) (hK9 : K ≤ 9) (hKT : (K : Int) + 1 ≤ rd fT f) (v : List Int) (n : Nat) (hnK : n = 2 ^ K) (hn : v.length = n) (hel : ∀ i : Nat, i < v.length → 0 ≤ rd v (i : Int) ∧ rd v (i : Int) < mdP f) : ∀ (d i : Nat), n - i = d → i ≤ n →
    Ev (fun k => spec_OddValues.l0 k f v (tab i (oddV f K v)) (mdP f) (rt f (K + 1)) (i : Int)) (tab n (oddV f K v)) := by
  have hm := mdP_range hf
  have h9 := pow2_9 hK9
  have hme := md_eq hf
  have hrt := rt_range hf (K + 1)
  intro d
  induction d with
  | zero =>
    intro i h hi
    have ei : i = n := by omega
    subst ei
    refine ev_now fun k => ?_
    simp only [spec_OddValues.l0]
    rw [if_neg (by omega)]
  | succ d ih =>
    intro i h hi
    have hP := sPow_ev hf (rt f (K + 1)) (2 * (i : Int) + 1) (by rw [← hme, Int.emod_eq_of_lt hrt.1 hrt.2]; exact rt_ne hf (by omega))
    rw [← hme, Int.emod_eq_of_lt hrt.1 hrt.2] at hP
    have hat : Md (mdP f) (rt f (K + 1) ^ expOf (mdP f) (2 * (i : Int) + 1) % mdP f) (rt f (K + 1) ^ (2 * i + 1)) := by
      refine (Md.mod _ _).trans ?_
      have e : expOf (mdP f) (2 * (i : Int) + 1) = (2 * i + 1) % (mdP f - 1).toNat := by
        unfold expOf
        have : (2 * (i : Int) + 1) % (mdP f - 1) = (((2 * i + 1) % (mdP f - 1).toNat : Nat) : Int) := by
          rw [Int.natCast_emod, Int.toNat_of_nonneg (by omega)]
          congr 1
        rw [this, Int.toNat_natCast]
      rw [e]
      exact pow_per (rt_full hf (s := K + 1) (by omega)) (2 * i + 1)
    generalize ha : rt f (K + 1) ^ expOf (mdP f) (2 * (i : Int) + 1) % mdP f = at_ at hP hat
    have ha0 : 0 ≤ at_ := by rw [← ha]; exact Int.emod_nonneg _ (by omega)
    have ha1 : at_ < mdP f := by rw [← ha]; exact Int.emod_lt_of_pos _ (by omega)
    have hval : sm n (fun t => rd v (t : Int) * at_ ^ t) % mdP f = oddV f K v i := by
      unfold oddV
      rw [← hnK]
      exact (Md.sm fun t _ => (Md.refl _ _).mul (hat.pow t)).emod
    have key := ih (i + 1) (by omega) (by omega)
    rw [← tab_snoc, ← hval, ← wsucc (show i < 9223372036854775807 by omega)] at key
    have hL := sOddVal_l1 hf v (tab i (oddV f K v)) (rt f (K + 1)) (i : Int) at_ ha0 ha1 n hn (by omega) hel _ (by rw [tab_len]; omega) key n (Nat.le_refl _)
    rw [Nat.sub_self, show sm 0 (fun t => rd v ((n + t : Nat) : Int) * at_ ^ t) % mdP f = 0 from Int.zero_emod _] at hL
    obtain ⟨m0, e1, e2⟩ := evs2 hP hL
    refine ⟨m0 + 1, fun k hk => ?_⟩
    obtain ⟨j, rfl⟩ : ∃ j, k = m0 + j + 1 := ⟨k - m0 - 1, by omega⟩
    simp only [spec_OddValues.l0]
    rw [if_pos (by omega), w64 (x := 2 * (i : Int)) (by omega) (by omega), w64 (x := 2 * (i : Int) + 1) (by omega) (by omega), e1 j, Option.bind_some, hn, w64 (x := (n : Int) - 1) (by omega) (by omega)]
    exact e2 j
theorem sOddVal_ev {f : Int} {v : List Int} (h : splitV f v) {K : Nat} (hK9 : K ≤ 9) (hlog : logB (v.length : Int) = K) (hn : v.length = 2 ^ K) (hKT : (K : Int) + 1 ≤ rd fT f) : Ev (fun k => spec_OddValues.f k f v) (tab (2 ^ K) (oddV f K v)) := by
  have h9 := pow2_9 hK9
  have key := sOddVal_l0 h.1.1 K hK9 hKT v (2 ^ K) rfl hn (vec_el h.1) (2 ^ K) 0 (by omega) (by omega)
  obtain ⟨n, e1, e2, e3, e4⟩ := evs4 (sOpen_ev f v (by omega)) (sLogOf_ev (v.length : Int)) (sRoot_ev h.1.1 (K + 1) (by omega)) key
  refine ⟨n, fun k hk => ?_⟩
  obtain ⟨j, rfl⟩ : ∃ j, k = n + j := ⟨k - n, by omega⟩
  have w1 : wrap64 ((K : Int) + 1) = ((K + 1 : Nat) : Int) := wsucc (by omega)
  simp only [spec_OddValues.f, e1 j, decide_eq_true h, if_true, sMod, ← md_eq h.1.1, e2 j, hlog, w1, e3 j, Option.bind_some]
  exact e4 j

-- block sNormV
theorem sNorm_l {f : Int} (hf : fldOk f) (n : Nat) (hn : n ≤ 512) (g : Nat → Int) : ∀ (d i : Nat), n - i = d → i ≤ n →
    Ev (fun k => spec_Norm.l0 k f (tab n g) (pr i g % mdP f) (i : Int)) (pr n g % mdP f) := by
  have hm := mdP_range hf
  intro d
  induction d with
  | zero =>
    intro i h hi
    have ei : i = n := by omega
    subst ei
    refine ev_now fun k => ?_
    simp only [spec_Norm.l0, tab_len]
    rw [if_neg (by omega)]
  | succ d ih =>
    intro i h hi
    refine Ev.step (fun k => ?_) (ih (i + 1) (by omega) (by omega))
    simp only [spec_Norm.l0, tab_len, tab_rd (show i < n by omega), sMul, if_pos hf, ← md_eq hf, Option.bind_some]
    rw [if_pos (by omega), if_pos (by omega), wsucc (by omega)]
    congr 1
    exact ((Md.mod _ _).mul (Md.refl _ _)).emod
theorem sNorm_ev {f : Int} {v : List Int} (h : splitV f v) {K : Nat} (hK9 : K ≤ 9) (hlog : logB (v.length : Int) = K) (hn : v.length = 2 ^ K) (hKT : (K : Int) + 1 ≤ rd fT f) : Ev (fun k => spec_Norm.f k f v) (pr (2 ^ K) (oddV f K v) % mdP f) := by
  have h9 := pow2_9 hK9
  have hm := mdP_range h.1.1
  have key := sNorm_l h.1.1 (2 ^ K) h9.1 (oddV f K v) (2 ^ K) 0 (by omega) (by omega)
  rw [show pr 0 (oddV f K v) % mdP f = 1 from Int.emod_eq_of_lt (by show (0 : Int) ≤ 1; decide) (by show (1 : Int) < _; omega)] at key
  obtain ⟨n, e1, e2, e3⟩ := evs3 (sOpen_ev f v (by omega)) (sOddVal_ev h hK9 hlog hn hKT) key
  refine ⟨n, fun k hk => ?_⟩
  obtain ⟨j, rfl⟩ : ∃ j, k = n + j := ⟨k - n, by omega⟩
  simp only [spec_Norm.f, e1 j, decide_eq_true h, if_true, e2 j, Option.bind_some]
  exact e3 j
theorem sNorm_no {f : Int} {v : List Int} (h : ¬ splitV f v) (hn : v.length ≤ 1048576) : Ev (fun k => spec_Norm.f k f v) (-1) := by
  obtain ⟨n, e1⟩ := evs1 (sOpen_ev f v hn)
  refine ⟨n, fun k hk => ?_⟩
  obtain ⟨j, rfl⟩ : ∃ j, k = n + j := ⟨k - n, by omega⟩
  simp only [spec_Norm.f, e1 j, decide_eq_false h, Option.bind_some, Bool.false_eq_true, if_false]

-- block ringI
def ringG (f : Int) (v : List Int) : Prop := splitV f v ∧ ∀ i, i < v.length → oddV f (logB (v.length : Int)).toNat v i ≠ 0
instance ringG_dec (f : Int) (v : List Int) : Decidable (ringG f v) := by unfold ringG; infer_instance
/-- What RingInverse comes to. -/
def ringI (f : Int) (v : List Int) : List Int × Bool := if ringG f v then (oddB f (tab v.length (fun i => invP f (oddV f (logB (v.length : Int)).toNat v i))), true) else ([], false)
theorem ring_norm {f : Int} {v : List Int} (h : splitV f v) {K : Nat} (hlog : logB (v.length : Int) = K) (hn : v.length = 2 ^ K) : ringG f v ↔ pr (2 ^ K) (oddV f K v) % mdP f ≠ 0 := by
  have hm := mdP_range h.1.1
  have e : pr (2 ^ K) (oddV f K v) % mdP f = 0 ↔ Md (mdP f) (pr (2 ^ K) (oddV f K v)) 0 := by
    rw [md_dvd]
    exact ⟨Int.dvd_of_emod_eq_zero, Int.emod_eq_zero_of_dvd⟩
  unfold ringG
  rw [hlog, Int.toNat_natCast, Ne, e, pr_zero h.1.1, hn]
  constructor
  · rintro ⟨_, h2⟩ ⟨i, hi, hc⟩
    have hr := oddV_range h.1.1 K v i
    exact h2 i hi (hc.eq hr.1 hr.2 (by omega) (by omega))
  · intro h2
    exact ⟨h, fun i hi hc => h2 ⟨i, hi, Md.of_eq hc⟩⟩
theorem split_inv {f : Int} {v : List Int} (h : splitV f v) {K : Nat} (hlog : logB (v.length : Int) = K) (hn : v.length = 2 ^ K) (g : Nat → Int) : splitV f (tab (2 ^ K) (fun i => invP f (g i))) ∧ logB ((tab (2 ^ K) (fun i => invP f (g i))).length : Int) = K := by
  have hl : logB ((tab (2 ^ K) (fun i => invP f (g i))).length : Int) = K := by rw [tab_len, ← hn]; exact hlog
  exact ⟨⟨vecP_tab h.1 hn.symm fun i _ => invP_range h.1.1 _, by rw [hl, ← hlog]; exact h.2⟩, hl⟩
theorem ringI_len (f : Int) (v : List Int) : (ringI f v).1.length ≤ v.length := by
  unfold ringI
  split
  · exact Nat.le_trans (oddB_len _ _) (by rw [tab_len]; exact Nat.le_refl _)
  · exact Nat.zero_le _

-- block cvRow
/-- What one number of the first row adds at one place. -/
def twG (n : Nat) (a b : List Int) (k x : Nat) : Int := if x ≤ k then rd a (x : Int) * rd b ((k - x : Nat) : Int) else -1 * (rd a (x : Int) * rd b ((k + n - x : Nat) : Int))
theorem cv_row {n : Nat} (a b : List Int) {k x : Nat} (hk : k < n) (hx : x < n) : sm n (fun y => cvT n (-1) (fun i => rd a (i : Int)) (fun i => rd b (i : Int)) x y k) = twG n a b k x := by
  unfold twG
  by_cases h : x ≤ k
  · rw [if_pos h]
    have e : sm n (fun y => cvT n (-1) (fun i => rd a (i : Int)) (fun i => rd b (i : Int)) x y k) = sm n (fun y => if y = k - x then rd a (x : Int) * rd b (y : Int) else 0) := sm_congr fun y hy => by
      unfold cvT
      by_cases h1 : y = k - x
      · rw [if_pos (by omega), if_pos h1]
      · rw [if_neg (by omega), if_neg (by omega), if_neg h1]
    rw [e, sm_one _ _ (show k - x < n by omega)]
  · rw [if_neg h]
    have e : sm n (fun y => cvT n (-1) (fun i => rd a (i : Int)) (fun i => rd b (i : Int)) x y k) = sm n (fun y => if y = k + n - x then -1 * (rd a (x : Int) * rd b (y : Int)) else 0) := sm_congr fun y hy => by
      unfold cvT
      by_cases h1 : y = k + n - x
      · rw [if_neg (by omega), if_pos (by omega), if_pos h1]
      · rw [if_neg (by omega), if_neg (by omega), if_neg h1]
    rw [e, sm_one _ _ (show k + n - x < n by omega)]
theorem cv_sum {n : Nat} (a b : List Int) {k : Nat} (hk : k < n) : cvV n (-1) (fun i => rd a (i : Int)) (fun i => rd b (i : Int)) k = sm n (twG n a b k) := sm_congr fun x hx => cv_row a b hk hx
theorem mul_small {x y p : Int} (hx : 0 ≤ x) (hx1 : x < p) (hy : 0 ≤ y) (hy1 : y < p) (hp : p ≤ 1004535809) : 0 ≤ x * y ∧ x * y ≤ 1009092189571772864 := by
  refine ⟨Int.mul_nonneg hx hy, Int.le_trans (Int.mul_le_mul (show x ≤ 1004535808 by omega) (show y ≤ 1004535808 by omega) hy (by omega)) (by decide)⟩

-- block sTwisted
theorem sTw_l1 {f : Int} (hf : fldOk f) (n : Nat) (hn : n ≤ 512) (a b : List Int) (ha : a.length = n) (hb : b.length = n) (hae : ∀ i : Nat, i < a.length → 0 ≤ rd a (i : Int) ∧ rd a (i : Int) < mdP f) (hbe : ∀ i : Nat, i < b.length → 0 ≤ rd b (i : Int) ∧ rd b (i : Int) < mdP f) (k : Nat) (hk : k < n) (out T : List Int) (ho : out.length ≤ 512)
    (key : Ev (fun q => spec_Twisted.l0 q a b (out ++ [sm n (twG n a b k) % mdP f]) (mdP f) (n : Int) ((k + 1 : Nat) : Int)) T) : ∀ (d j : Nat), n - j = d → j ≤ n →
    Ev (fun q => spec_Twisted.l1 q a b out (mdP f) (n : Int) (k : Int) (sm j (twG n a b k) % mdP f) (j : Int)) T := by
  have hm := mdP_range hf
  intro d
  induction d with
  | zero =>
    intro j h hj
    obtain rfl : j = n := by omega
    refine Ev.step (fun q => ?_) key
    simp only [spec_Twisted.l1]
    rw [if_neg (by omega), if_pos (by omega), wsucc (by omega)]
  | succ d ih =>
    intro j h hj
    have ke := ih (j + 1) (by omega) (by omega)
    have hS : 0 ≤ sm j (twG n a b k) % mdP f ∧ sm j (twG n a b k) % mdP f < mdP f := ⟨Int.emod_nonneg _ (by omega), Int.emod_lt_of_pos _ (by omega)⟩
    have hA := hae j (by omega)
    have w0 : Int.tmod (wrap64 (wrap64 ((k : Int) - (j : Int)) + (n : Int))) (n : Int) = (((k + n - j) % n : Nat) : Int) := by
      rw [w64 (x := (k : Int) - (j : Int)) (by omega) (by omega), w64n (a := k + n - j) (by omega) (by omega), Int.tmod_eq_emod_of_nonneg (by omega)]; omega
    have hlt := Nat.mod_lt (k + n - j) (show 0 < n by omega)
    have hB := hbe ((k + n - j) % n) (by rw [hb]; exact hlt)
    have hP := mul_small hA.1 hA.2 hB.1 hB.2 hm.2
    have hQ : 0 ≤ rd a (j : Int) * rd b (((k + n - j) % n : Nat) : Int) % mdP f ∧ rd a (j : Int) * rd b (((k + n - j) % n : Nat) : Int) % mdP f < mdP f := ⟨Int.emod_nonneg _ (by omega), Int.emod_lt_of_pos _ (by omega)⟩
    have w1 : Int.tmod (wrap64 (rd a (j : Int) * rd b (((k + n - j) % n : Nat) : Int))) (mdP f) = rd a (j : Int) * rd b (((k + n - j) % n : Nat) : Int) % mdP f := by
      rw [w64 (by omega) (by omega), Int.tmod_eq_emod_of_nonneg hP.1]
    have hG : sm (j + 1) (twG n a b k) = sm j (twG n a b k) + twG n a b k j := rfl
    refine Ev.step (fun q => ?_) ke
    simp only [spec_Twisted.l1, w0, w1, ha, hb]
    rw [if_pos (by omega), if_pos (by omega), if_pos (by omega), if_neg (by omega), if_pos (by omega), if_pos (by omega), if_neg (by omega)]
    by_cases c : j ≤ k
    · have e1 : (k + n - j) % n = k - j := by rw [show k + n - j = (k - j) + n by omega, Nat.add_mod_right, Nat.mod_eq_of_lt (by omega)]
      rw [if_neg (by omega), wsucc (by omega), hG]
      unfold twG at hS ⊢
      rw [if_pos c]
      rw [e1] at hQ ⊢
      rw [w64 (by omega) (by omega), Int.tmod_eq_emod_of_nonneg (by omega)]
      have e2 : ∀ A B : Int, (A % mdP f + B % mdP f) % mdP f = (A + B) % mdP f := fun A B => ((Md.mod _ _).add (Md.mod _ _)).emod
      rw [e2]
    · have e1 : (k + n - j) % n = k + n - j := Nat.mod_eq_of_lt (by omega)
      rw [if_pos (by omega), wsucc (by omega), hG]
      unfold twG at hS ⊢
      rw [if_neg c]
      rw [e1] at hQ ⊢
      rw [w64 (x := mdP f - _) (by omega) (by omega), w64 (by omega) (by omega), Int.tmod_eq_emod_of_nonneg (by omega)]
      have e2 : ∀ A B : Int, (A % mdP f + (mdP f - B % mdP f)) % mdP f = (A + -1 * B) % mdP f := fun A B => by
        have h0 : Md (mdP f) (mdP f) 0 := ⟨1, by omega⟩
        exact (((Md.mod (mdP f) A).add (Md.sub h0 (Md.mod (mdP f) B))).trans (Md.of_eq (by omega))).emod
      rw [e2]
theorem sTw_l0 {f : Int} (hf : fldOk f) (n : Nat) (hn : n ≤ 512) (a b : List Int) (ha : a.length = n) (hb : b.length = n) (hae : ∀ i : Nat, i < a.length → 0 ≤ rd a (i : Int) ∧ rd a (i : Int) < mdP f) (hbe : ∀ i : Nat, i < b.length → 0 ≤ rd b (i : Int) ∧ rd b (i : Int) < mdP f) : ∀ (d i : Nat), n - i = d → i ≤ n →
    Ev (fun q => spec_Twisted.l0 q a b (tab i (fun k => sm n (twG n a b k) % mdP f)) (mdP f) (n : Int) (i : Int)) (tab n (fun k => sm n (twG n a b k) % mdP f)) := by
  intro d
  induction d with
  | zero =>
    intro i h hi
    obtain rfl : i = n := by omega
    refine ev_now fun q => ?_
    simp only [spec_Twisted.l0]
    rw [if_neg (by omega)]
  | succ d ih =>
    intro i h hi
    have key := ih (i + 1) (by omega) (by omega)
    rw [← tab_snoc] at key
    have k2 := sTw_l1 hf n hn a b ha hb hae hbe i (by omega) _ _ (by rw [tab_len]; omega) key n 0 (by omega) (by omega)
    rw [show sm 0 (twG n a b i) % mdP f = 0 from by rw [sm, Int.zero_emod]] at k2
    refine Ev.step (fun q => ?_) k2
    simp only [spec_Twisted.l0]
    rw [if_pos (by omega)]
    rfl
theorem sTwisted_ev {f : Int} {a b : List Int} (hA : vecP f a) (hB : vecP f b) {K : Nat} (hK9 : K ≤ 9) (hna : a.length = 2 ^ K) (hnb : b.length = 2 ^ K) : Ev (fun k => spec_Twisted.f k f a b) (tab (2 ^ K) (twV f K a b)) := by
  have h9 := pow2_9 hK9
  have e : tab (2 ^ K) (twV f K a b) = tab (2 ^ K) (fun k => sm (2 ^ K) (twG (2 ^ K) a b k) % mdP f) := tab_congr fun k hk => by unfold twV; rw [cv_sum a b hk]
  have key := sTw_l0 hA.1 (2 ^ K) h9.1 a b hna hnb (vec_el hA) (vec_el hB) (2 ^ K) 0 (by omega) (by omega)
  rw [← e, show tab 0 (fun k => sm (2 ^ K) (twG (2 ^ K) a b k) % mdP f) = [] from rfl] at key
  obtain ⟨n, k1, k2, k3⟩ := evs3 (sVec_ev f a (by omega)) (sVec_ev f b (by omega)) key
  refine ⟨n, fun k hk => ?_⟩
  obtain ⟨j, rfl⟩ : ∃ j, k = n + j := ⟨k - n, by omega⟩
  have k3' := k3 j
  rw [show ((0 : Nat) : Int) = 0 from rfl] at k3'
  simp only [spec_Twisted.f, spec_l04Two.f, k1, k2, decide_eq_true hA, decide_eq_true hB, hna, hnb, sMod, ← md_eq hA.1, Option.bind_some, if_true, k3']

-- block twAlg
theorem tw_comm (f : Int) (K : Nat) (a b : List Int) (k : Nat) : twV f K a b k = twV f K b a k := by
  have e : cvV (2 ^ K) (-1) (fun i => rd a (i : Int)) (fun i => rd b (i : Int)) k = cvV (2 ^ K) (-1) (fun i => rd b (i : Int)) (fun i => rd a (i : Int)) k := by
    unfold cvV
    rw [sm_comm]
    refine sm_congr fun i _ => sm_congr fun j _ => ?_
    unfold cvT
    rw [Nat.add_comm j i, Int.mul_comm (rd a (j : Int)) (rd b (i : Int))]
  unfold twV
  rw [e]
theorem tw_one {f : Int} (K : Nat) (v : List Int) (hel : ∀ i : Nat, i < 2 ^ K → 0 ≤ rd v (i : Int) ∧ rd v (i : Int) < mdP f) (k : Nat) (hk : k < 2 ^ K) : twV f K (tab (2 ^ K) oneF) v k = rd v (k : Int) := by
  have hr := hel k hk
  have e : sm (2 ^ K) (twG (2 ^ K) (tab (2 ^ K) oneF) v k) = sm (2 ^ K) (fun x => if x = 0 then rd v ((k - x : Nat) : Int) else 0) := sm_congr fun x hx => by
    unfold twG
    rw [tab_rd hx]
    by_cases h : x = 0
    · rw [if_pos h, if_pos (by omega), h, oneF_zero, Int.one_mul]
    · rw [if_neg h, oneF_pos (by omega), Int.zero_mul, Int.zero_mul, Int.mul_zero]
      split <;> rfl
  unfold twV
  rw [cv_sum _ _ hk, e, sm_one _ _ (show 0 < 2 ^ K by omega), Nat.sub_zero]
  exact Int.emod_eq_of_lt hr.1 hr.2

-- block oddBackOdd
theorem sm_ones2 : ∀ n : Nat, sm n (fun _ => (1 : Int)) = (n : Int)
  | 0 => rfl
  | n + 1 => by rw [sm, sm_ones2 n]; omega
theorem orth2 {p w : Int} {K d : Nat} (hw : Md p (w ^ 2 ^ K) (-1)) (h0 : 0 < d) (hd : d < 2 ^ K) : Md p (sm (2 ^ K) (fun i => (w ^ (2 * d)) ^ i)) 0 := by
  have h1 := orth (p := p) (w := w * w) (K := K) (d := d) (fun s hs => by
    subst hs
    rw [show w * w = w ^ 2 by grind, ← Int.pow_mul, Nat.mul_comm, ← Nat.pow_succ]; exact hw) h0 hd
  refine Md.trans (Md.of_eq (sm_congr fun i _ => ?_)) h1
  rw [Int.pow_mul, show w ^ 2 = w * w by grind]
/-- What came back from odd values has them. -/
theorem odd_of_back {f : Int} (hf : fldOk f) (K : Nat) (hKT : (K : Int) + 1 ≤ rd fT f) (u : List Int) (hel : ∀ i : Nat, i < 2 ^ K → 0 ≤ rd u (i : Int) ∧ rd u (i : Int) < mdP f) (i : Nat) (hi : i < 2 ^ K) : oddV f K (tab (2 ^ K) (oddF f K u)) i = rd u (i : Int) := by
  have hm := mdP_range hf
  have hT := fT_range hf
  have hz : Md (mdP f) (rt f (K + 1) * invP f (rt f (K + 1))) 1 := rt_inv hf (s := K + 1) (by omega)
  have hneg : Md (mdP f) (rt f (K + 1) ^ 2 ^ K) (-1) := (roots hf).half_pow K (by omega)
  have hi2 := two_inv hf K
  have e0 : ∀ j : Nat, j < 2 ^ K → rd (tab (2 ^ K) (oddF f K u)) (j : Int) = (sm (2 ^ K) (fun m => rd u (m : Int) * (invP f (rt f (K + 1)) ^ (j * (2 * m + 1) % (2 * 2 ^ K)) % mdP f)) % mdP f) * invP f ((2 ^ K : Nat) : Int) % mdP f := fun j hj => by rw [tab_rd hj]; rfl
  generalize invP f ((2 ^ K : Nat) : Int) = q at *
  generalize invP f (rt f (K + 1)) = y at *
  have hyn := inv_neg hz hneg
  have hy2 : Md (mdP f) (y ^ (2 * 2 ^ K)) 1 := by
    rw [Nat.mul_comm, Int.pow_mul]
    exact (hyn.pow 2).trans (Md.of_eq (by simp))
  have hri := hel i hi
  unfold oddV
  refine Md.eq ((Md.mod _ _).trans ?_) (Int.emod_nonneg _ (by omega)) (Int.emod_lt_of_pos _ (by omega)) hri.1 hri.2
  refine (Md.sm (g := fun j => sm (2 ^ K) (fun m => rd u (m : Int) * q * (rt f (K + 1) ^ (2 * i + 1) * y ^ (2 * m + 1)) ^ j)) fun j hj => ?_).trans ?_
  · rw [e0 j hj]
    refine ((Md.mod _ _).mul (Md.refl _ _)).trans ?_
    refine (((Md.mod _ _).mul (Md.refl _ _)).mul (Md.refl _ _)).trans ?_
    refine (Md.of_eq (show _ = sm (2 ^ K) (fun m => rd u (m : Int) * (y ^ (j * (2 * m + 1) % (2 * 2 ^ K)) % mdP f) * (q * (rt f (K + 1) ^ (2 * i + 1)) ^ j)) from ?_)).trans (Md.sm fun m hmm => ?_)
    · rw [Int.mul_assoc, sm_mul_right]
    · have h1 : Md (mdP f) (y ^ (j * (2 * m + 1) % (2 * 2 ^ K)) % mdP f) ((y ^ (2 * m + 1)) ^ j) := by
        rw [← Int.pow_mul, Nat.mul_comm (2 * m + 1) j]
        exact (Md.mod _ _).trans (pow_per hy2 _)
      rw [Int.mul_pow]
      refine (((Md.refl _ _).mul h1).mul (Md.refl _ _)).trans (Md.of_eq ?_)
      grind
  · rw [sm_comm]
    refine (Md.sm (g := fun m => if m = i then rd u (m : Int) * q * ((2 ^ K : Nat) : Int) else 0) fun m hmm => ?_).trans ?_
    · rw [sm_mul]
      by_cases hmi : m = i
      · rw [if_pos hmi]
        refine (Md.refl _ _).mul ?_
        rw [← sm_ones2 (2 ^ K)]
        refine Md.sm fun j _ => ?_
        have h3 : Md (mdP f) (rt f (K + 1) ^ (2 * i + 1) * y ^ (2 * m + 1)) 1 := by
          have := pow_cancel hz (Nat.le_refl (2 * i + 1))
          rw [Nat.sub_self, Int.pow_zero] at this
          rw [hmi]; exact this
        exact (h3.pow j).trans (Md.of_eq Int.one_pow)
      · rw [if_neg hmi]
        refine ((Md.refl _ _).mul (?_ : Md (mdP f) _ 0)).trans (Md.of_eq (Int.mul_zero _))
        rcases Nat.lt_or_gt_of_ne hmi with hlt | hgt
        · refine (Md.sm (g := fun j => (rt f (K + 1) ^ (2 * (i - m))) ^ j) fun j _ => Md.pow ?_ _).trans (orth2 hneg (by omega) (by omega))
          have := pow_cancel hz (show 2 * m + 1 ≤ 2 * i + 1 by omega)
          rwa [show 2 * i + 1 - (2 * m + 1) = 2 * (i - m) by omega] at this
        · refine (Md.sm (g := fun j => (y ^ (2 * (m - i))) ^ j) fun j _ => Md.pow ?_ _).trans (orth2 hyn (by omega) (by omega))
          have := pow_cancel (p := mdP f) (z := y) (y := rt f (K + 1)) (by rw [Int.mul_comm]; exact hz) (show 2 * i + 1 ≤ 2 * m + 1 by omega)
          rw [show 2 * m + 1 - (2 * i + 1) = 2 * (m - i) by omega] at this
          rw [Int.mul_comm]; exact this
    · rw [sm_one _ _ hi]
      have h4 := (Md.refl (mdP f) (rd u (i : Int))).mul hi2
      rw [Int.mul_one] at h4
      refine Md.trans (Md.of_eq ?_) h4
      grind

-- block ringUnit
theorem odd_one {f : Int} (hf : fldOk f) (K i : Nat) : oddV f K (tab (2 ^ K) oneF) i = 1 := by
  have hm := mdP_range hf
  have h9 : 0 < 2 ^ K := Nat.pow_pos (by omega)
  unfold oddV
  have e : sm (2 ^ K) (fun m => rd (tab (2 ^ K) oneF) (m : Int) * (rt f (K + 1) ^ (2 * i + 1)) ^ m) = sm (2 ^ K) (fun m => if m = 0 then (rt f (K + 1) ^ (2 * i + 1)) ^ m else 0) := sm_congr fun m hmm => by
    rw [tab_rd hmm]
    by_cases h : m = 0
    · rw [if_pos h, h, oneF_zero, Int.one_mul]
    · rw [if_neg h, oneF_pos (by omega), Int.zero_mul]
  rw [e, sm_one _ _ h9, Int.pow_zero]
  exact Int.emod_eq_of_lt (by omega) (by omega)
/-- A row that has an inverse, times that. -/
theorem ring_unit {f : Int} {v : List Int} (h : splitV f v) {K : Nat} (hK9 : K ≤ 9) (hlog : logB (v.length : Int) = K) (hn : v.length = 2 ^ K) (hKT : (K : Int) + 1 ≤ rd fT f) (hG : ringG f v) :
    vecP f (ringI f v).1 ∧ (ringI f v).1.length = 2 ^ K ∧ (ringI f v).2 = true ∧ tab (2 ^ K) (twV f K v (ringI f v).1) = tab (2 ^ K) oneF := by
  have hm := mdP_range h.1.1
  have hS := split_inv h hlog hn (oddV f K v)
  have hR : ringI f v = (tab (2 ^ K) (oddF f K (tab (2 ^ K) (fun i => invP f (oddV f K v i)))), true) := by
    unfold ringI
    rw [if_pos hG, hlog, Int.toNat_natCast, hn, oddB_some hS.1 hS.2, tab_len]
  rw [hR]
  have r : ∀ x : Int, 0 ≤ x % mdP f ∧ x % mdP f < mdP f := fun x => ⟨Int.emod_nonneg _ (by omega), Int.emod_lt_of_pos _ (by omega)⟩
  refine ⟨vecP_tab h.1 hn.symm fun i _ => r _, tab_len .., rfl, ?_⟩
  dsimp only
  have hback : ∀ g : Nat → Int, (∀ i, i < 2 ^ K → 0 ≤ g i ∧ g i < mdP f) → tab (2 ^ K) g = tab (2 ^ K) (oddF f K (tab (2 ^ K) (oddV f K (tab (2 ^ K) g)))) := fun g hg => by
    refine tab_congr fun j hj => ?_
    rw [back_of_odd h.1.1 K hKT (tab (2 ^ K) g) (tab_len ..) (fun i hi => by rw [tab_len] at hi; rw [tab_rd hi]; exact hg i hi) j hj, tab_rd hj]
  rw [hback (twV f K v _) (fun i _ => twV_range h.1.1 K _ _ i), hback oneF (fun i _ => by unfold oneF; split <;> omega)]
  refine tab_congr fun j _ => congrArg (fun l => oddF f K l j) (tab_congr fun i hi => ?_)
  rw [odd_one h.1.1, odd_tw h.1.1 K hKT, odd_of_back h.1.1 K hKT (tab (2 ^ K) (fun i => invP f (oddV f K v i))) (fun i hi => by rw [tab_rd hi]; exact invP_range h.1.1 _) i hi, tab_rd hi]
  have hr := oddV_range h.1.1 K v i
  have hne := hG.2 i (by omega)
  rw [hlog, Int.toNat_natCast] at hne
  have hu := (fld_inv h.1.1 (show 0 < oddV f K v i by omega) hr.2).emod
  rw [hu]
  exact Int.emod_eq_of_lt (by omega) (by omega)

-- block sNormNo
theorem sNormNo_ev {f : Int} {v : List Int} (h : ¬ splitV f v) (hn : v.length ≤ 1048576) : Ev (fun k => spec_Norm.f k f v) (-1) := by
  obtain ⟨n, e⟩ := evs1 (sOpen_ev f v hn)
  refine ⟨n, fun k hk => ?_⟩
  obtain ⟨j, rfl⟩ : ∃ j, k = n + j := ⟨k - n, by omega⟩
  simp only [spec_Norm.f, e j, decide_eq_false h, Option.bind_some, Bool.false_eq_true, if_false]

-- block drawOnce1
theorem drawOnce1 (l : List Int) (hn : l.length ≤ 140737488355328) (i h : Int) (hi : dAt l i) (m : Int) : ∃ b i' h', spec_l01Once.f l i h m = some (b, i', h') ∧ dAt l i' := by
  obtain ⟨b1, i1, h1, e1, r1, d1⟩ := drawBelow l hn i h hi m
  exact ⟨(b1 == 0), i1, h1, by simp only [spec_l01Once.f, e1, Option.bind_some], d1⟩

-- block drawField
theorem drawField (l : List Int) (hn : l.length ≤ 140737488355328) (i h : Int) (hi : dAt l i) : ∃ b i' h', spec_l01DrawField.f l i h = some (b, i', h') ∧ dAt l i' := by
  obtain ⟨b1, i1, h1, e1, d1⟩ := drawOnce1 l hn i h hi 20
  obtain ⟨b2, i2, h2, e2, r2, d2⟩ := drawPickInt l hn i1 h1 d1 [(-1), 9, 100] (by simp)
  obtain ⟨b3, i3, h3, e3, r3, d3⟩ := drawBelow l hn i1 h1 d1 9
  cases b1 with
  | true => exact ⟨b2, i2, h2, by simp only [spec_l01DrawField.f, e1, e2, Option.bind_some, if_true], d2⟩
  | false => exact ⟨b3, i3, h3, by simp only [spec_l01DrawField.f, e1, e3, Option.bind_some, Bool.false_eq_true, if_false], d3⟩

-- block drawElem
theorem drawElem (l : List Int) (hn : l.length ≤ 140737488355328) (i h : Int) (hi : dAt l i) (f : Int) : ∃ b i' h', spec_l01DrawElement.f l i h f = some (b, i', h') ∧ dAt l i' := by
  simp only [spec_l01DrawElement.f, sMod, Option.bind_some]
  by_cases h0 : md f = 0
  · obtain ⟨b1, i1, h1, e1, r1, d1⟩ := drawBelow l hn i h hi 50
    rw [if_pos h0, e1]
    exact ⟨_, _, _, rfl, d1⟩
  · obtain ⟨b1, i1, h1, e1, r1, d1⟩ := drawBelow l hn i h hi 6
    rw [if_neg h0, e1, Option.bind_some]
    by_cases c0 : b1 = 0
    · obtain ⟨b2, i2, h2, e2, r2, d2⟩ := drawBelow l hn i1 h1 d1 3
      rw [if_pos c0, e2]
      exact ⟨_, _, _, rfl, d2⟩
    · rw [if_neg c0]
      by_cases c1 : b1 = 1
      · obtain ⟨b2, i2, h2, e2, r2, d2⟩ := drawBelow l hn i1 h1 d1 3
        rw [if_pos c1, e2]
        exact ⟨_, _, _, rfl, d2⟩
      · rw [if_neg c1]
        by_cases c2 : b1 = 2
        · obtain ⟨b2, i2, h2, e2, r2, d2⟩ := drawBelow l hn i1 h1 d1 16777216
          obtain ⟨b3, i3, h3, e3, r3, d3⟩ := drawBelow l hn i2 h2 d2 256
          rw [if_pos c2, e2, Option.bind_some, e3]
          exact ⟨_, _, _, rfl, d3⟩
        · obtain ⟨b2, i2, h2, e2, r2, d2⟩ := drawBelow l hn i1 h1 d1 30
          rw [if_neg c2, e2]
          exact ⟨_, _, _, rfl, d2⟩

-- block drawList
theorem drawList_l (l : List Int) (hn : l.length ≤ 140737488355328) (f : Int) (n : Nat) (hn6 : n ≤ 1048576) : ∀ (d j : Nat) (acc : List Int) (i h : Int), n - j = d → j ≤ n → acc.length = j → dAt l i →
    ∃ out i' h', Ev (fun k => spec_l01DrawList.l0 k f (n : Int) acc (j : Int) l i h) (out, i', h') ∧ out.length = n ∧ dAt l i' := by
  intro d
  induction d with
  | zero =>
    intro j acc i h hd hj ha hi
    refine ⟨acc, i, h, ev_now fun k => ?_, by omega, hi⟩
    simp only [spec_l01DrawList.l0]
    rw [if_neg (by omega)]
  | succ d ih =>
    intro j acc i h hd hj ha hi
    obtain ⟨b1, i1, h1, e1, d1⟩ := drawElem l hn i h hi f
    obtain ⟨out, i', h', k1, k2, k3⟩ := ih (j + 1) (acc ++ [b1]) i1 h1 (by omega) (by omega) (by simp; omega) d1
    refine ⟨out, i', h', Ev.step (fun k => ?_) k1, k2, k3⟩
    simp only [spec_l01DrawList.l0, e1, Option.bind_some]
    rw [if_pos (by omega), if_pos (by omega), wsucc (by omega)]
theorem drawList (l : List Int) (hn : l.length ≤ 140737488355328) (i h : Int) (hi : dAt l i) (f : Int) (n : Nat) (hn6 : n ≤ 1048576) : ∃ out i' h', Ev (fun k => spec_l01DrawList.f k l i h f (n : Int)) (out, i', h') ∧ out.length = n ∧ dAt l i' := by
  obtain ⟨out, i', h', k1, k2, k3⟩ := drawList_l l hn f n hn6 n 0 [] i h rfl (by omega) rfl hi
  exact ⟨out, i', h', Ev.congr (fun k => rfl) k1, k2, k3⟩

-- block drawVec
theorem drawVec4 (l : List Int) (hn : l.length ≤ 140737488355328) (f : Int) (x : Nat) (hx : x ≤ 9) (i h : Int) (hi : dAt l i) : ∃ v i' h', Ev (fun k => spec_l04DrawVector.j4 k f (x : Int) l i h) (v, i', h') ∧ v.length ≤ 600 ∧ dAt l i' := by
  have hs := shl_pow (i := x) (by omega)
  have h9 := pow2_9 hx
  obtain ⟨v, i1, h1, e1, l1, d1⟩ := drawList l hn i h hi f (2 ^ x) (by omega)
  rw [show ((2 ^ x : Nat) : Int) = 2 ^ x by simp] at e1
  obtain ⟨b2, i2, h2, e2, d2⟩ := drawOnce1 l hn i1 h1 d1 12
  obtain ⟨b3, i3, h3, e3, r3, d3⟩ := drawBelow l hn i2 h2 d2 3
  obtain ⟨b4, i4, h4, e4, r4, d4⟩ := drawBelow l hn i3 h3 d3 (v.length : Int)
  obtain ⟨b5, i5, h5, e5, r5, d5⟩ := drawPickInt l hn i4 h4 d4 [(-1), md f] (by simp)
  obtain ⟨m, k1⟩ := evs1 e1
  have key : ∀ j, spec_l04DrawVector.j4 (m + j + 1) f (x : Int) l i h = (if b2 = true then (if b3 = 0 then (if v.length < 17592186044416 then some (v ++ [0], i3, h3) else none) else if b3 = 1 then (if 0 ≤ b4 then (if b4 < (v.length : Int) then some (v.set b4.toNat b5, i5, h5) else none) else none) else if b3 = 2 then some ([], i3, h3) else some (v, i3, h3)) else some (v, i2, h2)) := by
    intro j
    simp only [spec_l04DrawVector.j4, hs.2.1, k1 j, e2, e3, e4, sMod, e5, Option.bind_some]
    rw [if_pos hs.2.2]
  cases b2 with
  | false =>
    refine ⟨v, i2, h2, ⟨m + 1, fun k hk => ?_⟩, by omega, d2⟩
    obtain ⟨j, rfl⟩ : ∃ j, k = m + j + 1 := ⟨k - m - 1, by omega⟩
    exact (key j).trans (if_neg (by simp))
  | true =>
    by_cases c0 : b3 = 0
    · refine ⟨v ++ [0], i3, h3, ⟨m + 1, fun k hk => ?_⟩, by simp; omega, d3⟩
      obtain ⟨j, rfl⟩ : ∃ j, k = m + j + 1 := ⟨k - m - 1, by omega⟩
      refine (key j).trans ?_
      rw [if_pos rfl, if_pos c0, if_pos (by omega)]
    · by_cases c1 : b3 = 1
      · refine ⟨v.set b4.toNat b5, i5, h5, ⟨m + 1, fun k hk => ?_⟩, by simp; omega, d5⟩
        obtain ⟨j, rfl⟩ : ∃ j, k = m + j + 1 := ⟨k - m - 1, by omega⟩
        refine (key j).trans ?_
        rw [if_pos rfl, if_neg c0, if_pos c1, if_pos r4.1, if_pos (by omega)]
      · by_cases c2 : b3 = 2
        · refine ⟨[], i3, h3, ⟨m + 1, fun k hk => ?_⟩, by simp, d3⟩
          obtain ⟨j, rfl⟩ : ∃ j, k = m + j + 1 := ⟨k - m - 1, by omega⟩
          refine (key j).trans ?_
          rw [if_pos rfl, if_neg c0, if_neg c1, if_pos c2]
        · refine ⟨v, i3, h3, ⟨m + 1, fun k hk => ?_⟩, by omega, d3⟩
          obtain ⟨j, rfl⟩ : ∃ j, k = m + j + 1 := ⟨k - m - 1, by omega⟩
          refine (key j).trans ?_
          rw [if_pos rfl, if_neg c0, if_neg c1, if_neg c2]
theorem drawVec3 (l : List Int) (hn : l.length ≤ 140737488355328) (f : Int) (x : Nat) (hx : x ≤ 9) (i h : Int) (hi : dAt l i) : ∃ v i' h', Ev (fun k => spec_l04DrawVector.j3 k f (x : Int) l i h) (v, i', h') ∧ v.length ≤ 600 ∧ dAt l i' := by
  obtain ⟨b2, i2, h2, e2, d2⟩ := drawOnce1 l hn i h hi 25
  cases b2 with
  | false =>
    obtain ⟨v, i', h', e, hl, hd⟩ := drawVec4 l hn f x hx i2 h2 d2
    refine ⟨v, i', h', Ev.step (fun k => ?_) e, hl, hd⟩
    simp only [spec_l04DrawVector.j3, e2, Option.bind_some, Bool.false_eq_true, if_false]
  | true =>
    obtain ⟨b3, i3, h3, e3, r3, d3⟩ := drawPickInt l hn i2 h2 d2 [0, 5, 9] (by simp)
    have hb : 0 ≤ b3 ∧ b3 ≤ 9 := by
      simp only [List.mem_cons, List.not_mem_nil, or_false] at r3
      omega
    obtain ⟨y, rfl⟩ : ∃ y : Nat, b3 = (y : Int) := ⟨b3.toNat, by omega⟩
    obtain ⟨v, i', h', e, hl, hd⟩ := drawVec4 l hn f y (by omega) i3 h3 d3
    refine ⟨v, i', h', Ev.step (fun k => ?_) e, hl, hd⟩
    simp only [spec_l04DrawVector.j3, e2, e3, Option.bind_some, if_true]
theorem drawVec1 (l : List Int) (hn : l.length ≤ 140737488355328) (f : Int) (x : Nat) (hx : x ≤ 8) (i h : Int) (hi : dAt l i) : ∃ v i' h', Ev (fun k => spec_l04DrawVector.j1 k f (x : Int) l i h) (v, i', h') ∧ v.length ≤ 600 ∧ dAt l i' := by
  obtain ⟨b2, i2, h2, e2, r2, d2⟩ := drawBelow l hn i h hi (wrap64 ((x : Int) + 2))
  rw [w64 (by omega) (by omega)] at r2
  obtain ⟨b, rfl⟩ : ∃ b : Nat, b2 = (b : Int) := ⟨b2.toNat, by omega⟩
  obtain ⟨q, k1⟩ := evs1 (sTwo_ev f)
  generalize two f = t at k1
  by_cases ht : t ≥ 0 ∧ (b : Int) > t
  · obtain ⟨y, rfl⟩ : ∃ y : Nat, t = (y : Int) := ⟨t.toNat, by omega⟩
    obtain ⟨v, i', h', e, hl, hd⟩ := drawVec3 l hn f y (by omega) i2 h2 d2
    obtain ⟨m, k2⟩ := evs1 e
    refine ⟨v, i', h', ⟨q + m + 2, fun k hk => ?_⟩, hl, hd⟩
    obtain ⟨j, rfl⟩ : ∃ j, k = q + m + j + 1 + 1 := ⟨k - q - m - 2, by omega⟩
    have k1' := k1 (m + j + 1)
    have k2' := k2 (q + j)
    rw [show q + (m + j + 1) = q + m + j + 1 by omega] at k1'
    rw [show m + (q + j) = q + m + j by omega] at k2'
    simp only [spec_l04DrawVector.j1, spec_l04DrawVector.j2, e2, k1', Option.bind_some]
    rw [if_pos ht.1, decide_eq_true ht.2, if_pos rfl, k2']
  · obtain ⟨v, i', h', e, hl, hd⟩ := drawVec3 l hn f b (by omega) i2 h2 d2
    obtain ⟨m, k2⟩ := evs1 e
    refine ⟨v, i', h', ⟨q + m + 2, fun k hk => ?_⟩, hl, hd⟩
    obtain ⟨j, rfl⟩ : ∃ j, k = q + m + j + 1 + 1 := ⟨k - q - m - 2, by omega⟩
    have k1' := k1 (m + j + 1)
    have k2' := k2 (q + j)
    rw [show q + (m + j + 1) = q + m + j + 1 by omega] at k1'
    rw [show m + (q + j) = q + m + j by omega] at k2'
    simp only [spec_l04DrawVector.j1, spec_l04DrawVector.j2, e2, k1', Option.bind_some]
    by_cases h1 : t ≥ 0
    · rw [if_pos h1, decide_eq_false (fun hh => ht ⟨h1, hh⟩), if_neg (by simp), k2']
    · rw [if_neg h1, if_neg (by simp), k2']
theorem drawVec_l (l l2 : List Int) (hn : l.length ≤ 140737488355328) (f : Int) (i h : Int) (hi : dAt l i) : ∀ (d x : Nat), 8 - x = d → x ≤ 8 → ∃ v i' h', Ev (fun k => spec_l04DrawVector.l0 k f l2 (x : Int) l i h) (v, i', h') ∧ v.length ≤ 600 ∧ dAt l i' := by
  intro d
  induction d with
  | zero =>
    intro x hd hx
    obtain ⟨v, i', h', e, hl, hd'⟩ := drawVec1 l hn f x (by omega) i h hi
    refine ⟨v, i', h', Ev.step (fun k => ?_) e, hl, hd'⟩
    simp only [spec_l04DrawVector.l0]
    rw [if_neg (by omega)]
  | succ d ih =>
    intro x hd hx
    have hs := shl_pow (i := x) (by omega)
    by_cases hlt : shl .i64 4 (IntKind.u64.wrap (x : Int)) < (l2.length : Int)
    · obtain ⟨v, i', h', e, hl, hd'⟩ := ih (x + 1) (by omega) (by omega)
      refine ⟨v, i', h', Ev.step (fun k => ?_) e, hl, hd'⟩
      simp only [spec_l04DrawVector.l0]
      rw [if_pos (by omega), if_pos hs.2.2, if_pos hlt, wsucc (by omega)]
    · obtain ⟨v, i', h', e, hl, hd'⟩ := drawVec1 l hn f x (by omega) i h hi
      refine ⟨v, i', h', Ev.step (fun k => ?_) e, hl, hd'⟩
      simp only [spec_l04DrawVector.l0]
      rw [if_pos (by omega), if_pos hs.2.2, if_neg hlt]
theorem drawVec (l l2 : List Int) (hn : l.length ≤ 140737488355328) (f : Int) (i h : Int) (hi : dAt l i) : ∃ v i' h', Ev (fun k => spec_l04DrawVector.f k l i h f l2) (v, i', h') ∧ v.length ≤ 600 ∧ dAt l i' := by
  obtain ⟨v, i', h', e, hl, hd⟩ := drawVec_l l l2 hn f i h hi 8 0 rfl (by omega)
  exact ⟨v, i', h', Ev.congr (fun k => rfl) e, hl, hd⟩

-- block iOddVal
theorem odd_fwd {f : Int} (hf : fldOk f) (K : Nat) (hKT : (K : Int) + 1 ≤ rd fT f) (v : List Int) (i : Nat) : fwd f K (tab (2 ^ K) (fun j => rd v (j : Int) * (rt f (K + 1) ^ j % mdP f) % mdP f)) i = oddV f K v i := by
  have hT := fT_range hf
  have hsq : Md (mdP f) (rt f (K + 1) * rt f (K + 1)) (rt f K) := (roots hf).sq K (by omega)
  unfold fwd oddV dft
  refine Md.emod (Md.sm fun m hm => ?_)
  dsimp only
  rw [tab_rd hm]
  have h1 : Md (mdP f) (rt f K ^ (i * m)) ((rt f (K + 1) * rt f (K + 1)) ^ (i * m)) := (hsq.pow _).symm
  refine ((Md.mod _ _).mul h1).trans ((((Md.refl _ _).mul (Md.mod _ _)).mul (Md.refl _ _)).trans (Md.of_eq ?_))
  rw [Int.mul_assoc, sq_pow, ← Int.pow_add, ← Int.pow_mul]
  congr 2
  rw [Nat.add_mul, Nat.one_mul, ← Nat.mul_assoc, Nat.add_comm]
theorem iOddVal_ev {f : Int} {v : List Int} (h : splitV f v) {K : Nat} (hK9 : K ≤ 9) (hlog : logB (v.length : Int) = K) (hn : v.length = 2 ^ K) (hKT : (K : Int) + 1 ≤ rd fT f) :
    Ev (fun k => impl_field_oddValues.f k (mdP f) (rd fG f) (rd fT f) v) (tab (2 ^ K) (oddV f K v)) := by
  have h9 := pow2_9 hK9
  have hf := h.1.1
  have hm := mdP_range hf
  have hrt := rt_range hf (K + 1)
  have ht := iTurned_ev hf (rt f (K + 1)) hrt.1 hrt.2 v (by omega) (vec_el h.1)
  have hr : ∀ j, j < v.length → 0 ≤ rd v (j : Int) * (rt f (K + 1) ^ j % mdP f) % mdP f ∧ rd v (j : Int) * (rt f (K + 1) ^ j % mdP f) % mdP f < mdP f := fun j _ => ⟨Int.emod_nonneg _ (by omega), Int.emod_lt_of_pos _ (by omega)⟩
  have hv' := vecP_tab h.1 rfl hr
  have hfw := iForward_ev hv' hK9 (by rw [tab_len]; exact hlog) (by rw [tab_len]; exact hn) (by omega)
  rw [tab_len] at hfw
  have e : tab v.length (fwd f K (tab v.length (fun j => rd v (j : Int) * (rt f (K + 1) ^ j % mdP f) % mdP f))) = tab (2 ^ K) (oddV f K v) := by
    rw [hn]
    exact tab_congr fun i _ => odd_fwd hf K hKT v i
  rw [e] at hfw
  obtain ⟨n, e1, e2, e3, e4⟩ := evs4 (iLogOf_ev (v.length : Int)) (iRoot_ev hf (K + 1) (by omega)) ht hfw
  refine ⟨n, fun k hk => ?_⟩
  obtain ⟨j, rfl⟩ : ∃ j, k = n + j := ⟨k - n, by omega⟩
  have w1 : wrap64 ((K : Int) + 1) = ((K + 1 : Nat) : Int) := wsucc (by omega)
  have e1' := e1 j
  rw [hlog] at e1'
  show impl_field_oddValues.f (n + j) (mdP f) (rd fG f) (rd fT f) v = _
  unfold impl_field_oddValues.f
  rw [e1', Option.bind_some, w1, e2 j, Option.bind_some, e3 j, Option.bind_some, e4 j, Option.bind_some]

-- block iTwist
def twA (n : Nat) (a b : List Int) (i k : Nat) : Int := sm i (fun x => sm n (fun y => cvT n (-1) (fun i => rd a (i : Int)) (fun i => rd b (i : Int)) x y k))
def twB (n : Nat) (a b : List Int) (i j k : Nat) : Int := sm j (fun y => cvT n (-1) (fun i => rd a (i : Int)) (fun i => rd b (i : Int)) i y k)
def twS (f : Int) (n : Nat) (a b : List Int) (i j : Nat) : List Int := tab n (fun k => (twA n a b i k + twB n a b i j k) % mdP f)
theorem twS_next (f : Int) (n : Nat) (a b : List Int) (i : Nat) : twS f n a b i n = twS f n a b (i + 1) 0 := by
  unfold twS
  refine tab_congr fun k _ => ?_
  unfold twA twB
  rw [sm, sm, Int.add_zero]
theorem twS_set {f : Int} (n : Nat) (a b : List Int) (i j : Nat) (hi : i < n) (hj : j < n) :
    (i + j < n → (twS f n a b i j).set (i + j) ((rd (twS f n a b i j) ((i + j : Nat) : Int) + rd a (i : Int) * rd b (j : Int) % mdP f) % mdP f) = twS f n a b i (j + 1))
    ∧ (¬ i + j < n → (twS f n a b i j).set (i + j - n) ((rd (twS f n a b i j) ((i + j - n : Nat) : Int) - rd a (i : Int) * rd b (j : Int) % mdP f) % mdP f) = twS f n a b i (j + 1)) := by
  constructor
  · intro h
    unfold twS
    rw [tab_rd h, tab_set]
    refine tab_congr fun k hk => ?_
    have eB : twB n a b i (j + 1) k = twB n a b i j k + cvT n (-1) (fun i => rd a (i : Int)) (fun i => rd b (i : Int)) i j k := rfl
    rw [eB]
    by_cases c : k = i + j
    · rw [if_pos c]
      subst c
      have eT : cvT n (-1) (fun i => rd a (i : Int)) (fun i => rd b (i : Int)) i j (i + j) = rd a (i : Int) * rd b (j : Int) := by unfold cvT; rw [if_pos rfl]
      rw [eT, ← Int.add_assoc]
      exact ((Md.mod _ _).add (Md.mod _ _)).emod
    · rw [if_neg c]
      have eT : cvT n (-1) (fun i => rd a (i : Int)) (fun i => rd b (i : Int)) i j k = 0 := by unfold cvT; rw [if_neg (fun hh => c hh.symm), if_neg (by omega)]
      rw [eT, Int.add_zero]
  · intro h
    unfold twS
    rw [tab_rd (show i + j - n < n by omega), tab_set]
    refine tab_congr fun k hk => ?_
    have eB : twB n a b i (j + 1) k = twB n a b i j k + cvT n (-1) (fun i => rd a (i : Int)) (fun i => rd b (i : Int)) i j k := rfl
    rw [eB]
    by_cases c : k = i + j - n
    · rw [if_pos c]
      subst c
      have eT : cvT n (-1) (fun i => rd a (i : Int)) (fun i => rd b (i : Int)) i j (i + j - n) = -1 * (rd a (i : Int) * rd b (j : Int)) := by unfold cvT; rw [if_neg (by omega), if_pos (by omega)]
      rw [eT, ← Int.add_assoc]
      exact (((Md.mod _ _).sub (Md.mod _ _)).trans (Md.of_eq (by omega))).emod
    · rw [if_neg c]
      have eT : cvT n (-1) (fun i => rd a (i : Int)) (fun i => rd b (i : Int)) i j k = 0 := by unfold cvT; rw [if_neg (by omega), if_neg (by omega)]
      rw [eT, Int.add_zero]
theorem tw_ge {n i j : Nat} (hn : n ≤ 512) (hi : i < n) (hj : j < n) (c : ¬ i + j < n) : i + j - n < n ∧ wrap64 (((i + j : Nat) : Int) - (n : Int)) = ((i + j - n : Nat) : Int) ∧ ¬ ((i + j : Nat) : Int) < (n : Int) ∧ 0 ≤ ((i + j - n : Nat) : Int) ∧ ((i + j - n : Nat) : Int) < (n : Int) :=
  ⟨by omega, w64n (by omega) (by omega), by omega, by omega, by omega⟩
theorem iTwist_l1 {f : Int} (hf : fldOk f) (n : Nat) (hn : n ≤ 512) (a b : List Int) (ha : a.length = n) (hb : b.length = n) (hae : ∀ i : Nat, i < a.length → 0 ≤ rd a (i : Int) ∧ rd a (i : Int) < mdP f) (hbe : ∀ i : Nat, i < b.length → 0 ≤ rd b (i : Int) ∧ rd b (i : Int) < mdP f) (r : List Int) (i : Nat) (hi : i < n)
    (hr : Ev (fun k => impl_field_twisted.l0 k b (n : Int) (twS f n a b (i + 1) 0) a (n : Int) ((i + 1 : Nat) : Int) (mdP f) (rd fG f) (rd fT f)) r) : ∀ (d j : Nat), n - j = d → j ≤ n →
    Ev (fun k => impl_field_twisted.l1 k b (n : Int) (twS f n a b i j) (i : Int) (rd a (i : Int)) a (n : Int) (i : Int) b (n : Int) (j : Int) (mdP f) (rd fG f) (rd fT f)) r := by
  have hm := mdP_range hf
  have hra := hae i (by omega)
  intro d
  induction d with
  | zero =>
    intro j h hj
    have ej : j = n := by omega
    subst ej
    rw [twS_next]
    refine Ev.step (fun k => ?_) hr
    simp only [impl_field_twisted.l1]
    rw [if_neg (by omega), wsucc (by omega)]
  | succ d ih =>
    intro j h hj
    have key := ih (j + 1) (by omega) (by omega)
    have hrb := hbe j (by omega)
    have a1 := iMul (g := rd fG f) (t := rd fT f) (p := mdP f) (by omega) (by omega) hra.1 hra.2 hrb.1 hrb.2
    have hp : 0 ≤ rd a (i : Int) * rd b (j : Int) % mdP f ∧ rd a (i : Int) * rd b (j : Int) % mdP f < mdP f := ⟨Int.emod_nonneg _ (by omega), Int.emod_lt_of_pos _ (by omega)⟩
    have hset := twS_set (f := f) n a b i j hi (by omega)
    have hsr : ∀ x, x < n → 0 ≤ rd (twS f n a b i j) (x : Int) ∧ rd (twS f n a b i j) (x : Int) < mdP f := fun x hx => by
      unfold twS
      rw [tab_rd hx]
      exact ⟨Int.emod_nonneg _ (by omega), Int.emod_lt_of_pos _ (by omega)⟩
    have hlen : (twS f n a b i j).length = n := tab_len ..
    have w1 : wrap64 ((i : Int) + (j : Int)) = ((i + j : Nat) : Int) := w64n (by simp) (by omega)
    have wj : wrap64 ((j : Int) + 1) = ((j + 1 : Nat) : Int) := wsucc (by omega)
    obtain ⟨c1, c2, c3⟩ : (j : Int) < (n : Int) ∧ 0 ≤ (j : Int) ∧ (j : Int) < (b.length : Int) := by
      clear w1 wj key
      exact ⟨by omega, by omega, by omega⟩
    by_cases c : i + j < n
    · have s1 := hsr (i + j) c
      have a2 := iAdd (g := rd fG f) (t := rd fT f) (p := mdP f) (by omega) (by omega) s1.1 s1.2 hp.1 hp.2
      obtain ⟨c4, c5, c6⟩ : ((i + j : Nat) : Int) < (n : Int) ∧ 0 ≤ ((i + j : Nat) : Int) ∧ ((i + j : Nat) : Int) < ((twS f n a b i j).length : Int) := by
        clear w1 wj key a2
        exact ⟨by omega, by omega, by omega⟩
      have hset' := hset.1 c
      refine Ev.step (fun k => ?_) key
      simp only [impl_field_twisted.l1, a1, Option.bind_some, w1, wj, c1, c2, c3, c4, c5, c6, a2, if_true, Int.toNat_natCast, hset']
    · obtain ⟨c0, w2, c4, c5, c6⟩ := tw_ge hn hi (show j < n by clear w1 wj key; omega) c
      have s1 := hsr (i + j - n) c0
      have a2 := iSub (g := rd fG f) (t := rd fT f) (p := mdP f) (by clear w1 wj w2 key; omega) (by clear w1 wj w2 key; omega) s1.1 s1.2 hp.1 hp.2
      rw [← hlen] at c6
      have hset' := hset.2 c
      refine Ev.step (fun k => ?_) key
      rw [hlen] at c6
      simp only [impl_field_twisted.l1, a1, hlen, Option.bind_some, w1, wj, w2, c1, c2, c3, c4, c5, c6, a2, if_true, if_false, Int.toNat_natCast, hset']
theorem iTwist_l0 {f : Int} (hf : fldOk f) (n : Nat) (hn : n ≤ 512) (a b : List Int) (ha : a.length = n) (hb : b.length = n) (hae : ∀ i : Nat, i < a.length → 0 ≤ rd a (i : Int) ∧ rd a (i : Int) < mdP f) (hbe : ∀ i : Nat, i < b.length → 0 ≤ rd b (i : Int) ∧ rd b (i : Int) < mdP f) : ∀ (d i : Nat), n - i = d → i ≤ n →
    Ev (fun k => impl_field_twisted.l0 k b (n : Int) (twS f n a b i 0) a (n : Int) (i : Int) (mdP f) (rd fG f) (rd fT f)) (twS f n a b n 0) := by
  intro d
  induction d with
  | zero =>
    intro i h hi
    have ei : i = n := by omega
    subst ei
    refine ev_now fun k => ?_
    simp only [impl_field_twisted.l0]
    rw [if_neg (by omega)]
  | succ d ih =>
    intro i h hi
    have key := iTwist_l1 hf n hn a b ha hb hae hbe _ i (by omega) (ih (i + 1) (by omega) (by omega)) n 0 (by omega) (by omega)
    refine Ev.step (fun k => ?_) key
    simp only [impl_field_twisted.l0]
    rw [if_pos (by omega), if_pos (by omega), if_pos (by omega), hb]
    rfl
theorem iTwist_ev {f : Int} (hf : fldOk f) (K : Nat) (hK9 : K ≤ 9) (a b : List Int) (ha : a.length = 2 ^ K) (hb : b.length = 2 ^ K) (hae : ∀ i : Nat, i < a.length → 0 ≤ rd a (i : Int) ∧ rd a (i : Int) < mdP f) (hbe : ∀ i : Nat, i < b.length → 0 ≤ rd b (i : Int) ∧ rd b (i : Int) < mdP f) :
    Ev (fun k => impl_field_twisted.f k (mdP f) (rd fG f) (rd fT f) a b) (tab (2 ^ K) (twV f K a b)) := by
  have h9 := pow2_9 hK9
  have key := iTwist_l0 hf (2 ^ K) h9.1 a b ha hb hae hbe (2 ^ K) 0 (by omega) (by omega)
  have e0 : List.replicate (2 ^ K) 0 = twS f (2 ^ K) a b 0 0 := by
    unfold twS twA twB
    apply List.ext_getElem
    · simp [tab]
    · intro i h1 h2
      simp [tab, sm]
  have e1 : twS f (2 ^ K) a b (2 ^ K) 0 = tab (2 ^ K) (twV f K a b) := by
    unfold twS
    refine tab_congr fun k _ => ?_
    unfold twA twB twV cvV
    rw [sm, Int.add_zero]
  rw [← e0, e1] at key
  refine Ev.congr (fun k => ?_) key
  simp only [impl_field_twisted.f, ha, Int.toNat_natCast]
  rw [if_pos (by omega), if_pos (by omega)]
  rfl

-- block iTwisted
theorem iTwisted_ev {f : Int} {a b : List Int} (ha : vecP f a) (hb : vecP f b) {K : Nat} (hK9 : K ≤ 9) (hna : a.length = 2 ^ K) (hnb : b.length = 2 ^ K) : Ev (fun k => impl_Twisted.f k f a b) (tab (2 ^ K) (twV f K a b)) := by
  have h9 := pow2_9 hK9
  obtain ⟨n, e1, e2⟩ := evs2 (iVec2_ev f a b ha hb (by omega) (by omega)) (iTwist_ev ha.1 K hK9 a b hna hnb (vec_el ha) (vec_el hb))
  refine ⟨n, fun k hk => ?_⟩
  obtain ⟨j, rfl⟩ : ∃ j, k = n + j := ⟨k - n, by omega⟩
  simp only [impl_Twisted.f, e1 j, e2 j, Option.bind_some, if_true]

-- block iRingI
theorem iRing_good {f : Int} (hf : fldOk f) (n : Nat) (hn : n ≤ 512) (g : Nat → Int) (hg : ∀ i, i < n → 0 < g i ∧ g i < mdP f) (r : List Int) (hO : Ev (fun k => impl_field_oddBack.f k (mdP f) (rd fG f) (rd fT f) (tab n (fun t => invP f (g t)))) r) : ∀ (d i : Nat), n - i = d → i ≤ n →
    Ev (fun k => impl_RingInverse.l0 k (tab n (fun t => if t < i then invP f (g t) else g t)) (n : Int) (i : Int) (mdP f) (rd fG f) (rd fT f)) (r, true) := by
  have hm := mdP_range hf
  intro d
  induction d with
  | zero =>
    intro i h hi
    have ei : i = n := by omega
    subst ei
    have e : tab i (fun t => if t < i then invP f (g t) else g t) = tab i (fun t => invP f (g t)) := tab_congr fun t ht => if_pos ht
    obtain ⟨m0, e1⟩ := evs1 hO
    refine ⟨m0 + 1, fun k hk => ?_⟩
    obtain ⟨j, rfl⟩ : ∃ j, k = m0 + j + 1 := ⟨k - m0 - 1, by omega⟩
    simp only [impl_RingInverse.l0, e, e1 j, Option.bind_some]
    rw [if_neg (by omega)]
  | succ d ih =>
    intro i h hi
    have hgi := hg i (by omega)
    have key := ih (i + 1) (by omega) (by omega)
    have e : (tab n (fun t => if t < i then invP f (g t) else g t)).set i (invP f (g i)) = tab n (fun t => if t < i + 1 then invP f (g t) else g t) := by
      rw [tab_set]
      refine tab_congr fun t _ => ?_
      by_cases c : t = i
      · subst c; rw [if_pos rfl, if_pos (by omega)]
      · rw [if_neg c]
        by_cases c2 : t < i
        · rw [if_pos c2, if_pos (by omega)]
        · rw [if_neg c2, if_neg (by omega)]
    have hI := iInv_ev (p := mdP f) (g := rd fG f) (t := rd fT f) (a := g i) (by omega) (by omega) (by omega) hgi.2
    rw [show g i ^ (mdP f - 2).toNat % mdP f = invP f (g i) from rfl] at hI
    have hrd : rd (tab n (fun t => if t < i then invP f (g t) else g t)) (i : Int) = g i := by rw [tab_rd (by omega), if_neg (by omega)]
    obtain ⟨m0, e1, e2⟩ := evs2 hI key
    refine ⟨m0 + 1, fun k hk => ?_⟩
    obtain ⟨j, rfl⟩ : ∃ j, k = m0 + j + 1 := ⟨k - m0 - 1, by omega⟩
    simp only [impl_RingInverse.l0, tab_len, hrd, e1 j, Option.bind_some, Int.toNat_natCast, e]
    rw [if_pos (by omega), if_pos (by omega), if_pos (by omega), if_neg (by omega), wsucc (by omega)]
    exact e2 j
theorem iRing_bad {f : Int} (hf : fldOk f) (n : Nat) (hn : n ≤ 512) (g : Nat → Int) (hg : ∀ i, i < n → 0 ≤ g i ∧ g i < mdP f) (z : Nat) (hz : z < n) (hz0 : g z = 0) : ∀ (d i : Nat), z - i = d → i ≤ z →
    Ev (fun k => impl_RingInverse.l0 k (tab n (fun t => if t < i then invP f (g t) else g t)) (n : Int) (i : Int) (mdP f) (rd fG f) (rd fT f)) (([] : List Int), false) := by
  have hm := mdP_range hf
  intro d
  induction d with
  | zero =>
    intro i h hi
    have ei : i = z := by omega
    subst ei
    have hrd : rd (tab n (fun t => if t < i then invP f (g t) else g t)) (i : Int) = 0 := by rw [tab_rd (by omega), if_neg (by omega), hz0]
    refine ev_now fun k => ?_
    simp only [impl_RingInverse.l0, hrd, tab_len]
    rw [if_pos (by omega), if_pos (by omega), if_pos (by omega), if_pos trivial]
  | succ d ih =>
    intro i h hi
    have hgi := hg i (by omega)
    have hrd : rd (tab n (fun t => if t < i then invP f (g t) else g t)) (i : Int) = g i := by rw [tab_rd (by omega), if_neg (by omega)]
    by_cases c0 : g i = 0
    · refine ev_now fun k => ?_
      simp only [impl_RingInverse.l0, hrd, tab_len, c0]
      rw [if_pos (by omega), if_pos (by omega), if_pos (by omega), if_pos trivial]
    have key := ih (i + 1) (by omega) (by omega)
    have e : (tab n (fun t => if t < i then invP f (g t) else g t)).set i (invP f (g i)) = tab n (fun t => if t < i + 1 then invP f (g t) else g t) := by
      rw [tab_set]
      refine tab_congr fun t _ => ?_
      by_cases c : t = i
      · subst c; rw [if_pos rfl, if_pos (by omega)]
      · rw [if_neg c]
        by_cases c2 : t < i
        · rw [if_pos c2, if_pos (by omega)]
        · rw [if_neg c2, if_neg (by omega)]
    have hI := iInv_ev (p := mdP f) (g := rd fG f) (t := rd fT f) (a := g i) (by omega) (by omega) hgi.1 hgi.2
    rw [show g i ^ (mdP f - 2).toNat % mdP f = invP f (g i) from rfl] at hI
    obtain ⟨m0, e1, e2⟩ := evs2 hI key
    refine ⟨m0 + 1, fun k hk => ?_⟩
    obtain ⟨j, rfl⟩ : ∃ j, k = m0 + j + 1 := ⟨k - m0 - 1, by omega⟩
    simp only [impl_RingInverse.l0, tab_len, hrd, e1 j, Option.bind_some, Int.toNat_natCast, e]
    rw [if_pos (by omega), if_pos (by omega), if_pos (by omega), if_neg c0, wsucc (by omega)]
    exact e2 j
theorem iRingI_ev (f : Int) (v : List Int) (hn : v.length ≤ 1048576) : Ev (fun k => impl_RingInverse.f k f v) (ringI f v) := by
  by_cases h : splitV f v
  · obtain ⟨K, hK9, hlog, hnK, hKT⟩ := split_log h
    have h9 := pow2_9 hK9
    have h0 : tab (2 ^ K) (fun t => if t < 0 then invP f (oddV f K v t) else oddV f K v t) = tab (2 ^ K) (oddV f K v) := tab_congr fun t _ => if_neg (by omega)
    have hr : ∀ i, i < 2 ^ K → 0 ≤ oddV f K v i ∧ oddV f K v i < mdP f := fun i _ => oddV_range h.1.1 K v i
    have key : Ev (fun k => impl_RingInverse.l0 k (tab (2 ^ K) (oddV f K v)) ((2 ^ K : Nat) : Int) 0 (mdP f) (rd fG f) (rd fT f)) (ringI f v) := by
      by_cases hG : ringG f v
      · have hp : ∀ i, i < 2 ^ K → 0 < oddV f K v i ∧ oddV f K v i < mdP f := fun i hi => by
          have := hr i hi
          have h2 := hG.2 i (by omega)
          rw [hlog, Int.toNat_natCast] at h2
          omega
        obtain ⟨s1, s2⟩ := split_inv h hlog hnK (oddV f K v)
        have hO := iOddBackF_ev s1 hK9 s2 (tab_len ..) hKT
        have := iRing_good h.1.1 (2 ^ K) h9.1 (oddV f K v) hp _ hO (2 ^ K) 0 (by omega) (by omega)
        rw [h0] at this
        unfold ringI
        rw [if_pos hG, hlog, Int.toNat_natCast, hnK]
        exact this
      · have hz : ∃ z, z < 2 ^ K ∧ oddV f K v z = 0 := by
          by_cases c : ∃ z, z < 2 ^ K ∧ oddV f K v z = 0
          · exact c
          · refine absurd ⟨h, fun i hi hc => c ⟨i, by omega, ?_⟩⟩ hG
            rwa [hlog, Int.toNat_natCast] at hc
        obtain ⟨z, hz, hz0⟩ := hz
        have := iRing_bad h.1.1 (2 ^ K) h9.1 (oddV f K v) hr z hz hz0 z 0 (by omega) (by omega)
        rw [h0] at this
        unfold ringI
        rw [if_neg hG]
        exact this
    obtain ⟨n, e1, e2, e3⟩ := evs3 (iSplitF_ev f v hn) (iOddVal_ev h hK9 hlog hnK hKT) key
    refine ⟨n, fun k hk => ?_⟩
    obtain ⟨j, rfl⟩ : ∃ j, k = n + j := ⟨k - n, by omega⟩
    simp only [impl_RingInverse.f, e1 j, if_pos h, if_true, e2 j, tab_len, Option.bind_some]
    exact e3 j
  · obtain ⟨n, e1⟩ := evs1 (iSplitF_ev f v hn)
    refine ⟨n, fun k hk => ?_⟩
    obtain ⟨j, rfl⟩ : ∃ j, k = n + j := ⟨k - n, by omega⟩
    simp only [impl_RingInverse.f, e1 j, if_neg h, Option.bind_some, Bool.false_eq_true, if_false]
    unfold ringI
    rw [if_neg (fun c => h c.1)]

-- block drawOpen
theorem drawOpen (l : List Int) (hn : l.length ≤ 140737488355328) : ∃ f v i h, Ev (fun k => spec_l08DrawOpen.f k l) (f, v, l, i, h) ∧ v.length ≤ 600 ∧ dAt l i := by
  obtain ⟨h0, e0⟩ := drawNew l hn
  obtain ⟨f, i1, h1, e1, d1⟩ := drawField l hn 0 h0 (dAt0 l)
  obtain ⟨a, i2, h2, e2, l2, d2⟩ := drawVec l l hn f i1 h1 d1
  obtain ⟨b3, i3, h3, e3, d3⟩ := drawOnce1 l hn i2 h2 d2 4
  obtain ⟨m, k0, k2, k3⟩ := evs3 e0 e2 (sTwo_ev f)
  have wl : wrap64 ((a.length : Int) / 2) = ((a.length / 2 : Nat) : Int) := w64n (by omega) (by omega)
  by_cases ht : two f > 0
  · have hf : fldOk f := by
      by_cases c : fldOk f
      · exact c
      · unfold two at ht; rw [if_neg c] at ht; omega
    have hT := fT_range hf
    have hu : 0 ≤ IntKind.u64.wrap (two f) := by
      have e : two f = ((rd fT f).toNat : Int) := by unfold two; rw [if_pos hf]; omega
      rw [e, u64_nat (by omega)]; omega
    by_cases hs : (a.length : Int) = shl .i64 1 (IntKind.u64.wrap (two f))
    · cases b3 with
      | true =>
        refine ⟨f, a, i3, h3, ⟨m, fun k hk => ?_⟩, l2, d3⟩
        obtain ⟨j, rfl⟩ : ∃ j, k = m + j := ⟨k - m, by omega⟩
        simp only [spec_l08DrawOpen.f, k0 j, e1, k2 j, k3 j, Option.bind_some]
        rw [if_pos ht, if_pos hu, if_pos hs]
        simp only [e3, Option.bind_some, if_true]
      | false =>
        refine ⟨f, a.take (a.length / 2), i3, h3, ⟨m, fun k hk => ?_⟩, by rw [List.length_take]; omega, d3⟩
        obtain ⟨j, rfl⟩ : ∃ j, k = m + j := ⟨k - m, by omega⟩
        simp only [spec_l08DrawOpen.f, k0 j, e1, k2 j, k3 j, Option.bind_some]
        rw [if_pos ht, if_pos hu, if_pos hs]
        simp only [e3, Option.bind_some, Bool.false_eq_true, if_false, wl, Int.toNat_natCast]
        rw [if_pos (by omega), if_pos (by omega)]
    · refine ⟨f, a, i2, h2, ⟨m, fun k hk => ?_⟩, l2, d2⟩
      obtain ⟨j, rfl⟩ : ∃ j, k = m + j := ⟨k - m, by omega⟩
      simp only [spec_l08DrawOpen.f, k0 j, e1, k2 j, k3 j, Option.bind_some]
      rw [if_pos ht, if_pos hu, if_neg hs]
  · refine ⟨f, a, i2, h2, ⟨m, fun k hk => ?_⟩, l2, d2⟩
    obtain ⟨j, rfl⟩ : ∃ j, k = m + j := ⟨k - m, by omega⟩
    simp only [spec_l08DrawOpen.f, k0 j, e1, k2 j, k3 j, Option.bind_some]
    rw [if_neg ht]

-- block drawRing
theorem drawRing (l : List Int) (hn : l.length ≤ 140737488355328) : ∃ f v, Ev (fun k => spec_DrawRingInverse.f k l) (f, v) ∧ v.length ≤ 600 := by
  obtain ⟨f, v, i0, h0, e0, l0, d0⟩ := drawOpen l hn
  obtain ⟨b1, i1, h1, e1, d1⟩ := drawOnce1 l hn i0 h0 d0 6
  cases b1 with
  | false =>
    obtain ⟨m, k0⟩ := evs1 e0
    refine ⟨f, v, ⟨m + 1, fun k hk => ?_⟩, l0⟩
    obtain ⟨j, rfl⟩ : ∃ j, k = m + (j + 1) := ⟨k - m - 1, by omega⟩
    simp only [spec_DrawRingInverse.f, k0 (j + 1), e1, Option.bind_some, Bool.false_eq_true, if_false]
    rw [show m + (j + 1) = m + j + 1 from rfl]
    simp only [spec_DrawRingInverse.j0, Bool.false_eq_true, if_false]
  | true =>
    by_cases h : splitV f v
    · obtain ⟨K, hK9, hlog, hnK, hKT⟩ := split_log h
      have h9 := pow2_9 hK9
      obtain ⟨b2, i2, h2, e2, r2, d2⟩ := drawBelow l hn i1 h1 d1 (((tab (2 ^ K) (oddV f K v)).length : Nat) : Int)
      rw [tab_len] at e2 r2
      have hb : 0 ≤ b2 ∧ b2 < ((2 ^ K : Nat) : Int) := by omega
      have hO := sOddBack_ev f ((tab (2 ^ K) (oddV f K v)).set b2.toNat 0) (by rw [List.length_set, tab_len]; omega)
      have hlen := oddB_len f ((tab (2 ^ K) (oddV f K v)).set b2.toNat 0)
      rw [List.length_set, tab_len] at hlen
      obtain ⟨m, k0, k1, k2, k3⟩ := evs4 e0 (sOpen_ev f v (by omega)) (sOddVal_ev h hK9 hlog hnK hKT) hO
      refine ⟨f, oddB f ((tab (2 ^ K) (oddV f K v)).set b2.toNat 0), ⟨m + 1, fun k hk => ?_⟩, by omega⟩
      obtain ⟨j, rfl⟩ : ∃ j, k = m + (j + 1) := ⟨k - m - 1, by omega⟩
      simp only [spec_DrawRingInverse.f, k0 (j + 1), e1, k1 (j + 1), Option.bind_some, if_true, decide_eq_true h]
      rw [show m + (j + 1) = m + j + 1 from rfl]
      simp only [spec_DrawRingInverse.j0, if_true, k2 j, Option.bind_some, tab_len, e2]
      rw [if_pos hb.1, if_pos hb.2, k3 j, Option.bind_some]
    · obtain ⟨m, k0, k1⟩ := evs2 e0 (sOpen_ev f v (by omega))
      refine ⟨f, v, ⟨m + 1, fun k hk => ?_⟩, l0⟩
      obtain ⟨j, rfl⟩ : ∃ j, k = m + (j + 1) := ⟨k - m - 1, by omega⟩
      simp only [spec_DrawRingInverse.f, k0 (j + 1), e1, k1 (j + 1), Option.bind_some, if_true, decide_eq_false h]
      rw [show m + (j + 1) = m + j + 1 from rfl]
      simp only [spec_DrawRingInverse.j0, Bool.false_eq_true, if_false]

-- block iRingPow
theorem iRingPow3_ev {f : Int} {v : List Int} (h : vecP f v) {K : Nat} (hK9 : K ≤ 9) (hn : v.length = 2 ^ K) : Ev (fun k => impl_RingPower.f k f v 3) (tab (2 ^ K) (twV f K v (tab (2 ^ K) (twV f K v v))), true) := by
  have h9 := pow2_9 hK9
  have hm := mdP_range h.1
  have v1 : vecP f (tab (2 ^ K) oneF) := vecP_tabC h hn.symm fun i _ => by unfold oneF; split <;> omega
  have v2 : vecP f (tab (2 ^ K) (twV f K v v)) := vecP_tabC h hn.symm fun i _ => twV_range h.1 K v v i
  have e1 : tab (2 ^ K) (twV f K (tab (2 ^ K) oneF) v) = v := by
    refine Eq.trans ?_ (tab_of v).symm
    rw [hn]
    exact tab_congr fun k hk => tw_one K v (fun i hi => vec_el h i (by omega)) k hk
  have k1 := iTwist_ev h.1 K hK9 (tab (2 ^ K) oneF) v (tab_len ..) hn (vec_el v1) (vec_el h)
  rw [e1] at k1
  have k2 := iTwist_ev h.1 K hK9 v v hn hn (vec_el h) (vec_el h)
  have k3 := iTwist_ev h.1 K hK9 v (tab (2 ^ K) (twV f K v v)) hn (tab_len ..) (vec_el h) (vec_el v2)
  have k4 := iTwist_ev h.1 K hK9 (tab (2 ^ K) (twV f K v v)) (tab (2 ^ K) (twV f K v v)) (tab_len ..) (tab_len ..) (vec_el v2) (vec_el v2)
  have h1 := iVec1_ev f v (by omega)
  rw [if_pos h] at h1
  have er : (List.replicate (2 ^ K) (0 : Int)).set 0 1 = tab (2 ^ K) oneF := by
    apply List.ext_getElem
    · simp [tab]
    · intro i hi1 hi2
      rw [List.getElem_set]
      simp only [tab, List.getElem_map, List.getElem_range, List.getElem_replicate]
      unfold oneF
      by_cases c : i = 0
      · rw [if_pos c.symm, if_pos c]
      · rw [if_neg (fun hh => c hh.symm), if_neg c]
  generalize tab (2 ^ K) (twV f K v v) = A at *
  generalize tab (2 ^ K) (twV f K v A) = B at *
  generalize tab (2 ^ K) (twV f K A A) = C at *
  obtain ⟨n, g0, g1, g2, g3, g4⟩ := evs5 h1 k1 k2 k3 k4
  have t3 : Int.tmod 3 2 = 1 := rfl
  have t1 : Int.tmod 1 2 = 1 := rfl
  have d3 : wrap64 (Int.tdiv 3 2) = 1 := w64 (x := Int.tdiv 3 2) (by decide) (by decide)
  have d1 : wrap64 (Int.tdiv 1 2) = 0 := w64 (x := Int.tdiv 1 2) (by decide) (by decide)
  refine ⟨n + 4, fun k hk => ?_⟩
  obtain ⟨j, rfl⟩ : ∃ j, k = n + (j + 4) := ⟨k - n - 4, by omega⟩
  have p1 := g1 (j + 2)
  have p2 := g2 (j + 2)
  have p3 := g3 (j + 1)
  have p4 := g4 (j + 1)
  have p0 := g0 (j + 4)
  rw [show n + (j + 2) = n + j + 2 from rfl] at p1 p2
  rw [show n + (j + 1) = n + j + 1 from rfl] at p3 p4
  rw [show n + (j + 4) = n + j + 4 from rfl] at p0
  have q0 : impl_RingPower.l0 (n + j + 1) 0 B C (mdP f) (rd fG f) (rd fT f) = some (B, true) := by
    simp only [impl_RingPower.l0]
    rw [if_neg (by decide)]
  have q1 : impl_RingPower.l0 (n + j + 2) 1 v A (mdP f) (rd fG f) (rd fT f) = some (B, true) := by
    rw [show n + j + 2 = (n + j + 1) + 1 from rfl]
    simp only [impl_RingPower.l0, t1, d1, p3, p4, Option.bind_some, if_true]
    rw [if_pos (by decide)]
    exact q0
  have q3 : impl_RingPower.l0 (n + j + 3) 3 (tab (2 ^ K) oneF) v (mdP f) (rd fG f) (rd fT f) = some (B, true) := by
    rw [show n + j + 3 = (n + j + 2) + 1 from rfl]
    simp only [impl_RingPower.l0, t3, d3, p1, p2, Option.bind_some, if_true]
    rw [if_pos (by decide)]
    exact q1
  rw [show n + (j + 4) = n + j + 3 + 1 from rfl]
  rw [show n + j + 4 = n + j + 3 + 1 from rfl] at p0
  simp only [impl_RingPower.f, p0, Option.bind_some, if_true]
  rw [if_neg (by decide), decide_eq_false (by decide)]
  simp only [impl_RingPower.j0, Bool.false_eq_true, if_false, hn, Int.toNat_natCast, Option.bind_some, List.length_replicate]
  rw [if_pos (by omega), if_pos (by omega), if_pos (by omega), show (0 : Int).toNat = 0 from rfl, er]
  exact q3

end Go.Proofs.Ytdefnccngnilmaa.QFnRingInverse

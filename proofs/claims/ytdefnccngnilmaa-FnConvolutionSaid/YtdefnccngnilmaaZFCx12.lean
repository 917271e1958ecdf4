/- Lemmas on the printed functions of FnConvolution: what each comes to. -/
import Derived.Test.YtdefnccngnilmaaZFCx11
import Derived.Test.YtdefnccngnilmaaZFCV
namespace Go.Proofs.Ytdefnccngnilmaa.QFnConvolution
open Go.RowKit Go.Proofs.Ytdefnccngnilmaa.PFnConvolution Go.Proofs.YtdefnccngnilmaaW.PrintWords Go.Proofs.YtdefnccngnilmaaW.PrintLast Go.Proofs.Ytdefnccngnilmaa.Math
set_option linter.unusedVariables false
set_option linter.unusedSimpArgs false

-- block l01In
theorem in_eq (a b c : Int) : spec_l01In.f a b c = some (decide (b ≤ a ∧ a ≤ c)) := by
  simp only [spec_l01In.f, if_dec]

-- block fldOk
def fldOk (f : Int) : Prop := 0 ≤ f ∧ f < 9
instance fldOk_dec (f : Int) : Decidable (fldOk f) := by unfold fldOk; infer_instance
def fP : List Int := [17, 97, 193, 257, 7681, 12289, 998244353, 469762049, 1004535809]
def fG : List Int := [3, 5, 5, 3, 17, 11, 3, 3, 3]
def fT : List Int := [4, 5, 6, 8, 9, 12, 23, 26, 21]
theorem fld_cases {f : Int} (h : fldOk f) {Q : Int → Prop} (h0 : Q 0) (h1 : Q 1) (h2 : Q 2) (h3 : Q 3) (h4 : Q 4) (h5 : Q 5) (h6 : Q 6) (h7 : Q 7) (h8 : Q 8) : Q f := by
  unfold fldOk at h
  have : f = 0 ∨ f = 1 ∨ f = 2 ∨ f = 3 ∨ f = 4 ∨ f = 5 ∨ f = 6 ∨ f = 7 ∨ f = 8 := by omega
  rcases this with rfl | rfl | rfl | rfl | rfl | rfl | rfl | rfl | rfl <;> assumption

-- block sMod
def md (f : Int) : Int := if fldOk f then rd fP f else 0
theorem sMod (f : Int) : spec_Modulus.f f = some (md f) := by
  by_cases h : fldOk f
  · exact fld_cases (Q := fun f => spec_Modulus.f f = some (md f)) h rfl rfl rfl rfl rfl rfl rfl rfl rfl
  · unfold md
    rw [if_neg h]
    unfold fldOk at h
    simp only [spec_Modulus.f]
    rw [if_neg (by omega), if_neg (by omega), if_neg (by omega), if_neg (by omega), if_neg (by omega), if_neg (by omega), if_neg (by omega), if_neg (by omega), if_neg (by omega)]
theorem md_pos {f : Int} (h : fldOk f) : 17 ≤ md f ∧ md f ≤ 1004535809 := fld_cases (Q := fun f => 17 ≤ md f ∧ md f ≤ 1004535809) h (by decide) (by decide) (by decide) (by decide) (by decide) (by decide) (by decide) (by decide) (by decide)
theorem md_zero {f : Int} : md f = 0 ↔ ¬ fldOk f := by
  by_cases h : fldOk f
  · have := md_pos h
    simp [h]; omega
  · simp [md, h]

-- block iFld
theorem iFld (f : Int) : impl_fieldOf.f f = some (if fldOk f then (rd fP f, rd fG f, rd fT f, true) else (0, 0, 0, false)) := by
  by_cases h : fldOk f
  · exact fld_cases (Q := fun f => impl_fieldOf.f f = some (if fldOk f then (rd fP f, rd fG f, rd fT f, true) else (0, 0, 0, false))) h rfl rfl rfl rfl rfl rfl rfl rfl rfl
  · rw [if_neg h]
    unfold fldOk at h
    show Go.Proofs.Ytdefnccngnilmaa.Fld.impl_fieldOf.f f = _
    unfold Go.Proofs.Ytdefnccngnilmaa.Fld.impl_fieldOf.f
    by_cases h1 : f < 0
    · rw [if_pos h1]
    · rw [if_neg h1, if_pos (by omega)]

-- block iMul
theorem iMul {p g t a b : Int} (hp : 2 ≤ p) (hp2 : p ≤ 2147483648) (ha : 0 ≤ a) (ha' : a < p) (hb : 0 ≤ b) (hb' : b < p) : impl_field_mul.f p g t a b = some (a * b % p) := by
  have h0 : 0 ≤ a * b := Int.mul_nonneg ha hb
  have h1 : a * b ≤ 2147483648 * 2147483648 := Int.mul_le_mul (by omega) (by omega) hb (by omega)
  simp only [impl_field_mul.f]
  rw [if_neg (by omega), w64 (by omega) (by omega), Int.tmod_eq_emod_of_nonneg h0]

-- block iPow
theorem iPow_l {p g t : Int} (hp : 2 ≤ p) (hp2 : p ≤ 2147483648) (e : Nat) : ∀ (a out : Int), e < 4611686018427387904 → 0 ≤ a → a < p → 0 ≤ out → out < p →
    Ev (fun k => impl_field_power.l0 k a (e : Int) out p g t) (out * a ^ e % p) := by
  induction e using Nat.strongRecOn with
  | _ e ih =>
    intro a out he ha ha' ho ho'
    by_cases h0 : e = 0
    · subst h0
      refine ev_now fun k => ?_
      simp only [impl_field_power.l0]
      rw [if_neg (by omega), show a ^ 0 = 1 by grind, Int.mul_one, Int.emod_eq_of_lt ho ho']
    · have m0 : ∀ z : Int, 0 ≤ z % p := fun z => Int.emod_nonneg _ (by omega)
      have m1 : ∀ z : Int, z % p < p := fun z => Int.emod_lt_of_pos _ (by omega)
      have ht : Int.tmod (e : Int) 2 = ((e % 2 : Nat) : Int) := by rw [Int.tmod_eq_emod_of_nonneg (by omega)]; omega
      have hd : wrap64 (Int.tdiv (e : Int) 2) = ((e / 2 : Nat) : Int) := by rw [Int.tdiv_eq_ediv_of_nonneg (by omega), w64 (by omega) (by omega)]; omega
      by_cases h1 : e % 2 = 1
      · rw [← pw_odd h1]
        refine Ev.step (fun k => ?_) (ih (e / 2) (by omega) (a * a % p) (out * a % p) (by omega) (m0 _) (m1 _) (m0 _) (m1 _))
        simp only [impl_field_power.l0, iMul hp hp2 ho ho' ha ha', iMul hp hp2 ha ha' ha ha', Option.bind_some, ht, hd]
        rw [if_pos (by omega), if_pos (by omega)]
      · rw [← pw_even h1]
        refine Ev.step (fun k => ?_) (ih (e / 2) (by omega) (a * a % p) out (by omega) (m0 _) (m1 _) ho ho')
        simp only [impl_field_power.l0, iMul hp hp2 ha ha' ha ha', Option.bind_some, ht, hd]
        rw [if_pos (by omega), if_neg (by omega)]
theorem iPow_ev {p g t a : Int} (hp : 2 ≤ p) (hp2 : p ≤ 2147483648) (e : Nat) (he : e < 4611686018427387904) (ha : 0 ≤ a) (ha' : a < p) : Ev (fun k => impl_field_power.f k p g t a (e : Int)) (a ^ e % p) := by
  have := iPow_l (g := g) (t := t) hp hp2 e a 1 he ha ha' (by omega) (by omega)
  rw [Int.one_mul] at this
  exact Ev.congr (fun k => rfl) this

-- block iInv
theorem iInv_ev {p g t a : Int} (hp : 2 ≤ p) (hp2 : p ≤ 2147483648) (ha : 0 ≤ a) (ha' : a < p) : Ev (fun k => impl_field_inverse.f k p g t a) (a ^ (p - 2).toNat % p) := by
  have := iPow_ev (g := g) (t := t) hp hp2 (p - 2).toNat (by omega) ha ha'
  refine Ev.congr (fun k => ?_) this
  simp only [impl_field_inverse.f]
  rw [w64 (by omega) (by omega), show (((p - 2).toNat : Nat) : Int) = p - 2 by omega]
  simp

-- block elemB
def elemB (p : Int) (l : List Int) : Bool := allF l.length 0 (fun j => decide (0 ≤ rd l (j : Int) ∧ rd l (j : Int) < p))
theorem elemB_iff (p : Int) (l : List Int) : elemB p l = true ↔ ∀ x ∈ l, 0 ≤ x ∧ x < p := by
  unfold elemB
  rw [allF_iff]
  constructor
  · intro h x hx
    obtain ⟨j, hj, rfl⟩ := List.getElem_of_mem hx
    have := h j (by omega) (by omega)
    rw [decide_eq_true_eq, rd_eq hj] at this
    exact this
  · intro h j _ hj
    rw [decide_eq_true_eq, rd_eq (by omega)]
    exact h _ (List.getElem_mem _)

-- block iElem
theorem iElem_l (p g t : Int) (l : List Int) (hn : l.length ≤ 1048576) : ∀ (d i : Nat), l.length - i = d → i ≤ l.length → Ev (fun k => impl_field_areElements.l0 k l (l.length : Int) (i : Int) p g t) (allF d i (fun j => decide (0 ≤ rd l (j : Int) ∧ rd l (j : Int) < p))) := by
  intro d
  induction d with
  | zero =>
    intro i h hi
    refine ev_now fun k => ?_
    simp only [impl_field_areElements.l0]
    rw [if_neg (by omega)]; rfl
  | succ d ih =>
    intro i h hi
    rw [allF]
    by_cases hq : 0 ≤ rd l (i : Int) ∧ rd l (i : Int) < p
    · rw [decide_eq_true hq, Bool.true_and]
      refine Ev.step (fun k => ?_) (ih (i + 1) (by omega) (by omega))
      simp only [impl_field_areElements.l0]
      rw [if_pos (by omega), if_pos (by omega), if_pos (by omega), if_neg (by omega), if_neg (by omega), wsucc (by omega)]
    · rw [decide_eq_false hq, Bool.false_and]
      refine ev_now fun k => ?_
      simp only [impl_field_areElements.l0]
      rw [if_pos (by omega), if_pos (by omega), if_pos (by omega)]
      by_cases h1 : rd l (i : Int) < 0
      · rw [if_pos h1]
      · rw [if_neg h1, if_pos (by omega)]
theorem iElem_ev (p g t : Int) (l : List Int) (hn : l.length ≤ 1048576) : Ev (fun k => impl_field_areElements.f k p g t l) (elemB p l) := by
  refine Ev.congr (fun k => ?_) (iElem_l p g t l hn l.length 0 (by omega) (by omega))
  simp [impl_field_areElements.f]

-- block two
def two (f : Int) : Int := if fldOk f then rd fT f else -1

-- block sTwo
theorem sTwo_ev (f : Int) : Ev (fun k => spec_TwoPower.f k f) (two f) := by
  by_cases h : fldOk f
  · exact fld_cases (Q := fun f => Ev (fun k => spec_TwoPower.f k f) (two f)) h (Ev.of (fun k => spec_TwoPower.mono _ k) (k := 40) (by decide +kernel)) (Ev.of (fun k => spec_TwoPower.mono _ k) (k := 40) (by decide +kernel)) (Ev.of (fun k => spec_TwoPower.mono _ k) (k := 40) (by decide +kernel)) (Ev.of (fun k => spec_TwoPower.mono _ k) (k := 40) (by decide +kernel)) (Ev.of (fun k => spec_TwoPower.mono _ k) (k := 40) (by decide +kernel)) (Ev.of (fun k => spec_TwoPower.mono _ k) (k := 40) (by decide +kernel)) (Ev.of (fun k => spec_TwoPower.mono _ k) (k := 40) (by decide +kernel)) (Ev.of (fun k => spec_TwoPower.mono _ k) (k := 40) (by decide +kernel)) (Ev.of (fun k => spec_TwoPower.mono _ k) (k := 40) (by decide +kernel))
  · unfold two
    rw [if_neg h]
    refine ev_some fun k => ?_
    simp only [spec_TwoPower.f, sMod, Option.bind_some, md_zero, h, not_false_eq_true, if_true]

-- block drawByte
/-- A place of a row to draw from, or its end. -/
def dAt (l : List Int) (i : Int) : Prop := 0 ≤ i ∧ i ≤ l.length
theorem drawByte (l : List Int) (hn : l.length ≤ 140737488355328) (i h : Int) (hi : dAt l i) : ∃ b i' h', spec_l01Byte.f l i h = some (b, i', h') ∧ (0 ≤ b ∧ b ≤ 255) ∧ dAt l i' := by
  unfold dAt at hi ⊢
  simp only [spec_l01Byte.f]
  by_cases hl : i < (l.length : Int)
  · rw [if_pos hl, if_pos hi.1]
    exact ⟨_, _, _, rfl, bits_and _ 255 (by decide), by rw [w64 (by omega) (by omega)]; omega⟩
  · rw [if_neg hl]
    exact ⟨_, _, _, rfl, bits_and _ 255 (by decide), hi⟩

-- block drawBelow
theorem drawBelow (l : List Int) (hn : l.length ≤ 140737488355328) (i h : Int) (hi : dAt l i) (m : Int) : ∃ b i' h', spec_l01Below.f l i h m = some (b, i', h') ∧ (0 ≤ b ∧ (b < m ∨ b = 0)) ∧ dAt l i' := by
  simp only [spec_l01Below.f]
  by_cases h0 : m ≤ 0
  · rw [if_pos h0]
    exact ⟨_, _, _, rfl, by omega, hi⟩
  · rw [if_neg h0]
    obtain ⟨b1, i1, h1, e1, r1, d1⟩ := drawByte l hn i h hi
    rw [e1]
    by_cases hm : m ≤ 256
    · rw [if_pos hm, Option.bind_some, if_neg (by omega)]
      refine ⟨_, _, _, rfl, ?_, d1⟩
      simp only
      rw [Int.tmod_eq_emod_of_nonneg (by omega)]
      exact ⟨Int.emod_nonneg _ (by omega), Or.inl (Int.emod_lt_of_pos _ (by omega))⟩
    · rw [if_neg hm, Option.bind_some]
      obtain ⟨b2, i2, h2, e2, r2, d2⟩ := drawByte l hn i1 h1 d1
      rw [e2, Option.bind_some]
      obtain ⟨b3, i3, h3, e3, r3, d3⟩ := drawByte l hn i2 h2 d2
      rw [e3, Option.bind_some, if_neg (by omega)]
      refine ⟨_, _, _, rfl, ?_, d3⟩
      simp only
      rw [w64 (x := b1 * 65536) (by omega) (by omega), w64 (x := b2 * 256) (by omega) (by omega), w64 (x := b1 * 65536 + b2 * 256) (by omega) (by omega), w64 (by omega) (by omega), Int.tmod_eq_emod_of_nonneg (by omega)]
      exact ⟨Int.emod_nonneg _ (by omega), Or.inl (Int.emod_lt_of_pos _ (by omega))⟩

-- block drawPickInt
theorem drawPickInt (l : List Int) (hn : l.length ≤ 140737488355328) (i h : Int) (hi : dAt l i) (xs : List Int) (hx : 0 < xs.length) : ∃ b i' h', spec_l01PickInt.f l i h xs = some (b, i', h') ∧ b ∈ xs ∧ dAt l i' := by
  simp only [spec_l01PickInt.f]
  obtain ⟨b1, i1, h1, e1, r1, d1⟩ := drawBelow l hn i h hi (xs.length : Int)
  rw [e1, Option.bind_some, if_pos r1.1, if_pos (by simp only; omega)]
  refine ⟨_, _, _, rfl, ?_, d1⟩
  simp only
  rw [show b1 = ((b1.toNat : Nat) : Int) by omega]
  exact rd_mem (by omega)

-- block drawNew
theorem drawNew_l (l : List Int) (hn : l.length ≤ 140737488355328) : ∀ (d i : Nat) (h : Int), 4000 - i = d → ∃ h', Ev (fun k => spec_l01New.l0 k l h (i : Int)) (l, 0, h') := by
  intro d
  induction d with
  | zero =>
    intro i h hd
    refine ⟨h, ev_now fun k => ?_⟩
    simp only [spec_l01New.l0]
    split
    · rw [if_neg (by omega)]
    · rfl
  | succ d ih =>
    intro i h hd
    by_cases hl : (i : Int) < (l.length : Int)
    · obtain ⟨h', e⟩ := ih (i + 1) (Go.bits .and .i64 (wrap64 ((wrap64 ((wrap64 (h * 149)) + (wrap64 (rd l i)))) + 11)) 1073741823) (by omega)
      refine ⟨h', Ev.step (fun k => ?_) e⟩
      simp only [spec_l01New.l0]
      rw [if_pos hl, if_pos (by omega), if_pos (by omega), wsucc (by omega)]
    · refine ⟨h, ev_now fun k => ?_⟩
      simp only [spec_l01New.l0]
      rw [if_neg hl]
theorem drawNew (l : List Int) (hn : l.length ≤ 140737488355328) : ∃ h', Ev (fun k => spec_l01New.f k l) (l, 0, h') := by
  obtain ⟨h', e⟩ := drawNew_l l hn 4000 0 (wrap64 (710710 + (l.length : Int))) (by omega)
  exact ⟨h', Ev.congr (fun k => rfl) e⟩
theorem dAt0 (l : List Int) : dAt l 0 := by unfold dAt; omega

-- block shlPow
theorem shl_pow {i : Nat} (h : i ≤ 10) : shl .i64 1 (i : Int) = 2 ^ i ∧ shl .i64 1 (IntKind.u64.wrap (i : Int)) = 2 ^ i ∧ 0 ≤ IntKind.u64.wrap (i : Int) := by
  rcases (show i = 0 ∨ i = 1 ∨ i = 2 ∨ i = 3 ∨ i = 4 ∨ i = 5 ∨ i = 6 ∨ i = 7 ∨ i = 8 ∨ i = 9 ∨ i = 10 by omega) with rfl | rfl | rfl | rfl | rfl | rfl | rfl | rfl | rfl | rfl | rfl <;> decide +kernel

-- block sLogOf
theorem sLogOf_l (n : Int) : ∀ (d i : Nat), i + d = 10 → Ev (fun k => spec_LogOf.l0 k n (i : Int)) (logF d i n) := by
  intro d
  induction d with
  | zero =>
    intro i h
    refine ev_now fun k => ?_
    simp only [spec_LogOf.l0]
    rw [if_neg (by omega)]; rfl
  | succ d ih =>
    intro i h
    have hs := shl_pow (i := i) (by omega)
    rw [logF]
    by_cases hn : n = 2 ^ i
    · rw [if_pos hn]
      refine ev_now fun k => ?_
      simp only [spec_LogOf.l0, hs.2.1]
      rw [if_pos (by omega), if_pos hs.2.2, if_pos hn]
    · rw [if_neg hn]
      refine Ev.step (fun k => ?_) (ih (i + 1) (by omega))
      simp only [spec_LogOf.l0, hs.2.1]
      rw [if_pos (by omega), if_pos hs.2.2, if_neg hn, wsucc (by omega)]
theorem sLogOf_ev (n : Int) : Ev (fun k => spec_LogOf.f k n) (logB n) := Ev.congr (fun k => rfl) (sLogOf_l n 10 0 rfl)

-- block iLogOf
theorem iLogOf_l (n : Int) : ∀ (d i : Nat), i + d = 10 → Ev (fun k => impl_logOf.l0 k n (i : Int)) (logF d i n) := by
  intro d
  induction d with
  | zero =>
    intro i h
    refine ev_now fun k => ?_
    simp only [impl_logOf.l0]
    rw [if_neg (by omega)]; rfl
  | succ d ih =>
    intro i h
    have hs := shl_pow (i := i) (by omega)
    rw [logF]
    by_cases hn : n = 2 ^ i
    · rw [if_pos hn]
      refine ev_now fun k => ?_
      simp only [impl_logOf.l0, hs.1]
      rw [if_pos (by omega), if_pos (by omega), if_pos hn]
    · rw [if_neg hn]
      refine Ev.step (fun k => ?_) (ih (i + 1) (by omega))
      simp only [impl_logOf.l0, hs.1]
      rw [if_pos (by omega), if_pos (by omega), if_neg hn, wsucc (by omega)]
theorem iLogOf_ev (n : Int) : Ev (fun k => impl_logOf.f k n) (logB n) := Ev.congr (fun k => rfl) (iLogOf_l n 10 0 rfl)

-- block sElem
theorem sElem_l (p : Int) (hp : 2 ≤ p) (hp2 : p ≤ 2147483648) (l : List Int) (hn : l.length ≤ 1048576) : ∀ (d i : Nat), l.length - i = d → i ≤ l.length → Ev (fun k => spec_l03Elements.l0 k l p (i : Int)) (allF d i (fun j => decide (0 ≤ rd l (j : Int) ∧ rd l (j : Int) < p))) := by
  intro d
  induction d with
  | zero =>
    intro i h hi
    refine ev_now fun k => ?_
    simp only [spec_l03Elements.l0]
    rw [if_neg (by omega)]; rfl
  | succ d ih =>
    intro i h hi
    rw [allF]
    have hw : wrap64 (p - 1) = p - 1 := w64 (by omega) (by omega)
    by_cases hq : 0 ≤ rd l (i : Int) ∧ rd l (i : Int) < p
    · rw [decide_eq_true hq, Bool.true_and]
      refine Ev.step (fun k => ?_) (ih (i + 1) (by omega) (by omega))
      simp only [spec_l03Elements.l0, in_eq, hw, Option.bind_some, decide_eq_true_eq]
      rw [if_pos (by omega), if_pos (by omega), if_pos (by omega), wsucc (by omega)]
    · rw [decide_eq_false hq, Bool.false_and]
      refine ev_now fun k => ?_
      simp only [spec_l03Elements.l0, in_eq, hw, Option.bind_some, decide_eq_true_eq]
      rw [if_pos (by omega), if_pos (by omega), if_neg (by omega)]
theorem sElem_ev {f : Int} (h : fldOk f) (l : List Int) (hn : l.length ≤ 1048576) : Ev (fun k => spec_l03Elements.f k f l) (elemB (md f) l) := by
  have hm := md_pos h
  refine Ev.congr (fun k => ?_) (sElem_l (md f) (by omega) (by omega) l hn l.length 0 (by omega) (by omega))
  simp only [spec_l03Elements.f, sMod, Option.bind_some]
  rw [if_neg (by omega)]
  rfl

-- block vecP
def mdP (f : Int) : Int := rd fP f
def vecP (f : Int) (v : List Int) : Prop := fldOk f ∧ 0 ≤ logB (v.length : Int) ∧ logB (v.length : Int) ≤ rd fT f ∧ elemB (mdP f) v = true
instance vecP_dec (f : Int) (v : List Int) : Decidable (vecP f v) := by unfold vecP; infer_instance
theorem vec_el {f : Int} {v : List Int} (h : vecP f v) : ∀ i, i < v.length → 0 ≤ rd v (i : Int) ∧ rd v (i : Int) < mdP f := fun i hi => (elemB_iff _ _).1 h.2.2.2 _ (rd_mem hi)
theorem vec_log {f : Int} {v : List Int} (h : vecP f v) : ∃ K : Nat, K ≤ 9 ∧ logB (v.length : Int) = K ∧ v.length = 2 ^ K ∧ (K : Int) ≤ rd fT f := by
  obtain ⟨K, h1, h2, h3⟩ := logB_len h.2.1
  exact ⟨K, h1, h2, h3, by have := h.2.2.1; omega⟩

-- block sVec
theorem md_eq {f : Int} (h : fldOk f) : mdP f = md f := by unfold mdP md; rw [if_pos h]
theorem sVec_ev (f : Int) (v : List Int) (hn : v.length ≤ 1048576) : Ev (fun k => spec_VectorOk.f k f v) (decide (vecP f v)) := by
  by_cases h : fldOk f
  · obtain ⟨n, e1, e2, e3⟩ := evs3 (sLogOf_ev (v.length : Int)) (sTwo_ev f) (sElem_ev h v hn)
    refine ⟨n, fun k hk => ?_⟩
    obtain ⟨j, rfl⟩ : ∃ j, k = n + j := ⟨k - n, by omega⟩
    have ht : two f = rd fT f := by unfold two; rw [if_pos h]
    simp only [spec_VectorOk.f, e1, e2, e3, ht, Option.bind_some]
    by_cases h1 : logB (v.length : Int) ≥ 0
    · rw [if_pos h1]
      by_cases h2 : logB (v.length : Int) ≤ rd fT f
      · rw [if_pos h2]
        by_cases h3 : elemB (md f) v = true
        · rw [h3, decide_eq_true (show vecP f v from ⟨h, h1, h2, by rw [md_eq h]; exact h3⟩)]
        · rw [Bool.not_eq_true] at h3
          rw [h3, decide_eq_false (show ¬ vecP f v from fun x => by have := x.2.2.2; rw [md_eq h, h3] at this; exact Bool.noConfusion this)]
      · rw [if_neg h2, decide_eq_false (show ¬ vecP f v from fun x => h2 x.2.2.1)]
    · rw [if_neg h1, decide_eq_false (show ¬ vecP f v from fun x => h1 x.2.1)]
  · obtain ⟨n, e1, e2⟩ := evs2 (sLogOf_ev (v.length : Int)) (sTwo_ev f)
    refine ⟨n, fun k hk => ?_⟩
    obtain ⟨j, rfl⟩ : ∃ j, k = n + j := ⟨k - n, by omega⟩
    have ht : two f = -1 := by unfold two; rw [if_neg h]
    simp only [spec_VectorOk.f, e1, e2, ht, Option.bind_some]
    rw [decide_eq_false (show ¬ vecP f v from fun x => h x.1)]
    by_cases h1 : logB (v.length : Int) ≥ 0
    · rw [if_pos h1, if_neg (by omega)]
    · rw [if_neg h1]

-- block iVec
def vecsAt (f : Int) (vs : List (List Int)) (i : Nat) : Prop := 0 ≤ logB ((rd_L2 vs (i : Int)).length : Int) ∧ logB ((rd_L2 vs (i : Int)).length : Int) ≤ rd fT f ∧ elemB (mdP f) (rd_L2 vs (i : Int)) = true ∧ (rd_L2 vs (i : Int)).length = (rd_L2 vs 0).length
instance vecsAt_dec (f : Int) (vs : List (List Int)) (i : Nat) : Decidable (vecsAt f vs i) := by unfold vecsAt; infer_instance
theorem iVec_l (f g : Int) (vs : List (List Int)) (hn : vs.length ≤ 1048576) (hv : ∀ i : Nat, (rd_L2 vs (i : Int)).length ≤ 1048576) : ∀ (d i : Nat), vs.length - i = d → i ≤ vs.length →
    Ev (fun k => impl_vectorField.l0 k vs vs (vs.length : Int) (i : Int) (mdP f) g (rd fT f)) (if allF d i (fun j => decide (vecsAt f vs j)) = true then (mdP f, g, rd fT f, true) else (0, 0, 0, false)) := by
  intro d
  induction d with
  | zero =>
    intro i h hi
    refine ev_now fun k => ?_
    simp only [impl_vectorField.l0]
    rw [if_neg (by omega)]; rfl
  | succ d ih =>
    intro i h hi
    rw [allF]
    obtain ⟨n, e1, e2, e3⟩ := evs3 (iLogOf_ev ((rd_L2 vs (i : Int)).length : Int)) (iElem_ev (mdP f) g (rd fT f) (rd_L2 vs (i : Int)) (hv i)) (ih (i + 1) (by omega) (by omega))
    refine ⟨n + 1, fun k hk => ?_⟩
    obtain ⟨j, rfl⟩ : ∃ j, k = n + j + 1 := ⟨k - n - 1, by omega⟩
    simp only [impl_vectorField.l0, e1, e2, Option.bind_some]
    rw [if_pos (by omega), if_pos (by omega), if_pos (by omega)]
    by_cases h1 : logB ((rd_L2 vs (i : Int)).length : Int) < 0
    · rw [if_pos h1, decide_eq_false (show ¬ vecsAt f vs i from fun x => by have := x.1; omega), Bool.false_and]; rfl
    · rw [if_neg h1]
      by_cases h2 : logB ((rd_L2 vs (i : Int)).length : Int) > rd fT f
      · rw [if_pos h2, decide_eq_false (show ¬ vecsAt f vs i from fun x => by have := x.2.1; omega), Bool.false_and]; rfl
      · rw [if_neg h2]
        by_cases h3 : elemB (mdP f) (rd_L2 vs (i : Int)) = true
        · rw [if_pos h3, if_pos (by omega)]
          by_cases h4 : (rd_L2 vs (i : Int)).length = (rd_L2 vs 0).length
          · rw [if_pos (by omega), wsucc (by omega), e3 j, decide_eq_true (show vecsAt f vs i from ⟨by omega, by omega, h3, h4⟩), Bool.true_and]
          · rw [if_neg (by omega), decide_eq_false (show ¬ vecsAt f vs i from fun x => h4 x.2.2.2), Bool.false_and]; rfl
        · rw [if_neg h3, decide_eq_false (show ¬ vecsAt f vs i from fun x => h3 x.2.2.1), Bool.false_and]; rfl
theorem iVec1_ev (f : Int) (v : List Int) (hn : v.length ≤ 1048576) : Ev (fun k => impl_vectorField.f k f [v]) (if vecP f v then (mdP f, rd fG f, rd fT f, true) else (0, 0, 0, false)) := by
  by_cases h : fldOk f
  · have key := iVec_l f (rd fG f) [v] (by simp) (by
      intro i
      cases i with
      | zero => exact hn
      | succ i => simp [rd_L2]) 1 0 rfl (by simp)
    have e : (allF 1 0 (fun j => decide (vecsAt f [v] j)) = true) = vecP f v := by
      apply propext
      simp only [allF, Bool.and_true, decide_eq_true_eq]
      exact ⟨fun x => ⟨h, x.1, x.2.1, x.2.2.1⟩, fun x => ⟨x.2.1, x.2.2.1, x.2.2.2, rfl⟩⟩
    simp only [e] at key
    refine Ev.congr (fun k => ?_) key
    simp only [impl_vectorField.f, iFld, if_pos h, Option.bind_some, if_true]
    rfl
  · rw [if_neg (fun x => h x.1)]
    refine ev_some fun k => ?_
    simp only [impl_vectorField.f, iFld, if_neg h, Option.bind_some, Bool.false_eq_true, if_false]

-- block rt
def rt (f : Int) (s : Nat) : Int := rd fG f ^ ((mdP f - 1) / 2 ^ s).toNat % mdP f
theorem fG_range {f : Int} (h : fldOk f) : 3 ≤ rd fG f ∧ rd fG f < mdP f ∧ rd fG f ≤ 17 := fld_cases (Q := fun f => 3 ≤ rd fG f ∧ rd fG f < mdP f ∧ rd fG f ≤ 17) h (by decide) (by decide) (by decide) (by decide) (by decide) (by decide) (by decide) (by decide) (by decide)
theorem mdP_range {f : Int} (h : fldOk f) : 17 ≤ mdP f ∧ mdP f ≤ 1004535809 := fld_cases (Q := fun f => 17 ≤ mdP f ∧ mdP f ≤ 1004535809) h (by decide) (by decide) (by decide) (by decide) (by decide) (by decide) (by decide) (by decide) (by decide)
theorem fT_range {f : Int} (h : fldOk f) : 4 ≤ rd fT f ∧ rd fT f ≤ 26 := fld_cases (Q := fun f => 4 ≤ rd fT f ∧ rd fT f ≤ 26) h (by decide) (by decide) (by decide) (by decide) (by decide) (by decide) (by decide) (by decide) (by decide)
theorem rt_range {f : Int} (h : fldOk f) (s : Nat) : 0 ≤ rt f s ∧ rt f s < mdP f := by
  have hm := mdP_range h
  exact ⟨Int.emod_nonneg _ (by omega), Int.emod_lt_of_pos _ (by omega)⟩
theorem half_lt {p : Int} (hp : 17 ≤ p) (hp2 : p ≤ 1004535809) (s : Nat) : 0 ≤ (p - 1) / 2 ^ s ∧ (p - 1) / 2 ^ s ≤ p - 1 ∧ (1 ≤ s → (p - 1) / 2 ^ s < p - 1) := by
  have h2 : (0 : Int) < 2 ^ s := Int.pow_pos (by omega)
  refine ⟨Int.ediv_nonneg (by omega) (by omega), Int.ediv_le_self _ (by omega), fun h => ?_⟩
  apply Int.ediv_lt_of_lt_mul h2
  have : (2 : Int) ≤ 2 ^ s := by
    obtain ⟨q, rfl⟩ : ∃ q, s = q + 1 := ⟨s - 1, by omega⟩
    have h3 : (0 : Int) < 2 ^ q := Int.pow_pos (by omega)
    rw [Int.pow_succ]; omega
  have h4 : (p - 1) * 2 ≤ (p - 1) * 2 ^ s := Int.mul_le_mul_of_nonneg_left this (by omega)
  omega
theorem rt_pm {f : Int} (h : fldOk f) (s : Nat) : rt f s = (pm (mdP f).toNat 40 (rd fG f).toNat ((mdP f - 1) / 2 ^ s).toNat : Int) := by
  have hm := mdP_range h
  have hg := fG_range h
  have hh := half_lt hm.1 hm.2 s
  unfold rt
  rw [← pm_int _ 40 _ _ (by omega)]
  rw [show (((rd fG f).toNat : Nat) : Int) = rd fG f by omega, show (((mdP f).toNat : Nat) : Int) = mdP f by omega]
theorem rt_zero {f : Int} (h : fldOk f) : rt f 0 = 1 := by
  rw [rt_pm h]
  exact fld_cases (Q := fun f => (pm (mdP f).toNat 40 (rd fG f).toNat ((mdP f - 1) / 2 ^ 0).toNat : Int) = 1) h (by decide +kernel) (by decide +kernel) (by decide +kernel) (by decide +kernel) (by decide +kernel) (by decide +kernel) (by decide +kernel) (by decide +kernel) (by decide +kernel)
theorem rt_one {f : Int} (h : fldOk f) : rt f 1 = mdP f - 1 := by
  rw [rt_pm h]
  exact fld_cases (Q := fun f => (pm (mdP f).toNat 40 (rd fG f).toNat ((mdP f - 1) / 2 ^ 1).toNat : Int) = mdP f - 1) h (by decide +kernel) (by decide +kernel) (by decide +kernel) (by decide +kernel) (by decide +kernel) (by decide +kernel) (by decide +kernel) (by decide +kernel) (by decide +kernel)
theorem two_div {f : Int} (h : fldOk f) : (2 : Int) ^ (rd fT f).toNat ∣ mdP f - 1 :=
  fld_cases (Q := fun f => (2 : Int) ^ (rd fT f).toNat ∣ mdP f - 1) h (by decide +kernel) (by decide +kernel) (by decide +kernel) (by decide +kernel) (by decide +kernel) (by decide +kernel) (by decide +kernel) (by decide +kernel) (by decide +kernel)
theorem half_two {f : Int} (h : fldOk f) (s d : Nat) (hs : s + d ≤ (rd fT f).toNat) : ((mdP f - 1) / 2 ^ s).toNat = 2 ^ d * ((mdP f - 1) / 2 ^ (s + d)).toNat := by
  have hm := mdP_range h
  obtain ⟨c0, hc⟩ := two_div h
  obtain ⟨r, hr⟩ : ∃ r, (rd fT f).toNat = s + d + r := ⟨(rd fT f).toNat - (s + d), by omega⟩
  have h2 : (0 : Int) < 2 ^ s := Int.pow_pos (by omega)
  have h3 : (0 : Int) < 2 ^ d := Int.pow_pos (by omega)
  rw [hr, Int.pow_add, Int.pow_add, Int.mul_assoc, Int.mul_assoc] at hc
  obtain ⟨c, hcc⟩ : ∃ c, c = 2 ^ r * c0 := ⟨_, rfl⟩
  rw [← hcc] at hc
  have hc0 : 0 ≤ c := by
    rcases Int.lt_or_le c 0 with hx | hx
    · have := Int.mul_neg_of_pos_of_neg h2 (Int.mul_neg_of_pos_of_neg h3 hx)
      omega
    · exact hx
  rw [hc, Int.mul_ediv_cancel_left _ (Int.ne_of_gt h2), Int.pow_add, Int.mul_ediv_mul_of_pos _ _ h2, Int.mul_ediv_cancel_left _ (Int.ne_of_gt h3)]
  obtain ⟨n, rfl⟩ : ∃ n : Nat, c = (n : Int) := ⟨c.toNat, by omega⟩
  rw [Int.toNat_natCast, show ((2 : Int) ^ d * (n : Int)) = ((2 ^ d * n : Nat) : Int) by simp, Int.toNat_natCast]
/-- A root's power is the root of a lower level. -/
theorem rt_pow {f : Int} (h : fldOk f) (s d : Nat) (hs : s + d ≤ (rd fT f).toNat) (j : Nat) : Md (mdP f) (rt f (s + d) ^ (2 ^ d * j)) (rt f s ^ j) := by
  have e1 : Md (mdP f) (rt f (s + d)) (rd fG f ^ ((mdP f - 1) / 2 ^ (s + d)).toNat) := Md.mod _ _
  have e2 : Md (mdP f) (rt f s) (rd fG f ^ ((mdP f - 1) / 2 ^ s).toNat) := Md.mod _ _
  refine (e1.pow _).trans (Md.trans (Md.of_eq ?_) (e2.pow _).symm)
  rw [half_two h s d hs, ← Int.pow_mul, ← Int.pow_mul]
  congr 1
  rw [Nat.mul_left_comm, Nat.mul_assoc]
theorem roots {f : Int} (h : fldOk f) : Roots (mdP f) (rt f) (rd fT f).toNat where
  one := Md.of_eq (rt_zero h)
  half := fun _ => by rw [rt_one h]; exact ⟨1, by omega⟩
  sq := fun s hs => by
    have := rt_pow h s 1 hs 1
    simpa [Int.pow_succ] using this

-- block shrPow
theorem shr_pow (x : Int) {s : Nat} (h : s ≤ 60) : shr .i64 x (s : Int) = x / 2 ^ s ∧ IntKind.u64.wrap (s : Int) = (s : Int) := by
  refine ⟨?_, ?_⟩
  · unfold shr
    rw [Int.toNat_natCast, Nat.min_eq_left (show s ≤ IntKind.i64.bits by show s ≤ 64; omega)]
  · unfold IntKind.wrap
    have e : (s : Int) % 2 ^ IntKind.u64.bits = s := by show (s : Int) % 2 ^ 64 = s; omega
    rw [e]
    refine if_neg ?_
    show ¬ ((false && _) = true)
    simp

-- block iRoot
theorem iRoot_ev {f : Int} (h : fldOk f) (s : Nat) (hs : s ≤ 60) : Ev (fun k => impl_field_root.f k (mdP f) (rd fG f) (rd fT f) (s : Int)) (rt f s) := by
  have hm := mdP_range h
  have hg := fG_range h
  have hh := half_lt hm.1 hm.2 s
  have hw : wrap64 (mdP f - 1) = mdP f - 1 := w64 (by omega) (by omega)
  obtain ⟨n, e⟩ := evs1 (iPow_ev (p := mdP f) (g := rd fG f) (t := rd fT f) (a := rd fG f) (by omega) (by omega) ((mdP f - 1) / 2 ^ s).toNat (by omega) (by omega) hg.2.1)
  rw [show ((((mdP f - 1) / 2 ^ s).toNat : Nat) : Int) = (mdP f - 1) / 2 ^ s by omega] at e
  refine ⟨n, fun k hk => ?_⟩
  obtain ⟨j, rfl⟩ : ∃ j, k = n + j := ⟨k - n, by omega⟩
  simp only [impl_field_root.f, hw, (shr_pow (mdP f - 1) hs).1, e, Option.bind_some]
  rw [if_pos (by omega)]
  rfl

-- block iAdd
theorem iAdd {p g t a b : Int} (hp : 2 ≤ p) (hp2 : p ≤ 2147483648) (ha : 0 ≤ a) (ha' : a < p) (hb : 0 ≤ b) (hb' : b < p) : impl_field_add.f p g t a b = some ((a + b) % p) := by
  simp only [impl_field_add.f]
  rw [if_neg (by omega), w64 (by omega) (by omega), Int.tmod_eq_emod_of_nonneg (by omega)]

-- block iSub
theorem iSub {p g t a b : Int} (hp : 2 ≤ p) (hp2 : p ≤ 2147483648) (ha : 0 ≤ a) (ha' : a < p) (hb : 0 ≤ b) (hb' : b < p) : impl_field_sub.f p g t a b = some ((a - b) % p) := by
  simp only [impl_field_sub.f]
  rw [if_neg (by omega), w64 (x := a - b) (by omega) (by omega), w64 (by omega) (by omega), Int.tmod_eq_emod_of_nonneg (by omega), Int.add_emod_right]

-- block stP
/-- A level of the transform over a field's own root, at a place of a row. -/
def stP (f : Int) (lv : Nat) (v : List Int) (x : Nat) : Int := stg (mdP f) (rt f (lv + 1)) lv (fun i => rd v (i : Int)) x
theorem stP_lo (f : Int) (lv : Nat) (v : List Int) (q j : Nat) (hj : j < 2 ^ lv) : stP f lv v (2 ^ lv * (2 * q) + j) = (rd v ((2 ^ lv * (2 * q) + j : Nat) : Int) + rd v ((2 ^ lv * (2 * q) + j + 2 ^ lv : Nat) : Int) * rt f (lv + 1) ^ j) % mdP f := by
  have e1 : (2 ^ lv * (2 * q) + j) % 2 ^ lv = j := by rw [Nat.mul_add_mod, Nat.mod_eq_of_lt hj]
  have e2 : (2 ^ lv * (2 * q) + j) / 2 ^ lv = 2 * q := by rw [Nat.mul_add_div (Nat.pow_pos (by omega)), Nat.div_eq_of_lt hj, Nat.add_zero]
  unfold stP stg
  rw [e1, e2, if_pos (by omega)]
theorem stP_hi (f : Int) (lv : Nat) (v : List Int) (q j : Nat) (hj : j < 2 ^ lv) : stP f lv v (2 ^ lv * (2 * q) + j + 2 ^ lv) = (rd v ((2 ^ lv * (2 * q) + j : Nat) : Int) - rd v ((2 ^ lv * (2 * q) + j + 2 ^ lv : Nat) : Int) * rt f (lv + 1) ^ j) % mdP f := by
  have e : 2 ^ lv * (2 * q) + j + 2 ^ lv = 2 ^ lv * (2 * q + 1) + j := by rw [Nat.mul_add]; omega
  have e1 : (2 ^ lv * (2 * q) + j + 2 ^ lv) % 2 ^ lv = j := by rw [e, Nat.mul_add_mod, Nat.mod_eq_of_lt hj]
  have e2 : (2 ^ lv * (2 * q) + j + 2 ^ lv) / 2 ^ lv = 2 * q + 1 := by rw [e, Nat.mul_add_div (Nat.pow_pos (by omega)), Nat.div_eq_of_lt hj, Nat.add_zero]
  unfold stP stg
  rw [e1, e2, if_neg (by omega), Nat.add_sub_cancel]
theorem two_le {f : Int} (h : fldOk f) {K : Nat} (hK : (K : Int) ≤ rd fT f) : (2 : Int) ^ K ≤ mdP f - 1 := by
  have hm := mdP_range h
  have hT := fT_range h
  have h1 := Int.le_of_dvd (by omega) (two_div h)
  have h2 : (2 ^ K : Nat) ≤ 2 ^ (rd fT f).toNat := Nat.pow_le_pow_right (by omega) (by omega)
  have h3 : ((2 ^ K : Nat) : Int) ≤ ((2 ^ (rd fT f).toNat : Nat) : Int) := by omega
  simp at h3
  omega
theorem rt_ne {f : Int} (h : fldOk f) {s : Nat} (hs : (s : Int) ≤ rd fT f) : rt f s ≠ 0 := by
  intro e
  have hm := mdP_range h
  have h1 := (roots h).full_pow s (by omega)
  rw [e, Int.zero_pow (Nat.pos_iff_ne_zero.1 (Nat.pow_pos (by omega)))] at h1
  have h2 := h1.emod
  rw [Int.emod_eq_of_lt (by omega) (by omega), Int.emod_eq_of_lt (by omega) (by omega)] at h2
  omega

-- block iReversed
theorem iRev_l (K : Nat) (hK : K ≤ 9) : ∀ (d i : Nat) (x out : Nat), i + d = K → x ≤ 1024 → out < 2 ^ i → Ev (fun k => impl_reversed.l0 k (x : Int) (out : Int) (K : Int) (i : Int)) ((out * 2 ^ d + rv d x : Nat) : Int) := by
  intro d
  induction d with
  | zero =>
    intro i x out h hx ho
    refine ev_now fun k => ?_
    simp only [impl_reversed.l0]
    rw [if_neg (by omega)]
    simp [rv]
  | succ d ih =>
    intro i x out h hx ho
    have hp := pow2_9 (K := i) (by omega)
    have hs : 2 ^ (i + 1) = 2 * 2 ^ i := by rw [Nat.pow_succ]; omega
    have key := ih (i + 1) (x / 2) (2 * out + x % 2) (by omega) (by omega) (by omega)
    have e : (2 * out + x % 2) * 2 ^ d + rv d (x / 2) = out * 2 ^ (d + 1) + rv (d + 1) x := by
      rw [rv_succ, Nat.add_mul, Nat.pow_succ, Nat.mul_comm 2 out, Nat.mul_assoc, Nat.mul_comm 2 (2 ^ d)]; omega
    rw [e] at key
    refine Ev.step (fun k => ?_) key
    have hb := bits_and1 x (by omega)
    rw [show ((1 : Nat) : Int) = 1 by rfl] at hb
    have w1 : wrap64 (2 * (out : Int)) = ((2 * out : Nat) : Int) := w64n (by omega) (by omega)
    have w2 : wrap64 (((2 * out : Nat) : Int) + ((x % 2 : Nat) : Int)) = ((2 * out + x % 2 : Nat) : Int) := w64n (by omega) (by omega)
    have w3 : wrap64 ((i : Int) + 1) = ((i + 1 : Nat) : Int) := wsucc (by omega)
    have c1 : (i : Int) < (K : Int) := by clear w1 w2 w3; omega
    have c2 : (x : Int) / 2 = ((x / 2 : Nat) : Int) := by clear w1 w2 w3; omega
    simp only [impl_reversed.l0, hb, w1, w2, w3, c1, c2, if_true]
theorem iRev_ev (K : Nat) (hK : K ≤ 9) (x : Nat) (hx : x ≤ 1024) : Ev (fun k => impl_reversed.f k (x : Int) (K : Int)) ((rv K x : Nat) : Int) := by
  have := iRev_l K hK K 0 x 0 (by omega) hx (by simp)
  rw [Nat.zero_mul, Nat.zero_add] at this
  exact Ev.congr (fun k => rfl) this

-- block iPermuted
theorem iPerm_l (K : Nat) (hK : K ≤ 9) (v : List Int) (hn : v.length = 2 ^ K) : ∀ (d i : Nat), v.length - i = d → i ≤ v.length →
    Ev (fun k => impl_permuted.l0 k (K : Int) (tab v.length (fun y => if rv K y < i then rd v ((rv K y : Nat) : Int) else 0)) v (v.length : Int) (i : Int)) (tab v.length (fun y => rd v ((rv K y : Nat) : Int))) := by
  have h9 := pow2_9 hK
  intro d
  induction d with
  | zero =>
    intro i h hi
    refine ev_now fun k => ?_
    simp only [impl_permuted.l0]
    rw [if_neg (by omega)]
    refine congrArg some (tab_congr fun y hy => ?_)
    rw [if_pos (by have := rv_lt K y; omega)]
  | succ d ih =>
    intro i h hi
    have key := ih (i + 1) (by omega) (by omega)
    have hr := rv_lt K i
    have e : (tab v.length (fun y => if rv K y < i then rd v ((rv K y : Nat) : Int) else 0)).set (rv K i) (rd v (i : Int)) = tab v.length (fun y => if rv K y < i + 1 then rd v ((rv K y : Nat) : Int) else 0) := by
      rw [tab_set]
      refine tab_congr fun y hy => ?_
      by_cases hy1 : y = rv K i
      · rw [if_pos hy1, hy1, rv_rv K i (by omega), if_pos (by omega)]
      · have hne : rv K y ≠ i := fun hh => hy1 (by rw [← hh, rv_rv K y (by omega)])
        rw [if_neg hy1]
        by_cases hlt : rv K y < i
        · rw [if_pos hlt, if_pos (by omega)]
        · rw [if_neg hlt, if_neg (by omega)]
    rw [← e] at key
    obtain ⟨n, e1, e2⟩ := evs2 (iRev_ev K hK i (by omega)) key
    refine ⟨n + 1, fun k hk => ?_⟩
    obtain ⟨j, rfl⟩ : ∃ j, k = n + j + 1 := ⟨k - n - 1, by omega⟩
    simp only [impl_permuted.l0, e1 j, Option.bind_some, Int.toNat_natCast, tab_len]
    rw [if_pos (by omega), if_pos (by omega), if_pos (by omega), if_pos (by omega), if_pos (by omega), wsucc (by omega)]
    exact e2 j
theorem iPerm_ev (K : Nat) (hK : K ≤ 9) (v : List Int) (hn : v.length = 2 ^ K) : Ev (fun k => impl_permuted.f k v) (tab v.length (fun y => rd v ((rv K y : Nat) : Int))) := by
  have h9 := pow2_9 hK
  have hlog : logB (v.length : Int) = K := by rw [hn]; simpa using logB_pow hK
  have key := iPerm_l K hK v hn v.length 0 (by omega) (by omega)
  have e0 : tab v.length (fun y => if rv K y < 0 then rd v ((rv K y : Nat) : Int) else 0) = List.replicate v.length 0 := by
    apply List.ext_getElem
    · simp [tab]
    · intro i h1 h2
      simp [tab]
  rw [e0] at key
  obtain ⟨n, e1, e2⟩ := evs2 (iLogOf_ev (v.length : Int)) key
  refine ⟨n, fun k hk => ?_⟩
  obtain ⟨j, rfl⟩ : ∃ j, k = n + j := ⟨k - n, by omega⟩
  simp only [impl_permuted.f, e1 j, hlog, Option.bind_some, Int.toNat_natCast]
  rw [if_pos (by omega), if_pos (by omega)]
  exact e2 j

-- block stZ
def stZ (f : Int) (lv : Nat) (v : List Int) (h s j x : Nat) : Int := if x < s ∨ (s ≤ x ∧ x < s + j) ∨ (s + h ≤ x ∧ x < s + h + j) then stP f lv v x else 0
theorem tab_stZ0 (f : Int) (lv : Nat) (v : List Int) (h s : Nat) : tab v.length (stZ f lv v h s h) = tab v.length (stZ f lv v h (s + 2 * h) 0) := by
  apply tab_congr
  intro x hx
  unfold stZ
  by_cases e : x < s ∨ (s ≤ x ∧ x < s + h) ∨ (s + h ≤ x ∧ x < s + h + h)
  · rw [if_pos e, if_pos (by omega)]
  · rw [if_neg e, if_neg (by omega)]
theorem stZ_step (f : Int) (lv : Nat) (v : List Int) (h s j : Nat) (hj : j < h) : ((tab v.length (stZ f lv v h s j)).set (s + j) (stP f lv v (s + j))).set (s + j + h) (stP f lv v (s + j + h)) = tab v.length (stZ f lv v h s (j + 1)) := by
  rw [tab_set, tab_set]
  apply tab_congr
  intro x hx
  by_cases e1 : x = s + j + h
  · rw [if_pos e1, e1]
    unfold stZ
    rw [if_pos (by omega)]
  · rw [if_neg e1]
    by_cases e2 : x = s + j
    · rw [if_pos e2, e2]
      unfold stZ
      rw [if_pos (by omega)]
    · rw [if_neg e2]
      unfold stZ
      by_cases e : x < s ∨ (s ≤ x ∧ x < s + j) ∨ (s + h ≤ x ∧ x < s + h + j)
      · rw [if_pos e, if_pos (by omega)]
      · rw [if_neg e, if_neg (by omega)]

-- block iStage
theorem iStage_in {f : Int} (hf : fldOk f) (lv q H S : Nat) (hH : H = 2 ^ lv) (hS : S = 2 ^ lv * (2 * q)) (v : List Int) (hn9 : v.length ≤ 512) (hH1 : 1 ≤ H) (hSn : S + 2 * H ≤ v.length) (hel : ∀ i : Nat, i < v.length → 0 ≤ rd v (i : Int) ∧ rd v (i : Int) < mdP f) (r : List Int)
    (hr : Ev (fun k => impl_field_stage.l0 k v (tab v.length (stZ f lv v H S H)) (H : Int) (rt f (lv + 1)) ((S + 2 * H : Nat) : Int) (mdP f) (rd fG f) (rd fT f)) r) :
    ∀ (c j : Nat), H - j = c → j ≤ H →
    Ev (fun k => impl_field_stage.l1 k v (tab v.length (stZ f lv v H S j)) (H : Int) (rt f (lv + 1)) (S : Int) (rt f (lv + 1) ^ j % mdP f) (H : Int) (j : Int) (mdP f) (rd fG f) (rd fT f)) r := by
  have hm := mdP_range hf
  have hrt := rt_range hf (lv + 1)
  have hfacts : ∀ j, j < H → stP f lv v (S + j) = (rd v ((S + j : Nat) : Int) + rd v ((S + j + H : Nat) : Int) * rt f (lv + 1) ^ j) % mdP f ∧ stP f lv v (S + j + H) = (rd v ((S + j : Nat) : Int) - rd v ((S + j + H : Nat) : Int) * rt f (lv + 1) ^ j) % mdP f := by
    intro j hj
    subst hH
    subst hS
    exact ⟨stP_lo f lv v q j hj, stP_hi f lv v q j hj⟩
  clear hH hS
  have m0 : ∀ z : Int, 0 ≤ z % mdP f ∧ z % mdP f < mdP f := fun z => ⟨Int.emod_nonneg _ (by omega), Int.emod_lt_of_pos _ (by omega)⟩
  intro c
  induction c with
  | zero =>
    intro j hc hj
    have ej : j = H := by omega
    subst ej
    refine Ev.step (fun k => ?_) hr
    simp only [impl_field_stage.l1]
    rw [if_neg (by omega), w64 (x := 2 * (j : Int)) (by omega) (by omega), w64 (by omega) (by omega), show (S : Int) + 2 * (j : Int) = ((S + 2 * j : Nat) : Int) by omega]
  | succ c ih =>
    intro j hc hj
    have hjl : j < H := by omega
    obtain ⟨hlo, hhi⟩ := hfacts j hjl
    have key := ih (j + 1) (by omega) (by omega)
    have r1 := hel (S + j) (by omega)
    have r2 := hel (S + j + H) (by omega)
    have r3 := m0 (rt f (lv + 1) ^ j)
    have c1 : (j : Int) < (H : Int) := by omega
    have c2 : 0 ≤ ((S + j : Nat) : Int) := by omega
    have c3 : ((S + j : Nat) : Int) < (v.length : Int) := by omega
    have c4 : 0 ≤ ((S + j + H : Nat) : Int) := by omega
    have c5 : ((S + j + H : Nat) : Int) < (v.length : Int) := by omega
    have a1 := iMul (g := rd fG f) (t := rd fT f) (p := mdP f) (by omega) (by omega) r2.1 r2.2 r3.1 r3.2
    have r4 := m0 (rd v ((S + j + H : Nat) : Int) * (rt f (lv + 1) ^ j % mdP f))
    have a2 := iAdd (g := rd fG f) (t := rd fT f) (p := mdP f) (by omega) (by omega) r1.1 r1.2 r4.1 r4.2
    have a3 := iSub (g := rd fG f) (t := rd fT f) (p := mdP f) (by omega) (by omega) r1.1 r1.2 r4.1 r4.2
    have a4 := iMul (g := rd fG f) (t := rd fT f) (p := mdP f) (by omega) (by omega) r3.1 r3.2 hrt.1 hrt.2
    have eA : (rd v ((S + j : Nat) : Int) + rd v ((S + j + H : Nat) : Int) * (rt f (lv + 1) ^ j % mdP f) % mdP f) % mdP f = stP f lv v (S + j) := by
      rw [hlo]
      exact ((Md.refl _ _).add ((Md.mod _ _).trans ((Md.refl _ _).mul (Md.mod _ _)))).emod
    have eB : (rd v ((S + j : Nat) : Int) - rd v ((S + j + H : Nat) : Int) * (rt f (lv + 1) ^ j % mdP f) % mdP f) % mdP f = stP f lv v (S + j + H) := by
      rw [hhi]
      exact ((Md.refl _ _).sub ((Md.mod _ _).trans ((Md.refl _ _).mul (Md.mod _ _)))).emod
    have eC : rt f (lv + 1) ^ j % mdP f * rt f (lv + 1) % mdP f = rt f (lv + 1) ^ (j + 1) % mdP f := by
      rw [Int.pow_succ]; exact ((Md.mod _ _).mul (Md.refl _ _)).emod
    rw [eA] at a2
    rw [eB] at a3
    rw [eC] at a4
    rw [← stZ_step f lv v _ _ j hjl] at key
    have hlen : (tab v.length (stZ f lv v H S j)).length = v.length := tab_len _ _
    clear hr ih hfacts hel hlo hhi eA eB eC
    refine Ev.step (fun k => ?_) key
    obtain ⟨w1, w2, w3⟩ : wrap64 ((S : Int) + (j : Int)) = ((S + j : Nat) : Int) ∧ wrap64 (((S + j : Nat) : Int) + (H : Int)) = ((S + j + H : Nat) : Int) ∧ wrap64 ((j : Int) + 1) = ((j + 1 : Nat) : Int) :=
      ⟨w64n (by omega) (by omega), w64n (by omega) (by omega), wsucc (by omega)⟩
    simp only [impl_field_stage.l1, w1, w2, w3, a1, a2, a3, a4, hlen, Option.bind_some, Int.toNat_natCast, c1, c2, c3, c4, c5, if_true]
theorem iStage_l {f : Int} (hf : fldOk f) (lv m : Nat) (hK : lv + 1 + m ≤ 9) (v : List Int) (hn : v.length = 2 ^ (lv + 1 + m)) (hel : ∀ i : Nat, i < v.length → 0 ≤ rd v (i : Int) ∧ rd v (i : Int) < mdP f) :
    ∀ (d q : Nat), 2 ^ m - q = d → q ≤ 2 ^ m →
    Ev (fun k => impl_field_stage.l0 k v (tab v.length (stZ f lv v (2 ^ lv) (2 ^ lv * (2 * q)) 0)) ((2 ^ lv : Nat) : Int) (rt f (lv + 1)) ((2 ^ lv * (2 * q) : Nat) : Int) (mdP f) (rd fG f) (rd fT f)) (tab v.length (stP f lv v)) := by
  have hn9 := pow2_9 hK
  rw [← hn] at hn9
  have hm := mdP_range hf
  have hnH : v.length = 2 ^ lv * (2 * 2 ^ m) := by rw [hn, Nat.pow_add, Nat.pow_succ]; rw [Nat.mul_assoc]
  have hH := Nat.pow_pos (n := lv) (show 0 < 2 by omega)
  intro d
  induction d with
  | zero =>
    intro q hd hq
    have eq : q = 2 ^ m := by omega
    subst eq
    refine ev_now fun k => ?_
    simp only [impl_field_stage.l0]
    rw [if_neg (by omega)]
    refine congrArg some (tab_congr fun x hx => ?_)
    unfold stZ
    rw [if_pos (by omega)]
  | succ d ih =>
    intro q hd hq
    have hS1 : 2 ^ lv * (2 * (q + 1)) = 2 ^ lv * (2 * q) + 2 * 2 ^ lv := by rw [Nat.mul_add, Nat.mul_add]; omega
    have hS2 : 2 ^ lv * (2 * (q + 1)) ≤ v.length := by rw [hnH]; exact Nat.mul_le_mul (Nat.le_refl _) (by omega)
    have key := ih (q + 1) (by omega) (by omega)
    have e : tab v.length (stZ f lv v (2 ^ lv) (2 ^ lv * (2 * (q + 1))) 0) = tab v.length (stZ f lv v (2 ^ lv) (2 ^ lv * (2 * q)) (2 ^ lv)) := by rw [tab_stZ0, hS1]
    rw [e, hS1] at key
    have k0 := iStage_in hf lv q (2 ^ lv) (2 ^ lv * (2 * q)) rfl rfl v hn9.1 hH (by rw [← hS1]; exact hS2) hel _ key (2 ^ lv) 0 (Nat.sub_zero _) (Nat.zero_le _)
    rw [Int.pow_zero, Int.emod_eq_of_lt (by omega) (by omega)] at k0
    refine Ev.step (fun k => ?_) k0
    simp only [impl_field_stage.l0]
    rw [if_pos (by omega)]
    rfl
theorem iStage_ev {f : Int} (hf : fldOk f) (lv m : Nat) (hK : lv + 1 + m ≤ 9) (v : List Int) (hn : v.length = 2 ^ (lv + 1 + m)) (hel : ∀ i : Nat, i < v.length → 0 ≤ rd v (i : Int) ∧ rd v (i : Int) < mdP f) :
    Ev (fun k => impl_field_stage.f k (mdP f) (rd fG f) (rd fT f) v (lv : Int)) (tab v.length (stP f lv v)) := by
  have hn9 := pow2_9 hK
  rw [← hn] at hn9
  have hs := shl_pow (i := lv) (by omega)
  have hsh : shl .i64 1 (lv : Int) = ((2 ^ lv : Nat) : Int) := by rw [hs.1]; simp
  have key := iStage_l hf lv m hK v hn hel (2 ^ m) 0 (Nat.sub_zero _) (Nat.zero_le _)
  have e0 : tab v.length (stZ f lv v (2 ^ lv) (2 ^ lv * (2 * 0)) 0) = List.replicate v.length 0 := by
    apply List.ext_getElem
    · simp [tab]
    · intro i h1 h2
      simp [tab]
      unfold stZ
      rw [if_neg (by omega)]
  rw [e0] at key
  obtain ⟨n, e1, e2⟩ := evs2 (iRoot_ev hf (lv + 1) (by omega)) key
  refine ⟨n, fun k hk => ?_⟩
  obtain ⟨j, rfl⟩ : ∃ j, k = n + j := ⟨k - n, by omega⟩
  simp only [impl_field_stage.f, Int.toNat_natCast]
  rw [if_pos (by omega), if_pos (by omega), if_pos (by omega), wsucc (by omega), e1 j, hsh]
  exact e2 j

-- block fwd
/-- The transform of a row: the sum at each place, reduced. -/
def fwd (f : Int) (K : Nat) (v : List Int) (i : Nat) : Int := dft (2 ^ K) (rt f K) (fun x => rd v (x : Int)) i % mdP f
theorem stg_congr {p W : Int} {s m : Nat} {a b : Nat → Int} (h : ∀ i, i < 2 ^ (s + 1 + m) → a i = b i) {x : Nat} (hx : x < 2 ^ (s + 1 + m)) : stg p W s a x = stg p W s b x := by
  have hp := Nat.pow_pos (n := s) (show 0 < 2 by omega)
  have e2 : 2 ^ (s + 1 + m) = 2 ^ s * (2 * 2 ^ m) := by rw [Nat.pow_add, Nat.pow_succ, Nat.mul_assoc]
  have hd := Nat.div_add_mod x (2 ^ s)
  have hr := Nat.mod_lt x hp
  have hq : x / 2 ^ s < 2 * 2 ^ m := Nat.div_lt_of_lt_mul (by rw [← e2]; exact hx)
  unfold stg
  by_cases c : x / 2 ^ s % 2 = 0
  · have h1 : x + 2 ^ s < 2 ^ (s + 1 + m) := by
      have h2 : 2 ^ s * (x / 2 ^ s + 2) ≤ 2 ^ (s + 1 + m) := by rw [e2]; exact Nat.mul_le_mul (Nat.le_refl _) (by omega)
      rw [Nat.mul_add] at h2
      omega
    rw [if_pos c, if_pos c, h x hx, h _ h1]
  · rw [if_neg c, if_neg c, h x hx, h (x - 2 ^ s) (by omega)]
theorem lev_range {p : Int} (hp : 0 < p) {w : Nat → Int} {a : Nat → Int} {n : Nat} (ha : ∀ i, i < n → 0 ≤ a i ∧ a i < p) : ∀ s x, x < n → 0 ≤ lev p w a s x ∧ lev p w a s x < p := by
  intro s x hx
  cases s with
  | zero => exact ha x hx
  | succ s =>
    rw [lev]
    unfold stg
    split
    · exact ⟨Int.emod_nonneg _ (by omega), Int.emod_lt_of_pos _ hp⟩
    · exact ⟨Int.emod_nonneg _ (by omega), Int.emod_lt_of_pos _ hp⟩
/-- A row of levels under one more level. -/
theorem lev_step {f : Int} (lv m n : Nat) (hn : n = 2 ^ (lv + 1 + m)) (a : Nat → Int) : tab n (stP f lv (tab n (lev (mdP f) (rt f) a lv))) = tab n (lev (mdP f) (rt f) a (lv + 1)) := by
  refine tab_congr fun x hx => ?_
  subst hn
  rw [lev]
  unfold stP
  exact stg_congr (fun i hi => tab_rd hi) hx
theorem lev_fwd {f : Int} (hf : fldOk f) (K : Nat) (hK : (K : Int) ≤ rd fT f) (v : List Int) (hn : v.length = 2 ^ K) (hel : ∀ i : Nat, i < v.length → 0 ≤ rd v (i : Int) ∧ rd v (i : Int) < mdP f) :
    tab v.length (lev (mdP f) (rt f) (fun y => rd v ((rv K y : Nat) : Int)) K) = tab v.length (fwd f K v) := by
  have hm := mdP_range hf
  refine tab_congr fun x hx => ?_
  have h1 := lev_dft (roots hf) K (by omega) (fun x => rd v (x : Int)) x (by omega)
  have h2 := lev_range (p := mdP f) (by omega) (w := rt f) (a := fun y => rd v ((rv K y : Nat) : Int)) (n := v.length) (fun i hi => hel _ (by have := rv_lt K i; omega)) K x hx
  exact (h1.trans (Md.mod _ _).symm).eq h2.1 h2.2 (Int.emod_nonneg _ (by omega)) (Int.emod_lt_of_pos _ (by omega))

-- block iForward
theorem iForward_l {f : Int} (hf : fldOk f) (K : Nat) (hK9 : K ≤ 9) (n : Nat) (hn : n = 2 ^ K) (a : Nat → Int) (ha : ∀ i, i < n → 0 ≤ a i ∧ a i < mdP f) : ∀ (d lv : Nat), lv + d = K →
    Ev (fun k => impl_field_forward.l0 k (tab n (lev (mdP f) (rt f) a lv)) (K : Int) (lv : Int) (mdP f) (rd fG f) (rd fT f)) (tab n (lev (mdP f) (rt f) a K)) := by
  have hm := mdP_range hf
  intro d
  induction d with
  | zero =>
    intro lv h
    obtain rfl : lv = K := by omega
    refine ev_now fun k => ?_
    simp only [impl_field_forward.l0]
    rw [if_neg (by omega)]
  | succ d ih =>
    intro lv h
    have e : K = lv + 1 + d := by omega
    have key := ih (lv + 1) (by omega)
    have hs := iStage_ev hf lv d (by omega) (tab n (lev (mdP f) (rt f) a lv)) (by rw [tab_len, hn, e]) (fun i hi => by rw [tab_len] at hi; rw [tab_rd hi]; exact lev_range (by omega) ha lv i hi)
    rw [tab_len, lev_step lv d n (by rw [hn, e])] at hs
    obtain ⟨n1, e1, e2⟩ := evs2 hs key
    refine ⟨n1 + 1, fun k hk => ?_⟩
    obtain ⟨j, rfl⟩ : ∃ j, k = n1 + j + 1 := ⟨k - n1 - 1, by omega⟩
    simp only [impl_field_forward.l0, e1 j, Option.bind_some]
    rw [if_pos (by omega), wsucc (by omega)]
    exact e2 j
theorem iForward_ev {f : Int} {v : List Int} (h : vecP f v) {K : Nat} (hK9 : K ≤ 9) (hlog : logB (v.length : Int) = K) (hn : v.length = 2 ^ K) (hKT : (K : Int) ≤ rd fT f) :
    Ev (fun k => impl_field_forward.f k (mdP f) (rd fG f) (rd fT f) v) (tab v.length (fwd f K v)) := by
  have hel := vec_el h
  have key := iForward_l h.1 K hK9 v.length hn (fun y => rd v ((rv K y : Nat) : Int)) (fun i hi => hel _ (by have := rv_lt K i; omega)) K 0 (by omega)
  rw [lev_fwd h.1 K hKT v hn hel] at key
  obtain ⟨n, e1, e2, e3⟩ := evs3 (iPerm_ev K hK9 v hn) (iLogOf_ev (v.length : Int)) key
  refine ⟨n, fun k hk => ?_⟩
  obtain ⟨j, rfl⟩ : ∃ j, k = n + j := ⟨k - n, by omega⟩
  simp only [impl_field_forward.f, e1 j, e2 j, hlog, Option.bind_some]
  exact e3 j

-- block invP
/-- What the program and the reference both take for an inverse. -/
def invP (f a : Int) : Int := a ^ (mdP f - 2).toNat % mdP f
theorem invP_range {f : Int} (h : fldOk f) (a : Int) : 0 ≤ invP f a ∧ invP f a < mdP f := by
  have hm := mdP_range h
  exact ⟨Int.emod_nonneg _ (by omega), Int.emod_lt_of_pos _ (by omega)⟩

-- block iBackward
/-- The transform back: each place the other way round, times the number's inverse. -/
def bwd (f : Int) (K : Nat) (v : List Int) (j : Nat) : Int := fwd f K v ((2 ^ K - j) % 2 ^ K) * invP f ((2 ^ K : Nat) : Int) % mdP f
theorem flip_flip {n j : Nat} (h : j < n) : (n - (n - j) % n) % n = j := by
  by_cases h0 : j = 0
  · subst h0; simp
  · rw [Nat.mod_eq_of_lt (show n - j < n by omega), show n - (n - j) = j by omega, Nat.mod_eq_of_lt h]
theorem iBackward_l {f : Int} (hf : fldOk f) (K : Nat) (hK9 : K ≤ 9) (n : Nat) (hn : n = 2 ^ K) (v : List Int) : ∀ (d i : Nat), n - i = d → i ≤ n →
    Ev (fun k => impl_field_backward.l0 k (n : Int) (invP f ((2 ^ K : Nat) : Int)) (tab n (fun y => if (n - y) % n < i then bwd f K v y else 0)) (tab n (fwd f K v)) (n : Int) (i : Int) (mdP f) (rd fG f) (rd fT f)) (tab n (bwd f K v)) := by
  have h9 := pow2_9 hK9
  rw [← hn] at h9
  have hm := mdP_range hf
  have hir := invP_range hf ((2 ^ K : Nat) : Int)
  intro d
  induction d with
  | zero =>
    intro i h hi
    refine ev_now fun k => ?_
    simp only [impl_field_backward.l0]
    rw [if_neg (by omega)]
    refine congrArg some (tab_congr fun y hy => ?_)
    rw [if_pos (by have := Nat.mod_lt (n - y) (show 0 < n by omega); omega)]
  | succ d ih =>
    intro i h hi
    have key := ih (i + 1) (by omega) (by omega)
    have hr := Nat.mod_lt (n - i) (show 0 < n by omega)
    have hfr : 0 ≤ fwd f K v i ∧ fwd f K v i < mdP f := ⟨Int.emod_nonneg _ (by omega), Int.emod_lt_of_pos _ (by omega)⟩
    have hb : fwd f K v i * invP f ((2 ^ K : Nat) : Int) % mdP f = bwd f K v ((n - i) % n) := by
      unfold bwd
      rw [← hn, flip_flip (by omega)]
    have e : (tab n (fun y => if (n - y) % n < i then bwd f K v y else 0)).set ((n - i) % n) (bwd f K v ((n - i) % n)) = tab n (fun y => if (n - y) % n < i + 1 then bwd f K v y else 0) := by
      rw [tab_set]
      refine tab_congr fun y hy => ?_
      by_cases hy1 : y = (n - i) % n
      · rw [if_pos hy1, ← hy1, if_pos (by rw [hy1, flip_flip (by omega)]; omega)]
      · have hne : (n - y) % n ≠ i := fun hh => hy1 (by rw [← hh, flip_flip hy])
        rw [if_neg hy1]
        by_cases hlt : (n - y) % n < i
        · rw [if_pos hlt, if_pos (by omega)]
        · rw [if_neg hlt, if_neg (by omega)]
    rw [← e] at key
    have a1 := iMul (g := rd fG f) (t := rd fT f) (p := mdP f) (by omega) (by omega) hfr.1 hfr.2 hir.1 hir.2
    rw [hb] at a1
    have w1 : Int.tmod (wrap64 ((n : Int) - (i : Int))) (n : Int) = (((n - i) % n : Nat) : Int) := by
      rw [w64n (a := n - i) (by omega) (by omega), Int.tmod_eq_emod_of_nonneg (by omega)]; omega
    have w2 : wrap64 ((i : Int) + 1) = ((i + 1 : Nat) : Int) := wsucc (by omega)
    have c1 : (i : Int) < (n : Int) := by clear w1 w2; omega
    have c2 : 0 ≤ (i : Int) := by clear w1 w2; omega
    have c3 : ¬ ((n : Int) = 0) := by clear w1 w2; omega
    have c4 : 0 ≤ (((n - i) % n : Nat) : Int) := by clear w1 w2; omega
    have c5 : (((n - i) % n : Nat) : Int) < (n : Int) := by clear w1 w2; omega
    refine Ev.step (fun k => ?_) key
    simp only [impl_field_backward.l0, tab_len, tab_rd (show i < n by clear w1 w2; omega), a1, w1, w2, c1, c2, c3, c4, c5, Option.bind_some, Int.toNat_natCast, if_true, if_false]
theorem iBackward_ev {f : Int} {v : List Int} (h : vecP f v) {K : Nat} (hK9 : K ≤ 9) (hlog : logB (v.length : Int) = K) (hn : v.length = 2 ^ K) (hKT : (K : Int) ≤ rd fT f) :
    Ev (fun k => impl_field_backward.f k (mdP f) (rd fG f) (rd fT f) v) (tab v.length (bwd f K v)) := by
  have h9 := pow2_9 hK9
  have hm := mdP_range h.1
  have h2 := two_le h.1 hKT
  have h2' : ((2 ^ K : Nat) : Int) ≤ mdP f - 1 := by rw [show ((2 ^ K : Nat) : Int) = 2 ^ K by simp]; exact h2
  have key := iBackward_l h.1 K hK9 v.length hn v v.length 0 (by omega) (by omega)
  have e0 : tab v.length (fun y => if (v.length - y) % v.length < 0 then bwd f K v y else 0) = List.replicate v.length 0 := by
    apply List.ext_getElem
    · simp [tab]
    · intro i h1 h2
      simp [tab]
  rw [e0] at key
  have hi := iInv_ev (p := mdP f) (g := rd fG f) (t := rd fT f) (a := (v.length : Int) % mdP f) (by omega) (by omega) (Int.emod_nonneg _ (by omega)) (Int.emod_lt_of_pos _ (by omega))
  have e1 : ((v.length : Int) % mdP f) ^ (mdP f - 2).toNat % mdP f = invP f ((2 ^ K : Nat) : Int) := by
    unfold invP
    rw [hn, show ((2 ^ K : Nat) : Int) % mdP f = ((2 ^ K : Nat) : Int) from Int.emod_eq_of_lt (by omega) (by omega)]
  rw [e1] at hi
  obtain ⟨n, e1, e2, e3⟩ := evs3 hi (iForward_ev h hK9 hlog hn hKT) key
  refine ⟨n, fun k hk => ?_⟩
  obtain ⟨j, rfl⟩ : ∃ j, k = n + j := ⟨k - n, by omega⟩
  simp only [impl_field_backward.f, e1 j, e2 j, Option.bind_some, Int.toNat_natCast, tab_len]
  rw [if_neg (by omega), if_pos (by omega), if_pos (by omega)]
  exact e3 j

-- block oneVec
def oneF (y : Nat) : Int := if y = 0 then 1 else 0
theorem oneF_zero : oneF 0 = 1 := rfl
theorem oneF_pos {y : Nat} (h : 1 ≤ y) : oneF y = 0 := by unfold oneF; rw [if_neg (by omega)]

-- block sRingOne
theorem sRingOne_l (n : Nat) (hn : n ≤ 512) : ∀ (d i : Nat), n - i = d → 1 ≤ i → i ≤ n → Ev (fun k => spec_RingOne.l0 k (n : Int) (tab i oneF) (i : Int)) (tab n oneF) := by
  intro d
  induction d with
  | zero =>
    intro i h h1 hi
    obtain rfl : i = n := by omega
    refine ev_now fun k => ?_
    simp only [spec_RingOne.l0]
    rw [if_neg (by omega)]
  | succ d ih =>
    intro i h h1 hi
    have key := ih (i + 1) (by omega) (by omega) (by omega)
    rw [← tab_snoc, oneF_pos h1] at key
    refine Ev.step (fun k => ?_) key
    simp only [spec_RingOne.l0, tab_len]
    rw [if_pos (by omega), if_pos (by omega), wsucc (by omega)]
theorem sRingOne_ev {f : Int} (hf : fldOk f) {K n : Nat} (hK9 : K ≤ 9) (hlog : logB (n : Int) = K) (hn : n = 2 ^ K) (hKT : (K : Int) ≤ rd fT f) : Ev (fun k => spec_RingOne.f k f (n : Int)) (tab n oneF) := by
  have h9 := pow2_9 hK9
  have ht : two f = rd fT f := by unfold two; rw [if_pos hf]
  have key := sRingOne_l n (by omega) (n - 1) 1 rfl (by omega) (by omega)
  rw [show tab 1 oneF = ([1] : List Int) from rfl] at key
  obtain ⟨m, e1, e2, e3⟩ := evs3 (sLogOf_ev (n : Int)) (sTwo_ev f) key
  refine ⟨m + 1, fun k hk => ?_⟩
  obtain ⟨j, rfl⟩ : ∃ j, k = m + (j + 1) := ⟨k - m - 1, by omega⟩
  have e3' : spec_RingOne.l0 (m + j) (n : Int) [1] 1 = some (tab n oneF) := e3 j
  simp only [spec_RingOne.f, e1, e2, hlog, ht, Option.bind_some]
  rw [if_neg (by omega), decide_eq_false (by omega), show m + (j + 1) = m + j + 1 from rfl]
  simp only [spec_RingOne.j0, Bool.false_eq_true, if_false]
  exact e3'

-- block iForwardV
theorem iForwardV_ev {f : Int} {v : List Int} (h : vecP f v) {K : Nat} (hK9 : K ≤ 9) (hlog : logB (v.length : Int) = K) (hn : v.length = 2 ^ K) (hKT : (K : Int) ≤ rd fT f) : Ev (fun k => impl_Forward.f k f v) (tab (2 ^ K) (fwd f K v)) := by
  have h9 := pow2_9 hK9
  have h1 := iVec1_ev f v (by omega)
  rw [if_pos h] at h1
  have h2 := iForward_ev h hK9 hlog hn hKT
  rw [hn] at h2
  obtain ⟨n, e1, e2⟩ := evs2 h1 h2
  refine ⟨n, fun k hk => ?_⟩
  obtain ⟨j, rfl⟩ : ∃ j, k = n + j := ⟨k - n, by omega⟩
  simp only [impl_Forward.f, e1, e2, Option.bind_some, if_true]

-- block vecPtabC
theorem vecP_tabC {f : Int} {v : List Int} (h : vecP f v) {n : Nat} (hn : n = v.length) {g : Nat → Int} (hg : ∀ i, i < n → 0 ≤ g i ∧ g i < mdP f) : vecP f (tab n g) := by
  refine ⟨h.1, by rw [tab_len, hn]; exact h.2.1, by rw [tab_len, hn]; exact h.2.2.1, (elemB_iff _ _).2 fun x hx => ?_⟩
  obtain ⟨i, hi, rfl⟩ := List.getElem_of_mem hx
  rw [← rd_eq hi, tab_rd (by rw [tab_len] at hi; exact hi)]
  exact hg i (by rw [tab_len] at hi; exact hi)

-- block iVec2
theorem iVec2_ev (f : Int) (a b : List Int) (ha : vecP f a) (hb : vecP f b) (he : b.length = a.length) (hn : a.length ≤ 1048576) : Ev (fun k => impl_vectorField.f k f [a, b]) (mdP f, rd fG f, rd fT f, true) := by
  have key := iVec_l f (rd fG f) [a, b] (by simp) (by
    intro i
    cases i with
    | zero => exact hn
    | succ i =>
      cases i with
      | zero => show b.length ≤ 1048576; omega
      | succ i => simp only [rd_L2, Int.toNat_natCast, List.getElem?_cons_succ]; simp) 2 0 rfl (by simp)
  have e0 : vecsAt f [a, b] 0 := ⟨ha.2.1, ha.2.2.1, ha.2.2.2, rfl⟩
  have e1 : vecsAt f [a, b] 1 := ⟨hb.2.1, hb.2.2.1, hb.2.2.2, he⟩
  have e : allF 2 0 (fun j => decide (vecsAt f [a, b] j)) = true := by
    simp only [allF, decide_eq_true e0, decide_eq_true e1, Bool.and_true]
  rw [if_pos e] at key
  refine Ev.congr (fun k => ?_) key
  simp only [impl_vectorField.f, iFld, if_pos ha.1, Option.bind_some, if_true]
  rfl

-- block lawsCp
theorem lawsCp_l (l : List Int) (hn : l.length ≤ 1048576) : ∀ (d i : Nat), l.length - i = d → i ≤ l.length → Ev (fun k => laws_cp.l0 k l (l.take i) (i : Int)) l := by
  intro d
  induction d with
  | zero =>
    intro i h hi
    refine ev_now fun k => ?_
    simp only [laws_cp.l0]
    rw [if_neg (by omega), List.take_of_length_le (by omega)]
  | succ d ih =>
    intro i h hi
    refine Ev.step (fun k => ?_) (ih (i + 1) (by omega) (by omega))
    simp only [laws_cp.l0]
    rw [if_pos (by omega), if_pos (by omega), if_pos (by simp; omega), wsucc (by omega), rd_eq (by omega), List.take_append_getElem (by omega)]
theorem lawsCp_ev (l : List Int) (hn : l.length ≤ 1048576) : Ev (fun k => laws_cp.f k l) l := Ev.congr (fun k => rfl) (lawsCp_l l hn l.length 0 (by omega) (by omega))

-- block lawsSame
theorem lawsSame_l (l : List Int) (hn : l.length ≤ 1048576) : ∀ (d i : Nat), l.length - i = d → i ≤ l.length → Ev (fun k => laws_same.l0 k l l (i : Int)) true := by
  intro d
  induction d with
  | zero =>
    intro i h hi
    refine ev_now fun k => ?_
    simp only [laws_same.l0]
    rw [if_neg (by omega)]
  | succ d ih =>
    intro i h hi
    refine Ev.step (fun k => ?_) (ih (i + 1) (by omega) (by omega))
    simp only [laws_same.l0]
    rw [if_pos (by omega), if_pos (by omega), if_pos (by omega), if_pos trivial, wsucc (by omega)]
theorem lawsSame_ev (l : List Int) (hn : l.length ≤ 1048576) : Ev (fun k => laws_same.f k l l) true := by
  refine Ev.congr (fun k => ?_) (lawsSame_l l hn l.length 0 (by omega) (by omega))
  simp only [laws_same.f, if_true]
  rfl

-- block ringM
theorem geo_step {p x : Int} (K : Nat) : Md p (sm (2 ^ (K + 1)) (fun i => x ^ i)) (sm (2 ^ K) (fun i => x ^ i) * (1 + x ^ 2 ^ K)) := by
  refine Md.of_eq ?_
  rw [Nat.pow_succ, Nat.mul_two, sm_append]
  have h : sm (2 ^ K) (fun i => x ^ (2 ^ K + i)) = x ^ 2 ^ K * sm (2 ^ K) (fun i => x ^ i) := by
    rw [← sm_mul]; exact sm_congr fun i _ => Int.pow_add ..
  rw [h, Int.mul_add, Int.mul_one, Int.mul_comm (x ^ 2 ^ K)]
theorem geo_zero {p x : Int} {t : Nat} (h : Md p (x ^ 2 ^ t) (-1)) : ∀ d, Md p (sm (2 ^ (t + 1 + d)) (fun i => x ^ i)) 0 := by
  intro d
  induction d with
  | zero =>
    refine (geo_step t).trans ?_
    exact ((Md.refl p (sm (2 ^ t) (fun i => x ^ i))).mul ((Md.refl p 1).add h)).trans (Md.of_eq (by simp))
  | succ d ih =>
    refine (geo_step (t + 1 + d)).trans ?_
    exact (ih.mul (Md.refl _ _)).trans (Md.of_eq (Int.zero_mul _))
theorem neg_odd (q : Nat) : (-1 : Int) ^ (2 * q + 1) = -1 := by
  rw [Int.pow_succ, Int.pow_mul, show (-1 : Int) ^ 2 = 1 from rfl, Int.one_pow]; rfl
theorem two_odd : ∀ K d : Nat, 0 < d → d < 2 ^ K → ∃ s q, d = 2 ^ s * (2 * q + 1) ∧ s < K := by
  intro K
  induction K with
  | zero => intro d h1 h2; simp at h2; omega
  | succ K ih =>
    intro d h1 h2
    rcases Nat.mod_two_eq_zero_or_one d with h | h
    · obtain ⟨s, q, e, hs⟩ := ih (d / 2) (by omega) (by rw [Nat.pow_succ] at h2; omega)
      refine ⟨s + 1, q, ?_, by omega⟩
      rw [Nat.pow_succ, Nat.mul_right_comm, ← e]; omega
    · exact ⟨0, d / 2, by rw [Nat.pow_zero]; omega, by omega⟩
/-- Powers of a root, but the whole ones, sum up to nothing. -/
theorem orth {p w : Int} {K d : Nat} (hw : ∀ s, s + 1 = K → Md p (w ^ 2 ^ s) (-1)) (h0 : 0 < d) (hd : d < 2 ^ K) : Md p (sm (2 ^ K) (fun i => (w ^ d) ^ i)) 0 := by
  obtain ⟨s, q, e, hs⟩ := two_odd K d h0 hd
  have h1 := hw (K - 1) (by omega)
  have e2 : d * 2 ^ (K - 1 - s) = 2 ^ (K - 1) * (2 * q + 1) := by
    rw [e, Nat.mul_right_comm, ← Nat.pow_add, show s + (K - 1 - s) = K - 1 by omega]
  have h2 : Md p ((w ^ d) ^ 2 ^ (K - 1 - s)) (-1) := by
    rw [← Int.pow_mul, e2, Int.pow_mul]
    refine (h1.pow _).trans (Md.of_eq ?_)
    exact neg_odd _
  have h3 := geo_zero h2 s
  rwa [show K - 1 - s + 1 + s = K by omega] at h3
/-- A product of rows around a corner: what one pair adds at one place. -/
def cvT (n : Nat) (e : Int) (a b : Nat → Int) (i j k : Nat) : Int := if i + j = k then a i * b j else if i + j = k + n then e * (a i * b j) else 0
def cvV (n : Nat) (e : Int) (a b : Nat → Int) (k : Nat) : Int := sm n (fun i => sm n (fun j => cvT n e a b i j k))
theorem cvT_sum {p w e : Int} {n : Nat} (hw : Md p (w ^ n) e) (a b : Nat → Int) {i j : Nat} (hi : i < n) (hj : j < n) : Md p (sm n (fun k => cvT n e a b i j k * w ^ k)) (a i * w ^ i * (b j * w ^ j)) := by
  by_cases h : i + j < n
  · have e1 : sm n (fun k => cvT n e a b i j k * w ^ k) = sm n (fun k => if k = i + j then a i * b j * w ^ k else 0) := sm_congr fun k hk => by
      unfold cvT
      by_cases h1 : k = i + j
      · rw [if_pos h1.symm, if_pos h1]
      · rw [if_neg (fun hh => h1 hh.symm), if_neg (by omega), if_neg h1, Int.zero_mul]
    rw [e1, sm_one _ _ h, Int.pow_add]
    exact Md.of_eq (by grind)
  · have e1 : sm n (fun k => cvT n e a b i j k * w ^ k) = sm n (fun k => if k = i + j - n then e * (a i * b j) * w ^ k else 0) := sm_congr fun k hk => by
      unfold cvT
      by_cases h1 : k = i + j - n
      · rw [if_neg (by omega), if_pos (by omega), if_pos h1]
      · rw [if_neg (by omega), if_neg (by omega), if_neg h1, Int.zero_mul]
    rw [e1, sm_one _ _ (show i + j - n < n by omega)]
    have e2 : w ^ i * w ^ j = w ^ n * w ^ (i + j - n) := by rw [← Int.pow_add, ← Int.pow_add]; congr 1; omega
    have h2 : Md p (a i * b j * (w ^ n * w ^ (i + j - n))) (a i * b j * (e * w ^ (i + j - n))) := (Md.refl _ _).mul (hw.mul (Md.refl _ _))
    refine Md.trans (Md.of_eq ?_) (h2.symm.trans (Md.of_eq ?_))
    · grind
    · rw [← e2]; grind
theorem cv_value {p w e : Int} {n : Nat} (hw : Md p (w ^ n) e) (a b : Nat → Int) : Md p (sm n (fun k => cvV n e a b k * w ^ k)) (sm n (fun i => a i * w ^ i) * sm n (fun j => b j * w ^ j)) := by
  have e1 : sm n (fun k => cvV n e a b k * w ^ k) = sm n (fun i => sm n (fun j => sm n (fun k => cvT n e a b i j k * w ^ k))) := by
    unfold cvV
    rw [sm_congr (g := fun k => sm n (fun i => sm n (fun j => cvT n e a b i j k * w ^ k))) (fun k _ => by
      rw [← sm_mul_right]; exact sm_congr fun i _ => (sm_mul_right ..).symm), sm_comm]
    exact sm_congr fun i _ => sm_comm ..
  rw [e1]
  refine (Md.sm fun i hi => Md.sm fun j hj => cvT_sum hw a b hi hj).trans (Md.of_eq ?_)
  rw [← sm_mul_right]
  exact sm_congr fun i _ => sm_mul ..
theorem cvV_congr {n : Nat} {e : Int} {a a' b b' : Nat → Int} (ha : ∀ i, i < n → a i = a' i) (hb : ∀ i, i < n → b i = b' i) (k : Nat) : cvV n e a b k = cvV n e a' b' k :=
  sm_congr fun i hi => sm_congr fun j hj => by unfold cvT; rw [ha i hi, hb j hj]
theorem two_inv {f : Int} (h : fldOk f) (K : Nat) : Md (mdP f) (((2 ^ K : Nat) : Int) * invP f ((2 ^ K : Nat) : Int)) 1 := by
  have hm := mdP_range h
  have h2 : Md (mdP f) ((2 : Int) ^ (mdP f - 1).toNat) 1 := by
    refine Md.of_emod ?_
    rw [show (1 : Int) % mdP f = 1 from Int.emod_eq_of_lt (by omega) (by omega)]
    have e := pm_int (mdP f).toNat 40 2 (mdP f - 1).toNat (by omega)
    rw [show (((mdP f).toNat : Nat) : Int) = mdP f by omega] at e
    rw [show (2 : Int) = ((2 : Nat) : Int) from rfl, e]
    exact fld_cases (Q := fun f => (pm (mdP f).toNat 40 2 (mdP f - 1).toNat : Int) = 1) h (by decide +kernel) (by decide +kernel) (by decide +kernel) (by decide +kernel) (by decide +kernel) (by decide +kernel) (by decide +kernel) (by decide +kernel) (by decide +kernel)
  unfold invP
  refine ((Md.refl _ _).mul (Md.mod _ _)).trans (Md.trans (Md.of_eq ?_) ((h2.pow K).trans (Md.of_eq Int.one_pow)))
  rw [show ((2 ^ K : Nat) : Int) = 2 ^ K by simp, Int.mul_comm, ← Int.pow_succ, ← Int.pow_mul, ← Int.pow_mul, Nat.mul_comm]
  congr 2; omega

-- block drawOnce1
theorem drawOnce1 (l : List Int) (hn : l.length ≤ 140737488355328) (i h : Int) (hi : dAt l i) (m : Int) : ∃ b i' h', spec_l01Once.f l i h m = some (b, i', h') ∧ dAt l i' := by
  obtain ⟨b1, i1, h1, e1, r1, d1⟩ := drawBelow l hn i h hi m
  exact ⟨(b1 == 0), i1, h1, by simp only [spec_l01Once.f, e1, Option.bind_some], d1⟩

-- block drawField
theorem drawField (l : List Int) (hn : l.length ≤ 140737488355328) (i h : Int) (hi : dAt l i) : ∃ b i' h', spec_l01DrawField.f l i h = some (b, i', h') ∧ dAt l i' := by
  obtain ⟨b1, i1, h1, e1, d1⟩ := drawOnce1 l hn i h hi 20
  obtain ⟨b2, i2, h2, e2, r2, d2⟩ := drawPickInt l hn i1 h1 d1 [(-1), 9, 100] (by simp)
  obtain ⟨b3, i3, h3, e3, r3, d3⟩ := drawBelow l hn i1 h1 d1 9
  cases b1 with
  | true => exact ⟨b2, i2, h2, by simp only [spec_l01DrawField.f, e1, e2, Option.bind_some, if_true], d2⟩
  | false => exact ⟨b3, i3, h3, by simp only [spec_l01DrawField.f, e1, e3, Option.bind_some, Bool.false_eq_true, if_false], d3⟩

-- block drawElem
theorem drawElem (l : List Int) (hn : l.length ≤ 140737488355328) (i h : Int) (hi : dAt l i) (f : Int) : ∃ b i' h', spec_l01DrawElement.f l i h f = some (b, i', h') ∧ dAt l i' := by
  simp only [spec_l01DrawElement.f, sMod, Option.bind_some]
  by_cases h0 : md f = 0
  · obtain ⟨b1, i1, h1, e1, r1, d1⟩ := drawBelow l hn i h hi 50
    rw [if_pos h0, e1]
    exact ⟨_, _, _, rfl, d1⟩
  · obtain ⟨b1, i1, h1, e1, r1, d1⟩ := drawBelow l hn i h hi 6
    rw [if_neg h0, e1, Option.bind_some]
    by_cases c0 : b1 = 0
    · obtain ⟨b2, i2, h2, e2, r2, d2⟩ := drawBelow l hn i1 h1 d1 3
      rw [if_pos c0, e2]
      exact ⟨_, _, _, rfl, d2⟩
    · rw [if_neg c0]
      by_cases c1 : b1 = 1
      · obtain ⟨b2, i2, h2, e2, r2, d2⟩ := drawBelow l hn i1 h1 d1 3
        rw [if_pos c1, e2]
        exact ⟨_, _, _, rfl, d2⟩
      · rw [if_neg c1]
        by_cases c2 : b1 = 2
        · obtain ⟨b2, i2, h2, e2, r2, d2⟩ := drawBelow l hn i1 h1 d1 16777216
          obtain ⟨b3, i3, h3, e3, r3, d3⟩ := drawBelow l hn i2 h2 d2 256
          rw [if_pos c2, e2, Option.bind_some, e3]
          exact ⟨_, _, _, rfl, d3⟩
        · obtain ⟨b2, i2, h2, e2, r2, d2⟩ := drawBelow l hn i1 h1 d1 30
          rw [if_neg c2, e2]
          exact ⟨_, _, _, rfl, d2⟩

-- block drawList
theorem drawList_l (l : List Int) (hn : l.length ≤ 140737488355328) (f : Int) (n : Nat) (hn6 : n ≤ 1048576) : ∀ (d j : Nat) (acc : List Int) (i h : Int), n - j = d → j ≤ n → acc.length = j → dAt l i →
    ∃ out i' h', Ev (fun k => spec_l01DrawList.l0 k f (n : Int) acc (j : Int) l i h) (out, i', h') ∧ out.length = n ∧ dAt l i' := by
  intro d
  induction d with
  | zero =>
    intro j acc i h hd hj ha hi
    refine ⟨acc, i, h, ev_now fun k => ?_, by omega, hi⟩
    simp only [spec_l01DrawList.l0]
    rw [if_neg (by omega)]
  | succ d ih =>
    intro j acc i h hd hj ha hi
    obtain ⟨b1, i1, h1, e1, d1⟩ := drawElem l hn i h hi f
    obtain ⟨out, i', h', k1, k2, k3⟩ := ih (j + 1) (acc ++ [b1]) i1 h1 (by omega) (by omega) (by simp; omega) d1
    refine ⟨out, i', h', Ev.step (fun k => ?_) k1, k2, k3⟩
    simp only [spec_l01DrawList.l0, e1, Option.bind_some]
    rw [if_pos (by omega), if_pos (by omega), wsucc (by omega)]
theorem drawList (l : List Int) (hn : l.length ≤ 140737488355328) (i h : Int) (hi : dAt l i) (f : Int) (n : Nat) (hn6 : n ≤ 1048576) : ∃ out i' h', Ev (fun k => spec_l01DrawList.f k l i h f (n : Int)) (out, i', h') ∧ out.length = n ∧ dAt l i' := by
  obtain ⟨out, i', h', k1, k2, k3⟩ := drawList_l l hn f n hn6 n 0 [] i h rfl (by omega) rfl hi
  exact ⟨out, i', h', Ev.congr (fun k => rfl) k1, k2, k3⟩

-- block drawVec
theorem drawVec4 (l : List Int) (hn : l.length ≤ 140737488355328) (f : Int) (x : Nat) (hx : x ≤ 9) (i h : Int) (hi : dAt l i) : ∃ v i' h', Ev (fun k => spec_l04DrawVector.j4 k f (x : Int) l i h) (v, i', h') ∧ v.length ≤ 600 ∧ dAt l i' := by
  have hs := shl_pow (i := x) (by omega)
  have h9 := pow2_9 hx
  obtain ⟨v, i1, h1, e1, l1, d1⟩ := drawList l hn i h hi f (2 ^ x) (by omega)
  rw [show ((2 ^ x : Nat) : Int) = 2 ^ x by simp] at e1
  obtain ⟨b2, i2, h2, e2, d2⟩ := drawOnce1 l hn i1 h1 d1 12
  obtain ⟨b3, i3, h3, e3, r3, d3⟩ := drawBelow l hn i2 h2 d2 3
  obtain ⟨b4, i4, h4, e4, r4, d4⟩ := drawBelow l hn i3 h3 d3 (v.length : Int)
  obtain ⟨b5, i5, h5, e5, r5, d5⟩ := drawPickInt l hn i4 h4 d4 [(-1), md f] (by simp)
  obtain ⟨m, k1⟩ := evs1 e1
  have key : ∀ j, spec_l04DrawVector.j4 (m + j + 1) f (x : Int) l i h = (if b2 = true then (if b3 = 0 then (if v.length < 17592186044416 then some (v ++ [0], i3, h3) else none) else if b3 = 1 then (if 0 ≤ b4 then (if b4 < (v.length : Int) then some (v.set b4.toNat b5, i5, h5) else none) else none) else if b3 = 2 then some ([], i3, h3) else some (v, i3, h3)) else some (v, i2, h2)) := by
    intro j
    simp only [spec_l04DrawVector.j4, hs.2.1, k1 j, e2, e3, e4, sMod, e5, Option.bind_some]
    rw [if_pos hs.2.2]
  cases b2 with
  | false =>
    refine ⟨v, i2, h2, ⟨m + 1, fun k hk => ?_⟩, by omega, d2⟩
    obtain ⟨j, rfl⟩ : ∃ j, k = m + j + 1 := ⟨k - m - 1, by omega⟩
    exact (key j).trans (if_neg (by simp))
  | true =>
    by_cases c0 : b3 = 0
    · refine ⟨v ++ [0], i3, h3, ⟨m + 1, fun k hk => ?_⟩, by simp; omega, d3⟩
      obtain ⟨j, rfl⟩ : ∃ j, k = m + j + 1 := ⟨k - m - 1, by omega⟩
      refine (key j).trans ?_
      rw [if_pos rfl, if_pos c0, if_pos (by omega)]
    · by_cases c1 : b3 = 1
      · refine ⟨v.set b4.toNat b5, i5, h5, ⟨m + 1, fun k hk => ?_⟩, by simp; omega, d5⟩
        obtain ⟨j, rfl⟩ : ∃ j, k = m + j + 1 := ⟨k - m - 1, by omega⟩
        refine (key j).trans ?_
        rw [if_pos rfl, if_neg c0, if_pos c1, if_pos r4.1, if_pos (by omega)]
      · by_cases c2 : b3 = 2
        · refine ⟨[], i3, h3, ⟨m + 1, fun k hk => ?_⟩, by simp, d3⟩
          obtain ⟨j, rfl⟩ : ∃ j, k = m + j + 1 := ⟨k - m - 1, by omega⟩
          refine (key j).trans ?_
          rw [if_pos rfl, if_neg c0, if_neg c1, if_pos c2]
        · refine ⟨v, i3, h3, ⟨m + 1, fun k hk => ?_⟩, by omega, d3⟩
          obtain ⟨j, rfl⟩ : ∃ j, k = m + j + 1 := ⟨k - m - 1, by omega⟩
          refine (key j).trans ?_
          rw [if_pos rfl, if_neg c0, if_neg c1, if_neg c2]
theorem drawVec3 (l : List Int) (hn : l.length ≤ 140737488355328) (f : Int) (x : Nat) (hx : x ≤ 9) (i h : Int) (hi : dAt l i) : ∃ v i' h', Ev (fun k => spec_l04DrawVector.j3 k f (x : Int) l i h) (v, i', h') ∧ v.length ≤ 600 ∧ dAt l i' := by
  obtain ⟨b2, i2, h2, e2, d2⟩ := drawOnce1 l hn i h hi 25
  cases b2 with
  | false =>
    obtain ⟨v, i', h', e, hl, hd⟩ := drawVec4 l hn f x hx i2 h2 d2
    refine ⟨v, i', h', Ev.step (fun k => ?_) e, hl, hd⟩
    simp only [spec_l04DrawVector.j3, e2, Option.bind_some, Bool.false_eq_true, if_false]
  | true =>
    obtain ⟨b3, i3, h3, e3, r3, d3⟩ := drawPickInt l hn i2 h2 d2 [0, 5, 9] (by simp)
    have hb : 0 ≤ b3 ∧ b3 ≤ 9 := by
      simp only [List.mem_cons, List.not_mem_nil, or_false] at r3
      omega
    obtain ⟨y, rfl⟩ : ∃ y : Nat, b3 = (y : Int) := ⟨b3.toNat, by omega⟩
    obtain ⟨v, i', h', e, hl, hd⟩ := drawVec4 l hn f y (by omega) i3 h3 d3
    refine ⟨v, i', h', Ev.step (fun k => ?_) e, hl, hd⟩
    simp only [spec_l04DrawVector.j3, e2, e3, Option.bind_some, if_true]
theorem drawVec1 (l : List Int) (hn : l.length ≤ 140737488355328) (f : Int) (x : Nat) (hx : x ≤ 8) (i h : Int) (hi : dAt l i) : ∃ v i' h', Ev (fun k => spec_l04DrawVector.j1 k f (x : Int) l i h) (v, i', h') ∧ v.length ≤ 600 ∧ dAt l i' := by
  obtain ⟨b2, i2, h2, e2, r2, d2⟩ := drawBelow l hn i h hi (wrap64 ((x : Int) + 2))
  rw [w64 (by omega) (by omega)] at r2
  obtain ⟨b, rfl⟩ : ∃ b : Nat, b2 = (b : Int) := ⟨b2.toNat, by omega⟩
  obtain ⟨q, k1⟩ := evs1 (sTwo_ev f)
  generalize two f = t at k1
  by_cases ht : t ≥ 0 ∧ (b : Int) > t
  · obtain ⟨y, rfl⟩ : ∃ y : Nat, t = (y : Int) := ⟨t.toNat, by omega⟩
    obtain ⟨v, i', h', e, hl, hd⟩ := drawVec3 l hn f y (by omega) i2 h2 d2
    obtain ⟨m, k2⟩ := evs1 e
    refine ⟨v, i', h', ⟨q + m + 2, fun k hk => ?_⟩, hl, hd⟩
    obtain ⟨j, rfl⟩ : ∃ j, k = q + m + j + 1 + 1 := ⟨k - q - m - 2, by omega⟩
    have k1' := k1 (m + j + 1)
    have k2' := k2 (q + j)
    rw [show q + (m + j + 1) = q + m + j + 1 by omega] at k1'
    rw [show m + (q + j) = q + m + j by omega] at k2'
    simp only [spec_l04DrawVector.j1, spec_l04DrawVector.j2, e2, k1', Option.bind_some]
    rw [if_pos ht.1, decide_eq_true ht.2, if_pos rfl, k2']
  · obtain ⟨v, i', h', e, hl, hd⟩ := drawVec3 l hn f b (by omega) i2 h2 d2
    obtain ⟨m, k2⟩ := evs1 e
    refine ⟨v, i', h', ⟨q + m + 2, fun k hk => ?_⟩, hl, hd⟩
    obtain ⟨j, rfl⟩ : ∃ j, k = q + m + j + 1 + 1 := ⟨k - q - m - 2, by omega⟩
    have k1' := k1 (m + j + 1)
    have k2' := k2 (q + j)
    rw [show q + (m + j + 1) = q + m + j + 1 by omega] at k1'
    rw [show m + (q + j) = q + m + j by omega] at k2'
    simp only [spec_l04DrawVector.j1, spec_l04DrawVector.j2, e2, k1', Option.bind_some]
    by_cases h1 : t ≥ 0
    · rw [if_pos h1, decide_eq_false (fun hh => ht ⟨h1, hh⟩), if_neg (by simp), k2']
    · rw [if_neg h1, if_neg (by simp), k2']
theorem drawVec_l (l l2 : List Int) (hn : l.length ≤ 140737488355328) (f : Int) (i h : Int) (hi : dAt l i) : ∀ (d x : Nat), 8 - x = d → x ≤ 8 → ∃ v i' h', Ev (fun k => spec_l04DrawVector.l0 k f l2 (x : Int) l i h) (v, i', h') ∧ v.length ≤ 600 ∧ dAt l i' := by
  intro d
  induction d with
  | zero =>
    intro x hd hx
    obtain ⟨v, i', h', e, hl, hd'⟩ := drawVec1 l hn f x (by omega) i h hi
    refine ⟨v, i', h', Ev.step (fun k => ?_) e, hl, hd'⟩
    simp only [spec_l04DrawVector.l0]
    rw [if_neg (by omega)]
  | succ d ih =>
    intro x hd hx
    have hs := shl_pow (i := x) (by omega)
    by_cases hlt : shl .i64 4 (IntKind.u64.wrap (x : Int)) < (l2.length : Int)
    · obtain ⟨v, i', h', e, hl, hd'⟩ := ih (x + 1) (by omega) (by omega)
      refine ⟨v, i', h', Ev.step (fun k => ?_) e, hl, hd'⟩
      simp only [spec_l04DrawVector.l0]
      rw [if_pos (by omega), if_pos hs.2.2, if_pos hlt, wsucc (by omega)]
    · obtain ⟨v, i', h', e, hl, hd'⟩ := drawVec1 l hn f x (by omega) i h hi
      refine ⟨v, i', h', Ev.step (fun k => ?_) e, hl, hd'⟩
      simp only [spec_l04DrawVector.l0]
      rw [if_pos (by omega), if_pos hs.2.2, if_neg hlt]
theorem drawVec (l l2 : List Int) (hn : l.length ≤ 140737488355328) (f : Int) (i h : Int) (hi : dAt l i) : ∃ v i' h', Ev (fun k => spec_l04DrawVector.f k l i h f l2) (v, i', h') ∧ v.length ≤ 600 ∧ dAt l i' := by
  obtain ⟨v, i', h', e, hl, hd⟩ := drawVec_l l l2 hn f i h hi 8 0 rfl (by omega)
  exact ⟨v, i', h', Ev.congr (fun k => rfl) e, hl, hd⟩

-- block drawTwo
theorem drawTwo (l : List Int) (hn : l.length ≤ 140737488355328) : ∃ f a b, Ev (fun k => spec_l04DrawTwo.f k l) (f, a, b) ∧ a.length ≤ 600 ∧ b.length ≤ 1200 := by
  obtain ⟨h0, e0⟩ := drawNew l hn
  obtain ⟨f, i1, h1, e1, d1⟩ := drawField l hn 0 h0 (dAt0 l)
  obtain ⟨a, i2, h2, e2, l2, d2⟩ := drawVec l l hn f i1 h1 d1
  obtain ⟨b3, i3, h3, e3, d3⟩ := drawOnce1 l hn i2 h2 d2 12
  cases b3 with
  | true =>
    obtain ⟨b, i4, h4, e4, l4, d4⟩ := drawList l hn i3 h3 d3 f (2 * a.length) (by omega)
    obtain ⟨m, k0, k2, k4⟩ := evs3 e0 e2 e4
    refine ⟨f, a, b, ⟨m, fun k hk => ?_⟩, l2, by omega⟩
    obtain ⟨j, rfl⟩ : ∃ j, k = m + j := ⟨k - m, by omega⟩
    simp only [spec_l04DrawTwo.f, k0 j, e1, k2 j, e3, Option.bind_some, if_true]
    rw [w64n (a := 2 * a.length) (by omega) (by omega), k4 j]
    rfl
  | false =>
    obtain ⟨b, i4, h4, e4, l4, d4⟩ := drawList l hn i3 h3 d3 f a.length (by omega)
    obtain ⟨m, k0, k2, k4⟩ := evs3 e0 e2 e4
    refine ⟨f, a, b, ⟨m, fun k hk => ?_⟩, l2, by omega⟩
    obtain ⟨j, rfl⟩ : ∃ j, k = m + j := ⟨k - m, by omega⟩
    simp only [spec_l04DrawTwo.f, k0 j, e1, k2 j, e3, k4 j, Option.bind_some, Bool.false_eq_true, if_false]

-- block fwdBwd
theorem sm_ones : ∀ n : Nat, sm n (fun _ => (1 : Int)) = (n : Int)
  | 0 => rfl
  | n + 1 => by rw [sm, sm_ones n]; omega
theorem flip_mod {n i m j : Nat} (hm : m < n) (hj : j < n) : ((n - j) % n * m + i * j) % n = ((n + i - m) * j) % n := by
  by_cases h0 : j = 0
  · subst h0; simp
  · rw [Nat.mod_eq_of_lt (show n - j < n by omega)]
    obtain ⟨c, hc⟩ : ∃ c, n = c + j := ⟨n - j, by omega⟩
    obtain ⟨d, hd⟩ : ∃ d, n + i = d + m := ⟨n + i - m, by omega⟩
    have e1 : n + i - m = d := by omega
    have e2 : n - j = c := by omega
    rw [e1, e2]
    have e3 : (n + i) * j = (d + m) * j := by rw [hd]
    have e4 : n * m = (c + j) * m := by rw [← hc]
    rw [Nat.add_mul, Nat.add_mul] at e3
    rw [Nat.add_mul] at e4
    have e5 : m * j = j * m := Nat.mul_comm _ _
    have e6 : c * m + i * j + n * j = d * j + n * m := by omega
    rw [← Nat.add_mul_mod_self_left (c * m + i * j) n j, ← Nat.add_mul_mod_self_left (d * j) n m, e6]
/-- What went back comes forth. -/
theorem fwd_bwd {f : Int} (hf : fldOk f) (K : Nat) (hKT : (K : Int) ≤ rd fT f) (v : List Int) (hel : ∀ i : Nat, i < 2 ^ K → 0 ≤ rd v (i : Int) ∧ rd v (i : Int) < mdP f) (i : Nat) (hi : i < 2 ^ K) : fwd f K (tab (2 ^ K) (bwd f K v)) i = rd v (i : Int) := by
  have hm := mdP_range hf
  have hfull : Md (mdP f) (rt f K ^ (2 ^ K)) 1 := (roots hf).full_pow K (by omega)
  have hi2 := two_inv hf K
  have hw : ∀ s, s + 1 = K → Md (mdP f) (rt f K ^ 2 ^ s) (-1) := fun s hs => by subst hs; exact (roots hf).half_pow s (by omega)
  have ho : ∀ d, 0 < d → d < 2 ^ K → Md (mdP f) (sm (2 ^ K) (fun j => (rt f K ^ d) ^ j)) 0 := fun d h1 h2 => orth hw h1 h2
  have hri := hel i hi
  have e0 : ∀ j : Nat, j < 2 ^ K → rd (tab (2 ^ K) (bwd f K v)) (j : Int) = fwd f K v ((2 ^ K - j) % 2 ^ K) * invP f ((2 ^ K : Nat) : Int) % mdP f := fun j hj => by rw [tab_rd hj]; rfl
  unfold fwd dft
  refine Md.eq ((Md.mod _ _).trans ?_) (Int.emod_nonneg _ (by omega)) (Int.emod_lt_of_pos _ (by omega)) hri.1 hri.2
  refine (Md.sm (g := fun j => sm (2 ^ K) (fun m => rd v (m : Int) * invP f ((2 ^ K : Nat) : Int) * (rt f K ^ (2 ^ K + i - m)) ^ j)) fun j hj => ?_).trans ?_
  · dsimp only
    rw [e0 j hj]
    unfold fwd dft
    refine ((Md.mod _ _).mul (Md.refl _ _)).trans ?_
    refine (((Md.mod _ _).mul (Md.refl _ _)).mul (Md.refl _ _)).trans ?_
    refine (Md.of_eq (show _ = sm (2 ^ K) (fun m => rd v (m : Int) * rt f K ^ ((2 ^ K - j) % 2 ^ K * m) * (invP f ((2 ^ K : Nat) : Int) * rt f K ^ (i * j))) from ?_)).trans (Md.sm fun m hmm => ?_)
    · rw [Int.mul_assoc, sm_mul_right]
    · have h1 : Md (mdP f) (rt f K ^ ((2 ^ K - j) % 2 ^ K * m + i * j)) (rt f K ^ ((2 ^ K + i - m) * j)) := by
        refine (pow_per hfull _).symm.trans (Md.trans (Md.of_eq ?_) (pow_per hfull _))
        rw [flip_mod hmm hj]
      rw [Int.pow_add] at h1
      rw [← Int.pow_mul]
      refine Md.trans (Md.of_eq ?_) ((Md.refl (mdP f) (rd v (m : Int) * invP f ((2 ^ K : Nat) : Int))).mul h1)
      grind
  · rw [sm_comm]
    refine (Md.sm (g := fun m => if m = i then rd v (m : Int) * invP f ((2 ^ K : Nat) : Int) * ((2 ^ K : Nat) : Int) else 0) fun m hmm => ?_).trans ?_
    · rw [sm_mul]
      by_cases hmi : m = i
      · rw [if_pos hmi]
        refine (Md.refl _ _).mul ?_
        rw [← sm_ones (2 ^ K)]
        refine Md.sm fun j _ => ?_
        rw [show 2 ^ K + i - m = 2 ^ K by omega]
        exact (hfull.pow j).trans (Md.of_eq Int.one_pow)
      · rw [if_neg hmi]
        have h2 : 0 < (2 ^ K + i - m) % 2 ^ K ∧ (2 ^ K + i - m) % 2 ^ K < 2 ^ K := by
          refine ⟨?_, Nat.mod_lt _ (by omega)⟩
          by_cases hlt : m < i
          · rw [show 2 ^ K + i - m = (i - m) + 2 ^ K by omega, Nat.add_mod_right, Nat.mod_eq_of_lt (by omega)]; omega
          · rw [Nat.mod_eq_of_lt (by omega)]; omega
        have h3 : Md (mdP f) (sm (2 ^ K) (fun j => (rt f K ^ (2 ^ K + i - m)) ^ j)) 0 :=
          (Md.sm fun j _ => ((pow_per hfull (2 ^ K + i - m)).symm).pow j).trans (ho _ h2.1 h2.2)
        exact ((Md.refl _ _).mul h3).trans (Md.of_eq (Int.mul_zero _))
    · rw [sm_one _ _ hi]
      have h4 := (Md.refl (mdP f) (rd v (i : Int))).mul hi2
      rw [Int.mul_one] at h4
      refine Md.trans (Md.of_eq ?_) h4
      grind

-- block iCorrOne
def curF (b : List Int) (i y : Nat) : Int := if y < i then rd b (y : Int) else 0
theorem curF_set (b : List Int) (n i : Nat) (x : Int) (hx : x = rd b (i : Int)) : ∀ s, s = i ∨ s = i + 1 → (tab n (curF b s)).set i x = tab n (curF b (i + 1)) := by
  intro s hs
  rw [tab_set]
  refine tab_congr fun y _ => ?_
  unfold curF
  by_cases h : y = i
  · rw [if_pos h, if_pos (by omega), hx, h]
  · rw [if_neg h]
    by_cases h2 : y < s
    · rw [if_pos h2, if_pos (by omega)]
    · rw [if_neg h2, if_neg (by omega)]
theorem iCorr_in {b : List Int} {n : Nat} (hn : b.length = n) (h9 : n ≤ 512) {p g t : Int} (hp : 2 ≤ p) (hp2 : p ≤ 4294967296) (hel : ∀ i : Nat, i < n → 0 ≤ rd b (i : Int) ∧ rd b (i : Int) < p) (i : Nat) (hi : i < n) (T : List Int)
    (key : Ev (fun k => impl_Correlate.l0 k (tab n oneF) b (tab n (curF b (i + 1))) (n : Int) ((i + 1 : Nat) : Int) p g t) T) : ∀ (d j : Nat), n - j = d → 1 ≤ j → j ≤ n →
    Ev (fun k => impl_Correlate.l1 k (tab n oneF) b (tab n (curF b (i + 1))) (i : Int) (n : Int) (i : Int) (tab n oneF) (n : Int) (j : Int) p g t) T := by
  intro d
  induction d with
  | zero =>
    intro j h h1 hj
    refine Ev.step (fun k => ?_) key
    simp only [impl_Correlate.l1]
    rw [if_neg (by omega), wsucc (by omega)]
  | succ d ih =>
    intro j h h1 hj
    have ke := ih (j + 1) (by omega) (by omega) (by omega)
    have hb := hel i hi
    have r1 : rd (tab n oneF) (j : Int) = 0 := by rw [tab_rd (by omega), oneF_pos h1]
    have r2 : rd (tab n (curF b (i + 1))) (i : Int) = rd b (i : Int) := by rw [tab_rd hi]; unfold curF; rw [if_pos (by omega)]
    have w1 : Int.tmod (wrap64 ((j : Int) + (i : Int))) (n : Int) = (((j + i) % n : Nat) : Int) := by
      rw [w64n (a := j + i) (by omega) (by omega), Int.tmod_eq_emod_of_nonneg (by omega)]; omega
    have hlt := Nat.mod_lt (j + i) (show 0 < n by omega)
    have w2 : Int.tmod (wrap64 (rd b (i : Int) + wrap64 (0 * rd b (((j + i) % n : Nat) : Int)))) p = rd b (i : Int) := by
      rw [Int.zero_mul, show wrap64 0 = 0 from w64 (by omega) (by omega), Int.add_zero, w64 (by omega) (by omega), Int.tmod_eq_emod_of_nonneg hb.1]
      exact Int.emod_eq_of_lt hb.1 hb.2
    have s1 := curF_set b n i (rd b (i : Int)) rfl (i + 1) (Or.inr rfl)
    refine Ev.step (fun k => ?_) ke
    simp only [impl_Correlate.l1, tab_len, hn, r1, r2, w1, w2, Int.toNat_natCast, s1]
    clear w1 w2
    rw [if_pos (by omega), if_pos (by omega), if_pos (by omega), if_pos (by omega), if_pos (by omega), if_neg (by omega), if_pos (by omega), if_pos (by omega), if_neg (by omega), wsucc (by omega)]
theorem iCorr_l {b : List Int} {n : Nat} (hn : b.length = n) (h9 : n ≤ 512) {p g t : Int} (hp : 2 ≤ p) (hp2 : p ≤ 4294967296) (hel : ∀ i : Nat, i < n → 0 ≤ rd b (i : Int) ∧ rd b (i : Int) < p) : ∀ (d i : Nat), n - i = d → i ≤ n →
    Ev (fun k => impl_Correlate.l0 k (tab n oneF) b (tab n (curF b i)) (n : Int) (i : Int) p g t) b := by
  intro d
  induction d with
  | zero =>
    intro i h hi
    obtain rfl : i = n := by omega
    refine ev_now fun k => ?_
    simp only [impl_Correlate.l0]
    rw [if_neg (by omega)]
    refine congrArg some (Eq.trans ?_ (tab_of b).symm)
    rw [hn]
    exact tab_congr fun y hy => by unfold curF; rw [if_pos hy]
  | succ d ih =>
    intro i h hi
    have hi' : i < n := by omega
    have key := iCorr_in hn h9 (g := g) (t := t) hp hp2 hel i hi' b (ih (i + 1) (by omega) (by omega)) (n - 1) 1 rfl (by omega) (by omega)
    have hb := hel i hi'
    have r1 : rd (tab n oneF) 0 = 1 := by rw [show (0 : Int) = ((0 : Nat) : Int) from rfl, tab_rd (by omega), oneF_zero]
    have r2 : rd (tab n (curF b i)) (i : Int) = 0 := by rw [tab_rd hi']; unfold curF; rw [if_neg (by omega)]
    have w1 : Int.tmod (wrap64 (0 + (i : Int))) (n : Int) = (i : Int) := by
      rw [w64n (a := i) (by omega) (by omega), Int.tmod_eq_emod_of_nonneg (by omega)]; exact Int.emod_eq_of_lt (by omega) (by omega)
    have w2 : Int.tmod (wrap64 (0 + wrap64 (1 * rd b (i : Int)))) p = rd b (i : Int) := by
      rw [Int.one_mul, w64 (x := rd b (i : Int)) (by omega) (by omega), Int.zero_add, w64 (by omega) (by omega), Int.tmod_eq_emod_of_nonneg hb.1]
      exact Int.emod_eq_of_lt hb.1 hb.2
    have s1 := curF_set b n i (rd b (i : Int)) rfl i (Or.inl rfl)
    refine Ev.step (f := fun k => impl_Correlate.l1 k (tab n oneF) b (tab n (curF b i)) (i : Int) (n : Int) (i : Int) (tab n oneF) (n : Int) 0 p g t) (fun k => ?_) (Ev.step (fun k => ?_) key)
    · simp only [impl_Correlate.l0, tab_len]
      rw [if_pos (by omega)]
    · simp only [impl_Correlate.l1, tab_len, hn, r1, r2, w1, w2, Int.toNat_natCast, s1]
      clear w1 w2
      rw [if_pos (by omega), if_pos (by omega), if_pos (by omega), if_pos (by omega), if_pos (by omega), if_neg (by omega), if_pos (by omega), if_pos (by omega), if_neg (by omega), show wrap64 (0 + 1) = ((1 : Nat) : Int) from w64 (by omega) (by omega)]
theorem iCorrOne_ev {f : Int} {b : List Int} (hb : vecP f b) {n : Nat} (hn : b.length = n) (h9 : n ≤ 512) (h1 : 1 ≤ n) : Ev (fun k => impl_Correlate.f k f (tab n oneF) b) b := by
  have hm := mdP_range hb.1
  have ha : vecP f (tab n oneF) := vecP_tabC hb hn.symm fun i _ => by unfold oneF; split <;> omega
  have key := iCorr_l (b := b) hn h9 (p := mdP f) (g := rd fG f) (t := rd fT f) (by omega) (by omega) (fun i hi => vec_el hb i (by omega)) n 0 (by omega) (by omega)
  have e0 : tab n (curF b 0) = List.replicate n 0 := by
    apply List.ext_getElem
    · simp [tab]
    · intro i h1 h2
      simp [tab, curF]
  rw [e0] at key
  obtain ⟨m, e1, e2⟩ := evs2 (iVec2_ev f (tab n oneF) b ha hb (by rw [tab_len]; exact hn) (by rw [tab_len]; omega)) key
  refine ⟨m, fun k hk => ?_⟩
  obtain ⟨j, rfl⟩ : ∃ j, k = m + j := ⟨k - m, by omega⟩
  simp only [impl_Correlate.f, e1, tab_len, Option.bind_some, if_true, Int.toNat_natCast, List.length_replicate]
  rw [if_pos (by omega), if_pos (by omega)]
  exact e2 j

-- block iPoint
theorem iPoint_l {f : Int} (hf : fldOk f) (n : Nat) (hn : n ≤ 512) (a b : List Int) (ha : a.length = n) (hb : b.length = n) (hae : ∀ i : Nat, i < a.length → 0 ≤ rd a (i : Int) ∧ rd a (i : Int) < mdP f) (hbe : ∀ i : Nat, i < b.length → 0 ≤ rd b (i : Int) ∧ rd b (i : Int) < mdP f) : ∀ (d i : Nat), n - i = d → i ≤ n →
    Ev (fun k => impl_field_pointwise.l0 k b (tab i (fun j => rd a (j : Int) * rd b (j : Int) % mdP f)) a (n : Int) (i : Int) (mdP f) (rd fG f) (rd fT f)) (tab n (fun j => rd a (j : Int) * rd b (j : Int) % mdP f)) := by
  have hm := mdP_range hf
  intro d
  induction d with
  | zero =>
    intro i h hi
    have ei : i = n := by omega
    subst ei
    refine ev_now fun k => ?_
    simp only [impl_field_pointwise.l0]
    rw [if_neg (by omega)]
  | succ d ih =>
    intro i h hi
    have key := ih (i + 1) (by omega) (by omega)
    rw [← tab_snoc] at key
    have r1 := hae i (by omega)
    have r2 := hbe i (by omega)
    have a1 := iMul (g := rd fG f) (t := rd fT f) (p := mdP f) (by omega) (by omega) r1.1 r1.2 r2.1 r2.2
    refine Ev.step (fun k => ?_) key
    simp only [impl_field_pointwise.l0, a1, tab_len, Option.bind_some]
    rw [if_pos (by omega), if_pos (by omega), if_pos (by omega), if_pos (by omega), if_pos (by omega), wsucc (by omega)]

-- block iPointwise
theorem iPointwise_ev {f : Int} {a b : List Int} (ha : vecP f a) (hb : vecP f b) {K : Nat} (hK9 : K ≤ 9) (hna : a.length = 2 ^ K) (hnb : b.length = 2 ^ K) : Ev (fun k => impl_Pointwise.f k f a b) (tab (2 ^ K) (fun j => rd a (j : Int) * rd b (j : Int) % mdP f)) := by
  have h9 := pow2_9 hK9
  have key := iPoint_l ha.1 (2 ^ K) h9.1 a b hna hnb (vec_el ha) (vec_el hb) (2 ^ K) 0 (by omega) (by omega)
  obtain ⟨n, e1, e2⟩ := evs2 (iVec2_ev f a b ha hb (by omega) (by omega)) key
  refine ⟨n, fun k hk => ?_⟩
  obtain ⟨j, rfl⟩ : ∃ j, k = n + j := ⟨k - n, by omega⟩
  have e2' := e2 j
  simp only [impl_Pointwise.f, impl_field_pointwise.f, e1 j, hna, Option.bind_some, if_true]
  rw [show ([] : List Int) = tab 0 (fun j => rd a (j : Int) * rd b (j : Int) % mdP f) from rfl, show (0 : Int) = ((0 : Nat) : Int) from rfl, e2', Option.bind_some]

-- block iCyclic
theorem iCyclic_ev {f : Int} {a b : List Int} (ha : vecP f a) (hb : vecP f b) {K : Nat} (hK9 : K ≤ 9) (hlog : logB (a.length : Int) = K) (hna : a.length = 2 ^ K) (hnb : b.length = 2 ^ K) (hKT : (K : Int) ≤ rd fT f) :
    Ev (fun k => impl_Cyclic.f k f a b) (tab (2 ^ K) (bwd f K (tab (2 ^ K) (fun j => rd (tab (2 ^ K) (fwd f K a)) (j : Int) * rd (tab (2 ^ K) (fwd f K b)) (j : Int) % mdP f)))) := by
  have h9 := pow2_9 hK9
  have hm := mdP_range ha.1
  have hlb : logB (b.length : Int) = K := by rw [hnb, ← hna]; exact hlog
  have r : ∀ x : Int, 0 ≤ x % mdP f ∧ x % mdP f < mdP f := fun x => ⟨Int.emod_nonneg _ (by omega), Int.emod_lt_of_pos _ (by omega)⟩
  have vA : vecP f (tab (2 ^ K) (fwd f K a)) := vecP_tabC ha hna.symm fun i _ => r _
  have vB : vecP f (tab (2 ^ K) (fwd f K b)) := vecP_tabC ha hna.symm fun i _ => r _
  have vP : vecP f (tab (2 ^ K) (fun j => rd (tab (2 ^ K) (fwd f K a)) (j : Int) * rd (tab (2 ^ K) (fwd f K b)) (j : Int) % mdP f)) := vecP_tabC ha hna.symm fun i _ => r _
  have k1 := iForward_ev ha hK9 hlog hna hKT
  have k2 := iForward_ev hb hK9 hlb hnb hKT
  rw [hna] at k1
  rw [hnb] at k2
  have k3 := iPoint_l ha.1 (2 ^ K) h9.1 (tab (2 ^ K) (fwd f K a)) (tab (2 ^ K) (fwd f K b)) (tab_len ..) (tab_len ..) (vec_el vA) (vec_el vB) (2 ^ K) 0 (by omega) (by omega)
  have k4 := iBackward_ev vP hK9 (by rw [tab_len, ← hna]; exact hlog) (tab_len ..) hKT
  rw [tab_len] at k4
  obtain ⟨n, e0, e1, e2, e3, e4⟩ := evs5 (iVec2_ev f a b ha hb (by omega) (by omega)) k1 k2 k3 k4
  refine ⟨n, fun k hk => ?_⟩
  obtain ⟨j, rfl⟩ : ∃ j, k = n + j := ⟨k - n, by omega⟩
  have e3' : impl_field_pointwise.f (n + j) (mdP f) (rd fG f) (rd fT f) (tab (2 ^ K) (fwd f K a)) (tab (2 ^ K) (fwd f K b)) = some (tab (2 ^ K) (fun j => rd (tab (2 ^ K) (fwd f K a)) (j : Int) * rd (tab (2 ^ K) (fwd f K b)) (j : Int) % mdP f)) := by
    simp only [impl_field_pointwise.f, tab_len]
    exact e3 j
  simp only [impl_Cyclic.f, e0, e1, e2, e3', e4, Option.bind_some, if_true]

end Go.Proofs.Ytdefnccngnilmaa.QFnConvolution

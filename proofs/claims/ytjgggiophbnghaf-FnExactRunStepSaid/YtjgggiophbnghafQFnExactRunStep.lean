/- Lemmas on the printed functions of FnExactRunStep: what each comes to. -/
import Derived.Test.YtjgggiophbnghafPFnExactRunStepx
import Derived.Test.YtjgggiophbnghafNtt
namespace Go.Proofs.Ytjgggiophbnghaf.QFnExactRunStep
open Go.RowKit Go.Proofs.Ytjgggiophbnghaf.PFnExactRunStep Go.Proofs.YtjgggiophbnghafW.PrintWords Go.Proofs.YtjgggiophbnghafW.PrintLast Go.Proofs.Ytjgggiophbnghaf.Math
set_option linter.unusedVariables false
set_option linter.unusedSimpArgs false

-- block toIntS
theorem toIntS_l (l : List Int) (hn : l.length ≤ 35184372088832) : ∀ (d i : Nat), l.length - i = d → i ≤ l.length →
    Ev (fun k => laws_toIntS.l0 k l (l.take i ++ List.replicate (l.length - i) 0) (i : Int)) l := by
  intro d
  induction d with
  | zero =>
    intro i h hi
    refine ev_now fun k => ?_
    simp only [laws_toIntS.l0]
    rw [if_neg (by omega), fill_all l 0 i (by omega)]
  | succ d ih =>
    intro i h hi
    refine Ev.step (fun k => ?_) (ih (i + 1) (by omega) (by omega))
    simp only [laws_toIntS.l0]
    rw [if_pos (by omega), if_pos (by omega), if_pos (by simp; omega), wsucc (by omega), Int.toNat_natCast, set_fill l 0 _ i (by omega) (rd_eq (by omega))]
theorem toIntS_ev (l : List Int) (hn : l.length ≤ 35184372088832) : Ev (fun k => laws_toIntS.f k l) l := by
  refine Ev.congr (fun k => ?_) (toIntS_l l hn l.length 0 (by omega) (by omega))
  simp only [laws_toIntS.f]
  rw [if_pos (by omega), if_pos (by rw [Int.toNat_natCast]; omega), Int.toNat_natCast, fill_zero l 0]
  rfl

-- block eqIntS
theorem eqIntS_l (l : List Int) (hn : l.length ≤ 140737488355328) : ∀ (d i : Nat), l.length - i = d → i ≤ l.length → Ev (fun k => laws_eqIntS.l0 k l l (i : Int)) true := by
  intro d
  induction d with
  | zero =>
    intro i h hi
    refine ev_now fun k => ?_
    simp only [laws_eqIntS.l0]
    rw [if_neg (by omega)]
  | succ d ih =>
    intro i h hi
    refine Ev.step (fun k => ?_) (ih (i + 1) (by omega) (by omega))
    simp only [laws_eqIntS.l0]
    rw [if_pos (by omega), if_pos (by omega), if_pos (by omega), if_pos trivial, wsucc (by omega)]
theorem eqIntS_ev (l : List Int) (hn : l.length ≤ 140737488355328) : Ev (fun k => laws_eqIntS.f k l l) true := by
  refine Ev.congr (fun k => ?_) (eqIntS_l l hn l.length 0 (by omega) (by omega))
  simp only [laws_eqIntS.f]
  rw [if_pos trivial]
  rfl

-- block markIntS
theorem markIntS_l (l : List Int) (m : Int) (h0 : 0 ≤ m) (hn : m + l.length ≤ 4611686018427387904) : ∀ (d i : Nat), l.length - i = d → i ≤ l.length →
    Ev (fun k => laws_markIntS.l0 k ((marksI l.length m).take i ++ l.drop i) (m + i) (i : Int)) (m + l.length, marksI l.length m) := by
  have hlen := marksI_len l.length m
  intro d
  induction d with
  | zero =>
    intro i h hi
    refine ev_now fun k => ?_
    simp only [laws_markIntS.l0]
    rw [if_neg (by simp; omega), List.take_of_length_le (by omega), List.drop_eq_nil_of_le (by omega), List.append_nil, show i = l.length by omega]
  | succ d ih =>
    intro i h hi
    refine Ev.step (fun k => ?_) (ih (i + 1) (by omega) (by omega))
    simp only [laws_markIntS.l0]
    rw [if_pos (by simp; omega), if_pos (by omega), wsucc (by omega), Int.toNat_natCast, set_mark hlen (by omega) (by simp [marksI]), w64 (by omega) (by omega)]
    simp only [Int.natCast_add, Int.natCast_one, Int.add_assoc]
theorem markIntS_ev (l : List Int) (m : Int) (h0 : 0 ≤ m) (hn : m + l.length ≤ 4611686018427387904) : Ev (fun k => laws_markIntS.f k l m) (m + l.length, marksI l.length m) := by
  refine Ev.congr (fun k => ?_) (markIntS_l l m h0 hn l.length 0 (by omega) (by omega))
  simp [laws_markIntS.f]

-- block heldIntS
theorem heldIntS_l (n : Nat) (m : Int) (h0 : 0 ≤ m) (hn : m + n ≤ 4611686018427387904) : ∀ (d i : Nat), n - i = d → i ≤ n →
    Ev (fun k => laws_heldIntS.l0 k (marksI n m) (m + i) (i : Int)) (m + n) := by
  have hlen := marksI_len n m
  intro d
  induction d with
  | zero =>
    intro i h hi
    refine ev_now fun k => ?_
    simp only [laws_heldIntS.l0]
    rw [if_neg (by omega), show i = n by omega]
  | succ d ih =>
    intro i h hi
    refine Ev.step (fun k => ?_) (ih (i + 1) (by omega) (by omega))
    simp only [laws_heldIntS.l0]
    rw [if_pos (by omega), if_pos (by omega), if_pos (by rw [rd_eq (by omega)]; simp [marksI]), wsucc (by omega), w64 (by omega) (by omega)]
    simp only [Int.natCast_add, Int.natCast_one, Int.add_assoc]
theorem heldIntS_ev (n : Nat) (m : Int) (h0 : 0 ≤ m) (hn : m + n ≤ 4611686018427387904) : Ev (fun k => laws_heldIntS.f k (marksI n m) m) (m + n) := by
  refine Ev.congr (fun k => ?_) (heldIntS_l n m h0 hn n 0 (by omega) (by omega))
  simp [laws_heldIntS.f]

-- block l01In
theorem in_eq (a b c : Int) : spec_l01In.f a b c = some (decide (b ≤ a ∧ a ≤ c)) := by
  simp only [spec_l01In.f, if_dec]

-- block fldOk
def fldOk (f : Int) : Prop := 0 ≤ f ∧ f < 9
instance fldOk_dec (f : Int) : Decidable (fldOk f) := by unfold fldOk; infer_instance
def fP : List Int := [17, 97, 193, 257, 7681, 12289, 998244353, 469762049, 1004535809]
def fG : List Int := [3, 5, 5, 3, 17, 11, 3, 3, 3]
def fT : List Int := [4, 5, 6, 8, 9, 12, 23, 26, 21]
theorem fld_cases {f : Int} (h : fldOk f) {Q : Int → Prop} (h0 : Q 0) (h1 : Q 1) (h2 : Q 2) (h3 : Q 3) (h4 : Q 4) (h5 : Q 5) (h6 : Q 6) (h7 : Q 7) (h8 : Q 8) : Q f := by
  unfold fldOk at h
  have : f = 0 ∨ f = 1 ∨ f = 2 ∨ f = 3 ∨ f = 4 ∨ f = 5 ∨ f = 6 ∨ f = 7 ∨ f = 8 := by omega
  rcases this with rfl | rfl | rfl | rfl | rfl | rfl | rfl | rfl | rfl <;> assumption

-- block sMod
def md (f : Int) : Int := if fldOk f then rd fP f else 0
theorem sMod (f : Int) : spec_Modulus.f f = some (md f) := by
  by_cases h : fldOk f
  · exact fld_cases (Q := fun f => spec_Modulus.f f = some (md f)) h rfl rfl rfl rfl rfl rfl rfl rfl rfl
  · unfold md
    rw [if_neg h]
    unfold fldOk at h
    simp only [spec_Modulus.f]
    rw [if_neg (by omega), if_neg (by omega), if_neg (by omega), if_neg (by omega), if_neg (by omega), if_neg (by omega), if_neg (by omega), if_neg (by omega), if_neg (by omega)]
theorem md_pos {f : Int} (h : fldOk f) : 17 ≤ md f ∧ md f ≤ 1004535809 := fld_cases (Q := fun f => 17 ≤ md f ∧ md f ≤ 1004535809) h (by decide) (by decide) (by decide) (by decide) (by decide) (by decide) (by decide) (by decide) (by decide)
theorem md_zero {f : Int} : md f = 0 ↔ ¬ fldOk f := by
  by_cases h : fldOk f
  · have := md_pos h
    simp [h]; omega
  · simp [md, h]

-- block iFld
theorem iFld (f : Int) : impl_fieldOf.f f = some (if fldOk f then (rd fP f, rd fG f, rd fT f, true) else (0, 0, 0, false)) := by
  by_cases h : fldOk f
  · exact fld_cases (Q := fun f => impl_fieldOf.f f = some (if fldOk f then (rd fP f, rd fG f, rd fT f, true) else (0, 0, 0, false))) h rfl rfl rfl rfl rfl rfl rfl rfl rfl
  · rw [if_neg h]
    unfold fldOk at h
    show Go.Proofs.Ytjgggiophbnghaf.Fld.impl_fieldOf.f f = _
    unfold Go.Proofs.Ytjgggiophbnghaf.Fld.impl_fieldOf.f
    by_cases h1 : f < 0
    · rw [if_pos h1]
    · rw [if_neg h1, if_pos (by omega)]

-- block iMul
theorem iMul {p g t a b : Int} (hp : 2 ≤ p) (hp2 : p ≤ 2147483648) (ha : 0 ≤ a) (ha' : a < p) (hb : 0 ≤ b) (hb' : b < p) : impl_field_mul.f p g t a b = some (a * b % p) := by
  have h0 : 0 ≤ a * b := Int.mul_nonneg ha hb
  have h1 : a * b ≤ 2147483648 * 2147483648 := Int.mul_le_mul (by omega) (by omega) hb (by omega)
  simp only [impl_field_mul.f]
  rw [if_neg (by omega), w64 (by omega) (by omega), Int.tmod_eq_emod_of_nonneg h0]

-- block iPow
theorem iPow_l {p g t : Int} (hp : 2 ≤ p) (hp2 : p ≤ 2147483648) (e : Nat) : ∀ (a out : Int), e < 4611686018427387904 → 0 ≤ a → a < p → 0 ≤ out → out < p →
    Ev (fun k => impl_field_power.l0 k a (e : Int) out p g t) (out * a ^ e % p) := by
  induction e using Nat.strongRecOn with
  | _ e ih =>
    intro a out he ha ha' ho ho'
    by_cases h0 : e = 0
    · subst h0
      refine ev_now fun k => ?_
      simp only [impl_field_power.l0]
      rw [if_neg (by omega), show a ^ 0 = 1 by grind, Int.mul_one, Int.emod_eq_of_lt ho ho']
    · have m0 : ∀ z : Int, 0 ≤ z % p := fun z => Int.emod_nonneg _ (by omega)
      have m1 : ∀ z : Int, z % p < p := fun z => Int.emod_lt_of_pos _ (by omega)
      have ht : Int.tmod (e : Int) 2 = ((e % 2 : Nat) : Int) := by rw [Int.tmod_eq_emod_of_nonneg (by omega)]; omega
      have hd : wrap64 (Int.tdiv (e : Int) 2) = ((e / 2 : Nat) : Int) := by rw [Int.tdiv_eq_ediv_of_nonneg (by omega), w64 (by omega) (by omega)]; omega
      by_cases h1 : e % 2 = 1
      · rw [← pw_odd h1]
        refine Ev.step (fun k => ?_) (ih (e / 2) (by omega) (a * a % p) (out * a % p) (by omega) (m0 _) (m1 _) (m0 _) (m1 _))
        simp only [impl_field_power.l0, iMul hp hp2 ho ho' ha ha', iMul hp hp2 ha ha' ha ha', Option.bind_some, ht, hd]
        rw [if_pos (by omega), if_pos (by omega)]
      · rw [← pw_even h1]
        refine Ev.step (fun k => ?_) (ih (e / 2) (by omega) (a * a % p) out (by omega) (m0 _) (m1 _) ho ho')
        simp only [impl_field_power.l0, iMul hp hp2 ha ha' ha ha', Option.bind_some, ht, hd]
        rw [if_pos (by omega), if_neg (by omega)]
theorem iPow_ev {p g t a : Int} (hp : 2 ≤ p) (hp2 : p ≤ 2147483648) (e : Nat) (he : e < 4611686018427387904) (ha : 0 ≤ a) (ha' : a < p) : Ev (fun k => impl_field_power.f k p g t a (e : Int)) (a ^ e % p) := by
  have := iPow_l (g := g) (t := t) hp hp2 e a 1 he ha ha' (by omega) (by omega)
  rw [Int.one_mul] at this
  exact Ev.congr (fun k => rfl) this

-- block sReduce
theorem sReduce (f x : Int) : spec_Reduce.f f x = some (if fldOk f then x % md f else -1) := by
  simp only [spec_Reduce.f, sMod, Option.bind_some, md_zero]
  by_cases h : fldOk f
  · have hm := md_pos h
    have hb := tmod_bounds (x := x) (p := md f) (by omega)
    rw [if_neg (fun hh => hh h), if_pos h]
    by_cases hn : Int.tmod x (md f) < 0
    · rw [if_pos hn, w64 (by omega) (by omega), red_lt (by omega) hn]
    · rw [if_neg hn, red_ge (by omega) hn]
  · rw [if_pos h, if_neg h]

-- block sMul
theorem md_range {f : Int} (h : fldOk f) (x : Int) : 0 ≤ x % md f ∧ x % md f < md f := by
  have hm := md_pos h
  exact ⟨Int.emod_nonneg _ (by omega), Int.emod_lt_of_pos _ (by omega)⟩
theorem sMul (f a b : Int) : spec_Mul.f f a b = some (if fldOk f then a * b % md f else -1) := by
  simp only [spec_Mul.f, sMod, sReduce, Option.bind_some, md_zero]
  by_cases h : fldOk f
  · have hm := md_pos h
    have ha := md_range h a
    have hb := md_range h b
    have h0 : 0 ≤ (a % md f) * (b % md f) := Int.mul_nonneg ha.1 hb.1
    have h1 : (a % md f) * (b % md f) ≤ 2147483648 * 2147483648 := Int.mul_le_mul (by omega) (by omega) hb.1 (by omega)
    simp only [h, not_true_eq_false, if_true, if_false]
    rw [w64 (by omega) (by omega), ← Int.mul_emod]
  · simp only [h, not_false_eq_true, if_true, if_false]

-- block sSub
theorem sSub (f a b : Int) : spec_Sub.f f a b = some (if fldOk f then (a - b) % md f else -1) := by
  simp only [spec_Sub.f, sMod, sReduce, Option.bind_some, md_zero]
  by_cases h : fldOk f
  · have hm := md_pos h
    have ha := md_range h a
    have hb := md_range h b
    simp only [h, not_true_eq_false, if_true, if_false]
    rw [w64 (by omega) (by omega), ← Int.sub_emod]
  · simp only [h, not_false_eq_true, if_true, if_false]

-- block sPow
theorem sPow_l {p : Int} (hp : 2 ≤ p) (hp2 : p ≤ 2147483648) (e : Nat) : ∀ (a out : Int), e < 4611686018427387904 → 0 ≤ a → a < p → 0 ≤ out → out < p →
    Ev (fun k => spec_Power.l0 k p a (e : Int) out) (out * a ^ e % p) := by
  induction e using Nat.strongRecOn with
  | _ e ih =>
    intro a out he ha ha' ho ho'
    by_cases h0 : e = 0
    · subst h0
      refine ev_now fun k => ?_
      simp only [spec_Power.l0]
      rw [if_neg (by omega), show a ^ 0 = 1 by grind, Int.mul_one, Int.emod_eq_of_lt ho ho']
    · have m0 : ∀ z : Int, 0 ≤ z % p := fun z => Int.emod_nonneg _ (by omega)
      have m1 : ∀ z : Int, z % p < p := fun z => Int.emod_lt_of_pos _ (by omega)
      have ht : Int.tmod (e : Int) 2 = ((e % 2 : Nat) : Int) := by rw [Int.tmod_eq_emod_of_nonneg (by omega)]; omega
      have hd : wrap64 (Int.tdiv (e : Int) 2) = ((e / 2 : Nat) : Int) := by rw [Int.tdiv_eq_ediv_of_nonneg (by omega), w64 (by omega) (by omega)]; omega
      have q0 : ∀ x y : Int, 0 ≤ x → x < p → 0 ≤ y → y < p → Int.tmod (wrap64 (x * y)) p = x * y % p := fun x y hx hx' hy hy' => by
        have h0 : 0 ≤ x * y := Int.mul_nonneg hx hy
        have h1 : x * y ≤ 2147483648 * 2147483648 := Int.mul_le_mul (by omega) (by omega) hy (by omega)
        rw [w64 (by omega) (by omega), Int.tmod_eq_emod_of_nonneg h0]
      by_cases h1 : e % 2 = 1
      · rw [← pw_odd h1]
        refine Ev.step (fun k => ?_) (ih (e / 2) (by omega) (a * a % p) (out * a % p) (by omega) (m0 _) (m1 _) (m0 _) (m1 _))
        simp only [spec_Power.l0, ht, hd, q0 out a ho ho' ha ha', q0 a a ha ha' ha ha']
        rw [if_pos (by omega), if_pos (by omega), if_neg (by omega)]
      · rw [← pw_even h1]
        refine Ev.step (fun k => ?_) (ih (e / 2) (by omega) (a * a % p) out (by omega) (m0 _) (m1 _) ho ho')
        simp only [spec_Power.l0, ht, hd, q0 a a ha ha' ha ha']
        rw [if_pos (by omega), if_neg (by omega), if_neg (by omega)]
/-- Powers with an exponent that is not below 0 and below the modulus less one, or is -1. -/
def expOf (p e : Int) : Nat := (e % (p - 1)).toNat
theorem sPow_ev {f : Int} (h : fldOk f) (a e : Int) (hx : a % md f ≠ 0) : Ev (fun k => spec_Power.f k f a e) ((a % md f) ^ expOf (md f) e % md f) := by
  have hm := md_pos h
  have ha := md_range h a
  have hb := tmod_bounds (x := e) (p := md f - 1) (by omega)
  have he : 0 ≤ e % (md f - 1) ∧ e % (md f - 1) < md f - 1 := ⟨Int.emod_nonneg _ (by omega), Int.emod_lt_of_pos _ (by omega)⟩
  have key := sPow_l (p := md f) (by omega) (by omega) (expOf (md f) e) (a % md f) 1 (by unfold expOf; omega) ha.1 ha.2 (by omega) (by omega)
  rw [Int.one_mul, show ((expOf (md f) e : Nat) : Int) = e % (md f - 1) by unfold expOf; omega] at key
  refine Ev.congr (fun k => ?_) (Ev.step (g := fun k => spec_Power.j0 k (md f) (a % md f) (e % (md f - 1))) (fun k => rfl) key)
  simp only [spec_Power.f, sMod, sReduce, Option.bind_some, md_zero]
  rw [if_neg (fun hh => hh h), if_pos h, if_neg hx, w64 (x := md f - 1) (by omega) (by omega), if_neg (by omega)]
  by_cases hn : Int.tmod e (md f - 1) < 0
  · rw [if_pos hn, w64 (x := Int.tmod e (md f - 1) + md f) (by omega) (by omega), w64 (by omega) (by omega), ← red_lt (by omega) hn, show Int.tmod e (md f - 1) + md f - 1 = Int.tmod e (md f - 1) + (md f - 1) by omega]
  · rw [if_neg hn, red_ge (by omega) hn]

-- block elemB
def elemB (p : Int) (l : List Int) : Bool := allF l.length 0 (fun j => decide (0 ≤ rd l (j : Int) ∧ rd l (j : Int) < p))
theorem elemB_iff (p : Int) (l : List Int) : elemB p l = true ↔ ∀ x ∈ l, 0 ≤ x ∧ x < p := by
  unfold elemB
  rw [allF_iff]
  constructor
  · intro h x hx
    obtain ⟨j, hj, rfl⟩ := List.getElem_of_mem hx
    have := h j (by omega) (by omega)
    rw [decide_eq_true_eq, rd_eq hj] at this
    exact this
  · intro h j _ hj
    rw [decide_eq_true_eq, rd_eq (by omega)]
    exact h _ (List.getElem_mem _)

-- block iElem
theorem iElem_l (p g t : Int) (l : List Int) (hn : l.length ≤ 1048576) : ∀ (d i : Nat), l.length - i = d → i ≤ l.length → Ev (fun k => impl_field_areElements.l0 k l (l.length : Int) (i : Int) p g t) (allF d i (fun j => decide (0 ≤ rd l (j : Int) ∧ rd l (j : Int) < p))) := by
  intro d
  induction d with
  | zero =>
    intro i h hi
    refine ev_now fun k => ?_
    simp only [impl_field_areElements.l0]
    rw [if_neg (by omega)]; rfl
  | succ d ih =>
    intro i h hi
    rw [allF]
    by_cases hq : 0 ≤ rd l (i : Int) ∧ rd l (i : Int) < p
    · rw [decide_eq_true hq, Bool.true_and]
      refine Ev.step (fun k => ?_) (ih (i + 1) (by omega) (by omega))
      simp only [impl_field_areElements.l0]
      rw [if_pos (by omega), if_pos (by omega), if_pos (by omega), if_neg (by omega), if_neg (by omega), wsucc (by omega)]
    · rw [decide_eq_false hq, Bool.false_and]
      refine ev_now fun k => ?_
      simp only [impl_field_areElements.l0]
      rw [if_pos (by omega), if_pos (by omega), if_pos (by omega)]
      by_cases h1 : rd l (i : Int) < 0
      · rw [if_pos h1]
      · rw [if_neg h1, if_pos (by omega)]
theorem iElem_ev (p g t : Int) (l : List Int) (hn : l.length ≤ 1048576) : Ev (fun k => impl_field_areElements.f k p g t l) (elemB p l) := by
  refine Ev.congr (fun k => ?_) (iElem_l p g t l hn l.length 0 (by omega) (by omega))
  simp [impl_field_areElements.f]

-- block two
def two (f : Int) : Int := if fldOk f then rd fT f else -1

-- block sTwo
theorem sTwo_ev (f : Int) : Ev (fun k => spec_TwoPower.f k f) (two f) := by
  by_cases h : fldOk f
  · exact fld_cases (Q := fun f => Ev (fun k => spec_TwoPower.f k f) (two f)) h (Ev.of (fun k => spec_TwoPower.mono _ k) (k := 40) (by decide +kernel)) (Ev.of (fun k => spec_TwoPower.mono _ k) (k := 40) (by decide +kernel)) (Ev.of (fun k => spec_TwoPower.mono _ k) (k := 40) (by decide +kernel)) (Ev.of (fun k => spec_TwoPower.mono _ k) (k := 40) (by decide +kernel)) (Ev.of (fun k => spec_TwoPower.mono _ k) (k := 40) (by decide +kernel)) (Ev.of (fun k => spec_TwoPower.mono _ k) (k := 40) (by decide +kernel)) (Ev.of (fun k => spec_TwoPower.mono _ k) (k := 40) (by decide +kernel)) (Ev.of (fun k => spec_TwoPower.mono _ k) (k := 40) (by decide +kernel)) (Ev.of (fun k => spec_TwoPower.mono _ k) (k := 40) (by decide +kernel))
  · unfold two
    rw [if_neg h]
    refine ev_some fun k => ?_
    simp only [spec_TwoPower.f, sMod, Option.bind_some, md_zero, h, not_false_eq_true, if_true]

-- block halfK
def halfK (k : Int) : Int := 2 ^ (k.toNat - 1)
theorem shl_half {k : Int} (h1 : 1 ≤ k) (h9 : k ≤ 9) : shl .i64 1 (wrap64 (k - 1)) = halfK k ∧ wrap64 (Int.tdiv (shl .i64 1 (IntKind.u64.wrap k)) 2) = halfK k ∧ 1 ≤ halfK k ∧ halfK k ≤ 256 := by
  have : k = 1 ∨ k = 2 ∨ k = 3 ∨ k = 4 ∨ k = 5 ∨ k = 6 ∨ k = 7 ∨ k = 8 ∨ k = 9 := by omega
  rcases this with rfl | rfl | rfl | rfl | rfl | rfl | rfl | rfl | rfl <;> decide +kernel

-- block shlPow
theorem shl_pow {i : Nat} (h : i ≤ 10) : shl .i64 1 (i : Int) = 2 ^ i ∧ shl .i64 1 (IntKind.u64.wrap (i : Int)) = 2 ^ i ∧ 0 ≤ IntKind.u64.wrap (i : Int) := by
  rcases (show i = 0 ∨ i = 1 ∨ i = 2 ∨ i = 3 ∨ i = 4 ∨ i = 5 ∨ i = 6 ∨ i = 7 ∨ i = 8 ∨ i = 9 ∨ i = 10 by omega) with rfl | rfl | rfl | rfl | rfl | rfl | rfl | rfl | rfl | rfl | rfl <;> decide +kernel

-- block sLogOf
theorem sLogOf_l (n : Int) : ∀ (d i : Nat), i + d = 10 → Ev (fun k => spec_LogOf.l0 k n (i : Int)) (logF d i n) := by
  intro d
  induction d with
  | zero =>
    intro i h
    refine ev_now fun k => ?_
    simp only [spec_LogOf.l0]
    rw [if_neg (by omega)]; rfl
  | succ d ih =>
    intro i h
    have hs := shl_pow (i := i) (by omega)
    rw [logF]
    by_cases hn : n = 2 ^ i
    · rw [if_pos hn]
      refine ev_now fun k => ?_
      simp only [spec_LogOf.l0, hs.2.1]
      rw [if_pos (by omega), if_pos hs.2.2, if_pos hn]
    · rw [if_neg hn]
      refine Ev.step (fun k => ?_) (ih (i + 1) (by omega))
      simp only [spec_LogOf.l0, hs.2.1]
      rw [if_pos (by omega), if_pos hs.2.2, if_neg hn, wsucc (by omega)]
theorem sLogOf_ev (n : Int) : Ev (fun k => spec_LogOf.f k n) (logB n) := Ev.congr (fun k => rfl) (sLogOf_l n 10 0 rfl)

-- block iLogOf
theorem iLogOf_l (n : Int) : ∀ (d i : Nat), i + d = 10 → Ev (fun k => impl_logOf.l0 k n (i : Int)) (logF d i n) := by
  intro d
  induction d with
  | zero =>
    intro i h
    refine ev_now fun k => ?_
    simp only [impl_logOf.l0]
    rw [if_neg (by omega)]; rfl
  | succ d ih =>
    intro i h
    have hs := shl_pow (i := i) (by omega)
    rw [logF]
    by_cases hn : n = 2 ^ i
    · rw [if_pos hn]
      refine ev_now fun k => ?_
      simp only [impl_logOf.l0, hs.1]
      rw [if_pos (by omega), if_pos (by omega), if_pos hn]
    · rw [if_neg hn]
      refine Ev.step (fun k => ?_) (ih (i + 1) (by omega))
      simp only [impl_logOf.l0, hs.1]
      rw [if_pos (by omega), if_pos (by omega), if_neg hn, wsucc (by omega)]
theorem iLogOf_ev (n : Int) : Ev (fun k => impl_logOf.f k n) (logB n) := Ev.congr (fun k => rfl) (iLogOf_l n 10 0 rfl)

-- block sElem
theorem sElem_l (p : Int) (hp : 2 ≤ p) (hp2 : p ≤ 2147483648) (l : List Int) (hn : l.length ≤ 1048576) : ∀ (d i : Nat), l.length - i = d → i ≤ l.length → Ev (fun k => spec_l03Elements.l0 k l p (i : Int)) (allF d i (fun j => decide (0 ≤ rd l (j : Int) ∧ rd l (j : Int) < p))) := by
  intro d
  induction d with
  | zero =>
    intro i h hi
    refine ev_now fun k => ?_
    simp only [spec_l03Elements.l0]
    rw [if_neg (by omega)]; rfl
  | succ d ih =>
    intro i h hi
    rw [allF]
    have hw : wrap64 (p - 1) = p - 1 := w64 (by omega) (by omega)
    by_cases hq : 0 ≤ rd l (i : Int) ∧ rd l (i : Int) < p
    · rw [decide_eq_true hq, Bool.true_and]
      refine Ev.step (fun k => ?_) (ih (i + 1) (by omega) (by omega))
      simp only [spec_l03Elements.l0, in_eq, hw, Option.bind_some, decide_eq_true_eq]
      rw [if_pos (by omega), if_pos (by omega), if_pos (by omega), wsucc (by omega)]
    · rw [decide_eq_false hq, Bool.false_and]
      refine ev_now fun k => ?_
      simp only [spec_l03Elements.l0, in_eq, hw, Option.bind_some, decide_eq_true_eq]
      rw [if_pos (by omega), if_pos (by omega), if_neg (by omega)]
theorem sElem_ev {f : Int} (h : fldOk f) (l : List Int) (hn : l.length ≤ 1048576) : Ev (fun k => spec_l03Elements.f k f l) (elemB (md f) l) := by
  have hm := md_pos h
  refine Ev.congr (fun k => ?_) (sElem_l (md f) (by omega) (by omega) l hn l.length 0 (by omega) (by omega))
  simp only [spec_l03Elements.f, sMod, Option.bind_some]
  rw [if_neg (by omega)]
  rfl

-- block vecP
def mdP (f : Int) : Int := rd fP f
def vecP (f : Int) (v : List Int) : Prop := fldOk f ∧ 0 ≤ logB (v.length : Int) ∧ logB (v.length : Int) ≤ rd fT f ∧ elemB (mdP f) v = true
instance vecP_dec (f : Int) (v : List Int) : Decidable (vecP f v) := by unfold vecP; infer_instance
theorem vec_el {f : Int} {v : List Int} (h : vecP f v) : ∀ i, i < v.length → 0 ≤ rd v (i : Int) ∧ rd v (i : Int) < mdP f := fun i hi => (elemB_iff _ _).1 h.2.2.2 _ (rd_mem hi)
theorem vec_log {f : Int} {v : List Int} (h : vecP f v) : ∃ K : Nat, K ≤ 9 ∧ logB (v.length : Int) = K ∧ v.length = 2 ^ K ∧ (K : Int) ≤ rd fT f := by
  obtain ⟨K, h1, h2, h3⟩ := logB_len h.2.1
  exact ⟨K, h1, h2, h3, by have := h.2.2.1; omega⟩

-- block sVec
theorem md_eq {f : Int} (h : fldOk f) : mdP f = md f := by unfold mdP md; rw [if_pos h]
theorem sVec_ev (f : Int) (v : List Int) (hn : v.length ≤ 1048576) : Ev (fun k => spec_VectorOk.f k f v) (decide (vecP f v)) := by
  by_cases h : fldOk f
  · obtain ⟨n, e1, e2, e3⟩ := evs3 (sLogOf_ev (v.length : Int)) (sTwo_ev f) (sElem_ev h v hn)
    refine ⟨n, fun k hk => ?_⟩
    obtain ⟨j, rfl⟩ : ∃ j, k = n + j := ⟨k - n, by omega⟩
    have ht : two f = rd fT f := by unfold two; rw [if_pos h]
    simp only [spec_VectorOk.f, e1, e2, e3, ht, Option.bind_some]
    by_cases h1 : logB (v.length : Int) ≥ 0
    · rw [if_pos h1]
      by_cases h2 : logB (v.length : Int) ≤ rd fT f
      · rw [if_pos h2]
        by_cases h3 : elemB (md f) v = true
        · rw [h3, decide_eq_true (show vecP f v from ⟨h, h1, h2, by rw [md_eq h]; exact h3⟩)]
        · rw [Bool.not_eq_true] at h3
          rw [h3, decide_eq_false (show ¬ vecP f v from fun x => by have := x.2.2.2; rw [md_eq h, h3] at this; exact Bool.noConfusion this)]
      · rw [if_neg h2, decide_eq_false (show ¬ vecP f v from fun x => h2 x.2.2.1)]
    · rw [if_neg h1, decide_eq_false (show ¬ vecP f v from fun x => h1 x.2.1)]
  · obtain ⟨n, e1, e2⟩ := evs2 (sLogOf_ev (v.length : Int)) (sTwo_ev f)
    refine ⟨n, fun k hk => ?_⟩
    obtain ⟨j, rfl⟩ : ∃ j, k = n + j := ⟨k - n, by omega⟩
    have ht : two f = -1 := by unfold two; rw [if_neg h]
    simp only [spec_VectorOk.f, e1, e2, ht, Option.bind_some]
    rw [decide_eq_false (show ¬ vecP f v from fun x => h x.1)]
    by_cases h1 : logB (v.length : Int) ≥ 0
    · rw [if_pos h1, if_neg (by omega)]
    · rw [if_neg h1]

-- block iVec
def vecsAt (f : Int) (vs : List (List Int)) (i : Nat) : Prop := 0 ≤ logB ((rd_L1 vs (i : Int)).length : Int) ∧ logB ((rd_L1 vs (i : Int)).length : Int) ≤ rd fT f ∧ elemB (mdP f) (rd_L1 vs (i : Int)) = true ∧ (rd_L1 vs (i : Int)).length = (rd_L1 vs 0).length
instance vecsAt_dec (f : Int) (vs : List (List Int)) (i : Nat) : Decidable (vecsAt f vs i) := by unfold vecsAt; infer_instance
theorem iVec_l (f g : Int) (vs : List (List Int)) (hn : vs.length ≤ 1048576) (hv : ∀ i : Nat, (rd_L1 vs (i : Int)).length ≤ 1048576) : ∀ (d i : Nat), vs.length - i = d → i ≤ vs.length →
    Ev (fun k => impl_vectorField.l0 k vs vs (vs.length : Int) (i : Int) (mdP f) g (rd fT f)) (if allF d i (fun j => decide (vecsAt f vs j)) = true then (mdP f, g, rd fT f, true) else (0, 0, 0, false)) := by
  intro d
  induction d with
  | zero =>
    intro i h hi
    refine ev_now fun k => ?_
    simp only [impl_vectorField.l0]
    rw [if_neg (by omega)]; rfl
  | succ d ih =>
    intro i h hi
    rw [allF]
    obtain ⟨n, e1, e2, e3⟩ := evs3 (iLogOf_ev ((rd_L1 vs (i : Int)).length : Int)) (iElem_ev (mdP f) g (rd fT f) (rd_L1 vs (i : Int)) (hv i)) (ih (i + 1) (by omega) (by omega))
    refine ⟨n + 1, fun k hk => ?_⟩
    obtain ⟨j, rfl⟩ : ∃ j, k = n + j + 1 := ⟨k - n - 1, by omega⟩
    simp only [impl_vectorField.l0, e1, e2, Option.bind_some]
    rw [if_pos (by omega), if_pos (by omega), if_pos (by omega)]
    by_cases h1 : logB ((rd_L1 vs (i : Int)).length : Int) < 0
    · rw [if_pos h1, decide_eq_false (show ¬ vecsAt f vs i from fun x => by have := x.1; omega), Bool.false_and]; rfl
    · rw [if_neg h1]
      by_cases h2 : logB ((rd_L1 vs (i : Int)).length : Int) > rd fT f
      · rw [if_pos h2, decide_eq_false (show ¬ vecsAt f vs i from fun x => by have := x.2.1; omega), Bool.false_and]; rfl
      · rw [if_neg h2]
        by_cases h3 : elemB (mdP f) (rd_L1 vs (i : Int)) = true
        · rw [if_pos h3, if_pos (by omega)]
          by_cases h4 : (rd_L1 vs (i : Int)).length = (rd_L1 vs 0).length
          · rw [if_pos (by omega), wsucc (by omega), e3 j, decide_eq_true (show vecsAt f vs i from ⟨by omega, by omega, h3, h4⟩), Bool.true_and]
          · rw [if_neg (by omega), decide_eq_false (show ¬ vecsAt f vs i from fun x => h4 x.2.2.2), Bool.false_and]; rfl
        · rw [if_neg h3, decide_eq_false (show ¬ vecsAt f vs i from fun x => h3 x.2.2.1), Bool.false_and]; rfl
theorem iVec1_ev (f : Int) (v : List Int) (hn : v.length ≤ 1048576) : Ev (fun k => impl_vectorField.f k f [v]) (if vecP f v then (mdP f, rd fG f, rd fT f, true) else (0, 0, 0, false)) := by
  by_cases h : fldOk f
  · have key := iVec_l f (rd fG f) [v] (by simp) (by
      intro i
      cases i with
      | zero => exact hn
      | succ i => simp [rd_L1]) 1 0 rfl (by simp)
    have e : (allF 1 0 (fun j => decide (vecsAt f [v] j)) = true) = vecP f v := by
      apply propext
      simp only [allF, Bool.and_true, decide_eq_true_eq]
      exact ⟨fun x => ⟨h, x.1, x.2.1, x.2.2.1⟩, fun x => ⟨x.2.1, x.2.2.1, x.2.2.2, rfl⟩⟩
    simp only [e] at key
    refine Ev.congr (fun k => ?_) key
    simp only [impl_vectorField.f, iFld, if_pos h, Option.bind_some, if_true]
    rfl
  · rw [if_neg (fun x => h x.1)]
    refine ev_some fun k => ?_
    simp only [impl_vectorField.f, iFld, if_neg h, Option.bind_some, Bool.false_eq_true, if_false]

-- block rt
def rt (f : Int) (s : Nat) : Int := rd fG f ^ ((mdP f - 1) / 2 ^ s).toNat % mdP f
theorem fG_range {f : Int} (h : fldOk f) : 3 ≤ rd fG f ∧ rd fG f < mdP f ∧ rd fG f ≤ 17 := fld_cases (Q := fun f => 3 ≤ rd fG f ∧ rd fG f < mdP f ∧ rd fG f ≤ 17) h (by decide) (by decide) (by decide) (by decide) (by decide) (by decide) (by decide) (by decide) (by decide)
theorem mdP_range {f : Int} (h : fldOk f) : 17 ≤ mdP f ∧ mdP f ≤ 1004535809 := fld_cases (Q := fun f => 17 ≤ mdP f ∧ mdP f ≤ 1004535809) h (by decide) (by decide) (by decide) (by decide) (by decide) (by decide) (by decide) (by decide) (by decide)
theorem fT_range {f : Int} (h : fldOk f) : 4 ≤ rd fT f ∧ rd fT f ≤ 26 := fld_cases (Q := fun f => 4 ≤ rd fT f ∧ rd fT f ≤ 26) h (by decide) (by decide) (by decide) (by decide) (by decide) (by decide) (by decide) (by decide) (by decide)
theorem rt_range {f : Int} (h : fldOk f) (s : Nat) : 0 ≤ rt f s ∧ rt f s < mdP f := by
  have hm := mdP_range h
  exact ⟨Int.emod_nonneg _ (by omega), Int.emod_lt_of_pos _ (by omega)⟩
theorem half_lt {p : Int} (hp : 17 ≤ p) (hp2 : p ≤ 1004535809) (s : Nat) : 0 ≤ (p - 1) / 2 ^ s ∧ (p - 1) / 2 ^ s ≤ p - 1 ∧ (1 ≤ s → (p - 1) / 2 ^ s < p - 1) := by
  have h2 : (0 : Int) < 2 ^ s := Int.pow_pos (by omega)
  refine ⟨Int.ediv_nonneg (by omega) (by omega), Int.ediv_le_self _ (by omega), fun h => ?_⟩
  apply Int.ediv_lt_of_lt_mul h2
  have : (2 : Int) ≤ 2 ^ s := by
    obtain ⟨q, rfl⟩ : ∃ q, s = q + 1 := ⟨s - 1, by omega⟩
    have h3 : (0 : Int) < 2 ^ q := Int.pow_pos (by omega)
    rw [Int.pow_succ]; omega
  have h4 : (p - 1) * 2 ≤ (p - 1) * 2 ^ s := Int.mul_le_mul_of_nonneg_left this (by omega)
  omega
theorem rt_pm {f : Int} (h : fldOk f) (s : Nat) : rt f s = (pm (mdP f).toNat 40 (rd fG f).toNat ((mdP f - 1) / 2 ^ s).toNat : Int) := by
  have hm := mdP_range h
  have hg := fG_range h
  have hh := half_lt hm.1 hm.2 s
  unfold rt
  rw [← pm_int _ 40 _ _ (by omega)]
  rw [show (((rd fG f).toNat : Nat) : Int) = rd fG f by omega, show (((mdP f).toNat : Nat) : Int) = mdP f by omega]
theorem rt_zero {f : Int} (h : fldOk f) : rt f 0 = 1 := by
  rw [rt_pm h]
  exact fld_cases (Q := fun f => (pm (mdP f).toNat 40 (rd fG f).toNat ((mdP f - 1) / 2 ^ 0).toNat : Int) = 1) h (by decide +kernel) (by decide +kernel) (by decide +kernel) (by decide +kernel) (by decide +kernel) (by decide +kernel) (by decide +kernel) (by decide +kernel) (by decide +kernel)
theorem rt_one {f : Int} (h : fldOk f) : rt f 1 = mdP f - 1 := by
  rw [rt_pm h]
  exact fld_cases (Q := fun f => (pm (mdP f).toNat 40 (rd fG f).toNat ((mdP f - 1) / 2 ^ 1).toNat : Int) = mdP f - 1) h (by decide +kernel) (by decide +kernel) (by decide +kernel) (by decide +kernel) (by decide +kernel) (by decide +kernel) (by decide +kernel) (by decide +kernel) (by decide +kernel)
theorem two_div {f : Int} (h : fldOk f) : (2 : Int) ^ (rd fT f).toNat ∣ mdP f - 1 :=
  fld_cases (Q := fun f => (2 : Int) ^ (rd fT f).toNat ∣ mdP f - 1) h (by decide +kernel) (by decide +kernel) (by decide +kernel) (by decide +kernel) (by decide +kernel) (by decide +kernel) (by decide +kernel) (by decide +kernel) (by decide +kernel)
theorem half_two {f : Int} (h : fldOk f) (s d : Nat) (hs : s + d ≤ (rd fT f).toNat) : ((mdP f - 1) / 2 ^ s).toNat = 2 ^ d * ((mdP f - 1) / 2 ^ (s + d)).toNat := by
  have hm := mdP_range h
  obtain ⟨c0, hc⟩ := two_div h
  obtain ⟨r, hr⟩ : ∃ r, (rd fT f).toNat = s + d + r := ⟨(rd fT f).toNat - (s + d), by omega⟩
  have h2 : (0 : Int) < 2 ^ s := Int.pow_pos (by omega)
  have h3 : (0 : Int) < 2 ^ d := Int.pow_pos (by omega)
  rw [hr, Int.pow_add, Int.pow_add, Int.mul_assoc, Int.mul_assoc] at hc
  obtain ⟨c, hcc⟩ : ∃ c, c = 2 ^ r * c0 := ⟨_, rfl⟩
  rw [← hcc] at hc
  have hc0 : 0 ≤ c := by
    rcases Int.lt_or_le c 0 with hx | hx
    · have := Int.mul_neg_of_pos_of_neg h2 (Int.mul_neg_of_pos_of_neg h3 hx)
      omega
    · exact hx
  rw [hc, Int.mul_ediv_cancel_left _ (Int.ne_of_gt h2), Int.pow_add, Int.mul_ediv_mul_of_pos _ _ h2, Int.mul_ediv_cancel_left _ (Int.ne_of_gt h3)]
  obtain ⟨n, rfl⟩ : ∃ n : Nat, c = (n : Int) := ⟨c.toNat, by omega⟩
  rw [Int.toNat_natCast, show ((2 : Int) ^ d * (n : Int)) = ((2 ^ d * n : Nat) : Int) by simp, Int.toNat_natCast]
/-- A root's power is the root of a lower level. -/
theorem rt_pow {f : Int} (h : fldOk f) (s d : Nat) (hs : s + d ≤ (rd fT f).toNat) (j : Nat) : Md (mdP f) (rt f (s + d) ^ (2 ^ d * j)) (rt f s ^ j) := by
  have e1 : Md (mdP f) (rt f (s + d)) (rd fG f ^ ((mdP f - 1) / 2 ^ (s + d)).toNat) := Md.mod _ _
  have e2 : Md (mdP f) (rt f s) (rd fG f ^ ((mdP f - 1) / 2 ^ s).toNat) := Md.mod _ _
  refine (e1.pow _).trans (Md.trans (Md.of_eq ?_) (e2.pow _).symm)
  rw [half_two h s d hs, ← Int.pow_mul, ← Int.pow_mul]
  congr 1
  rw [Nat.mul_left_comm, Nat.mul_assoc]
theorem roots {f : Int} (h : fldOk f) : Roots (mdP f) (rt f) (rd fT f).toNat where
  one := Md.of_eq (rt_zero h)
  half := fun _ => by rw [rt_one h]; exact ⟨1, by omega⟩
  sq := fun s hs => by
    have := rt_pow h s 1 hs 1
    simpa [Int.pow_succ] using this

-- block sGen
theorem sGen_ev {f : Int} (h : fldOk f) : Ev (fun k => spec_Generator.f k f) (rd fG f) :=
  fld_cases (Q := fun f => Ev (fun k => spec_Generator.f k f) (rd fG f)) h (Ev.of (fun k => spec_Generator.mono _ k) (k := 3) (by decide +kernel)) (Ev.of (fun k => spec_Generator.mono _ k) (k := 3) (by decide +kernel)) (Ev.of (fun k => spec_Generator.mono _ k) (k := 3) (by decide +kernel)) (Ev.of (fun k => spec_Generator.mono _ k) (k := 3) (by decide +kernel)) (Ev.of (fun k => spec_Generator.mono _ k) (k := 3) (by decide +kernel)) (Ev.of (fun k => spec_Generator.mono _ k) (k := 3) (by decide +kernel)) (Ev.of (fun k => spec_Generator.mono _ k) (k := 3) (by decide +kernel)) (Ev.of (fun k => spec_Generator.mono _ k) (k := 3) (by decide +kernel)) (Ev.of (fun k => spec_Generator.mono _ k) (k := 3) (by decide +kernel))

-- block shrPow
theorem shr_pow (x : Int) {s : Nat} (h : s ≤ 60) : shr .i64 x (s : Int) = x / 2 ^ s ∧ IntKind.u64.wrap (s : Int) = (s : Int) := by
  refine ⟨?_, ?_⟩
  · unfold shr
    rw [Int.toNat_natCast, Nat.min_eq_left (show s ≤ IntKind.i64.bits by show s ≤ 64; omega)]
  · unfold IntKind.wrap
    have e : (s : Int) % 2 ^ IntKind.u64.bits = s := by show (s : Int) % 2 ^ 64 = s; omega
    rw [e]
    refine if_neg ?_
    show ¬ ((false && _) = true)
    simp

-- block sRoot
theorem sRoot_ev {f : Int} (h : fldOk f) (s : Nat) (hs : (s : Int) ≤ rd fT f) : Ev (fun k => spec_RootOf.f k f (s : Int)) (rt f s) := by
  have hm := mdP_range h
  have hg := fG_range h
  have hT := fT_range h
  have hh := half_lt hm.1 hm.2 s
  have hme := md_eq h
  have ht : two f = rd fT f := by unfold two; rw [if_pos h]
  have hp := sPow_ev h (rd fG f) ((mdP f - 1) / 2 ^ s) (by rw [← hme, Int.emod_eq_of_lt (by omega) hg.2.1]; omega)
  rw [← hme, Int.emod_eq_of_lt (by omega) hg.2.1] at hp
  have hr : rd fG f ^ expOf (mdP f) ((mdP f - 1) / 2 ^ s) % mdP f = rt f s := by
    by_cases h1 : 1 ≤ s
    · unfold expOf rt
      rw [Int.emod_eq_of_lt hh.1 (hh.2.2 h1)]
    · rw [show s = 0 by omega, rt_zero h]
      unfold expOf
      rw [Int.pow_zero, Int.ediv_one, Int.emod_self]
      simp
      exact Int.emod_eq_of_lt (by omega) (by omega)
  rw [hr] at hp
  obtain ⟨n, e1, e2, e3⟩ := evs3 (sTwo_ev f) (sGen_ev h) hp
  refine ⟨n + 1, fun k hk => ?_⟩
  obtain ⟨j, rfl⟩ : ∃ j, k = n + j + 1 := ⟨k - n - 1, by omega⟩
  have e1' := e1 (j + 1)
  rw [← Nat.add_assoc] at e1'
  have hw : wrap64 (mdP f - 1) = mdP f - 1 := w64 (by omega) (by omega)
  have hsh := shr_pow (mdP f - 1) (s := s) (by omega)
  simp only [spec_RootOf.f, spec_RootOf.j0, sMod, ← hme, in_eq, e1', ht, Option.bind_some]
  rw [if_neg (by omega), decide_eq_true (by omega)]
  simp only [Bool.not_true, Bool.false_eq_true, if_false, e2, Option.bind_some, hw, hsh.2, hsh.1, e3]
  rw [if_pos (by omega)]

-- block iRoot
theorem iRoot_ev {f : Int} (h : fldOk f) (s : Nat) (hs : s ≤ 60) : Ev (fun k => impl_field_root.f k (mdP f) (rd fG f) (rd fT f) (s : Int)) (rt f s) := by
  have hm := mdP_range h
  have hg := fG_range h
  have hh := half_lt hm.1 hm.2 s
  have hw : wrap64 (mdP f - 1) = mdP f - 1 := w64 (by omega) (by omega)
  obtain ⟨n, e⟩ := evs1 (iPow_ev (p := mdP f) (g := rd fG f) (t := rd fT f) (a := rd fG f) (by omega) (by omega) ((mdP f - 1) / 2 ^ s).toNat (by omega) (by omega) hg.2.1)
  rw [show ((((mdP f - 1) / 2 ^ s).toNat : Nat) : Int) = (mdP f - 1) / 2 ^ s by omega] at e
  refine ⟨n, fun k hk => ?_⟩
  obtain ⟨j, rfl⟩ : ∃ j, k = n + j := ⟨k - n, by omega⟩
  simp only [impl_field_root.f, hw, (shr_pow (mdP f - 1) hs).1, e, Option.bind_some]
  rw [if_pos (by omega)]
  rfl

-- block iAdd
theorem iAdd {p g t a b : Int} (hp : 2 ≤ p) (hp2 : p ≤ 2147483648) (ha : 0 ≤ a) (ha' : a < p) (hb : 0 ≤ b) (hb' : b < p) : impl_field_add.f p g t a b = some ((a + b) % p) := by
  simp only [impl_field_add.f]
  rw [if_neg (by omega), w64 (by omega) (by omega), Int.tmod_eq_emod_of_nonneg (by omega)]

-- block iSub
theorem iSub {p g t a b : Int} (hp : 2 ≤ p) (hp2 : p ≤ 2147483648) (ha : 0 ≤ a) (ha' : a < p) (hb : 0 ≤ b) (hb' : b < p) : impl_field_sub.f p g t a b = some ((a - b) % p) := by
  simp only [impl_field_sub.f]
  rw [if_neg (by omega), w64 (x := a - b) (by omega) (by omega), w64 (by omega) (by omega), Int.tmod_eq_emod_of_nonneg (by omega), Int.add_emod_right]

-- block sAdd
theorem sAdd (f a b : Int) : spec_Add.f f a b = some (if fldOk f then (a + b) % md f else -1) := by
  simp only [spec_Add.f, sMod, sReduce, Option.bind_some, md_zero]
  by_cases h : fldOk f
  · have hm := md_pos h
    have ha := md_range h a
    have hb := md_range h b
    rw [if_neg (fun hh => hh h), if_pos h, if_pos h, if_pos h, if_pos h, w64 (by omega) (by omega)]
    exact congrArg some (Md.emod (Md.add (Md.mod _ _) (Md.mod _ _)))
  · rw [if_pos h, if_neg h]

-- block sCopy
theorem sCopy_l (l : List Int) (hn : l.length < 17592186044416) : ∀ (d i : Nat), l.length - i = d → i ≤ l.length →
    Ev (fun k => spec_l01Copy.l0 k l (l.take i) (i : Int)) l := by
  intro d
  induction d with
  | zero =>
    intro i h hi
    refine ev_now fun k => ?_
    simp only [spec_l01Copy.l0]
    rw [if_neg (by omega), List.take_of_length_le (by omega)]
  | succ d ih =>
    intro i h hi
    refine Ev.step (fun k => ?_) (ih (i + 1) (by omega) (by omega))
    simp only [spec_l01Copy.l0]
    rw [if_pos (by omega), if_pos (by omega), if_pos (by simp; omega), wsucc (by omega), rd_eq (by omega), List.take_append_getElem (by omega)]
theorem sCopy_ev (l : List Int) (hn : l.length < 17592186044416) : Ev (fun k => spec_l01Copy.f k l) l :=
  Ev.congr (fun k => rfl) (sCopy_l l hn l.length 0 (by omega) (by omega))

-- block stP
/-- A level of the transform over a field's own root, at a place of a row. -/
def stP (f : Int) (lv : Nat) (v : List Int) (x : Nat) : Int := stg (mdP f) (rt f (lv + 1)) lv (fun i => rd v (i : Int)) x
theorem stP_lo (f : Int) (lv : Nat) (v : List Int) (q j : Nat) (hj : j < 2 ^ lv) : stP f lv v (2 ^ lv * (2 * q) + j) = (rd v ((2 ^ lv * (2 * q) + j : Nat) : Int) + rd v ((2 ^ lv * (2 * q) + j + 2 ^ lv : Nat) : Int) * rt f (lv + 1) ^ j) % mdP f := by
  have e1 : (2 ^ lv * (2 * q) + j) % 2 ^ lv = j := by rw [Nat.mul_add_mod, Nat.mod_eq_of_lt hj]
  have e2 : (2 ^ lv * (2 * q) + j) / 2 ^ lv = 2 * q := by rw [Nat.mul_add_div (Nat.pow_pos (by omega)), Nat.div_eq_of_lt hj, Nat.add_zero]
  unfold stP stg
  rw [e1, e2, if_pos (by omega)]
theorem stP_hi (f : Int) (lv : Nat) (v : List Int) (q j : Nat) (hj : j < 2 ^ lv) : stP f lv v (2 ^ lv * (2 * q) + j + 2 ^ lv) = (rd v ((2 ^ lv * (2 * q) + j : Nat) : Int) - rd v ((2 ^ lv * (2 * q) + j + 2 ^ lv : Nat) : Int) * rt f (lv + 1) ^ j) % mdP f := by
  have e : 2 ^ lv * (2 * q) + j + 2 ^ lv = 2 ^ lv * (2 * q + 1) + j := by rw [Nat.mul_add]; omega
  have e1 : (2 ^ lv * (2 * q) + j + 2 ^ lv) % 2 ^ lv = j := by rw [e, Nat.mul_add_mod, Nat.mod_eq_of_lt hj]
  have e2 : (2 ^ lv * (2 * q) + j + 2 ^ lv) / 2 ^ lv = 2 * q + 1 := by rw [e, Nat.mul_add_div (Nat.pow_pos (by omega)), Nat.div_eq_of_lt hj, Nat.add_zero]
  unfold stP stg
  rw [e1, e2, if_neg (by omega), Nat.add_sub_cancel]
theorem two_le {f : Int} (h : fldOk f) {K : Nat} (hK : (K : Int) ≤ rd fT f) : (2 : Int) ^ K ≤ mdP f - 1 := by
  have hm := mdP_range h
  have hT := fT_range h
  have h1 := Int.le_of_dvd (by omega) (two_div h)
  have h2 : (2 ^ K : Nat) ≤ 2 ^ (rd fT f).toNat := Nat.pow_le_pow_right (by omega) (by omega)
  have h3 : ((2 ^ K : Nat) : Int) ≤ ((2 ^ (rd fT f).toNat : Nat) : Int) := by omega
  simp at h3
  omega
theorem rt_ne {f : Int} (h : fldOk f) {s : Nat} (hs : (s : Int) ≤ rd fT f) : rt f s ≠ 0 := by
  intro e
  have hm := mdP_range h
  have h1 := (roots h).full_pow s (by omega)
  rw [e, Int.zero_pow (Nat.pos_iff_ne_zero.1 (Nat.pow_pos (by omega)))] at h1
  have h2 := h1.emod
  rw [Int.emod_eq_of_lt (by omega) (by omega), Int.emod_eq_of_lt (by omega) (by omega)] at h2
  omega

-- block sStage
def stG (f : Int) (lv : Nat) (v : List Int) (h s j x : Nat) : Int := if x < s ∨ (s ≤ x ∧ x < s + j) ∨ (s + h ≤ x ∧ x < s + h + j) then stP f lv v x else rd v (x : Int)
theorem tab_stG0 (f : Int) (lv : Nat) (v : List Int) (h s : Nat) : tab v.length (stG f lv v h s h) = tab v.length (stG f lv v h (s + 2 * h) 0) := by
  apply tab_congr
  intro x hx
  unfold stG
  by_cases e : x < s ∨ (s ≤ x ∧ x < s + h) ∨ (s + h ≤ x ∧ x < s + h + h)
  · rw [if_pos e, if_pos (by omega)]
  · rw [if_neg e, if_neg (by omega)]
theorem stG_step (f : Int) (lv : Nat) (v : List Int) (h s j : Nat) (hj : j < h) : ((tab v.length (stG f lv v h s j)).set (s + j) (stP f lv v (s + j))).set (s + j + h) (stP f lv v (s + j + h)) = tab v.length (stG f lv v h s (j + 1)) := by
  rw [tab_set, tab_set]
  apply tab_congr
  intro x hx
  by_cases e1 : x = s + j + h
  · rw [if_pos e1, e1]
    unfold stG
    rw [if_pos (by omega)]
  · rw [if_neg e1]
    by_cases e2 : x = s + j
    · rw [if_pos e2, e2]
      unfold stG
      rw [if_pos (by omega)]
    · rw [if_neg e2]
      unfold stG
      by_cases e : x < s ∨ (s ≤ x ∧ x < s + j) ∨ (s + h ≤ x ∧ x < s + h + j)
      · rw [if_pos e, if_pos (by omega)]
      · rw [if_neg e, if_neg (by omega)]
theorem stage_exp {f : Int} (hf : fldOk f) (lv m j : Nat) (hKT : ((lv + 1 + m : Nat) : Int) ≤ rd fT f) (hj : j < 2 ^ lv) : (rt f (lv + 1 + m) % mdP f) ^ expOf (mdP f) ((j * 2 ^ m : Nat) : Int) % mdP f = rt f (lv + 1) ^ j % mdP f := by
  have hw := rt_range hf (lv + 1 + m)
  have h2 := two_le hf hKT
  have h3 : j * 2 ^ m < 2 ^ (lv + 1 + m) := by
    rw [show lv + 1 + m = lv + m + 1 by omega, Nat.pow_succ, Nat.pow_add]
    have := Nat.mul_lt_mul_of_pos_right hj (Nat.pow_pos (n := m) (show 0 < 2 by omega))
    omega
  have h4 : ((j * 2 ^ m : Nat) : Int) < ((2 ^ (lv + 1 + m) : Nat) : Int) := by omega
  have h5 : ((2 ^ (lv + 1 + m) : Nat) : Int) = 2 ^ (lv + 1 + m) := by simp
  rw [h5] at h4
  have he : expOf (mdP f) ((j * 2 ^ m : Nat) : Int) = 2 ^ m * j := by
    unfold expOf
    rw [Int.emod_eq_of_lt (by omega) (by omega), Int.toNat_natCast, Nat.mul_comm]
  rw [he, Int.emod_eq_of_lt hw.1 hw.2]
  exact (rt_pow hf (lv + 1) m (by omega) j).emod
theorem sStage_in {f : Int} (hf : fldOk f) (lv m q H S : Nat) (hH : H = 2 ^ lv) (hS : S = 2 ^ lv * (2 * q)) (hKT : ((lv + 1 + m : Nat) : Int) ≤ rd fT f) (v : List Int) (hnH : v.length = 2 ^ lv * (2 * 2 ^ m)) (hn9 : v.length ≤ 512) (hH1 : 1 ≤ H) (hSn : S + 2 * H ≤ v.length) (r : List Int)
    (hr : Ev (fun k => spec_Stage.l0 k f v (v.length : Int) (rt f (lv + 1 + m)) (H : Int) (tab v.length (stG f lv v H S H)) ((S + 2 * H : Nat) : Int)) r) :
    ∀ (c j : Nat), H - j = c → j ≤ H →
    Ev (fun k => spec_Stage.l1 k f v (v.length : Int) (rt f (lv + 1 + m)) (H : Int) (tab v.length (stG f lv v H S j)) (S : Int) (j : Int)) r := by
  have hme := md_eq hf
  have hm := mdP_range hf
  have hfacts : ∀ j, j < H → (rt f (lv + 1 + m) % mdP f) ^ expOf (mdP f) ((j * 2 ^ m : Nat) : Int) % mdP f = rt f (lv + 1) ^ j % mdP f ∧ j * v.length = (2 * H) * (j * 2 ^ m) ∧ stP f lv v (S + j) = (rd v ((S + j : Nat) : Int) + rd v ((S + j + H : Nat) : Int) * rt f (lv + 1) ^ j) % mdP f ∧ stP f lv v (S + j + H) = (rd v ((S + j : Nat) : Int) - rd v ((S + j + H : Nat) : Int) * rt f (lv + 1) ^ j) % mdP f := by
    intro j hj
    subst hH
    subst hS
    refine ⟨stage_exp hf lv m j hKT hj, ?_, stP_lo f lv v q j hj, stP_hi f lv v q j hj⟩
    rw [hnH]
    rw [Nat.mul_left_comm, Nat.mul_left_comm j 2, ← Nat.mul_assoc, Nat.mul_comm (2 ^ lv) 2]
  generalize 2 ^ m = M at hfacts
  clear hH hS hnH
  intro c
  induction c with
  | zero =>
    intro j hc hj
    have ej : j = H := by omega
    subst ej
    refine Ev.step (fun k => ?_) hr
    simp only [spec_Stage.l1]
    rw [if_neg (by omega), w64 (x := 2 * (j : Int)) (by omega) (by omega), w64 (by omega) (by omega), show (S : Int) + 2 * (j : Int) = ((S + 2 * j : Nat) : Int) by omega]
  | succ c ih =>
    intro j hc hj
    have hjl : j < H := by omega
    obtain ⟨hx, b3, hlo, hhi⟩ := hfacts j hjl
    have key := ih (j + 1) (by omega) (by omega)
    have c1 : (j : Int) < (H : Int) := by omega
    have c2 : 0 ≤ ((S + j : Nat) : Int) := by omega
    have c3 : ((S + j : Nat) : Int) < (v.length : Int) := by omega
    have c4 : 0 ≤ ((S + j + H : Nat) : Int) := by omega
    have c5 : ((S + j + H : Nat) : Int) < (v.length : Int) := by omega
    obtain ⟨hwi, hwh, hz, hw2, hwj⟩ : wrap64 ((S : Int) + (j : Int)) = ((S + j : Nat) : Int) ∧ wrap64 (((S + j : Nat) : Int) + (H : Int)) = ((S + j + H : Nat) : Int) ∧ ¬ wrap64 (2 * (H : Int)) = 0 ∧ wrap64 (2 * (H : Int)) = ((2 * H : Nat) : Int) ∧ wrap64 ((j : Int) + 1) = ((j + 1 : Nat) : Int) :=
      ⟨w64n (by omega) (by omega), w64n (by omega) (by omega), by rw [w64n (a := 2 * H) (by omega) (by omega)]; omega, w64n (by omega) (by omega), wsucc (by omega)⟩
    have ht : wrap64 (Int.tdiv (wrap64 ((j : Int) * (v.length : Int))) (wrap64 (2 * (H : Int)))) = ((j * M : Nat) : Int) := by
      have b1 : j * v.length ≤ 512 * 512 := Nat.mul_le_mul (by clear hwi hwh hz hw2 hwj; omega) (by clear hwi hwh hz hw2 hwj; omega)
      have b4 : j * M ≤ 2 * H * (j * M) := Nat.le_mul_of_pos_left _ (by clear hwi hwh hz hw2 hwj; omega)
      rw [← b3] at b4
      rw [hw2, w64n (x := (j : Int) * (v.length : Int)) (a := j * v.length) (by simp) (by clear hwi hwh hz hw2 hwj; omega), b3]
      clear hwi hwh hz hw2 hwj
      rw [Int.tdiv_eq_ediv_of_nonneg (by omega), Int.natCast_mul (2 * H), Int.mul_ediv_cancel_left _ (by omega)]
      exact w64n rfl (by omega)
    have hp := sPow_ev hf (rt f (lv + 1 + m)) ((j * M : Nat) : Int) (by rw [← hme, Int.emod_eq_of_lt (rt_range hf _).1 (rt_range hf _).2]; exact rt_ne hf hKT)
    rw [← hme, hx] at hp
    have eA : (rd v ((S + j : Nat) : Int) + rd v ((S + j + H : Nat) : Int) * (rt f (lv + 1) ^ j % mdP f) % mdP f) % mdP f = stP f lv v (S + j) := by
      rw [hlo]
      exact ((Md.refl _ _).add ((Md.mod _ _).trans ((Md.refl _ _).mul (Md.mod _ _)))).emod
    have eB : (rd v ((S + j : Nat) : Int) - rd v ((S + j + H : Nat) : Int) * (rt f (lv + 1) ^ j % mdP f) % mdP f) % mdP f = stP f lv v (S + j + H) := by
      rw [hhi]
      exact ((Md.refl _ _).sub ((Md.mod _ _).trans ((Md.refl _ _).mul (Md.mod _ _)))).emod
    clear hfacts hlo hhi hx b3 ih hr
    rw [← stG_step f lv v _ _ j hjl] at key
    obtain ⟨n, e1, e2⟩ := evs2 hp key
    refine ⟨n + 1, fun k hk => ?_⟩
    obtain ⟨k, rfl⟩ : ∃ i, k = n + i + 1 := ⟨k - n - 1, by clear hwi hwh hz hw2 hwj ht; omega⟩
    have e1 := e1 k
    have e2 := e2 k
    have hlen : (tab v.length (stG f lv v H S j)).length = v.length := tab_len _ _
    simp only [spec_Stage.l1, hwi, hwh, ht, e1, sMul, sAdd, sSub, ← hme, eA, eB, hlen, Option.bind_some, Int.toNat_natCast, c1, c2, c3, c4, c5, hz, if_true, if_false, hf, hwj]
    exact e2
theorem sStage_l {f : Int} (hf : fldOk f) (lv m : Nat) (hK : lv + 1 + m ≤ 9) (hKT : ((lv + 1 + m : Nat) : Int) ≤ rd fT f) (v : List Int) (hn : v.length = 2 ^ (lv + 1 + m)) :
    ∀ (d q : Nat), 2 ^ m - q = d → q ≤ 2 ^ m →
    Ev (fun k => spec_Stage.l0 k f v (v.length : Int) (rt f (lv + 1 + m)) ((2 ^ lv : Nat) : Int) (tab v.length (stG f lv v (2 ^ lv) (2 ^ lv * (2 * q)) 0)) ((2 ^ lv * (2 * q) : Nat) : Int)) (tab v.length (stP f lv v)) := by
  have hn9 := pow2_9 hK
  rw [← hn] at hn9
  have hnH : v.length = 2 ^ lv * (2 * 2 ^ m) := by rw [hn, Nat.pow_add, Nat.pow_succ]; rw [Nat.mul_assoc]
  have hH := Nat.pow_pos (n := lv) (show 0 < 2 by omega)
  intro d
  induction d with
  | zero =>
    intro q hd hq
    have eq : q = 2 ^ m := by omega
    subst eq
    refine ev_now fun k => ?_
    simp only [spec_Stage.l0]
    rw [if_neg (by omega)]
    refine congrArg some (tab_congr fun x hx => ?_)
    unfold stG
    rw [if_pos (by omega)]
  | succ d ih =>
    intro q hd hq
    have hS1 : 2 ^ lv * (2 * (q + 1)) = 2 ^ lv * (2 * q) + 2 * 2 ^ lv := by rw [Nat.mul_add, Nat.mul_add]; omega
    have hS2 : 2 ^ lv * (2 * (q + 1)) ≤ v.length := by rw [hnH]; exact Nat.mul_le_mul (Nat.le_refl _) (by omega)
    have key := ih (q + 1) (by omega) (by omega)
    have e : tab v.length (stG f lv v (2 ^ lv) (2 ^ lv * (2 * (q + 1))) 0) = tab v.length (stG f lv v (2 ^ lv) (2 ^ lv * (2 * q)) (2 ^ lv)) := by rw [tab_stG0, hS1]
    rw [e, hS1] at key
    refine Ev.step (fun k => ?_) (sStage_in hf lv m q (2 ^ lv) (2 ^ lv * (2 * q)) rfl rfl hKT v hnH hn9.1 hH (by rw [← hS1]; exact hS2) _ key (2 ^ lv) 0 (Nat.sub_zero _) (Nat.zero_le _))
    simp only [spec_Stage.l0]
    rw [if_pos (by omega)]
    rfl
theorem sStage_ev {f : Int} {v : List Int} (h : vecP f v) (lv : Nat) (hlv : (lv : Int) < logB (v.length : Int)) : Ev (fun k => spec_Stage.f k f v (lv : Int)) (tab v.length (stP f lv v)) := by
  obtain ⟨K, hK9, hlog, hn, hKT⟩ := vec_log h
  obtain ⟨m, rfl⟩ : ∃ m, K = lv + 1 + m := ⟨K - (lv + 1), by omega⟩
  have hn9 := pow2_9 hK9
  rw [← hn] at hn9
  have hs := shl_pow (i := lv) (by omega)
  have key := sStage_l h.1 lv m hK9 hKT v hn (2 ^ m) 0 (Nat.sub_zero _) (Nat.zero_le _)
  have e0 : tab v.length (stG f lv v (2 ^ lv) (2 ^ lv * (2 * 0)) 0) = v := by
    conv => rhs; rw [tab_of v]
    apply tab_congr
    intro x hx
    unfold stG
    rw [if_neg (by omega)]
  rw [e0] at key
  obtain ⟨n, a1, a2, a3, a4, a5⟩ := evs5 (sVec_ev f v (by omega)) (sLogOf_ev (v.length : Int)) (sRoot_ev h.1 (lv + 1 + m) hKT) (sCopy_ev v (by omega)) key
  refine ⟨n + 1, fun k hk => ?_⟩
  obtain ⟨j, rfl⟩ : ∃ j, k = n + j + 1 := ⟨k - n - 1, by omega⟩
  have b1 := a1 (j + 1)
  have b2 := a2 (j + 1)
  rw [← Nat.add_assoc] at b1 b2
  have c5 := a5 j
  have hsh : shl .i64 1 (IntKind.u64.wrap (lv : Int)) = ((2 ^ lv : Nat) : Int) := by rw [hs.2.1]; simp
  simp only [spec_Stage.f, spec_Stage.j0, b1, b2, a2 j, a3 j, a4 j, hlog, in_eq, hsh, Option.bind_some, decide_eq_true h]
  rw [decide_eq_true (show 0 ≤ (lv : Int) ∧ (lv : Int) ≤ wrap64 (((lv + 1 + m : Nat) : Int) - 1) by rw [w64 (by omega) (by omega)]; omega)]
  simp only [if_true, Bool.not_true, Bool.false_eq_true, if_false, a3 j, Option.bind_some]
  rw [if_pos hs.2.2]
  exact c5

-- block stepP
def stepP (K lv fr en : Int) : Prop := 0 ≤ lv ∧ lv < K ∧ 0 ≤ fr ∧ fr < en ∧ en ≤ halfK K
instance stepP_dec (K lv fr en : Int) : Decidable (stepP K lv fr en) := by unfold stepP; infer_instance

-- block sStep
theorem sStep {K : Nat} (hK : K ≤ 9) (lv fr en : Int) : spec_l09Run.f (K : Int) lv fr en = some (decide (stepP (K : Int) lv fr en)) := by
  have hs := (shl_pow (i := K) (by omega)).2.2
  simp only [spec_l09Run.f, in_eq, Option.bind_some, decide_eq_true_eq]
  rw [w64 (x := (K : Int) - 1) (by omega) (by omega)]
  by_cases h1 : 0 ≤ lv ∧ lv ≤ (K : Int) - 1
  · have hh := shl_half (k := (K : Int)) (by omega) (by omega)
    rw [if_pos h1]
    by_cases h2 : 0 ≤ fr
    · rw [if_pos h2]
      by_cases h3 : fr < en
      · rw [if_pos h3, if_pos hs, hh.2.1]
        exact congrArg some (decide_eq_decide.2 ⟨fun x => ⟨h1.1, by omega, h2, h3, x⟩, fun x => x.2.2.2.2⟩)
      · rw [if_neg h3, decide_eq_false (fun x : stepP _ _ _ _ => h3 x.2.2.2.1)]
    · rw [if_neg h2, decide_eq_false (fun x : stepP _ _ _ _ => h2 x.2.2.1)]
  · rw [if_neg h1, decide_eq_false (fun x : stepP _ _ _ _ => h1 ⟨x.1, by have := x.2.1; omega⟩)]

-- block iStep
theorem iStep {K : Nat} (hK : K ≤ 9) (lv fr en : Int) : impl_isStep.f lv fr en (K : Int) = some (decide (stepP (K : Int) lv fr en)) := by
  simp only [impl_isStep.f]
  by_cases h0 : lv ≥ 0
  · rw [if_pos h0]
    by_cases h1 : lv < (K : Int)
    · have hh := shl_half (k := (K : Int)) (by omega) (by omega)
      rw [if_pos h1]
      by_cases h2 : fr ≥ 0
      · rw [if_pos h2]
        by_cases h3 : fr < en
        · rw [if_pos h3, if_pos (by rw [w64 (by omega) (by omega)]; omega), hh.1]
          exact congrArg some (decide_eq_decide.2 ⟨fun x => ⟨h0, h1, h2, h3, x⟩, fun x => x.2.2.2.2⟩)
        · rw [if_neg h3, decide_eq_false (fun x : stepP _ _ _ _ => h3 x.2.2.2.1)]
      · rw [if_neg h2, decide_eq_false (fun x : stepP _ _ _ _ => h2 x.2.2.1)]
    · rw [if_neg h1, decide_eq_false (fun x : stepP _ _ _ _ => h1 x.2.1)]
  · rw [if_neg h0, decide_eq_false (fun x : stepP _ _ _ _ => h0 x.1)]

-- block runL
/-- The first place of a level's block with this number. -/
def posB (lv b : Nat) : Nat := 2 ^ lv * (2 * (b / 2 ^ lv)) + b % 2 ^ lv
/-- A row in which the blocks from b on, d of them, have been turned. -/
def runL (f : Int) (lv : Nat) (v : List Int) : Nat → Nat → List Int → List Int
  | 0, _, out => out
  | d + 1, b, out => runL f lv v d (b + 1) ((out.set (posB lv b) (stP f lv v (posB lv b))).set (posB lv b + 2 ^ lv) (stP f lv v (posB lv b + 2 ^ lv)))
theorem runL_len (f : Int) (lv : Nat) (v : List Int) : ∀ d b out, (runL f lv v d b out).length = out.length := by
  intro d
  induction d with
  | zero => intro b out; rfl
  | succ d ih => intro b out; rw [runL, ih]; simp
/-- What a step makes of a row. -/
def runP (f : Int) (v : List Int) (lv fr en : Int) : List Int × Bool :=
  if vecP f v ∧ stepP (logB (v.length : Int)) lv fr en then (runL f lv.toNat v (en - fr).toNat fr.toNat v, true) else ([], false)
theorem runP_len (f : Int) (v : List Int) (lv fr en : Int) : (runP f v lv fr en).1.length ≤ v.length := by
  unfold runP
  split
  · rw [runL_len]; omega
  · simp
/-- Where a block's two places lie, told in numbers below a row's length. -/
theorem pos_facts (lv m b H n : Nat) (hH : H = 2 ^ lv) (hn : n = 2 ^ lv * (2 * 2 ^ m)) (hb : b < H * 2 ^ m) : ∃ q j P : Nat, b / H = q ∧ b % H = j ∧ j < H ∧ P = posB lv b ∧ P = 2 ^ lv * (2 * q) + j ∧ q * 2 * H + j = P ∧ P + H < n ∧ q * 2 * H ≤ P := by
  subst hH
  have h0 : 0 < 2 ^ lv := Nat.pow_pos (by omega)
  have hq : b / 2 ^ lv < 2 ^ m := Nat.div_lt_of_lt_mul hb
  have hj : b % 2 ^ lv < 2 ^ lv := Nat.mod_lt _ h0
  have e : b / 2 ^ lv * 2 * 2 ^ lv = 2 ^ lv * (2 * (b / 2 ^ lv)) := by rw [Nat.mul_comm (2 ^ lv), Nat.mul_comm 2]
  refine ⟨b / 2 ^ lv, b % 2 ^ lv, posB lv b, rfl, rfl, hj, rfl, rfl, by rw [e]; rfl, ?_, by rw [e]; exact Nat.le_add_right _ _⟩
  unfold posB
  have h2 : 2 ^ lv * (2 * (b / 2 ^ lv + 1)) ≤ n := by rw [hn]; exact Nat.mul_le_mul (Nat.le_refl _) (by omega)
  rw [Nat.mul_add, Nat.mul_add] at h2
  generalize 2 ^ lv * (2 * (b / 2 ^ lv)) = X at h2 ⊢
  generalize b % 2 ^ lv = Y at hj ⊢
  generalize 2 ^ lv = Z at h2 hj ⊢
  omega
theorem halfK_pow (lv m : Nat) : halfK ((lv + 1 + m : Nat) : Int) = ((2 ^ lv * 2 ^ m : Nat) : Int) := by
  unfold halfK
  rw [show (((lv + 1 + m : Nat) : Int).toNat - 1) = lv + m by omega, ← Nat.pow_add]
  simp

-- block sRunStep
theorem sRunStep_l {f : Int} (lv m : Nat) (v : List Int) (hn : v.length = 2 ^ lv * (2 * 2 ^ m)) (h512 : v.length ≤ 512) (H : Nat) (hH : H = 2 ^ lv) (en : Nat) (hen : en ≤ H * 2 ^ m) (x0 x1 : Int) :
    ∀ (d b : Nat) (out : List Int), en - b = d → b ≤ en → out.length = v.length →
    Ev (fun k => spec_RunStep.l0 k (tab v.length (stP f lv v)) out (H : Int) (b : Int) x0 x1 (en : Int)) (runL f lv v d b out, true) := by
  have hb512 : en ≤ 512 := by
    have : H * 2 ^ m ≤ v.length := by rw [hn, hH]; exact Nat.mul_le_mul (Nat.le_refl _) (by omega)
    omega
  intro d
  induction d with
  | zero =>
    intro b out hd hb ho
    refine ev_now fun k => ?_
    simp only [spec_RunStep.l0]
    rw [if_neg (by omega)]; rfl
  | succ d ih =>
    intro b out hd hb ho
    have key := ih (b + 1) ((out.set (posB lv b) (stP f lv v (posB lv b))).set (posB lv b + 2 ^ lv) (stP f lv v (posB lv b + 2 ^ lv))) (by omega) (by omega) (by simp [ho])
    obtain ⟨q, j, P, hq, hj, hjH, hP, hP2, hP3, hPn, hqP⟩ := pos_facts lv m b H v.length hH hn (by omega)
    have g1 : Int.tdiv (b : Int) (H : Int) = (q : Int) := by rw [Int.tdiv_eq_ediv_of_nonneg (by omega), ← hq]; simp
    have g2 : Int.tmod (b : Int) (H : Int) = (j : Int) := by rw [Int.tmod_eq_emod_of_nonneg (by omega), ← hj]; simp
    have hq1 : q * 2 ≤ q * 2 * H := Nat.le_mul_of_pos_right _ (by omega)
    rw [← hP, ← hH] at key
    have r1 : rd (tab v.length (stP f lv v)) (P : Int) = stP f lv v P := tab_rd (by omega)
    have r2 : rd (tab v.length (stP f lv v)) ((P + H : Nat) : Int) = stP f lv v (P + H) := tab_rd (by omega)
    have hl1 : (tab v.length (stP f lv v)).length = v.length := tab_len _ _
    have e : runL f lv v (d + 1) b out = runL f lv v d (b + 1) ((out.set P (stP f lv v P)).set (P + H) (stP f lv v (P + H))) := by rw [runL, ← hP, ← hH]
    rw [e]
    clear hP2 e hn
    have hbn : en ≤ 512 := hb512
    generalize 2 ^ m = M at hen
    clear hH
    have c0 : (b : Int) < (en : Int) := by omega
    have c1 : ¬ (H : Int) = 0 := by omega
    have c2 : 0 ≤ (P : Int) := by omega
    have c3 : (P : Int) < (v.length : Int) := by omega
    have c4 : 0 ≤ ((P + H : Nat) : Int) := by omega
    have c5 : ((P + H : Nat) : Int) < (v.length : Int) := by omega
    obtain ⟨w1, w2, w3, w4, w5, w6⟩ : wrap64 (q : Int) = (q : Int) ∧ wrap64 ((q : Int) * 2) = ((q * 2 : Nat) : Int) ∧ wrap64 (((q * 2 : Nat) : Int) * (H : Int)) = ((q * 2 * H : Nat) : Int) ∧ wrap64 (((q * 2 * H : Nat) : Int) + (j : Int)) = (P : Int) ∧ wrap64 ((P : Int) + (H : Int)) = ((P + H : Nat) : Int) ∧ wrap64 ((b : Int) + 1) = ((b + 1 : Nat) : Int) :=
      ⟨w64n rfl (by omega), w64n (by omega) (by omega), w64n (by simp) (by omega), w64n (by omega) (by omega), w64n (by omega) (by omega), wsucc (by omega)⟩
    refine Ev.step (fun k => ?_) key
    simp only [spec_RunStep.l0, g1, g2, w1, w2, w3, w4, w5, w6, hl1, ho, c0, c1, c2, c3, c4, c5, r1, r2, if_true, if_false, Int.toNat_natCast]
theorem sRunStep_ev (f : Int) (v : List Int) (hn : v.length ≤ 1048576) (lv fr en : Int) : Ev (fun k => spec_RunStep.f k f v lv fr en) (runP f v lv fr en) := by
  have no : Ev (fun k => spec_RunStep.j0 k f v true lv fr en) ([], false) := ev_now fun k => by simp [spec_RunStep.j0]
  unfold runP
  by_cases h : vecP f v
  · obtain ⟨K, hK9, hlog, hnK, hKT⟩ := vec_log h
    by_cases hs : stepP (logB (v.length : Int)) lv fr en
    · rw [if_pos ⟨h, hs⟩]
      rw [hlog] at hs
      obtain ⟨L, rfl⟩ : ∃ L : Nat, lv = (L : Int) := ⟨lv.toNat, by have := hs.1; omega⟩
      obtain ⟨F, rfl⟩ : ∃ F : Nat, fr = (F : Int) := ⟨fr.toNat, by have := hs.2.2.1; omega⟩
      obtain ⟨E, rfl⟩ : ∃ E : Nat, en = (E : Int) := ⟨en.toNat, by have := hs.2.2.2.1; have := hs.2.2.1; omega⟩
      have hLK := hs.2.1
      have hFE := hs.2.2.2.1
      have hEH := hs.2.2.2.2
      obtain ⟨m, rfl⟩ : ∃ m, K = L + 1 + m := ⟨K - (L + 1), by omega⟩
      rw [halfK_pow] at hEH
      have hn9 := (pow2_9 hK9).1
      have hnH : v.length = 2 ^ L * (2 * 2 ^ m) := by rw [hnK, Nat.pow_add, Nat.pow_succ]; rw [Nat.mul_assoc]
      have hsh := shl_pow (i := L) (by omega)
      have hsl : shl .i64 1 (IntKind.u64.wrap (L : Int)) = ((2 ^ L : Nat) : Int) := by rw [hsh.2.1]; simp
      have key := sRunStep_l (f := f) L m v hnH (by omega) (2 ^ L) rfl E (by omega) (L : Int) (F : Int) (E - F) F v rfl (by omega) rfl
      have hst := sStage_ev h L (by rw [hlog]; omega)
      obtain ⟨n, a1, a2, a3, a4, a5⟩ := evs5 (sVec_ev f v (by omega)) (sLogOf_ev (v.length : Int)) hst (sCopy_ev v (by omega)) key
      refine ⟨n + 1, fun k hk => ?_⟩
      obtain ⟨j, rfl⟩ : ∃ j, k = n + j + 1 := ⟨k - n - 1, by omega⟩
      have b1 := a1 (j + 1)
      have b2 := a2 (j + 1)
      rw [← Nat.add_assoc] at b1 b2
      have c5 := a5 j
      rw [Int.toNat_natCast, show ((E : Int) - (F : Int)).toNat = E - F by omega, Int.toNat_natCast]
      simp only [spec_RunStep.f, spec_RunStep.j0, b1, b2, a3 j, a4 j, hlog, sStep hK9, hsl, Option.bind_some, decide_eq_true h, decide_eq_true hs, Bool.not_true, Bool.false_eq_true, if_false, if_true]
      rw [if_pos hsh.2.2]
      exact c5
    · rw [if_neg (fun x => hs x.2)]
      obtain ⟨n, a1, a2, a3⟩ := evs3 (sVec_ev f v (by omega)) (sLogOf_ev (v.length : Int)) no
      refine ⟨n, fun k hk => ?_⟩
      obtain ⟨j, rfl⟩ : ∃ j, k = n + j := ⟨k - n, by omega⟩
      rw [hlog] at hs
      simp only [spec_RunStep.f, a1 j, a2 j, hlog, sStep hK9, Option.bind_some, decide_eq_true h, decide_eq_false hs, Bool.not_false, if_true]
      exact a3 j
  · rw [if_neg (fun x => h x.1)]
    obtain ⟨n, a1, a3⟩ := evs2 (sVec_ev f v (by omega)) no
    refine ⟨n, fun k hk => ?_⟩
    obtain ⟨j, rfl⟩ : ∃ j, k = n + j := ⟨k - n, by omega⟩
    simp only [spec_RunStep.f, a1 j, Option.bind_some, decide_eq_false h, Bool.false_eq_true, if_false]
    exact a3 j

-- block iRunL
theorem iRunStep_l {f : Int} (hf : fldOk f) (lv m : Nat) (v : List Int) (hv : ∀ i, i < v.length → 0 ≤ rd v (i : Int) ∧ rd v (i : Int) < mdP f) (hn : v.length = 2 ^ lv * (2 * 2 ^ m)) (h512 : v.length ≤ 512) (H : Nat) (hH : H = 2 ^ lv) (en : Nat) (hen : en ≤ H * 2 ^ m) (x0 x1 : Int) :
    ∀ (d b : Nat) (out : List Int), en - b = d → b ≤ en → out.length = v.length →
    Ev (fun k => impl_field_runStep.l0 k v out (H : Int) (rt f (lv + 1)) (b : Int) (mdP f) (rd fG f) (rd fT f) x0 x1 (en : Int)) (runL f lv v d b out) := by
  have hm := mdP_range hf
  have hw := rt_range hf (lv + 1)
  have hb512 : en ≤ 512 := by
    have : H * 2 ^ m ≤ v.length := by rw [hn, hH]; exact Nat.mul_le_mul (Nat.le_refl _) (by omega)
    omega
  intro d
  induction d with
  | zero =>
    intro b out hd hb ho
    refine ev_now fun k => ?_
    simp only [impl_field_runStep.l0]
    rw [if_neg (by omega)]; rfl
  | succ d ih =>
    intro b out hd hb ho
    have key := ih (b + 1) ((out.set (posB lv b) (stP f lv v (posB lv b))).set (posB lv b + 2 ^ lv) (stP f lv v (posB lv b + 2 ^ lv))) (by omega) (by omega) (by simp [ho])
    obtain ⟨q, j, P, hq, hj, hjH, hP, hP2, hP3, hPn, hqP⟩ := pos_facts lv m b H v.length hH hn (by omega)
    have g1 : Int.tdiv (b : Int) (H : Int) = (q : Int) := by rw [Int.tdiv_eq_ediv_of_nonneg (by omega), ← hq]; simp
    have g2 : Int.tmod (b : Int) (H : Int) = (j : Int) := by rw [Int.tmod_eq_emod_of_nonneg (by omega), ← hj]; simp
    have hq1 : q * 2 ≤ q * 2 * H := Nat.le_mul_of_pos_right _ (by omega)
    have hlo := stP_lo f lv v q j (by omega)
    have hhi := stP_hi f lv v q j (by omega)
    rw [← hP2, ← hH] at hlo hhi
    rw [← hP, ← hH] at key
    have e : runL f lv v (d + 1) b out = runL f lv v d (b + 1) ((out.set P (stP f lv v P)).set (P + H) (stP f lv v (P + H))) := by rw [runL, ← hP, ← hH]
    rw [e]
    have hpw := iPow_ev (p := mdP f) (g := rd fG f) (t := rd fT f) (a := rt f (lv + 1)) (by omega) (by omega) j (by omega) hw.1 hw.2
    have vP := hv P (by omega)
    have vH := hv (P + H) (by omega)
    have pw : 0 ≤ rt f (lv + 1) ^ j % mdP f ∧ rt f (lv + 1) ^ j % mdP f < mdP f := ⟨Int.emod_nonneg _ (by omega), Int.emod_lt_of_pos _ (by omega)⟩
    have t1 := iMul (p := mdP f) (g := rd fG f) (t := rd fT f) (by omega) (by omega) vH.1 vH.2 pw.1 pw.2
    have pt : 0 ≤ rd v ((P + H : Nat) : Int) * (rt f (lv + 1) ^ j % mdP f) % mdP f ∧ rd v ((P + H : Nat) : Int) * (rt f (lv + 1) ^ j % mdP f) % mdP f < mdP f := ⟨Int.emod_nonneg _ (by omega), Int.emod_lt_of_pos _ (by omega)⟩
    have t2 := iAdd (p := mdP f) (g := rd fG f) (t := rd fT f) (by omega) (by omega) vP.1 vP.2 pt.1 pt.2
    have t3 := iSub (p := mdP f) (g := rd fG f) (t := rd fT f) (by omega) (by omega) vP.1 vP.2 pt.1 pt.2
    have eA : (rd v (P : Int) + rd v ((P + H : Nat) : Int) * (rt f (lv + 1) ^ j % mdP f) % mdP f) % mdP f = stP f lv v P := by
      rw [hlo]
      exact ((Md.refl _ _).add ((Md.mod _ _).trans ((Md.refl _ _).mul (Md.mod _ _)))).emod
    have eB : (rd v (P : Int) - rd v ((P + H : Nat) : Int) * (rt f (lv + 1) ^ j % mdP f) % mdP f) % mdP f = stP f lv v (P + H) := by
      rw [hhi]
      exact ((Md.refl _ _).sub ((Md.mod _ _).trans ((Md.refl _ _).mul (Md.mod _ _)))).emod
    rw [eA] at t2
    rw [eB] at t3
    clear hP2 e hn eA eB hlo hhi pt pw vP vH hv hw
    have hbn : en ≤ 512 := hb512
    generalize 2 ^ m = M at hen
    clear hH
    have c0 : (b : Int) < (en : Int) := by omega
    have c1 : ¬ (H : Int) = 0 := by omega
    have c2 : 0 ≤ (P : Int) := by omega
    have c3 : (P : Int) < (v.length : Int) := by omega
    have c4 : 0 ≤ ((P + H : Nat) : Int) := by omega
    have c5 : ((P + H : Nat) : Int) < (v.length : Int) := by omega
    obtain ⟨w1, w2, w3, w4, w5, w6⟩ : wrap64 (q : Int) = (q : Int) ∧ wrap64 ((q : Int) * 2) = ((q * 2 : Nat) : Int) ∧ wrap64 (((q * 2 : Nat) : Int) * (H : Int)) = ((q * 2 * H : Nat) : Int) ∧ wrap64 (((q * 2 * H : Nat) : Int) + (j : Int)) = (P : Int) ∧ wrap64 ((P : Int) + (H : Int)) = ((P + H : Nat) : Int) ∧ wrap64 ((b : Int) + 1) = ((b + 1 : Nat) : Int) :=
      ⟨w64n rfl (by omega), w64n (by omega) (by omega), w64n (by simp) (by omega), w64n (by omega) (by omega), w64n (by omega) (by omega), wsucc (by omega)⟩
    obtain ⟨n, e1, e2⟩ := evs2 hpw key
    refine ⟨n + 1, fun k hk => ?_⟩
    obtain ⟨k, rfl⟩ : ∃ i, k = n + i + 1 := ⟨k - n - 1, by clear w1 w2 w3 w4 w5 w6 g1 g2; omega⟩
    have e1 := e1 k
    have e2 := e2 k
    simp only [impl_field_runStep.l0, g1, g2, w1, w2, w3, w4, w5, w6, ho, c0, c1, c2, c3, c4, c5, e1, t1, t2, t3, Option.bind_some, if_true, if_false, Int.toNat_natCast]
    exact e2

-- block iRunStep
theorem iRunStep_ev (f : Int) (v : List Int) (hn : v.length ≤ 1048576) (lv fr en : Int) : Ev (fun k => impl_RunStep.f k f v lv fr en) (runP f v lv fr en) := by
  unfold runP
  by_cases h : vecP f v
  · obtain ⟨K, hK9, hlog, hnK, hKT⟩ := vec_log h
    by_cases hs : stepP (logB (v.length : Int)) lv fr en
    · rw [if_pos ⟨h, hs⟩]
      rw [hlog] at hs
      obtain ⟨L, rfl⟩ : ∃ L : Nat, lv = (L : Int) := ⟨lv.toNat, by have := hs.1; omega⟩
      obtain ⟨F, rfl⟩ : ∃ F : Nat, fr = (F : Int) := ⟨fr.toNat, by have := hs.2.2.1; omega⟩
      obtain ⟨E, rfl⟩ : ∃ E : Nat, en = (E : Int) := ⟨en.toNat, by have := hs.2.2.2.1; have := hs.2.2.1; omega⟩
      have hLK := hs.2.1
      have hFE := hs.2.2.2.1
      have hEH := hs.2.2.2.2
      obtain ⟨m, rfl⟩ : ∃ m, K = L + 1 + m := ⟨K - (L + 1), by omega⟩
      rw [halfK_pow] at hEH
      have hn9 := (pow2_9 hK9).1
      have hnH : v.length = 2 ^ L * (2 * 2 ^ m) := by rw [hnK, Nat.pow_add, Nat.pow_succ]; rw [Nat.mul_assoc]
      have hsh := shl_pow (i := L) (by omega)
      have hsl : shl .i64 1 (L : Int) = ((2 ^ L : Nat) : Int) := by rw [hsh.1]; simp
      have key := iRunStep_l h.1 L m v (vec_el h) hnH (by omega) (2 ^ L) rfl E (by omega) (L : Int) (F : Int) (E - F) F v rfl (by omega) rfl
      obtain ⟨n, a1, a2, a3, a5⟩ := evs4 (iVec1_ev f v (by omega)) (iLogOf_ev (v.length : Int)) (iRoot_ev h.1 (L + 1) (by omega)) key
      refine ⟨n, fun k hk => ?_⟩
      obtain ⟨j, rfl⟩ : ∃ j, k = n + j := ⟨k - n, by omega⟩
      have c5 := a5 j
      have c6 : v.length < 17592186044416 := by clear hsl; omega
      have c7 : 0 ≤ (L : Int) := by clear hsl; omega
      have hw : wrap64 ((L : Int) + 1) = ((L + 1 : Nat) : Int) := wsucc (by clear hsl; omega)
      rw [Int.toNat_natCast, show ((E : Int) - (F : Int)).toNat = E - F by omega, Int.toNat_natCast]
      simp only [impl_RunStep.f, impl_field_runStep.f, a1 j, a2 j, hlog, iStep hK9, hsl, hw, a3 j, h, Option.bind_some, decide_eq_true hs, if_true, List.nil_append, List.length_nil, Nat.zero_add, c6, c7, c5]
    · rw [if_neg (fun x => hs x.2)]
      obtain ⟨n, a1, a2⟩ := evs2 (iVec1_ev f v (by omega)) (iLogOf_ev (v.length : Int))
      refine ⟨n, fun k hk => ?_⟩
      obtain ⟨j, rfl⟩ : ∃ j, k = n + j := ⟨k - n, by omega⟩
      rw [hlog] at hs
      simp only [impl_RunStep.f, a1 j, a2 j, hlog, iStep hK9, h, Option.bind_some, decide_eq_false hs, if_true, Bool.false_eq_true, if_false]
  · rw [if_neg (fun x => h x.1)]
    obtain ⟨n, a1⟩ := evs1 (iVec1_ev f v (by omega))
    refine ⟨n, fun k hk => ?_⟩
    obtain ⟨j, rfl⟩ : ∃ j, k = n + j := ⟨k - n, by omega⟩
    simp only [impl_RunStep.f, a1 j, h, Option.bind_some, if_false, Bool.false_eq_true]

end Go.Proofs.Ytjgggiophbnghaf.QFnExactRunStep

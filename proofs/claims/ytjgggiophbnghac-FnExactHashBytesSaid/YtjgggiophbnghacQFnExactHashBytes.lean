/- Lemmas on the printed functions of FnExactHashBytes: what each comes to. -/
import Derived.Test.YtjgggiophbnghacPFnExactHashBytesx
import Derived.Test.YtjgggiophbnghacNtt
namespace Go.Proofs.Ytjgggiophbnghac.QFnExactHashBytes
open Go.RowKit Go.Proofs.Ytjgggiophbnghac.PFnExactHashBytes Go.Proofs.YtjgggiophbnghacW.PrintWords Go.Proofs.YtjgggiophbnghacW.PrintLast Go.Proofs.Ytjgggiophbnghac.Math
set_option linter.unusedVariables false
set_option linter.unusedSimpArgs false

-- block toByteS
theorem toByteS_l (l : List Int) (hn : l.length ≤ 140737488355328) : ∀ (d i : Nat), l.length - i = d → i ≤ l.length →
    Ev (fun k => laws_toByteS.l0 k l (l.take i ++ List.replicate (l.length - i) 0) (i : Int)) l := by
  intro d
  induction d with
  | zero =>
    intro i h hi
    refine ev_now fun k => ?_
    simp only [laws_toByteS.l0]
    rw [if_neg (by omega), fill_all l 0 i (by omega)]
  | succ d ih =>
    intro i h hi
    refine Ev.step (fun k => ?_) (ih (i + 1) (by omega) (by omega))
    simp only [laws_toByteS.l0]
    rw [if_pos (by omega), if_pos (by omega), if_pos (by simp; omega), wsucc (by omega), Int.toNat_natCast, set_fill l 0 _ i (by omega) (rd_eq (by omega))]
theorem toByteS_ev (l : List Int) (hn : l.length ≤ 140737488355328) : Ev (fun k => laws_toByteS.f k l) l := by
  refine Ev.congr (fun k => ?_) (toByteS_l l hn l.length 0 (by omega) (by omega))
  simp only [laws_toByteS.f]
  rw [if_pos (by omega), if_pos (by rw [Int.toNat_natCast]; omega), Int.toNat_natCast, fill_zero l 0]
  rfl

-- block eqByteS
theorem eqByteS_l (l : List Int) (hn : l.length ≤ 140737488355328) : ∀ (d i : Nat), l.length - i = d → i ≤ l.length → Ev (fun k => laws_eqByteS.l0 k l l (i : Int)) true := by
  intro d
  induction d with
  | zero =>
    intro i h hi
    refine ev_now fun k => ?_
    simp only [laws_eqByteS.l0]
    rw [if_neg (by omega)]
  | succ d ih =>
    intro i h hi
    refine Ev.step (fun k => ?_) (ih (i + 1) (by omega) (by omega))
    simp only [laws_eqByteS.l0]
    rw [if_pos (by omega), if_pos (by omega), if_pos (by omega), if_pos trivial, wsucc (by omega)]
theorem eqByteS_ev (l : List Int) (hn : l.length ≤ 140737488355328) : Ev (fun k => laws_eqByteS.f k l l) true := by
  refine Ev.congr (fun k => ?_) (eqByteS_l l hn l.length 0 (by omega) (by omega))
  simp only [laws_eqByteS.f]
  rw [if_pos trivial]
  rfl

-- block l01In
theorem in_eq (a b c : Int) : spec_l01In.f a b c = some (decide (b ≤ a ∧ a ≤ c)) := by
  simp only [spec_l01In.f, if_dec]

-- block fldOk
def fldOk (f : Int) : Prop := 0 ≤ f ∧ f < 9
instance fldOk_dec (f : Int) : Decidable (fldOk f) := by unfold fldOk; infer_instance
def fP : List Int := [17, 97, 193, 257, 7681, 12289, 998244353, 469762049, 1004535809]
def fG : List Int := [3, 5, 5, 3, 17, 11, 3, 3, 3]
def fT : List Int := [4, 5, 6, 8, 9, 12, 23, 26, 21]
theorem fld_cases {f : Int} (h : fldOk f) {Q : Int → Prop} (h0 : Q 0) (h1 : Q 1) (h2 : Q 2) (h3 : Q 3) (h4 : Q 4) (h5 : Q 5) (h6 : Q 6) (h7 : Q 7) (h8 : Q 8) : Q f := by
  unfold fldOk at h
  have : f = 0 ∨ f = 1 ∨ f = 2 ∨ f = 3 ∨ f = 4 ∨ f = 5 ∨ f = 6 ∨ f = 7 ∨ f = 8 := by omega
  rcases this with rfl | rfl | rfl | rfl | rfl | rfl | rfl | rfl | rfl <;> assumption

-- block sMod
def md (f : Int) : Int := if fldOk f then rd fP f else 0
theorem sMod (f : Int) : spec_Modulus.f f = some (md f) := by
  by_cases h : fldOk f
  · exact fld_cases (Q := fun f => spec_Modulus.f f = some (md f)) h rfl rfl rfl rfl rfl rfl rfl rfl rfl
  · unfold md
    rw [if_neg h]
    unfold fldOk at h
    simp only [spec_Modulus.f]
    rw [if_neg (by omega), if_neg (by omega), if_neg (by omega), if_neg (by omega), if_neg (by omega), if_neg (by omega), if_neg (by omega), if_neg (by omega), if_neg (by omega)]
theorem md_pos {f : Int} (h : fldOk f) : 17 ≤ md f ∧ md f ≤ 1004535809 := fld_cases (Q := fun f => 17 ≤ md f ∧ md f ≤ 1004535809) h (by decide) (by decide) (by decide) (by decide) (by decide) (by decide) (by decide) (by decide) (by decide)
theorem md_zero {f : Int} : md f = 0 ↔ ¬ fldOk f := by
  by_cases h : fldOk f
  · have := md_pos h
    simp [h]; omega
  · simp [md, h]

-- block iFld
theorem iFld (f : Int) : impl_fieldOf.f f = some (if fldOk f then (rd fP f, rd fG f, rd fT f, true) else (0, 0, 0, false)) := by
  by_cases h : fldOk f
  · exact fld_cases (Q := fun f => impl_fieldOf.f f = some (if fldOk f then (rd fP f, rd fG f, rd fT f, true) else (0, 0, 0, false))) h rfl rfl rfl rfl rfl rfl rfl rfl rfl
  · rw [if_neg h]
    unfold fldOk at h
    show Go.Proofs.Ytjgggiophbnghac.Fld.impl_fieldOf.f f = _
    unfold Go.Proofs.Ytjgggiophbnghac.Fld.impl_fieldOf.f
    by_cases h1 : f < 0
    · rw [if_pos h1]
    · rw [if_neg h1, if_pos (by omega)]

-- block iMul
theorem iMul {p g t a b : Int} (hp : 2 ≤ p) (hp2 : p ≤ 2147483648) (ha : 0 ≤ a) (ha' : a < p) (hb : 0 ≤ b) (hb' : b < p) : impl_field_mul.f p g t a b = some (a * b % p) := by
  have h0 : 0 ≤ a * b := Int.mul_nonneg ha hb
  have h1 : a * b ≤ 2147483648 * 2147483648 := Int.mul_le_mul (by omega) (by omega) hb (by omega)
  simp only [impl_field_mul.f]
  rw [if_neg (by omega), w64 (by omega) (by omega), Int.tmod_eq_emod_of_nonneg h0]

-- block iReduce
theorem iReduce {p g t x : Int} (hp : 2 ≤ p) (hp2 : p ≤ 2147483648) : impl_field_reduce.f p g t x = some (x % p) := by
  have hb := tmod_bounds (x := x) (p := p) (by omega)
  simp only [impl_field_reduce.f]
  rw [if_neg (by omega), w64 (by omega) (by omega), red_two (by omega)]

-- block iPow
theorem iPow_l {p g t : Int} (hp : 2 ≤ p) (hp2 : p ≤ 2147483648) (e : Nat) : ∀ (a out : Int), e < 4611686018427387904 → 0 ≤ a → a < p → 0 ≤ out → out < p →
    Ev (fun k => impl_field_power.l0 k a (e : Int) out p g t) (out * a ^ e % p) := by
  induction e using Nat.strongRecOn with
  | _ e ih =>
    intro a out he ha ha' ho ho'
    by_cases h0 : e = 0
    · subst h0
      refine ev_now fun k => ?_
      simp only [impl_field_power.l0]
      rw [if_neg (by omega), show a ^ 0 = 1 by grind, Int.mul_one, Int.emod_eq_of_lt ho ho']
    · have m0 : ∀ z : Int, 0 ≤ z % p := fun z => Int.emod_nonneg _ (by omega)
      have m1 : ∀ z : Int, z % p < p := fun z => Int.emod_lt_of_pos _ (by omega)
      have ht : Int.tmod (e : Int) 2 = ((e % 2 : Nat) : Int) := by rw [Int.tmod_eq_emod_of_nonneg (by omega)]; omega
      have hd : wrap64 (Int.tdiv (e : Int) 2) = ((e / 2 : Nat) : Int) := by rw [Int.tdiv_eq_ediv_of_nonneg (by omega), w64 (by omega) (by omega)]; omega
      by_cases h1 : e % 2 = 1
      · rw [← pw_odd h1]
        refine Ev.step (fun k => ?_) (ih (e / 2) (by omega) (a * a % p) (out * a % p) (by omega) (m0 _) (m1 _) (m0 _) (m1 _))
        simp only [impl_field_power.l0, iMul hp hp2 ho ho' ha ha', iMul hp hp2 ha ha' ha ha', Option.bind_some, ht, hd]
        rw [if_pos (by omega), if_pos (by omega)]
      · rw [← pw_even h1]
        refine Ev.step (fun k => ?_) (ih (e / 2) (by omega) (a * a % p) out (by omega) (m0 _) (m1 _) ho ho')
        simp only [impl_field_power.l0, iMul hp hp2 ha ha' ha ha', Option.bind_some, ht, hd]
        rw [if_pos (by omega), if_neg (by omega)]
theorem iPow_ev {p g t a : Int} (hp : 2 ≤ p) (hp2 : p ≤ 2147483648) (e : Nat) (he : e < 4611686018427387904) (ha : 0 ≤ a) (ha' : a < p) : Ev (fun k => impl_field_power.f k p g t a (e : Int)) (a ^ e % p) := by
  have := iPow_l (g := g) (t := t) hp hp2 e a 1 he ha ha' (by omega) (by omega)
  rw [Int.one_mul] at this
  exact Ev.congr (fun k => rfl) this

-- block iInv
theorem iInv_ev {p g t a : Int} (hp : 2 ≤ p) (hp2 : p ≤ 2147483648) (ha : 0 ≤ a) (ha' : a < p) : Ev (fun k => impl_field_inverse.f k p g t a) (a ^ (p - 2).toNat % p) := by
  have := iPow_ev (g := g) (t := t) hp hp2 (p - 2).toNat (by omega) ha ha'
  refine Ev.congr (fun k => ?_) this
  simp only [impl_field_inverse.f]
  rw [w64 (by omega) (by omega), show (((p - 2).toNat : Nat) : Int) = p - 2 by omega]
  simp

-- block sReduce
theorem sReduce (f x : Int) : spec_Reduce.f f x = some (if fldOk f then x % md f else -1) := by
  simp only [spec_Reduce.f, sMod, Option.bind_some, md_zero]
  by_cases h : fldOk f
  · have hm := md_pos h
    have hb := tmod_bounds (x := x) (p := md f) (by omega)
    rw [if_neg (fun hh => hh h), if_pos h]
    by_cases hn : Int.tmod x (md f) < 0
    · rw [if_pos hn, w64 (by omega) (by omega), red_lt (by omega) hn]
    · rw [if_neg hn, red_ge (by omega) hn]
  · rw [if_pos h, if_neg h]

-- block sMul
theorem md_range {f : Int} (h : fldOk f) (x : Int) : 0 ≤ x % md f ∧ x % md f < md f := by
  have hm := md_pos h
  exact ⟨Int.emod_nonneg _ (by omega), Int.emod_lt_of_pos _ (by omega)⟩
theorem sMul (f a b : Int) : spec_Mul.f f a b = some (if fldOk f then a * b % md f else -1) := by
  simp only [spec_Mul.f, sMod, sReduce, Option.bind_some, md_zero]
  by_cases h : fldOk f
  · have hm := md_pos h
    have ha := md_range h a
    have hb := md_range h b
    have h0 : 0 ≤ (a % md f) * (b % md f) := Int.mul_nonneg ha.1 hb.1
    have h1 : (a % md f) * (b % md f) ≤ 2147483648 * 2147483648 := Int.mul_le_mul (by omega) (by omega) hb.1 (by omega)
    simp only [h, not_true_eq_false, if_true, if_false]
    rw [w64 (by omega) (by omega), ← Int.mul_emod]
  · simp only [h, not_false_eq_true, if_true, if_false]

-- block sSub
theorem sSub (f a b : Int) : spec_Sub.f f a b = some (if fldOk f then (a - b) % md f else -1) := by
  simp only [spec_Sub.f, sMod, sReduce, Option.bind_some, md_zero]
  by_cases h : fldOk f
  · have hm := md_pos h
    have ha := md_range h a
    have hb := md_range h b
    simp only [h, not_true_eq_false, if_true, if_false]
    rw [w64 (by omega) (by omega), ← Int.sub_emod]
  · simp only [h, not_false_eq_true, if_true, if_false]

-- block sPow
theorem sPow_l {p : Int} (hp : 2 ≤ p) (hp2 : p ≤ 2147483648) (e : Nat) : ∀ (a out : Int), e < 4611686018427387904 → 0 ≤ a → a < p → 0 ≤ out → out < p →
    Ev (fun k => spec_Power.l0 k p a (e : Int) out) (out * a ^ e % p) := by
  induction e using Nat.strongRecOn with
  | _ e ih =>
    intro a out he ha ha' ho ho'
    by_cases h0 : e = 0
    · subst h0
      refine ev_now fun k => ?_
      simp only [spec_Power.l0]
      rw [if_neg (by omega), show a ^ 0 = 1 by grind, Int.mul_one, Int.emod_eq_of_lt ho ho']
    · have m0 : ∀ z : Int, 0 ≤ z % p := fun z => Int.emod_nonneg _ (by omega)
      have m1 : ∀ z : Int, z % p < p := fun z => Int.emod_lt_of_pos _ (by omega)
      have ht : Int.tmod (e : Int) 2 = ((e % 2 : Nat) : Int) := by rw [Int.tmod_eq_emod_of_nonneg (by omega)]; omega
      have hd : wrap64 (Int.tdiv (e : Int) 2) = ((e / 2 : Nat) : Int) := by rw [Int.tdiv_eq_ediv_of_nonneg (by omega), w64 (by omega) (by omega)]; omega
      have q0 : ∀ x y : Int, 0 ≤ x → x < p → 0 ≤ y → y < p → Int.tmod (wrap64 (x * y)) p = x * y % p := fun x y hx hx' hy hy' => by
        have h0 : 0 ≤ x * y := Int.mul_nonneg hx hy
        have h1 : x * y ≤ 2147483648 * 2147483648 := Int.mul_le_mul (by omega) (by omega) hy (by omega)
        rw [w64 (by omega) (by omega), Int.tmod_eq_emod_of_nonneg h0]
      by_cases h1 : e % 2 = 1
      · rw [← pw_odd h1]
        refine Ev.step (fun k => ?_) (ih (e / 2) (by omega) (a * a % p) (out * a % p) (by omega) (m0 _) (m1 _) (m0 _) (m1 _))
        simp only [spec_Power.l0, ht, hd, q0 out a ho ho' ha ha', q0 a a ha ha' ha ha']
        rw [if_pos (by omega), if_pos (by omega), if_neg (by omega)]
      · rw [← pw_even h1]
        refine Ev.step (fun k => ?_) (ih (e / 2) (by omega) (a * a % p) out (by omega) (m0 _) (m1 _) ho ho')
        simp only [spec_Power.l0, ht, hd, q0 a a ha ha' ha ha']
        rw [if_pos (by omega), if_neg (by omega), if_neg (by omega)]
/-- Powers with an exponent that is not below 0 and below the modulus less one, or is -1. -/
def expOf (p e : Int) : Nat := (e % (p - 1)).toNat
theorem sPow_ev {f : Int} (h : fldOk f) (a e : Int) (hx : a % md f ≠ 0) : Ev (fun k => spec_Power.f k f a e) ((a % md f) ^ expOf (md f) e % md f) := by
  have hm := md_pos h
  have ha := md_range h a
  have hb := tmod_bounds (x := e) (p := md f - 1) (by omega)
  have he : 0 ≤ e % (md f - 1) ∧ e % (md f - 1) < md f - 1 := ⟨Int.emod_nonneg _ (by omega), Int.emod_lt_of_pos _ (by omega)⟩
  have key := sPow_l (p := md f) (by omega) (by omega) (expOf (md f) e) (a % md f) 1 (by unfold expOf; omega) ha.1 ha.2 (by omega) (by omega)
  rw [Int.one_mul, show ((expOf (md f) e : Nat) : Int) = e % (md f - 1) by unfold expOf; omega] at key
  refine Ev.congr (fun k => ?_) (Ev.step (g := fun k => spec_Power.j0 k (md f) (a % md f) (e % (md f - 1))) (fun k => rfl) key)
  simp only [spec_Power.f, sMod, sReduce, Option.bind_some, md_zero]
  rw [if_neg (fun hh => hh h), if_pos h, if_neg hx, w64 (x := md f - 1) (by omega) (by omega), if_neg (by omega)]
  by_cases hn : Int.tmod e (md f - 1) < 0
  · rw [if_pos hn, w64 (x := Int.tmod e (md f - 1) + md f) (by omega) (by omega), w64 (by omega) (by omega), ← red_lt (by omega) hn, show Int.tmod e (md f - 1) + md f - 1 = Int.tmod e (md f - 1) + (md f - 1) by omega]
  · rw [if_neg hn, red_ge (by omega) hn]

-- block sInv
theorem expOf_neg {p : Int} (hp : 3 ≤ p) : expOf p (-1) = (p - 2).toNat := by
  have h : (-1 : Int) % (p - 1) = p - 2 := by
    rw [show (-1 : Int) = (p - 2) + (p - 1) * (-1) by omega, Int.add_mul_emod_self_left]
    exact Int.emod_eq_of_lt (by omega) (by omega)
  unfold expOf; rw [h]
theorem sInv_ev {f : Int} (h : fldOk f) (a : Int) (hx : a % md f ≠ 0) : Ev (fun k => spec_Inverse.f k f a) ((a % md f) ^ (md f - 2).toNat % md f) := by
  have := sPow_ev h a (-1) hx
  rw [expOf_neg (by have := md_pos h; omega)] at this
  refine Ev.congr (fun k => ?_) this
  simp [spec_Inverse.f]

-- block hashS
def hashS : List Int → Int → Int → Int × Int
  | [], u, v => (u, v)
  | c :: l, u, v => hashS l ((257 * u + c + 1) % 998244353) ((263 * v + c + 1) % 469762049)
theorem md6 : md 6 = 998244353 := rfl
theorem md7 : md 7 = 469762049 := rfl
theorem fldOk6 : fldOk 6 := by decide
theorem fldOk7 : fldOk 7 := by decide
def j67 : Int := (md 6 % md 7) ^ (md 7 - 2).toNat % md 7
theorem j67_range : 0 ≤ j67 ∧ j67 < md 7 := by
  have h := md_pos fldOk7
  exact ⟨Int.emod_nonneg _ (by omega), Int.emod_lt_of_pos _ (by omega)⟩
def joinP (u v : Int) : Int := u + md 6 * ((v - u) * j67 % md 7)
theorem join_range {u v : Int} (h0 : 0 ≤ u) (h1 : u < 998244353) : wrap64 (u + wrap64 (md 6 * ((v - u) * j67 % md 7))) = joinP u v := by
  unfold joinP
  have hb : 0 ≤ (v - u) * j67 % md 7 ∧ (v - u) * j67 % md 7 < md 7 := ⟨Int.emod_nonneg _ (by rw [md7]; omega), Int.emod_lt_of_pos _ (by rw [md7]; omega)⟩
  generalize (v - u) * j67 % md 7 = z at hb ⊢
  rw [md7] at hb
  rw [md6, w64 (x := 998244353 * z) (by omega) (by omega), w64 (by omega) (by omega)]
theorem hash_at {l : List Int} {i : Nat} (h : i < l.length) (u v : Int) : hashS (l.drop i) u v = hashS (l.drop (i + 1)) ((257 * u + rd l (i : Int) + 1) % 998244353) ((263 * v + rd l (i : Int) + 1) % 469762049) := by
  rw [List.drop_eq_getElem_cons h, rd_eq h]; rfl
theorem hash_range (l : List Int) : ∀ u v, 0 ≤ u → u < 998244353 → 0 ≤ v → v < 469762049 → (0 ≤ (hashS l u v).1 ∧ (hashS l u v).1 < 998244353) ∧ (0 ≤ (hashS l u v).2 ∧ (hashS l u v).2 < 469762049) := by
  induction l with
  | nil => intro u v h1 h2 h3 h4; exact ⟨⟨h1, h2⟩, h3, h4⟩
  | cons c l ih => intro u v h1 h2 h3 h4; exact ih _ _ (by omega) (by omega) (by omega) (by omega)

-- block sJoin
theorem sJoin_ev {u v : Int} (h0 : 0 ≤ u) (h1 : u < 998244353) (h2 : 0 ≤ v) (h3 : v < 469762049) : Ev (fun k => spec_Joined.f k u v) (joinP u v) := by
  obtain ⟨n, e⟩ := evs1 (sInv_ev fldOk7 (md 6) (by rw [md6, md7]; decide))
  refine ⟨n + 1, fun k hk => ?_⟩
  obtain ⟨j, rfl⟩ : ∃ j, k = n + j + 1 := ⟨k - n - 1, by omega⟩
  simp only [spec_Joined.f, spec_Joined.j0, sMod, sMul, sSub, in_eq, e, Option.bind_some, fldOk7, if_true, decide_eq_true_eq]
  rw [if_pos (by rw [md6, w64 (by omega) (by omega)]; omega), decide_eq_true (by rw [md7, w64 (by omega) (by omega)]; omega)]
  simp only [Bool.not_true, Bool.false_eq_true, if_false]
  rw [← join_range h0 h1]
  unfold j67
  rw [show ((v - u) % md 7 * ((md 6 % md 7) ^ (md 7 - 2).toNat % md 7)) % md 7 = ((v - u) * ((md 6 % md 7) ^ (md 7 - 2).toNat % md 7)) % md 7 from (Md.emod ((Md.mod _ _).mul (Md.refl _ _)))]

-- block sHash
theorem sHash_l (l : List Int) (hn : l.length ≤ 140737488355328) (hb : isB l) : ∀ (d i : Nat) (u v : Int), l.length - i = d → 0 ≤ u → u < 998244353 → 0 ≤ v → v < 469762049 →
    Ev (fun k => spec_HashBytes.l0 k l u v (i : Int)) (joinP (hashS (l.drop i) u v).1 (hashS (l.drop i) u v).2) := by
  intro d
  induction d with
  | zero =>
    intro i u v h h1 h2 h3 h4
    rw [List.drop_eq_nil_of_le (by omega)]
    refine Ev.step (fun k => ?_) (sJoin_ev h1 h2 h3 h4)
    simp only [spec_HashBytes.l0]
    rw [if_neg (by omega)]
    simp [hashS]
  | succ d ih =>
    intro i u v h h1 h2 h3 h4
    have hc := isB_at hb (show i < l.length by omega)
    rw [← rd_eq (by omega)] at hc
    rw [hash_at (by omega)]
    refine Ev.step (fun k => ?_) (ih (i + 1) _ _ (by omega) (Int.emod_nonneg _ (by omega)) (Int.emod_lt_of_pos _ (by omega)) (Int.emod_nonneg _ (by omega)) (Int.emod_lt_of_pos _ (by omega)))
    simp only [spec_HashBytes.l0, sReduce, fldOk6, fldOk7, if_true, Option.bind_some, md6, md7]
    rw [if_pos (by omega), if_pos (by omega), w64 (x := rd l (i : Int)) (by omega) (by omega), w64 (x := 257 * u) (by omega) (by omega), w64 (x := 263 * v) (by omega) (by omega), w64 (x := 257 * u + rd l (i : Int)) (by omega) (by omega), w64 (x := 263 * v + rd l (i : Int)) (by omega) (by omega), w64 (x := 257 * u + rd l (i : Int) + 1) (by omega) (by omega), w64 (x := 263 * v + rd l (i : Int) + 1) (by omega) (by omega), wsucc (by omega)]
def hashP (l : List Int) : Int := joinP (hashS l 1 1).1 (hashS l 1 1).2
theorem sHash_ev (l : List Int) (hn : l.length ≤ 140737488355328) (hb : isB l) : Ev (fun k => spec_HashBytes.f k l) (hashP l) := by
  refine Ev.congr (fun k => ?_) (by unfold hashP; simpa using sHash_l l hn hb l.length 0 1 1 (by omega) (by omega) (by omega) (by omega) (by omega))
  simp [spec_HashBytes.f]

-- block iElem
def elemB (p : Int) (l : List Int) : Bool := allF l.length 0 (fun j => decide (0 ≤ rd l (j : Int) ∧ rd l (j : Int) < p))
theorem iElem_l (p g t : Int) (l : List Int) (hn : l.length ≤ 1048576) : ∀ (d i : Nat), l.length - i = d → i ≤ l.length → Ev (fun k => impl_field_areElements.l0 k l (l.length : Int) (i : Int) p g t) (allF d i (fun j => decide (0 ≤ rd l (j : Int) ∧ rd l (j : Int) < p))) := by
  intro d
  induction d with
  | zero =>
    intro i h hi
    refine ev_now fun k => ?_
    simp only [impl_field_areElements.l0]
    rw [if_neg (by omega)]; rfl
  | succ d ih =>
    intro i h hi
    rw [allF]
    by_cases hq : 0 ≤ rd l (i : Int) ∧ rd l (i : Int) < p
    · rw [decide_eq_true hq, Bool.true_and]
      refine Ev.step (fun k => ?_) (ih (i + 1) (by omega) (by omega))
      simp only [impl_field_areElements.l0]
      rw [if_pos (by omega), if_pos (by omega), if_pos (by omega), if_neg (by omega), if_neg (by omega), wsucc (by omega)]
    · rw [decide_eq_false hq, Bool.false_and]
      refine ev_now fun k => ?_
      simp only [impl_field_areElements.l0]
      rw [if_pos (by omega), if_pos (by omega), if_pos (by omega)]
      by_cases h1 : rd l (i : Int) < 0
      · rw [if_pos h1]
      · rw [if_neg h1, if_pos (by omega)]
theorem iElem_ev (p g t : Int) (l : List Int) (hn : l.length ≤ 1048576) : Ev (fun k => impl_field_areElements.f k p g t l) (elemB p l) := by
  refine Ev.congr (fun k => ?_) (iElem_l p g t l hn l.length 0 (by omega) (by omega))
  simp [impl_field_areElements.f]
theorem elemB_iff (p : Int) (l : List Int) : elemB p l = true ↔ ∀ x ∈ l, 0 ≤ x ∧ x < p := by
  unfold elemB
  rw [allF_iff]
  constructor
  · intro h x hx
    obtain ⟨j, hj, rfl⟩ := List.getElem_of_mem hx
    have := h j (by omega) (by omega)
    rw [decide_eq_true_eq, rd_eq hj] at this
    exact this
  · intro h j _ hj
    rw [decide_eq_true_eq, rd_eq (by omega)]
    exact h _ (List.getElem_mem _)

-- block iJoin
theorem iEx : impl_exactFields.f = some (998244353, 3, 23, 469762049, 3, 26) := by
  simp only [impl_exactFields.f, iFld, Option.bind_some]
  rfl
theorem iJoin_ev {u v : Int} (h0 : 0 ≤ u) (h1 : u < 998244353) (h2 : 0 ≤ v) (h3 : v < 469762049) : Ev (fun k => impl_joined.f k u v) (joinP u v) := by
  have e0 : 0 ≤ (998244353 : Int) % 469762049 ∧ (998244353 : Int) % 469762049 < 469762049 := by decide
  obtain ⟨n, a1, a2, e⟩ := evs3 (iElem_ev 998244353 3 23 [u] (by simp)) (iElem_ev 469762049 3 26 [v] (by simp)) (iInv_ev (p := 469762049) (g := 3) (t := 26) (by omega) (by omega) e0.1 e0.2)
  rw [(elemB_iff _ _).2 (by simp; omega)] at a1 a2
  have hj := j67_range
  rw [md7] at hj
  have hj2 : ((998244353 : Int) % 469762049) ^ (469762049 - 2 : Int).toNat % 469762049 = j67 := by unfold j67; rw [md6, md7]
  have hv : 0 ≤ (v - u) % 469762049 ∧ (v - u) % 469762049 < 469762049 := ⟨Int.emod_nonneg _ (by omega), Int.emod_lt_of_pos _ (by omega)⟩
  rw [hj2] at e
  refine ⟨n + 1, fun k hk => ?_⟩
  obtain ⟨j, rfl⟩ : ∃ j, k = n + j + 1 := ⟨k - n - 1, by omega⟩
  simp only [impl_joined.f, impl_joined.j0, iEx, Option.bind_some, Nat.add_assoc, a1, a2, if_true, Bool.not_true, Bool.false_eq_true, if_false, iReduce (p := 469762049) (g := 3) (t := 26) (by omega) (by omega), e]
  rw [w64 (x := v - u) (by omega) (by omega), iMul (p := 469762049) (g := 3) (t := 26) (by omega) (by omega) hv.1 hv.2 hj.1 hj.2]
  simp only [Option.bind_some]
  rw [← join_range h0 h1, md6, md7]
  rw [show ((v - u) % 469762049 * j67) % 469762049 = ((v - u) * j67) % 469762049 from (Md.emod ((Md.mod _ _).mul (Md.refl _ _)))]

-- block iHash
theorem iHash_l (l : List Int) (hn : l.length ≤ 140737488355328) (hb : isB l) : ∀ (d i : Nat) (u v : Int), l.length - i = d → 0 ≤ u → u < 998244353 → 0 ≤ v → v < 469762049 →
    Ev (fun k => impl_HashBytes.l0 k u v l (l.length : Int) (i : Int) 998244353 3 23 469762049 3 26) (joinP (hashS (l.drop i) u v).1 (hashS (l.drop i) u v).2) := by
  intro d
  induction d with
  | zero =>
    intro i u v h h1 h2 h3 h4
    rw [List.drop_eq_nil_of_le (by omega)]
    refine Ev.step (fun k => ?_) (iJoin_ev h1 h2 h3 h4)
    simp only [impl_HashBytes.l0]
    rw [if_neg (by omega)]
    simp [hashS]
  | succ d ih =>
    intro i u v h h1 h2 h3 h4
    have hc := isB_at hb (show i < l.length by omega)
    rw [← rd_eq (by omega)] at hc
    rw [hash_at (by omega)]
    refine Ev.step (fun k => ?_) (ih (i + 1) _ _ (by omega) (Int.emod_nonneg _ (by omega)) (Int.emod_lt_of_pos _ (by omega)) (Int.emod_nonneg _ (by omega)) (Int.emod_lt_of_pos _ (by omega)))
    simp only [impl_HashBytes.l0]
    rw [if_pos (by omega), if_pos (by omega), if_pos (by omega), if_neg (by omega), if_neg (by omega), w64 (x := rd l (i : Int)) (by omega) (by omega), w64 (x := 257 * u) (by omega) (by omega), w64 (x := 263 * v) (by omega) (by omega), w64 (x := 257 * u + rd l (i : Int)) (by omega) (by omega), w64 (x := 263 * v + rd l (i : Int)) (by omega) (by omega), w64 (x := 257 * u + rd l (i : Int) + 1) (by omega) (by omega), w64 (x := 263 * v + rd l (i : Int) + 1) (by omega) (by omega), wsucc (by omega), Int.tmod_eq_emod_of_nonneg (by omega), Int.tmod_eq_emod_of_nonneg (by omega)]
theorem iHash_ev (l : List Int) (hn : l.length ≤ 140737488355328) (hb : isB l) : Ev (fun k => impl_HashBytes.f k l) (hashP l) := by
  refine Ev.congr (fun k => ?_) (by unfold hashP; simpa using iHash_l l hn hb l.length 0 1 1 (by omega) (by omega) (by omega) (by omega) (by omega))
  simp [impl_HashBytes.f, iEx]

end Go.Proofs.Ytjgggiophbnghac.QFnExactHashBytes

/- Lemmas on the printed functions of FnHash: what each comes to. -/
import Derived.Test.YtjgggiophbnghacPFnHashx
import Derived.Test.YtjgggiophbnghacNtt
namespace Go.Proofs.Ytjgggiophbnghac.QFnHash
open Go.RowKit Go.Proofs.Ytjgggiophbnghac.PFnHash Go.Proofs.YtjgggiophbnghacW.PrintWords Go.Proofs.YtjgggiophbnghacW.PrintLast Go.Proofs.Ytjgggiophbnghac.Math
set_option linter.unusedVariables false
set_option linter.unusedSimpArgs false

-- block fldOk
def fldOk (f : Int) : Prop := 0 ≤ f ∧ f < 9
instance fldOk_dec (f : Int) : Decidable (fldOk f) := by unfold fldOk; infer_instance
def fP : List Int := [17, 97, 193, 257, 7681, 12289, 998244353, 469762049, 1004535809]
def fG : List Int := [3, 5, 5, 3, 17, 11, 3, 3, 3]
def fT : List Int := [4, 5, 6, 8, 9, 12, 23, 26, 21]
theorem fld_cases {f : Int} (h : fldOk f) {Q : Int → Prop} (h0 : Q 0) (h1 : Q 1) (h2 : Q 2) (h3 : Q 3) (h4 : Q 4) (h5 : Q 5) (h6 : Q 6) (h7 : Q 7) (h8 : Q 8) : Q f := by
  unfold fldOk at h
  have : f = 0 ∨ f = 1 ∨ f = 2 ∨ f = 3 ∨ f = 4 ∨ f = 5 ∨ f = 6 ∨ f = 7 ∨ f = 8 := by omega
  rcases this with rfl | rfl | rfl | rfl | rfl | rfl | rfl | rfl | rfl <;> assumption

-- block sMod
def md (f : Int) : Int := if fldOk f then rd fP f else 0
theorem sMod (f : Int) : spec_Modulus.f f = some (md f) := by
  by_cases h : fldOk f
  · exact fld_cases (Q := fun f => spec_Modulus.f f = some (md f)) h rfl rfl rfl rfl rfl rfl rfl rfl rfl
  · unfold md
    rw [if_neg h]
    unfold fldOk at h
    simp only [spec_Modulus.f]
    rw [if_neg (by omega), if_neg (by omega), if_neg (by omega), if_neg (by omega), if_neg (by omega), if_neg (by omega), if_neg (by omega), if_neg (by omega), if_neg (by omega)]
theorem md_pos {f : Int} (h : fldOk f) : 17 ≤ md f ∧ md f ≤ 1004535809 := fld_cases (Q := fun f => 17 ≤ md f ∧ md f ≤ 1004535809) h (by decide) (by decide) (by decide) (by decide) (by decide) (by decide) (by decide) (by decide) (by decide)
theorem md_zero {f : Int} : md f = 0 ↔ ¬ fldOk f := by
  by_cases h : fldOk f
  · have := md_pos h
    simp [h]; omega
  · simp [md, h]

-- block iFld
theorem iFld (f : Int) : impl_fieldOf.f f = some (if fldOk f then (rd fP f, rd fG f, rd fT f, true) else (0, 0, 0, false)) := by
  by_cases h : fldOk f
  · exact fld_cases (Q := fun f => impl_fieldOf.f f = some (if fldOk f then (rd fP f, rd fG f, rd fT f, true) else (0, 0, 0, false))) h rfl rfl rfl rfl rfl rfl rfl rfl rfl
  · rw [if_neg h]
    unfold fldOk at h
    show Go.Proofs.Ytjgggiophbnghac.Fld.impl_fieldOf.f f = _
    unfold Go.Proofs.Ytjgggiophbnghac.Fld.impl_fieldOf.f
    by_cases h1 : f < 0
    · rw [if_pos h1]
    · rw [if_neg h1, if_pos (by omega)]

-- block iMul
theorem iMul {p g t a b : Int} (hp : 2 ≤ p) (hp2 : p ≤ 2147483648) (ha : 0 ≤ a) (ha' : a < p) (hb : 0 ≤ b) (hb' : b < p) : impl_field_mul.f p g t a b = some (a * b % p) := by
  have h0 : 0 ≤ a * b := Int.mul_nonneg ha hb
  have h1 : a * b ≤ 2147483648 * 2147483648 := Int.mul_le_mul (by omega) (by omega) hb (by omega)
  simp only [impl_field_mul.f]
  rw [if_neg (by omega), w64 (by omega) (by omega), Int.tmod_eq_emod_of_nonneg h0]

-- block iReduce
theorem iReduce {p g t x : Int} (hp : 2 ≤ p) (hp2 : p ≤ 2147483648) : impl_field_reduce.f p g t x = some (x % p) := by
  have hb := tmod_bounds (x := x) (p := p) (by omega)
  simp only [impl_field_reduce.f]
  rw [if_neg (by omega), w64 (by omega) (by omega), red_two (by omega)]

-- block iPow
theorem iPow_l {p g t : Int} (hp : 2 ≤ p) (hp2 : p ≤ 2147483648) (e : Nat) : ∀ (a out : Int), e < 4611686018427387904 → 0 ≤ a → a < p → 0 ≤ out → out < p →
    Ev (fun k => impl_field_power.l0 k a (e : Int) out p g t) (out * a ^ e % p) := by
  induction e using Nat.strongRecOn with
  | _ e ih =>
    intro a out he ha ha' ho ho'
    by_cases h0 : e = 0
    · subst h0
      refine ev_now fun k => ?_
      simp only [impl_field_power.l0]
      rw [if_neg (by omega), show a ^ 0 = 1 by grind, Int.mul_one, Int.emod_eq_of_lt ho ho']
    · have m0 : ∀ z : Int, 0 ≤ z % p := fun z => Int.emod_nonneg _ (by omega)
      have m1 : ∀ z : Int, z % p < p := fun z => Int.emod_lt_of_pos _ (by omega)
      have ht : Int.tmod (e : Int) 2 = ((e % 2 : Nat) : Int) := by rw [Int.tmod_eq_emod_of_nonneg (by omega)]; omega
      have hd : wrap64 (Int.tdiv (e : Int) 2) = ((e / 2 : Nat) : Int) := by rw [Int.tdiv_eq_ediv_of_nonneg (by omega), w64 (by omega) (by omega)]; omega
      by_cases h1 : e % 2 = 1
      · rw [← pw_odd h1]
        refine Ev.step (fun k => ?_) (ih (e / 2) (by omega) (a * a % p) (out * a % p) (by omega) (m0 _) (m1 _) (m0 _) (m1 _))
        simp only [impl_field_power.l0, iMul hp hp2 ho ho' ha ha', iMul hp hp2 ha ha' ha ha', Option.bind_some, ht, hd]
        rw [if_pos (by omega), if_pos (by omega)]
      · rw [← pw_even h1]
        refine Ev.step (fun k => ?_) (ih (e / 2) (by omega) (a * a % p) out (by omega) (m0 _) (m1 _) ho ho')
        simp only [impl_field_power.l0, iMul hp hp2 ha ha' ha ha', Option.bind_some, ht, hd]
        rw [if_pos (by omega), if_neg (by omega)]
theorem iPow_ev {p g t a : Int} (hp : 2 ≤ p) (hp2 : p ≤ 2147483648) (e : Nat) (he : e < 4611686018427387904) (ha : 0 ≤ a) (ha' : a < p) : Ev (fun k => impl_field_power.f k p g t a (e : Int)) (a ^ e % p) := by
  have := iPow_l (g := g) (t := t) hp hp2 e a 1 he ha ha' (by omega) (by omega)
  rw [Int.one_mul] at this
  exact Ev.congr (fun k => rfl) this

-- block iInv
theorem iInv_ev {p g t a : Int} (hp : 2 ≤ p) (hp2 : p ≤ 2147483648) (ha : 0 ≤ a) (ha' : a < p) : Ev (fun k => impl_field_inverse.f k p g t a) (a ^ (p - 2).toNat % p) := by
  have := iPow_ev (g := g) (t := t) hp hp2 (p - 2).toNat (by omega) ha ha'
  refine Ev.congr (fun k => ?_) this
  simp only [impl_field_inverse.f]
  rw [w64 (by omega) (by omega), show (((p - 2).toNat : Nat) : Int) = p - 2 by omega]
  simp

-- block sReduce
theorem sReduce (f x : Int) : spec_Reduce.f f x = some (if fldOk f then x % md f else -1) := by
  simp only [spec_Reduce.f, sMod, Option.bind_some, md_zero]
  by_cases h : fldOk f
  · have hm := md_pos h
    have hb := tmod_bounds (x := x) (p := md f) (by omega)
    rw [if_neg (fun hh => hh h), if_pos h]
    by_cases hn : Int.tmod x (md f) < 0
    · rw [if_pos hn, w64 (by omega) (by omega), red_lt (by omega) hn]
    · rw [if_neg hn, red_ge (by omega) hn]
  · rw [if_pos h, if_neg h]

-- block hashS
def hashS : List Int → Int → Int → Int × Int
  | [], u, v => (u, v)
  | c :: l, u, v => hashS l ((257 * u + c + 1) % 998244353) ((263 * v + c + 1) % 469762049)
theorem md6 : md 6 = 998244353 := rfl
theorem md7 : md 7 = 469762049 := rfl
theorem fldOk6 : fldOk 6 := by decide
theorem fldOk7 : fldOk 7 := by decide
def j67 : Int := (md 6 % md 7) ^ (md 7 - 2).toNat % md 7
theorem j67_range : 0 ≤ j67 ∧ j67 < md 7 := by
  have h := md_pos fldOk7
  exact ⟨Int.emod_nonneg _ (by omega), Int.emod_lt_of_pos _ (by omega)⟩
def joinP (u v : Int) : Int := u + md 6 * ((v - u) * j67 % md 7)
theorem join_range {u v : Int} (h0 : 0 ≤ u) (h1 : u < 998244353) : wrap64 (u + wrap64 (md 6 * ((v - u) * j67 % md 7))) = joinP u v := by
  unfold joinP
  have hb : 0 ≤ (v - u) * j67 % md 7 ∧ (v - u) * j67 % md 7 < md 7 := ⟨Int.emod_nonneg _ (by rw [md7]; omega), Int.emod_lt_of_pos _ (by rw [md7]; omega)⟩
  generalize (v - u) * j67 % md 7 = z at hb ⊢
  rw [md7] at hb
  rw [md6, w64 (x := 998244353 * z) (by omega) (by omega), w64 (by omega) (by omega)]
theorem hash_at {l : List Int} {i : Nat} (h : i < l.length) (u v : Int) : hashS (l.drop i) u v = hashS (l.drop (i + 1)) ((257 * u + rd l (i : Int) + 1) % 998244353) ((263 * v + rd l (i : Int) + 1) % 469762049) := by
  rw [List.drop_eq_getElem_cons h, rd_eq h]; rfl
theorem hash_range (l : List Int) : ∀ u v, 0 ≤ u → u < 998244353 → 0 ≤ v → v < 469762049 → (0 ≤ (hashS l u v).1 ∧ (hashS l u v).1 < 998244353) ∧ (0 ≤ (hashS l u v).2 ∧ (hashS l u v).2 < 469762049) := by
  induction l with
  | nil => intro u v h1 h2 h3 h4; exact ⟨⟨h1, h2⟩, h3, h4⟩
  | cons c l ih => intro u v h1 h2 h3 h4; exact ih _ _ (by omega) (by omega) (by omega) (by omega)
def hashP (l : List Int) : Int := joinP (hashS l 1 1).1 (hashS l 1 1).2

-- block splitP
theorem j67_inv : (md 6 * j67) % md 7 = 1 := by
  unfold j67
  rw [md6, md7, show ((998244353 : Int) % 469762049) = ((998244353 % 469762049 : Nat) : Int) by rfl, show ((469762049 - 2 : Int)).toNat = 469762047 by rfl, show (469762049 : Int) = ((469762049 : Nat) : Int) by rfl, pm_int 469762049 30 _ _ (by decide)]
  decide +kernel
theorem join_mod6 {u v : Int} (h0 : 0 ≤ u) (h1 : u < 998244353) : joinP u v % 998244353 = u := by
  unfold joinP
  rw [md6, Int.add_mul_emod_self_left, Int.emod_eq_of_lt h0 h1]
theorem join_mod7 {u v : Int} (h2 : 0 ≤ v) (h3 : v < 469762049) : joinP u v % 469762049 = v := by
  have h := j67_inv
  have hq : md 7 = 469762049 := md7
  have e : joinP u v % md 7 = v % md 7 := by
    unfold joinP
    have a1 : Md (md 7) (md 6 * ((v - u) * j67 % md 7)) ((v - u) * 1) := by
      refine Md.trans (Md.mul (Md.refl _ _) (Md.mod _ _)) ?_
      rw [show md 6 * ((v - u) * j67) = (v - u) * (md 6 * j67) by rw [Int.mul_left_comm]]
      exact Md.mul (Md.refl _ _) (Md.trans (Md.symm (Md.mod _ _)) (by rw [h]; exact Md.refl _ _))
    have a2 := Md.emod (Md.add (Md.refl (md 7) u) a1)
    rw [a2]
    congr 1
    omega
  rw [hq] at e
  rw [e, Int.emod_eq_of_lt h2 h3]
theorem join_lt {u v : Int} (h0 : 0 ≤ u) (h1 : u < 998244353) : 0 ≤ joinP u v ∧ joinP u v ≤ 4611686018427387904 := by
  unfold joinP
  have hb : 0 ≤ (v - u) * j67 % md 7 ∧ (v - u) * j67 % md 7 < md 7 := ⟨Int.emod_nonneg _ (by rw [md7]; omega), Int.emod_lt_of_pos _ (by rw [md7]; omega)⟩
  generalize (v - u) * j67 % md 7 = z at hb ⊢
  rw [md7] at hb
  rw [md6]
  omega
theorem hash_snoc (l : List Int) (c : Int) : ∀ u v, hashS (l ++ [c]) u v = ((257 * (hashS l u v).1 + c + 1) % 998244353, (263 * (hashS l u v).2 + c + 1) % 469762049) := by
  induction l with
  | nil => intro u v; rfl
  | cons a l ih => intro u v; exact ih _ _

-- block iElem
def elemB (p : Int) (l : List Int) : Bool := allF l.length 0 (fun j => decide (0 ≤ rd l (j : Int) ∧ rd l (j : Int) < p))
theorem iElem_l (p g t : Int) (l : List Int) (hn : l.length ≤ 1048576) : ∀ (d i : Nat), l.length - i = d → i ≤ l.length → Ev (fun k => impl_field_areElements.l0 k l (l.length : Int) (i : Int) p g t) (allF d i (fun j => decide (0 ≤ rd l (j : Int) ∧ rd l (j : Int) < p))) := by
  intro d
  induction d with
  | zero =>
    intro i h hi
    refine ev_now fun k => ?_
    simp only [impl_field_areElements.l0]
    rw [if_neg (by omega)]; rfl
  | succ d ih =>
    intro i h hi
    rw [allF]
    by_cases hq : 0 ≤ rd l (i : Int) ∧ rd l (i : Int) < p
    · rw [decide_eq_true hq, Bool.true_and]
      refine Ev.step (fun k => ?_) (ih (i + 1) (by omega) (by omega))
      simp only [impl_field_areElements.l0]
      rw [if_pos (by omega), if_pos (by omega), if_pos (by omega), if_neg (by omega), if_neg (by omega), wsucc (by omega)]
    · rw [decide_eq_false hq, Bool.false_and]
      refine ev_now fun k => ?_
      simp only [impl_field_areElements.l0]
      rw [if_pos (by omega), if_pos (by omega), if_pos (by omega)]
      by_cases h1 : rd l (i : Int) < 0
      · rw [if_pos h1]
      · rw [if_neg h1, if_pos (by omega)]
theorem iElem_ev (p g t : Int) (l : List Int) (hn : l.length ≤ 1048576) : Ev (fun k => impl_field_areElements.f k p g t l) (elemB p l) := by
  refine Ev.congr (fun k => ?_) (iElem_l p g t l hn l.length 0 (by omega) (by omega))
  simp [impl_field_areElements.f]
theorem elemB_iff (p : Int) (l : List Int) : elemB p l = true ↔ ∀ x ∈ l, 0 ≤ x ∧ x < p := by
  unfold elemB
  rw [allF_iff]
  constructor
  · intro h x hx
    obtain ⟨j, hj, rfl⟩ := List.getElem_of_mem hx
    have := h j (by omega) (by omega)
    rw [decide_eq_true_eq, rd_eq hj] at this
    exact this
  · intro h j _ hj
    rw [decide_eq_true_eq, rd_eq (by omega)]
    exact h _ (List.getElem_mem _)

-- block iJoin
theorem iEx : impl_exactFields.f = some (998244353, 3, 23, 469762049, 3, 26) := by
  simp only [impl_exactFields.f, iFld, Option.bind_some]
  rfl
theorem iJoin_ev {u v : Int} (h0 : 0 ≤ u) (h1 : u < 998244353) (h2 : 0 ≤ v) (h3 : v < 469762049) : Ev (fun k => impl_joined.f k u v) (joinP u v) := by
  have e0 : 0 ≤ (998244353 : Int) % 469762049 ∧ (998244353 : Int) % 469762049 < 469762049 := by decide
  obtain ⟨n, a1, a2, e⟩ := evs3 (iElem_ev 998244353 3 23 [u] (by simp)) (iElem_ev 469762049 3 26 [v] (by simp)) (iInv_ev (p := 469762049) (g := 3) (t := 26) (by omega) (by omega) e0.1 e0.2)
  rw [(elemB_iff _ _).2 (by simp; omega)] at a1 a2
  have hj := j67_range
  rw [md7] at hj
  have hj2 : ((998244353 : Int) % 469762049) ^ (469762049 - 2 : Int).toNat % 469762049 = j67 := by unfold j67; rw [md6, md7]
  have hv : 0 ≤ (v - u) % 469762049 ∧ (v - u) % 469762049 < 469762049 := ⟨Int.emod_nonneg _ (by omega), Int.emod_lt_of_pos _ (by omega)⟩
  rw [hj2] at e
  refine ⟨n + 1, fun k hk => ?_⟩
  obtain ⟨j, rfl⟩ : ∃ j, k = n + j + 1 := ⟨k - n - 1, by omega⟩
  simp only [impl_joined.f, impl_joined.j0, iEx, Option.bind_some, Nat.add_assoc, a1, a2, if_true, Bool.not_true, Bool.false_eq_true, if_false, iReduce (p := 469762049) (g := 3) (t := 26) (by omega) (by omega), e]
  rw [w64 (x := v - u) (by omega) (by omega), iMul (p := 469762049) (g := 3) (t := 26) (by omega) (by omega) hv.1 hv.2 hj.1 hj.2]
  simp only [Option.bind_some]
  rw [← join_range h0 h1, md6, md7]
  rw [show ((v - u) % 469762049 * j67) % 469762049 = ((v - u) * j67) % 469762049 from (Md.emod ((Md.mod _ _).mul (Md.refl _ _)))]

-- block iHash
theorem iHash_l (l : List Int) (hn : l.length ≤ 140737488355328) (hb : isB l) : ∀ (d i : Nat) (u v : Int), l.length - i = d → 0 ≤ u → u < 998244353 → 0 ≤ v → v < 469762049 →
    Ev (fun k => impl_HashBytes.l0 k u v l (l.length : Int) (i : Int) 998244353 3 23 469762049 3 26) (joinP (hashS (l.drop i) u v).1 (hashS (l.drop i) u v).2) := by
  intro d
  induction d with
  | zero =>
    intro i u v h h1 h2 h3 h4
    rw [List.drop_eq_nil_of_le (by omega)]
    refine Ev.step (fun k => ?_) (iJoin_ev h1 h2 h3 h4)
    simp only [impl_HashBytes.l0]
    rw [if_neg (by omega)]
    simp [hashS]
  | succ d ih =>
    intro i u v h h1 h2 h3 h4
    have hc := isB_at hb (show i < l.length by omega)
    rw [← rd_eq (by omega)] at hc
    rw [hash_at (by omega)]
    refine Ev.step (fun k => ?_) (ih (i + 1) _ _ (by omega) (Int.emod_nonneg _ (by omega)) (Int.emod_lt_of_pos _ (by omega)) (Int.emod_nonneg _ (by omega)) (Int.emod_lt_of_pos _ (by omega)))
    simp only [impl_HashBytes.l0]
    rw [if_pos (by omega), if_pos (by omega), if_pos (by omega), if_neg (by omega), if_neg (by omega), w64 (x := rd l (i : Int)) (by omega) (by omega), w64 (x := 257 * u) (by omega) (by omega), w64 (x := 263 * v) (by omega) (by omega), w64 (x := 257 * u + rd l (i : Int)) (by omega) (by omega), w64 (x := 263 * v + rd l (i : Int)) (by omega) (by omega), w64 (x := 257 * u + rd l (i : Int) + 1) (by omega) (by omega), w64 (x := 263 * v + rd l (i : Int) + 1) (by omega) (by omega), wsucc (by omega), Int.tmod_eq_emod_of_nonneg (by omega), Int.tmod_eq_emod_of_nonneg (by omega)]
theorem iHash_ev (l : List Int) (hn : l.length ≤ 140737488355328) (hb : isB l) : Ev (fun k => impl_HashBytes.f k l) (hashP l) := by
  refine Ev.congr (fun k => ?_) (by unfold hashP; simpa using iHash_l l hn hb l.length 0 1 1 (by omega) (by omega) (by omega) (by omega) (by omega))
  simp [impl_HashBytes.f, iEx]

-- block iSplit
theorem iSplit (x : Int) : impl_Split.f x = some (x % 998244353, x % 469762049) := by
  simp only [impl_Split.f, iEx, Option.bind_some, iReduce (p := 998244353) (g := 3) (t := 23) (by omega) (by omega), iReduce (p := 469762049) (g := 3) (t := 26) (by omega) (by omega)]

-- block drawByte
/-- A place of a row to draw from, or its end. -/
def dAt (l : List Int) (i : Int) : Prop := 0 ≤ i ∧ i ≤ l.length
theorem drawByte (l : List Int) (hn : l.length ≤ 140737488355328) (i h : Int) (hi : dAt l i) : ∃ b i' h', spec_l01Byte.f l i h = some (b, i', h') ∧ (0 ≤ b ∧ b ≤ 255) ∧ dAt l i' := by
  unfold dAt at hi ⊢
  simp only [spec_l01Byte.f]
  by_cases hl : i < (l.length : Int)
  · rw [if_pos hl, if_pos hi.1]
    exact ⟨_, _, _, rfl, bits_and _ 255 (by decide), by rw [w64 (by omega) (by omega)]; omega⟩
  · rw [if_neg hl]
    exact ⟨_, _, _, rfl, bits_and _ 255 (by decide), hi⟩

-- block drawBelow
theorem drawBelow (l : List Int) (hn : l.length ≤ 140737488355328) (i h : Int) (hi : dAt l i) (m : Int) : ∃ b i' h', spec_l01Below.f l i h m = some (b, i', h') ∧ (0 ≤ b ∧ (b < m ∨ b = 0)) ∧ dAt l i' := by
  simp only [spec_l01Below.f]
  by_cases h0 : m ≤ 0
  · rw [if_pos h0]
    exact ⟨_, _, _, rfl, by omega, hi⟩
  · rw [if_neg h0]
    obtain ⟨b1, i1, h1, e1, r1, d1⟩ := drawByte l hn i h hi
    rw [e1]
    by_cases hm : m ≤ 256
    · rw [if_pos hm, Option.bind_some, if_neg (by omega)]
      refine ⟨_, _, _, rfl, ?_, d1⟩
      simp only
      rw [Int.tmod_eq_emod_of_nonneg (by omega)]
      exact ⟨Int.emod_nonneg _ (by omega), Or.inl (Int.emod_lt_of_pos _ (by omega))⟩
    · rw [if_neg hm, Option.bind_some]
      obtain ⟨b2, i2, h2, e2, r2, d2⟩ := drawByte l hn i1 h1 d1
      rw [e2, Option.bind_some]
      obtain ⟨b3, i3, h3, e3, r3, d3⟩ := drawByte l hn i2 h2 d2
      rw [e3, Option.bind_some, if_neg (by omega)]
      refine ⟨_, _, _, rfl, ?_, d3⟩
      simp only
      rw [w64 (x := b1 * 65536) (by omega) (by omega), w64 (x := b2 * 256) (by omega) (by omega), w64 (x := b1 * 65536 + b2 * 256) (by omega) (by omega), w64 (by omega) (by omega), Int.tmod_eq_emod_of_nonneg (by omega)]
      exact ⟨Int.emod_nonneg _ (by omega), Or.inl (Int.emod_lt_of_pos _ (by omega))⟩

-- block drawPickInt
theorem drawPickInt (l : List Int) (hn : l.length ≤ 140737488355328) (i h : Int) (hi : dAt l i) (xs : List Int) (hx : 0 < xs.length) : ∃ b i' h', spec_l01PickInt.f l i h xs = some (b, i', h') ∧ b ∈ xs ∧ dAt l i' := by
  simp only [spec_l01PickInt.f]
  obtain ⟨b1, i1, h1, e1, r1, d1⟩ := drawBelow l hn i h hi (xs.length : Int)
  rw [e1, Option.bind_some, if_pos r1.1, if_pos (by simp only; omega)]
  refine ⟨_, _, _, rfl, ?_, d1⟩
  simp only
  rw [show b1 = ((b1.toNat : Nat) : Int) by omega]
  exact rd_mem (by omega)

-- block drawNew
theorem drawNew_l (l : List Int) (hn : l.length ≤ 140737488355328) : ∀ (d i : Nat) (h : Int), 4000 - i = d → ∃ h', Ev (fun k => spec_l01New.l0 k l h (i : Int)) (l, 0, h') := by
  intro d
  induction d with
  | zero =>
    intro i h hd
    refine ⟨h, ev_now fun k => ?_⟩
    simp only [spec_l01New.l0]
    split
    · rw [if_neg (by omega)]
    · rfl
  | succ d ih =>
    intro i h hd
    by_cases hl : (i : Int) < (l.length : Int)
    · obtain ⟨h', e⟩ := ih (i + 1) (Go.bits .and .i64 (wrap64 ((wrap64 ((wrap64 (h * 149)) + (wrap64 (rd l i)))) + 11)) 1073741823) (by omega)
      refine ⟨h', Ev.step (fun k => ?_) e⟩
      simp only [spec_l01New.l0]
      rw [if_pos hl, if_pos (by omega), if_pos (by omega), wsucc (by omega)]
    · refine ⟨h, ev_now fun k => ?_⟩
      simp only [spec_l01New.l0]
      rw [if_neg hl]
theorem drawNew (l : List Int) (hn : l.length ≤ 140737488355328) : ∃ h', Ev (fun k => spec_l01New.f k l) (l, 0, h') := by
  obtain ⟨h', e⟩ := drawNew_l l hn 4000 0 (wrap64 (710710 + (l.length : Int))) (by omega)
  exact ⟨h', Ev.congr (fun k => rfl) e⟩
theorem dAt0 (l : List Int) : dAt l 0 := by unfold dAt; omega

-- block cpBytes
theorem cpBytes_l (l : List Int) (hn : l.length < 140737488355328) : ∀ (d i : Nat), l.length - i = d → i ≤ l.length →
    Ev (fun k => laws_cpBytes.l0 k l (l.take i) (i : Int)) l := by
  intro d
  induction d with
  | zero =>
    intro i h hi
    refine ev_now fun k => ?_
    simp only [laws_cpBytes.l0]
    rw [if_neg (by omega), List.take_of_length_le (by omega)]
  | succ d ih =>
    intro i h hi
    refine Ev.step (fun k => ?_) (ih (i + 1) (by omega) (by omega))
    simp only [laws_cpBytes.l0]
    rw [if_pos (by omega), if_pos (by omega), if_pos (by simp; omega), wsucc (by omega), rd_eq (by omega), List.take_append_getElem (by omega)]
theorem cpBytes_ev (l : List Int) (hn : l.length < 140737488355328) : Ev (fun k => laws_cpBytes.f k l) l :=
  Ev.congr (fun k => rfl) (cpBytes_l l hn l.length 0 (by omega) (by omega))

-- block lawsAt
theorem lawsAtB (l : List Int) (hb : isB l) (hn : l.length ≤ 1048576) (n : Nat) (h : n ≤ 1000) : ∃ v, laws_at.f l (n : Int) = some v ∧ 0 ≤ v ∧ v ≤ 255 := by
  simp only [laws_at.f]
  by_cases hl : (n : Int) < (l.length : Int)
  · have hc := isB_at hb (show n < l.length by omega)
    rw [if_pos hl, if_pos (by omega), rd_eq (by omega), w64 (by omega) (by omega)]
    exact ⟨_, rfl, hc⟩
  · rw [if_neg hl, w64 (x := (n : Int) * 13) (by omega) (by omega), w64 (x := (l.length : Int) * 5) (by omega) (by omega), w64 (by omega) (by omega), Int.tmod_eq_emod_of_nonneg (by omega)]
    exact ⟨_, rfl, by omega, by omega⟩
theorem lawsAt (l : List Int) (n : Nat) : ∃ v, laws_at.f l (n : Int) = some v := by
  simp only [laws_at.f]
  split
  · rw [if_pos (by omega)]; exact ⟨_, rfl⟩
  · exact ⟨_, rfl⟩

-- block drawBytes
theorem drawBytes_l (l : List Int) (hn : l.length ≤ 140737488355328) (m : Int) : ∀ (d n : Nat) (acc : List Int) (i h : Int), (m - n).toNat = d → n ≤ 1048576 → m ≤ 1048576 → acc.length ≤ n → isB acc → dAt l i →
    ∃ out i' h', Ev (fun k => spec_l01DrawBytes.l0 k m acc (n : Int) l i h) (out, i', h') ∧ isB out ∧ (out.length : Int) ≤ 1048576 ∧ dAt l i' := by
  intro d
  induction d with
  | zero =>
    intro n acc i h hd hn1 hm ha hb hi
    refine ⟨acc, i, h, ev_now fun k => ?_, hb, by omega, hi⟩
    simp only [spec_l01DrawBytes.l0]
    rw [if_neg (by omega)]
  | succ d ih =>
    intro n acc i h hd hn1 hm ha hb hi
    obtain ⟨b1, i1, h1, e1, r1, d1⟩ := drawBelow l hn i h hi 256
    obtain ⟨b2, i2, h2, e2, r2, d2⟩ := drawBelow l hn i1 h1 d1 256
    obtain ⟨b3, i3, h3, e3, r3, d3⟩ := drawPickInt l hn i2 h2 d2 [0, 1, 255, 128, b1, b2] (by simp)
    obtain ⟨out, i', h', e, hB, hl, hd'⟩ := ih (n + 1) (acc ++ [b3 % 256]) i3 h3 (by omega) (by omega) hm (by simp; omega) (isB_append hb (by intro y hy; simp at hy; omega)) d3
    refine ⟨out, i', h', Ev.step (fun k => ?_) e, hB, hl, hd'⟩
    simp only [spec_l01DrawBytes.l0]
    rw [if_pos (by omega)]
    simp only [e1, e2, e3, Option.bind_some]
    rw [if_pos (by omega), wsucc (by omega)]
theorem drawBytes (l : List Int) (hn : l.length ≤ 140737488355328) (m : Int) (hm : m ≤ 1048576) (i h : Int) (hi : dAt l i) :
    ∃ out i' h', Ev (fun k => spec_l01DrawBytes.f k l i h m) (out, i', h') ∧ isB out ∧ (out.length : Int) ≤ 1048576 ∧ dAt l i' := by
  obtain ⟨out, i', h', e, r⟩ := drawBytes_l l hn m _ 0 [] i h rfl (by omega) hm (by simp) (by intro y hy; simp at hy) hi
  exact ⟨out, i', h', Ev.congr (fun k => rfl) e, r⟩

-- block drawSize
theorem drawSize (l : List Int) (hn : l.length ≤ 140737488355328) (m : Int) : ∃ n, spec_l01Size.f l m = some n ∧ n ≤ m := by
  simp only [spec_l01Size.f]
  rw [w64 (x := (l.length : Int) / 16) (by omega) (by omega), w64 (by omega) (by omega)]
  split
  · exact ⟨_, rfl, by omega⟩
  · exact ⟨_, rfl, by omega⟩

-- block drawHash
theorem drawHash (l : List Int) (hn : l.length ≤ 140737488355328) : ∃ b, Ev (fun k => spec_DrawHashBytes.f k l) b ∧ isB b ∧ (b.length : Int) ≤ 1048576 := by
  obtain ⟨h0, e0⟩ := drawNew l hn
  obtain ⟨m, em, hm⟩ := drawSize l hn 100
  obtain ⟨b1, i1, h1, e1, r1, d1⟩ := drawBelow l hn 0 h0 (dAt0 l) m
  obtain ⟨b2, i2, h2, e2, hB, hl, d2⟩ := drawBytes l hn b1 (by omega) i1 h1 d1
  obtain ⟨n, a0, a2⟩ := evs2 e0 e2
  refine ⟨b2, ⟨n, fun k hk => ?_⟩, hB, hl⟩
  obtain ⟨j, rfl⟩ : ∃ j, k = n + j := ⟨k - n, by omega⟩
  simp only [spec_DrawHashBytes.f, a0, em, e1, a2, Option.bind_some]

end Go.Proofs.Ytjgggiophbnghac.QFnHash
